/- The machine's side and plain lemmas for FnDotsTurned: texts of this session, merged by its program (part 3). -/
import Derived.Test.YtadhfbchilaklaaMFnDotsTurned0
import Derived.Test.YtadhfbchilaklaaMFnDotsTurned1
import Derived.Test.YtadhfbchilaklaaMFnDotsTurned2
namespace Go.Proofs.Ytadhfbchilaklaa.Fn
open Go.RowKit Go.Proofs.YtadhfbchilaklaaW.PrintWords Go.Proofs.YtadhfbchilaklaaW.PrintLast Go.Proofs.YtadhfbchilaklaaW.PrintMore
attribute [local go_sem] max2_int min2_int max_two min_two max_three min_three max_four min_four   -- for this text's walks alone
set_option linter.unusedVariables false
set_option linter.unusedSimpArgs false

/-! ### impl_PowersDots: function 50 -/
mutual
def impl_PowersDots.j0 : Nat → Int → Int → Bool → Option (List Int × Bool)
 | 0, _, _, _ => none
 | k + 1, x0, x1, x21 => if x21 = true then (some (([] : List Int), false)) else ((impl_powers.f k x0 x1).bind fun t631 => (impl_PowersDots.l0 k t631 (t631.length : Int) 0))
def impl_PowersDots.l0 : Nat → List Int → Int → Int → Option (List Int × Bool)
 | 0, _, _, _ => none
 | k + 1, x8, x26, x27 => if x27 < x26 then (if 0 ≤ x27 then (if x27 < (x8.length : Int) then (impl_PowersDots.l0 k (x8.set (x27 : Int).toNat (wrap64 ((rd x8 x27) - 1))) x26 (wrap64 (x27 + 1))) else (none)) else (none)) else (some (x8, true))
end
def impl_PowersDots.f (k : Nat) (a0 : Int) (a1 : Int) : Option (List Int × Bool) := (impl_isRoot.f k a0 a1).bind fun bt629 => (if bt629.2 = true then (impl_PowersDots.j0 k a0 a1 (!bt629.1)) else (impl_PowersDots.j0 k a0 a1 true))
theorem impl_PowersDots.mono_l : ∀ k, (∀ y0 y1 y2, LeO (impl_PowersDots.j0 k y0 y1 y2) (impl_PowersDots.j0 (k + 1) y0 y1 y2)) ∧ (∀ y0 y1 y2, LeO (impl_PowersDots.l0 k y0 y1 y2) (impl_PowersDots.l0 (k + 1) y0 y1 y2))
 | 0 => ⟨fun _ _ _ r h => by simp [impl_PowersDots.j0] at h, fun _ _ _ r h => by simp [impl_PowersDots.l0] at h⟩
 | k + 1 => by
  obtain ⟨ih0, ih1⟩ := impl_PowersDots.mono_l k
  refine ⟨?_, ?_⟩
  ·intro y0 y1 y2
   unfold impl_PowersDots.j0
   repeat' (first | (with_reducible first | exact ih1 _ _ _ | exact impl_powers.mono _ _ _ | exact LeO.refl _ | exact LeO.none _ | refine LeO.ite ?_ ?_ | refine LeO.bind ?_ (fun _ => ?_)) | exact ih1 _ _ _ | exact impl_powers.mono _ _ _ | exact LeO.none _ | refine LeO.ite ?_ ?_ | refine LeO.bind ?_ (fun _ => ?_))
  ·intro y0 y1 y2
   unfold impl_PowersDots.l0
   repeat' (first | (with_reducible first | exact ih1 _ _ _ | exact LeO.refl _ | exact LeO.none _ | refine LeO.ite ?_ ?_ | refine LeO.bind ?_ (fun _ => ?_)) | exact ih1 _ _ _ | exact LeO.none _ | refine LeO.ite ?_ ?_ | refine LeO.bind ?_ (fun _ => ?_))
theorem impl_PowersDots.mono : ∀ a0 a1 k, LeO (impl_PowersDots.f k a0 a1) (impl_PowersDots.f (k + 1) a0 a1) := by
 intro a0 a1 k
 obtain ⟨ih0, ih1⟩ := impl_PowersDots.mono_l k
 unfold impl_PowersDots.f
 repeat' (first | (with_reducible first | exact ih0 _ _ _ | exact impl_isRoot.mono _ _ _ | exact LeO.refl _ | exact LeO.none _ | refine LeO.ite ?_ ?_ | refine LeO.bind ?_ (fun _ => ?_)) | exact ih0 _ _ _ | exact impl_isRoot.mono _ _ _ | exact LeO.none _ | refine LeO.ite ?_ ?_ | refine LeO.bind ?_ (fun _ => ?_))
set_option maxHeartbeats 8000000 in
set_option maxRecDepth 100000 in
theorem impl_PowersDots.calls (k : Nat) (a0 : Int) (a1 : Int) (r1 : List Int) (r2 : Bool) (w : World) (h : impl_PowersDots.f k a0 a1 = some (r1, r2)) :
  Calls Try.prog 50 #[.int .i64 a0, .int .i64 a1] w fun e w' => ∃ v0_ : Value, e = .returned (.tuple #[v0_, .bool r2]) ∧ Kd.R (Kd.int .i64) 3 w' w.heap.size (fun _ => True) v0_ r1 ∧ Below w.heap.size w w' := by
 have HB := Aside0.mk (Below.refl w.heap.size w)
 have H := h
 unfold impl_PowersDots.f at H
 clear h
 replace H := Option.bind_eq_some_iff.mp H
 obtain ⟨⟨t629, t630⟩, A30, H⟩ := H
 replace H : (if t630 = true then (impl_PowersDots.j0 k a0 a1 (!t629)) else (impl_PowersDots.j0 k a0 a1 true)) = some (r1, r2) := H
 have A3 := Aside0.mk A30
 clear A30
 have HC4 := Aside0.mk H
 clear H
 go_enter Try.func50, Try.ntmps50
 go_upto_region 2 with (first | ((with_reducible refine gate_callee (f := 171) rfl ?_); refine goesA (some 13) Try.func171 #[.int .i64 a0, .int .i64 a1] ?_; (with_reducible refine (impl_isRoot.calls k a0 a1 t629 t630 _ A3.out).mono ?_); rintro e w5 ⟨rfl, hb⟩; refine ⟨_, rfl, ?_⟩; replace HB := upB HB hb; (try clear hb); (try clear hb2); (try clear hk); (try clear hi)))
 (try simp only [Act.put, List.setIfInBounds_toArray, List.set_cons_zero, List.set_cons_succ])
 go_cut [21] (fun v21 wc => ∃ (kq : Nat) (x21_3 : Bool), v21 = .bool x21_3 ∧ Aside0 (impl_PowersDots.j0 kq a0 a1 x21_3 = some (r1, r2)) ∧ Aside0 (kq ≤ k) ∧ Aside0 (Below w.heap.size w wc))
 case first =>
  have H := HC4.out
  clear HC4
  by_cases c6 : t630 = true
  ·subst c6
   have H1 : (impl_PowersDots.j0 k a0 a1 (!t629)) = some (r1, r2) := by rw [if_pos rfl] at H; exact H
   clear H
   have H := H1
   clear H1
   have H' := Aside0.mk H
   clear H
   go_wp2
   go_meet
   case rel => exact ⟨_, (!t629), eqd, H', ⟨leD⟩, ⟨atB HB⟩⟩
  ·replace c6 := Bool.eq_false_iff.mpr c6
   subst c6
   have H1 : (impl_PowersDots.j0 k a0 a1 true) = some (r1, r2) := by rw [if_neg (show ¬ (false = true) by decide)] at H; exact H
   clear H
   have H := H1
   clear H1
   have H' := Aside0.mk H
   clear H
   go_wp2
   go_meet
   case rel => exact ⟨_, (true), eqd, H', ⟨leD⟩, ⟨atB HB⟩⟩
 case rest =>
  clear HC4
  try clear c1
  try clear p2
  try clear c5
  try clear c6
  obtain ⟨kq, x21_3, rfl, HA, HJ3, HB⟩ := hcut
  cases kq with
  | zero => exact absurd HA.out (by simp [impl_PowersDots.j0])
  | succ kj3 =>
   have H := HA.out
   clear HA
   simp only [impl_PowersDots.j0] at H
   by_cases c7 : x21_3 = true
   ·subst c7
    have H1 : (some (([] : List Int), false)) = some (r1, r2) := by rw [if_pos rfl] at H; exact H
    clear H
    have H := H1
    clear H1
    simp only [Option.some.injEq, Prod.mk.injEq] at H
    obtain ⟨rfl, rfl⟩ := H
    go_wp2
    go_ret2
    exact ⟨_, eqr, by first | exact Kd.R_nil _ _ _ _ _ | exact Kd.N_nil _ _ _ _ _ | exact Kd.V_nil _ _ _ _ _ | exact Kd.Q_nil _ _ _ _ _ | exact Kd.S_nil _ _ _ _ _, atB HB⟩
   ·replace c7 := Bool.eq_false_iff.mpr c7
    subst c7
    have H1 : ((impl_powers.f kj3 a0 a1).bind fun t631 => (impl_PowersDots.l0 kj3 t631 (t631.length : Int) 0)) = some (r1, r2) := by rw [if_neg (show ¬ (false = true) by decide)] at H; exact H
    clear H
    have H := H1
    clear H1
    replace H := Option.bind_eq_some_iff.mp H
    obtain ⟨t631, A80, H⟩ := H
    replace H : (impl_PowersDots.l0 kj3 t631 (t631.length : Int) 0) = some (r1, r2) := H
    have A8 := Aside0.mk A80
    clear A80
    have H' := Aside0.mk H
    clear H
    go_wp2_with (first | ((with_reducible refine gate_callee (f := 172) rfl ?_); refine goesA (some 24) Try.func172 #[.int .i64 a0, .int .i64 a1] ?_; (with_reducible refine (impl_powers.calls kj3 a0 a1 t631 _ A8.out).mono ?_); rintro e w9 ⟨v632, rfl, ho0, hb⟩; refine ⟨_, rfl, ?_⟩; have HO633 := lowR ho0 HB; replace HB := upB HB hb; (try clear hb); (try clear hb2); (try clear hk); (try clear hi); (try clear ho0); obtain ⟨Ao10, co10, eo10⟩ := Kd.R_slice HO633.out; subst eo10))
    go_loopg [27] kj3 (fun kq v27 w' => ∃ (x8_2 : List Int) (x27_2 : Int), v27 = .int .i64 x27_2 ∧ Aside0 (impl_PowersDots.l0 kq x8_2 (t631.length : Int) x27_2 = some (r1, r2)) ∧ Aside0 (kq ≤ kj3) ∧ Aside0 (Kd.R (Kd.int .i64) 3 w' w.heap.size (fun _ => True) (.slice Ao10 t631.length co10) x8_2) ∧ Aside0 (Below w.heap.size w w'))
    case atStart => exact ⟨(t631), (0), eqd, H', ⟨Nat.le_refl _⟩, ⟨atR HO633⟩, ⟨atB HB⟩⟩
    case round =>
     clear H'
     try clear c1
     try clear p2
     try clear c5
     try clear c6
     try clear c7
     try clear p2
     obtain ⟨x8_2, x27_2, rfl, HA, HK2, HO_8, HB⟩ := hrel
     have hl8_2 := (Kd.R_reads' HO_8.out).1
     rw [hl8_2] at HO_8
     (try simp only [hl8_2])
     cases gk with
     | zero => exact absurd HA.out (by simp [impl_PowersDots.l0])
     | succ k2 =>
      have H := HA.out
      clear HA
      simp only [impl_PowersDots.l0] at H
      by_cases c11 : x27_2 < (t631.length : Int)
      ·rw [if_pos c11] at H
       have c11b0 : decide (x27_2 < (t631.length : Int)) = true := decide_eq_true c11
       (try rw [hl8_2] at c11b0)
       clear c11
       by_cases c12 : 0 ≤ x27_2
       ·rw [if_pos c12] at H
        have c12b0 : decide (0 ≤ x27_2) = true := decide_eq_true c12
        (try rw [hl8_2] at c12b0)
        clear c12
        by_cases c13 : x27_2 < (x8_2.length : Int)
        ·rw [if_pos c13] at H
         have c13b0 : decide (x27_2 < (x8_2.length : Int)) = true := decide_eq_true c13
         (try rw [hl8_2] at c13b0)
         clear c13
         obtain ⟨y635, hy635⟩ : ∃ y_ : List Int, y_ = (x8_2.set (x27_2 : Int).toNat (wrap64 ((rd x8_2 x27_2) - 1))) := ⟨_, rfl⟩
         replace H : (impl_PowersDots.l0 k2 y635 (t631.length : Int) (wrap64 (x27_2 + 1))) = some (r1, r2) := by first | (rw [hy635]; with_reducible exact H) | (have H2_ := (Option.bind_some _ _).symm.trans H; rw [hy635]; with_reducible exact H2_) | (have H2_ := (Option.bind_some _ _).symm.trans H; with_reducible exact H2_) | with_reducible exact H | (rw [hy635]; exact H) | exact H
         have Ny635 := Aside0.mk hy635
         clear hy635
         have H' := Aside0.mk H
         clear H
         have p634 : 0 ≤ (x27_2 : Int) := ofd
         have q634 : x27_2 < (x8_2.length : Int) := ofd
         obtain ⟨ad634, e634, hx634_0⟩ := Kd.at_int (Kd.R_reads' HO_8.out).2.2 x27_2 p634 q634
         cases e634
         replace p634 := eq_true p634
         replace q634 := eq_true q634
         have p14 : 0 ≤ (x27_2 : Int) := ofd
         have q14 : (x27_2 : Int) < ((x8_2.length : Int) : Int) := ofd
         obtain ⟨go14, co14, eo14, gb14, gl14, cl14, HG14⟩ := Kd.R_form HO_8.out (by omega)
         (first | cases eo14 | (injection eo14 with ea_ en_ ec_; (first | subst ea_ | (injection ea_ with ea_; subst ea_)); subst ec_; clear en_))
         have GB14 := Aside0.mk gb14
         have GG14 := Aside0.mk HG14
         clear gb14 gl14 HG14
         (first | simp only [add_plain] at hx634_0 | skip)
         obtain ⟨hx14_0, hf14_0⟩ := Kd.R_celln 0 HO_8.out (x27_2 : Int) p14 q14
         replace p14 := eq_true p14
         replace q14 := eq_true q14
         have HP15 := Kd.R_putg HO_8.out (x27_2 : Int) (wrap64 ((rd x8_2 x27_2) - 1))
         go_wp2_with (first | ((with_reducible refine gate_store (t := 3) (p := 35) rfl ?_); refine store_event (t := 3) (p := 35) (v := ?vo_w16) (w1 := (wr.setCell ⟨go14, (x27_2 : Int).toNat, none⟩ (.int .i64 (wrap64 ((rd x8_2 x27_2) - 1))))) ?hg ?ho ?hn ?hr ?_; (case ho => rfl); (case hg => rfl); (case hn => rfl); (case hr => first | (go_simp; done) | (go_simp; rfl)); intro w16 hw; have hg : wr.grownBy w16 (some go14) := (by rw [hw]; exact HP15.2); have hp_ : Kd.R (Kd.int .i64) 3 w16 w.heap.size (fun _ => True) (.slice (some ⟨go14, 0, none⟩) x8_2.length co10) y635 := (by rw [hw, Ny635.out]; exact HP15.1); clear HP15; replace HO_8 := Aside0.mk (hp_); replace HB := Aside0.mk ((by rw [hw]; exact below_set (HB.out) GB14.out : Below w.heap.size w w16)); clear hg hw hp_))
         (try simp only [← hl8_2])
         go_roundg k2
         case measure => have := HJ3.out; have := HK2.out; omega
         case rel => exact ⟨(y635), (wrap64 (x27_2 + 1)), eqd, H', ⟨by have := HJ3.out; have := HK2.out; omega⟩, ⟨by (try simp only [hl8_2]); (with_reducible repeat (first | apply Kd.R_alloc | apply Kd.R_drewN | apply Kd.R_drew)); exact HO_8.out⟩, ⟨atB HB⟩⟩
        ·rw [if_neg c13] at H
         exact absurd H (by simp)
       ·rw [if_neg c12] at H
        exact absurd H (by simp)
      ·rw [if_neg c11] at H
       have c11b0 : decide (x27_2 < (t631.length : Int)) = false := decide_eq_false c11
       (try rw [hl8_2] at c11b0)
       clear c11
       simp only [Option.some.injEq, Prod.mk.injEq] at H
       obtain ⟨rfl, rfl⟩ := H
       go_wp2
       go_ret2
       exact ⟨_, eqr, atR HO_8, atB HB⟩

noncomputable def impl_PowersDots.J0 (x0 : Int) (x1 : Int) (x21 : Bool) : Option (List Int × Bool) := lim fun k => impl_PowersDots.j0 k x0 x1 x21
theorem impl_PowersDots.J0_lim (x0 : Int) (x1 : Int) (x21 : Bool) : Lim (fun k => impl_PowersDots.j0 k x0 x1 x21) (impl_PowersDots.J0 x0 x1 x21) := Lim.of fun k => (impl_PowersDots.mono_l k).1 x0 x1 x21
noncomputable def impl_PowersDots.L0 (x8 : List Int) (x26 : Int) (x27 : Int) : Option (List Int × Bool) := lim fun k => impl_PowersDots.l0 k x8 x26 x27
theorem impl_PowersDots.L0_lim (x8 : List Int) (x26 : Int) (x27 : Int) : Lim (fun k => impl_PowersDots.l0 k x8 x26 x27) (impl_PowersDots.L0 x8 x26 x27) := Lim.of fun k => (impl_PowersDots.mono_l k).2 x8 x26 x27
noncomputable def impl_PowersDots.F (a0 : Int) (a1 : Int) : Option (List Int × Bool) := lim fun k => impl_PowersDots.f k a0 a1
theorem impl_PowersDots.F_lim (a0 : Int) (a1 : Int) : Lim (fun k => impl_PowersDots.f k a0 a1) (impl_PowersDots.F a0 a1) := Lim.of fun k => impl_PowersDots.mono a0 a1 k
theorem impl_PowersDots.J0_eq (x0 : Int) (x1 : Int) (x21 : Bool) : impl_PowersDots.J0 x0 x1 x21 = (if x21 = true then (some (([] : List Int), false)) else ((impl_powers.F x0 x1).bind fun t631 => (impl_PowersDots.L0 t631 (t631.length : Int) 0))) :=
 Lim.step (f := fun k => impl_PowersDots.j0 (k + 1) x0 x1 x21) (impl_PowersDots.J0_lim x0 x1 x21) (fun _ => rfl) (by
  simp only [impl_PowersDots.j0]
  repeat' (first | (with_reducible first | exact Lim.const _ | exact impl_PowersDots.L0_lim _ _ _ | exact impl_powers.F_lim _ _ | refine Lim.ite ?_ ?_ | refine Lim.bind ?_ (fun _ => ?_))))
theorem impl_PowersDots.L0_eq (x8 : List Int) (x26 : Int) (x27 : Int) : impl_PowersDots.L0 x8 x26 x27 = (if x27 < x26 then (if 0 ≤ x27 then (if x27 < (x8.length : Int) then (impl_PowersDots.L0 (x8.set (x27 : Int).toNat (wrap64 ((rd x8 x27) - 1))) x26 (wrap64 (x27 + 1))) else (none)) else (none)) else (some (x8, true))) :=
 Lim.step (f := fun k => impl_PowersDots.l0 (k + 1) x8 x26 x27) (impl_PowersDots.L0_lim x8 x26 x27) (fun _ => rfl) (by
  simp only [impl_PowersDots.l0]
  repeat' (first | (with_reducible first | exact Lim.const _ | exact impl_PowersDots.L0_lim _ _ _ | refine Lim.ite ?_ ?_ | refine Lim.bind ?_ (fun _ => ?_))))
theorem impl_PowersDots.F_eq (a0 : Int) (a1 : Int) : impl_PowersDots.F a0 a1 = ((impl_isRoot.F a0 a1).bind fun bt629 => (if bt629.2 = true then (impl_PowersDots.J0 a0 a1 (!bt629.1)) else (impl_PowersDots.J0 a0 a1 true))) :=
 Lim.unique (impl_PowersDots.F_lim a0 a1) (by
  unfold impl_PowersDots.f
  repeat' (first | (with_reducible first | exact Lim.const _ | exact impl_PowersDots.J0_lim _ _ _ | exact impl_isRoot.F_lim _ _ | refine Lim.ite ?_ ?_ | refine Lim.bind ?_ (fun _ => ?_))))

end Go.Proofs.Ytadhfbchilaklaa.Fn
namespace Go.Proofs.Ytadhfbchilaklaa.Fn
open Go.RowKit Go.Proofs.YtadhfbchilaklaaW.PrintWords Go.Proofs.YtadhfbchilaklaaW.PrintLast Go.Proofs.YtadhfbchilaklaaW.PrintMore
attribute [local go_sem] max2_int min2_int max_two min_two max_three min_three max_four min_four   -- for this text's walks alone
set_option linter.unusedVariables false
set_option linter.unusedSimpArgs false

/-! ### impl_IsRoot: function 52 -/
def impl_IsRoot.f (k : Nat) (a0 : Int) (a1 : Int) : Option (Bool × Bool) := (impl_isRoot.f k a0 a1).bind fun bt636 => (some (bt636.1, bt636.2))
theorem impl_IsRoot.mono : ∀ a0 a1 k, LeO (impl_IsRoot.f k a0 a1) (impl_IsRoot.f (k + 1) a0 a1) := by
 intro a0 a1 k
 unfold impl_IsRoot.f
 repeat' (first | (with_reducible first | exact impl_isRoot.mono _ _ _ | exact LeO.refl _ | exact LeO.none _ | refine LeO.ite ?_ ?_ | refine LeO.bind ?_ (fun _ => ?_)) | exact impl_isRoot.mono _ _ _ | exact LeO.none _ | refine LeO.ite ?_ ?_ | refine LeO.bind ?_ (fun _ => ?_))
set_option maxHeartbeats 8000000 in
set_option maxRecDepth 100000 in
theorem impl_IsRoot.calls (k : Nat) (a0 : Int) (a1 : Int) (r1 : Bool) (r2 : Bool) (w : World) (h : impl_IsRoot.f k a0 a1 = some (r1, r2)) :
  Calls Try.prog 52 #[.int .i64 a0, .int .i64 a1] w fun e w' => e = .returned (.tuple #[.bool r1, .bool r2]) ∧ Below w.heap.size w w' := by
 have HB := Aside0.mk (Below.refl w.heap.size w)
 have H := h
 unfold impl_IsRoot.f at H
 clear h
 replace H := Option.bind_eq_some_iff.mp H
 obtain ⟨⟨t636, t637⟩, A30, H⟩ := H
 replace H : (some (t636, t637)) = some (r1, r2) := H
 have A3 := Aside0.mk A30
 clear A30
 simp only [Option.some.injEq, Prod.mk.injEq] at H
 obtain ⟨rfl, rfl⟩ := H
 go_enter Try.func52, Try.ntmps52
 go_wp2_with (first | ((with_reducible refine gate_callee (f := 171) rfl ?_); refine goesA (some 8) Try.func171 #[.int .i64 a0, .int .i64 a1] ?_; (with_reducible refine (impl_isRoot.calls k a0 a1 t636 t637 _ A3.out).mono ?_); rintro e w4 ⟨rfl, hb⟩; refine ⟨_, rfl, ?_⟩; replace HB := upB HB hb; (try clear hb); (try clear hb2); (try clear hk); (try clear hi)))
 go_ret2
 exact ⟨eqr, atB HB⟩

noncomputable def impl_IsRoot.F (a0 : Int) (a1 : Int) : Option (Bool × Bool) := lim fun k => impl_IsRoot.f k a0 a1
theorem impl_IsRoot.F_lim (a0 : Int) (a1 : Int) : Lim (fun k => impl_IsRoot.f k a0 a1) (impl_IsRoot.F a0 a1) := Lim.of fun k => impl_IsRoot.mono a0 a1 k
theorem impl_IsRoot.F_eq (a0 : Int) (a1 : Int) : impl_IsRoot.F a0 a1 = ((impl_isRoot.F a0 a1).bind fun bt636 => (some (bt636.1, bt636.2))) :=
 Lim.unique (impl_IsRoot.F_lim a0 a1) (by
  unfold impl_IsRoot.f
  repeat' (first | (with_reducible first | exact Lim.const _ | exact impl_isRoot.F_lim _ _ | refine Lim.ite ?_ ?_ | refine Lim.bind ?_ (fun _ => ?_))))

end Go.Proofs.Ytadhfbchilaklaa.Fn
namespace Go.Proofs.Ytadhfbchilaklaa.Fn
open Go.RowKit Go.Proofs.YtadhfbchilaklaaW.PrintWords Go.Proofs.YtadhfbchilaklaaW.PrintLast Go.Proofs.YtadhfbchilaklaaW.PrintMore
attribute [local go_sem] max2_int min2_int max_two min_two max_three min_three max_four min_four   -- for this text's walks alone
set_option linter.unusedVariables false
set_option linter.unusedSimpArgs false

/-! ### spec_IsRoot: function 53 -/
def spec_IsRoot.f (k : Nat) (a0 : Int) (a1 : Int) : Option (Bool × Bool) := (spec_doPrime.f k a0).bind fun t638 => (if t638 = true then ((spec_l1In.f a1 2 (wrap64 (a0 - 1))).bind fun t639 => (if t639 = true then ((spec_doRoot.f k a0 a1).bind fun t640 => (some (t640, true))) else (some (false, false)))) else (some (false, false)))
theorem spec_IsRoot.mono : ∀ a0 a1 k, LeO (spec_IsRoot.f k a0 a1) (spec_IsRoot.f (k + 1) a0 a1) := by
 intro a0 a1 k
 unfold spec_IsRoot.f
 repeat' (first | (with_reducible first | exact spec_doPrime.mono _ _ | exact spec_doRoot.mono _ _ _ | exact LeO.refl _ | exact LeO.none _ | refine LeO.ite ?_ ?_ | refine LeO.bind ?_ (fun _ => ?_)) | exact spec_doPrime.mono _ _ | exact spec_doRoot.mono _ _ _ | exact LeO.none _ | refine LeO.ite ?_ ?_ | refine LeO.bind ?_ (fun _ => ?_))
set_option maxHeartbeats 8000000 in
set_option maxRecDepth 100000 in
theorem spec_IsRoot.calls (k : Nat) (a0 : Int) (a1 : Int) (r1 : Bool) (r2 : Bool) (w : World) (h : spec_IsRoot.f k a0 a1 = some (r1, r2)) :
  Calls Try.prog 53 #[.int .i64 a0, .int .i64 a1] w fun e w' => e = .returned (.tuple #[.bool r1, .bool r2]) ∧ Below w.heap.size w w' := by
 have HB := Aside0.mk (Below.refl w.heap.size w)
 have H := h
 unfold spec_IsRoot.f at H
 clear h
 replace H := Option.bind_eq_some_iff.mp H
 obtain ⟨t638, A30, H⟩ := H
 replace H : (if t638 = true then ((spec_l1In.f a1 2 (wrap64 (a0 - 1))).bind fun t639 => (if t639 = true then ((spec_doRoot.f k a0 a1).bind fun t640 => (some (t640, true))) else (some (false, false)))) else (some (false, false))) = some (r1, r2) := H
 have A3 := Aside0.mk A30
 clear A30
 by_cases c4 : t638 = true
 ·subst c4
  have H1 : ((spec_l1In.f a1 2 (wrap64 (a0 - 1))).bind fun t639 => (if t639 = true then ((spec_doRoot.f k a0 a1).bind fun t640 => (some (t640, true))) else (some (false, false)))) = some (r1, r2) := by rw [if_pos rfl] at H; exact H
  clear H
  have H := H1
  clear H1
  replace H := Option.bind_eq_some_iff.mp H
  obtain ⟨t639, A50, H⟩ := H
  replace H : (if t639 = true then ((spec_doRoot.f k a0 a1).bind fun t640 => (some (t640, true))) else (some (false, false))) = some (r1, r2) := H
  have A5 := Aside0.mk A50
  clear A50
  by_cases c6 : t639 = true
  ·subst c6
   have H1 : ((spec_doRoot.f k a0 a1).bind fun t640 => (some (t640, true))) = some (r1, r2) := by rw [if_pos rfl] at H; exact H
   clear H
   have H := H1
   clear H1
   replace H := Option.bind_eq_some_iff.mp H
   obtain ⟨t640, A70, H⟩ := H
   replace H : (some (t640, true)) = some (r1, r2) := H
   have A7 := Aside0.mk A70
   clear A70
   simp only [Option.some.injEq, Prod.mk.injEq] at H
   obtain ⟨rfl, rfl⟩ := H
   go_enter Try.func53, Try.ntmps53
   go_wp2_with (first | ((with_reducible refine gate_callee (f := 173) rfl ?_); refine goesA (some 7) Try.func173 #[.int .i64 a0] ?_; (with_reducible refine (spec_doPrime.calls k a0 true _ A3.out).mono ?_); rintro e w8 ⟨rfl, hb⟩; refine ⟨_, rfl, ?_⟩; replace HB := upB HB hb; (try clear hb); (try clear hb2); (try clear hk); (try clear hi)) | (go_at_call 176; (with_reducible refine (spec_l1In.calls a1 2 (wrap64 (a0 - 1)) true _ A5.out).mono ?_); rintro e w' ⟨rfl, ⟨nd, rfl⟩⟩) | ((with_reducible refine gate_callee (f := 174) rfl ?_); refine goesA (some 18) Try.func174 #[.int .i64 a0, .int .i64 a1] ?_; (with_reducible refine (spec_doRoot.calls k a0 a1 t640 _ A7.out).mono ?_); rintro e w9 ⟨rfl, hb⟩; refine ⟨_, rfl, ?_⟩; replace HB := upB HB hb; (try clear hb); (try clear hb2); (try clear hk); (try clear hi)))
   go_ret2
   exact ⟨eqr, atB HB⟩
  ·replace c6 := Bool.eq_false_iff.mpr c6
   subst c6
   have H1 : (some (false, false)) = some (r1, r2) := by rw [if_neg (show ¬ (false = true) by decide)] at H; exact H
   clear H
   have H := H1
   clear H1
   simp only [Option.some.injEq, Prod.mk.injEq] at H
   obtain ⟨rfl, rfl⟩ := H
   go_enter Try.func53, Try.ntmps53
   go_wp2_with (first | ((with_reducible refine gate_callee (f := 173) rfl ?_); refine goesA (some 7) Try.func173 #[.int .i64 a0] ?_; (with_reducible refine (spec_doPrime.calls k a0 true _ A3.out).mono ?_); rintro e w10 ⟨rfl, hb⟩; refine ⟨_, rfl, ?_⟩; replace HB := upB HB hb; (try clear hb); (try clear hb2); (try clear hk); (try clear hi)) | (go_at_call 176; (with_reducible refine (spec_l1In.calls a1 2 (wrap64 (a0 - 1)) false _ A5.out).mono ?_); rintro e w' ⟨rfl, ⟨nd, rfl⟩⟩))
   go_ret2
   exact ⟨eqr, atB HB⟩
 ·replace c4 := Bool.eq_false_iff.mpr c4
  subst c4
  have H1 : (some (false, false)) = some (r1, r2) := by rw [if_neg (show ¬ (false = true) by decide)] at H; exact H
  clear H
  have H := H1
  clear H1
  simp only [Option.some.injEq, Prod.mk.injEq] at H
  obtain ⟨rfl, rfl⟩ := H
  go_enter Try.func53, Try.ntmps53
  go_wp2_with (first | ((with_reducible refine gate_callee (f := 173) rfl ?_); refine goesA (some 7) Try.func173 #[.int .i64 a0] ?_; (with_reducible refine (spec_doPrime.calls k a0 false _ A3.out).mono ?_); rintro e w11 ⟨rfl, hb⟩; refine ⟨_, rfl, ?_⟩; replace HB := upB HB hb; (try clear hb); (try clear hb2); (try clear hk); (try clear hi)))
  go_ret2
  exact ⟨eqr, atB HB⟩

noncomputable def spec_IsRoot.F (a0 : Int) (a1 : Int) : Option (Bool × Bool) := lim fun k => spec_IsRoot.f k a0 a1
theorem spec_IsRoot.F_lim (a0 : Int) (a1 : Int) : Lim (fun k => spec_IsRoot.f k a0 a1) (spec_IsRoot.F a0 a1) := Lim.of fun k => spec_IsRoot.mono a0 a1 k
theorem spec_IsRoot.F_eq (a0 : Int) (a1 : Int) : spec_IsRoot.F a0 a1 = ((spec_doPrime.F a0).bind fun t638 => (if t638 = true then ((spec_l1In.f a1 2 (wrap64 (a0 - 1))).bind fun t639 => (if t639 = true then ((spec_doRoot.F a0 a1).bind fun t640 => (some (t640, true))) else (some (false, false)))) else (some (false, false)))) :=
 Lim.unique (spec_IsRoot.F_lim a0 a1) (by
  unfold spec_IsRoot.f
  repeat' (first | (with_reducible first | exact Lim.const _ | exact spec_doPrime.F_lim _ | exact spec_doRoot.F_lim _ _ | refine Lim.ite ?_ ?_ | refine Lim.bind ?_ (fun _ => ?_))))

end Go.Proofs.Ytadhfbchilaklaa.Fn
namespace Go.Proofs.Ytadhfbchilaklaa.Fn
open Go.RowKit Go.Proofs.YtadhfbchilaklaaW.PrintWords Go.Proofs.YtadhfbchilaklaaW.PrintLast Go.Proofs.YtadhfbchilaklaaW.PrintMore
attribute [local go_sem] max2_int min2_int max_two min_two max_three min_three max_four min_four   -- for this text's walks alone
set_option linter.unusedVariables false
set_option linter.unusedSimpArgs false

/-! ### laws_FnDotsTurned: function 4 -/
mutual
def laws_FnDotsTurned.j0 : Nat → List Int → List Int → List Int → Bool → List Int → List Int → List Int → List Int → Bool → Bool → Option (Bool)
 | 0, _, _, _, _, _, _, _, _, _, _ => none
 | k + 1, x1, x5, x6, x7, x10, x14, x18, x22, x23, x217 => if x217 = true then (some false) else (if x7 = true then ((impl_IsCostas.f k x5).bind fun bt749 => (laws_FnDotsTurned.l0 k x1 x5 x6 x10 x14 x18 x22 x23 x5 bt749.1 bt749.2 0)) else (laws_FnDotsTurned.j2 k x1))
def laws_FnDotsTurned.j2 : Nat → List Int → Option (Bool)
 | 0, _ => none
 | k + 1, x1 => (spec_DrawPowersDots.f x1).bind fun bt787 => ((impl_PowersDots.f k bt787.1 bt787.2).bind fun bt789 => ((spec_PowersDots.f k bt787.1 bt787.2).bind fun bt793 => ((impl_IsRoot.f k bt787.1 bt787.2).bind fun bt797 => ((spec_IsRoot.f k bt787.1 bt787.2).bind fun bt799 => ((spec_DrawLogsDots.f x1).bind fun bt801 => ((impl_LogsDots.f k bt801.1 bt801.2.1 bt801.2.2).bind fun bt804 => ((spec_LogsDots.f k bt801.1 bt801.2.1 bt801.2.2).bind fun bt808 => (if (bt789.2 != bt793.2) = true then (laws_FnDotsTurned.j3 k bt787.1 bt789.1 bt789.2 bt801.1 bt801.2.1 bt801.2.2 bt804.1 bt804.2 true) else ((laws_zSame.f k bt789.1 bt793.1).bind fun t812 => (if t812 = true then (if (bt797.2 != bt799.2) = true then (laws_FnDotsTurned.j3 k bt787.1 bt789.1 bt789.2 bt801.1 bt801.2.1 bt801.2.2 bt804.1 bt804.2 true) else (if (bt797.1 != bt799.1) = true then (laws_FnDotsTurned.j3 k bt787.1 bt789.1 bt789.2 bt801.1 bt801.2.1 bt801.2.2 bt804.1 bt804.2 true) else (if bt797.2 = true then (if (bt789.2 != bt797.1) = true then (laws_FnDotsTurned.j3 k bt787.1 bt789.1 bt789.2 bt801.1 bt801.2.1 bt801.2.2 bt804.1 bt804.2 true) else (if (bt804.2 != bt808.2) = true then (laws_FnDotsTurned.j3 k bt787.1 bt789.1 bt789.2 bt801.1 bt801.2.1 bt801.2.2 bt804.1 bt804.2 true) else ((laws_zSame.f k bt804.1 bt808.1).bind fun t813 => (laws_FnDotsTurned.j3 k bt787.1 bt789.1 bt789.2 bt801.1 bt801.2.1 bt801.2.2 bt804.1 bt804.2 (!t813))))) else (if (bt789.2 != false) = true then (laws_FnDotsTurned.j3 k bt787.1 bt789.1 bt789.2 bt801.1 bt801.2.1 bt801.2.2 bt804.1 bt804.2 true) else (if (bt804.2 != bt808.2) = true then (laws_FnDotsTurned.j3 k bt787.1 bt789.1 bt789.2 bt801.1 bt801.2.1 bt801.2.2 bt804.1 bt804.2 true) else ((laws_zSame.f k bt804.1 bt808.1).bind fun t814 => (laws_FnDotsTurned.j3 k bt787.1 bt789.1 bt789.2 bt801.1 bt801.2.1 bt801.2.2 bt804.1 bt804.2 (!t814)))))))) else (laws_FnDotsTurned.j3 k bt787.1 bt789.1 bt789.2 bt801.1 bt801.2.1 bt801.2.2 bt804.1 bt804.2 true)))))))))))
def laws_FnDotsTurned.j3 : Nat → Int → List Int → Bool → Int → Int → Int → List Int → Bool → Bool → Option (Bool)
 | 0, _, _, _, _, _, _, _, _, _ => none
 | k + 1, x48, x50, x51, x58, x59, x60, x61, x62, x456 => if x456 = true then (some false) else (if x51 = true then ((impl_IsCostas.f k x50).bind fun bt815 => (if bt815.2 = true then (if bt815.1 = true then (if (x50.length : Int) = (wrap64 (x48 - 1)) then (if 0 < (x50.length : Int) then (if (rd x50 0) = 0 then (laws_FnDotsTurned.j4 k x58 x59 x60 x61 x62) else (some false)) else (none)) else (some false)) else (some false)) else (some false))) else (laws_FnDotsTurned.j4 k x58 x59 x60 x61 x62))
def laws_FnDotsTurned.j4 : Nat → Int → Int → Int → List Int → Bool → Option (Bool)
 | 0, _, _, _, _, _ => none
 | k + 1, x58, x59, x60, x61, x62 => if x62 = true then ((impl_IsCostas.f k x61).bind fun bt818 => ((impl_LogsDots.f k x58 x60 x59).bind fun bt820 => ((impl_CrossDots.f k x61).bind fun bt824 => (if bt818.2 = true then (if bt818.1 = true then (if (x61.length : Int) = (wrap64 (x58 - 2)) then (if bt820.2 = true then (if bt824.2 = true then ((laws_zSame.f k bt820.1 bt824.1).bind fun t828 => (some t828)) else (some false)) else (some false)) else (some false)) else (some false)) else (some false))))) else (some true)
def laws_FnDotsTurned.l0 : Nat → List Int → List Int → List Int → List Int → List Int → List Int → List Int → Bool → List Int → Bool → Bool → Int → Option (Bool)
 | 0, _, _, _, _, _, _, _, _, _, _, _, _ => none
 | k + 1, x1, x5, x6, x10, x14, x18, x22, x23, x26, x27, x28, x29 => if x29 < 4 then ((impl_TurnDots.f k x26).bind fun bt751 => ((impl_IsCostas.f k bt751.1).bind fun bt755 => ((impl_LeastDots.f k bt751.1).bind fun bt757 => (if bt751.2 = true then (if bt755.2 = true then (if (bt755.1 != x27) = true then (some false) else (if bt757.2 = true then ((laws_zSame.f k bt757.1 x18).bind fun t761 => (if t761 = true then ((laws_zLess.f k bt751.1 x18).bind fun t762 => (if t762 = true then (some false) else (laws_FnDotsTurned.l0 k x1 x5 x6 x10 x14 x18 x22 x23 bt751.1 x27 x28 (wrap64 (x29 + 1))))) else (some false))) else (some false))) else (some false)) else (some false))))) else ((impl_MirrorDots.f k x10).bind fun bt763 => ((impl_CrossDots.f k x14).bind fun bt767 => ((impl_IsCostas.f k x14).bind fun bt771 => ((impl_MirrorDots.f k x5).bind fun bt773 => ((impl_CrossDots.f k bt773.1).bind fun bt777 => (if x28 = true then ((laws_zSame.f k x26 x5).bind fun t781 => (if t781 = true then (if bt763.2 = true then ((laws_zSame.f k bt763.1 x5).bind fun t782 => (if t782 = true then (if bt767.2 = true then ((laws_zSame.f k bt767.1 x5).bind fun t783 => (if t783 = true then (if bt771.2 = true then (if (bt771.1 != x27) = true then (some false) else (if bt773.2 = true then (if bt777.2 = true then ((laws_zSame.f k bt777.1 x6).bind fun t784 => (if t784 = true then (if x23 = true then ((impl_IsCostas.f k x22).bind fun bt785 => (if bt785.2 = true then (if x27 = true then (if bt785.1 = true then (if (x22.length : Int) = (wrap64 ((x5.length : Int) - 1)) then (laws_FnDotsTurned.j2 k x1) else (some false)) else (some false)) else (if (x22.length : Int) = (wrap64 ((x5.length : Int) - 1)) then (laws_FnDotsTurned.j2 k x1) else (some false))) else (some false))) else (laws_FnDotsTurned.j2 k x1)) else (some false))) else (some false)) else (some false))) else (some false)) else (some false))) else (some false)) else (some false))) else (some false)) else (some false))) else (some false)))))))
end
def laws_FnDotsTurned.f (k : Nat) (l0 : List Int) (l1 : List Int) : Option (Bool) := (laws_big.f l0 l1).bind fun t698 => (if t698 = true then (some true) else ((spec_DrawTurnDots.f k l0).bind fun t699 => ((impl_TurnDots.f k t699).bind fun bt702 => ((spec_TurnDots.f k t699).bind fun bt706 => ((impl_MirrorDots.f k t699).bind fun bt710 => ((spec_MirrorDots.f k t699).bind fun bt714 => ((impl_CrossDots.f k t699).bind fun bt718 => ((spec_CrossDots.f k t699).bind fun bt722 => ((impl_LeastDots.f k t699).bind fun bt726 => ((spec_LeastDots.f k t699).bind fun bt730 => ((impl_DropCorner.f k t699).bind fun bt734 => ((spec_DropCorner.f k t699).bind fun bt738 => (if (bt702.2 != bt706.2) = true then (laws_FnDotsTurned.j0 k l1 t699 bt702.1 bt702.2 bt710.1 bt718.1 bt726.1 bt734.1 bt734.2 true) else ((laws_zSame.f k bt702.1 bt706.1).bind fun t742 => (if t742 = true then (if (bt710.2 != bt714.2) = true then (laws_FnDotsTurned.j0 k l1 t699 bt702.1 bt702.2 bt710.1 bt718.1 bt726.1 bt734.1 bt734.2 true) else ((laws_zSame.f k bt710.1 bt714.1).bind fun t743 => (if t743 = true then (if (bt718.2 != bt722.2) = true then (laws_FnDotsTurned.j0 k l1 t699 bt702.1 bt702.2 bt710.1 bt718.1 bt726.1 bt734.1 bt734.2 true) else ((laws_zSame.f k bt718.1 bt722.1).bind fun t744 => (if t744 = true then (if (bt726.2 != bt730.2) = true then (laws_FnDotsTurned.j0 k l1 t699 bt702.1 bt702.2 bt710.1 bt718.1 bt726.1 bt734.1 bt734.2 true) else ((laws_zSame.f k bt726.1 bt730.1).bind fun t745 => (if t745 = true then (if (bt734.2 != bt738.2) = true then (laws_FnDotsTurned.j0 k l1 t699 bt702.1 bt702.2 bt710.1 bt718.1 bt726.1 bt734.1 bt734.2 true) else ((laws_zSame.f k bt734.1 bt738.1).bind fun t746 => (if t746 = true then ((impl_IsDots.f k t699).bind fun t747 => (if (bt702.2 != t747) = true then (laws_FnDotsTurned.j0 k l1 t699 bt702.1 bt702.2 bt710.1 bt718.1 bt726.1 bt734.1 bt734.2 true) else (if (bt710.2 != bt702.2) = true then (laws_FnDotsTurned.j0 k l1 t699 bt702.1 bt702.2 bt710.1 bt718.1 bt726.1 bt734.1 bt734.2 true) else (if (bt718.2 != bt702.2) = true then (laws_FnDotsTurned.j0 k l1 t699 bt702.1 bt702.2 bt710.1 bt718.1 bt726.1 bt734.1 bt734.2 true) else (if (bt726.2 != bt702.2) = true then (laws_FnDotsTurned.j0 k l1 t699 bt702.1 bt702.2 bt710.1 bt718.1 bt726.1 bt734.1 bt734.2 true) else (if bt702.2 = true then (if 0 < (t699.length : Int) then (if (rd t699 0) = 0 then (laws_FnDotsTurned.j0 k l1 t699 bt702.1 bt702.2 bt710.1 bt718.1 bt726.1 bt734.1 bt734.2 (bt734.2 != (decide ((t699.length : Int) > 1)))) else (laws_FnDotsTurned.j0 k l1 t699 bt702.1 bt702.2 bt710.1 bt718.1 bt726.1 bt734.1 bt734.2 (bt734.2 != false))) else (none)) else (laws_FnDotsTurned.j0 k l1 t699 bt702.1 bt702.2 bt710.1 bt718.1 bt726.1 bt734.1 bt734.2 (bt734.2 != false)))))))) else (laws_FnDotsTurned.j0 k l1 t699 bt702.1 bt702.2 bt710.1 bt718.1 bt726.1 bt734.1 bt734.2 true)))) else (laws_FnDotsTurned.j0 k l1 t699 bt702.1 bt702.2 bt710.1 bt718.1 bt726.1 bt734.1 bt734.2 true)))) else (laws_FnDotsTurned.j0 k l1 t699 bt702.1 bt702.2 bt710.1 bt718.1 bt726.1 bt734.1 bt734.2 true)))) else (laws_FnDotsTurned.j0 k l1 t699 bt702.1 bt702.2 bt710.1 bt718.1 bt726.1 bt734.1 bt734.2 true)))) else (laws_FnDotsTurned.j0 k l1 t699 bt702.1 bt702.2 bt710.1 bt718.1 bt726.1 bt734.1 bt734.2 true))))))))))))))))
theorem laws_FnDotsTurned.mono_l : ∀ k, (∀ y0 y1 y2 y3 y4 y5 y6 y7 y8 y9, LeO (laws_FnDotsTurned.j0 k y0 y1 y2 y3 y4 y5 y6 y7 y8 y9) (laws_FnDotsTurned.j0 (k + 1) y0 y1 y2 y3 y4 y5 y6 y7 y8 y9)) ∧ (∀ y0, LeO (laws_FnDotsTurned.j2 k y0) (laws_FnDotsTurned.j2 (k + 1) y0)) ∧ (∀ y0 y1 y2 y3 y4 y5 y6 y7 y8, LeO (laws_FnDotsTurned.j3 k y0 y1 y2 y3 y4 y5 y6 y7 y8) (laws_FnDotsTurned.j3 (k + 1) y0 y1 y2 y3 y4 y5 y6 y7 y8)) ∧ (∀ y0 y1 y2 y3 y4, LeO (laws_FnDotsTurned.j4 k y0 y1 y2 y3 y4) (laws_FnDotsTurned.j4 (k + 1) y0 y1 y2 y3 y4)) ∧ (∀ y0 y1 y2 y3 y4 y5 y6 y7 y8 y9 y10 y11, LeO (laws_FnDotsTurned.l0 k y0 y1 y2 y3 y4 y5 y6 y7 y8 y9 y10 y11) (laws_FnDotsTurned.l0 (k + 1) y0 y1 y2 y3 y4 y5 y6 y7 y8 y9 y10 y11))
 | 0 => ⟨fun _ _ _ _ _ _ _ _ _ _ r h => by simp [laws_FnDotsTurned.j0] at h, fun _ r h => by simp [laws_FnDotsTurned.j2] at h, fun _ _ _ _ _ _ _ _ _ r h => by simp [laws_FnDotsTurned.j3] at h, fun _ _ _ _ _ r h => by simp [laws_FnDotsTurned.j4] at h, fun _ _ _ _ _ _ _ _ _ _ _ _ r h => by simp [laws_FnDotsTurned.l0] at h⟩
 | k + 1 => by
  obtain ⟨ih0, ih1, ih2, ih3, ih4⟩ := laws_FnDotsTurned.mono_l k
  refine ⟨?_, ?_, ?_, ?_, ?_⟩
  ·intro y0 y1 y2 y3 y4 y5 y6 y7 y8 y9
   unfold laws_FnDotsTurned.j0
   repeat' (first | (with_reducible first | exact ih1 _ | exact ih4 _ _ _ _ _ _ _ _ _ _ _ _ | exact impl_IsCostas.mono _ _ | exact LeO.refl _ | exact LeO.none _ | refine LeO.ite ?_ ?_ | refine LeO.bind ?_ (fun _ => ?_)) | exact ih1 _ | exact ih4 _ _ _ _ _ _ _ _ _ _ _ _ | exact impl_IsCostas.mono _ _ | exact LeO.none _ | refine LeO.ite ?_ ?_ | refine LeO.bind ?_ (fun _ => ?_))
  ·intro y0
   unfold laws_FnDotsTurned.j2
   repeat' (first | (with_reducible first | exact ih2 _ _ _ _ _ _ _ _ _ | exact impl_IsRoot.mono _ _ _ | exact impl_LogsDots.mono _ _ _ _ | exact impl_PowersDots.mono _ _ _ | exact laws_zSame.mono _ _ _ | exact spec_IsRoot.mono _ _ _ | exact spec_LogsDots.mono _ _ _ _ | exact spec_PowersDots.mono _ _ _ | exact LeO.refl _ | exact LeO.none _ | refine LeO.ite ?_ ?_ | refine LeO.bind ?_ (fun _ => ?_)) | exact ih2 _ _ _ _ _ _ _ _ _ | exact impl_IsRoot.mono _ _ _ | exact impl_LogsDots.mono _ _ _ _ | exact impl_PowersDots.mono _ _ _ | exact laws_zSame.mono _ _ _ | exact spec_IsRoot.mono _ _ _ | exact spec_LogsDots.mono _ _ _ _ | exact spec_PowersDots.mono _ _ _ | exact LeO.none _ | refine LeO.ite ?_ ?_ | refine LeO.bind ?_ (fun _ => ?_))
  ·intro y0 y1 y2 y3 y4 y5 y6 y7 y8
   unfold laws_FnDotsTurned.j3
   repeat' (first | (with_reducible first | exact ih3 _ _ _ _ _ | exact impl_IsCostas.mono _ _ | exact LeO.refl _ | exact LeO.none _ | refine LeO.ite ?_ ?_ | refine LeO.bind ?_ (fun _ => ?_)) | exact ih3 _ _ _ _ _ | exact impl_IsCostas.mono _ _ | exact LeO.none _ | refine LeO.ite ?_ ?_ | refine LeO.bind ?_ (fun _ => ?_))
  ·intro y0 y1 y2 y3 y4
   unfold laws_FnDotsTurned.j4
   repeat' (first | (with_reducible first | exact impl_CrossDots.mono _ _ | exact impl_IsCostas.mono _ _ | exact impl_LogsDots.mono _ _ _ _ | exact laws_zSame.mono _ _ _ | exact LeO.refl _ | exact LeO.none _ | refine LeO.ite ?_ ?_ | refine LeO.bind ?_ (fun _ => ?_)) | exact impl_CrossDots.mono _ _ | exact impl_IsCostas.mono _ _ | exact impl_LogsDots.mono _ _ _ _ | exact laws_zSame.mono _ _ _ | exact LeO.none _ | refine LeO.ite ?_ ?_ | refine LeO.bind ?_ (fun _ => ?_))
  ·intro y0 y1 y2 y3 y4 y5 y6 y7 y8 y9 y10 y11
   unfold laws_FnDotsTurned.l0
   repeat' (first | (with_reducible first | exact ih1 _ | exact ih4 _ _ _ _ _ _ _ _ _ _ _ _ | exact impl_CrossDots.mono _ _ | exact impl_IsCostas.mono _ _ | exact impl_LeastDots.mono _ _ | exact impl_MirrorDots.mono _ _ | exact impl_TurnDots.mono _ _ | exact laws_zLess.mono _ _ _ | exact laws_zSame.mono _ _ _ | exact LeO.refl _ | exact LeO.none _ | refine LeO.ite ?_ ?_ | refine LeO.bind ?_ (fun _ => ?_)) | exact ih1 _ | exact ih4 _ _ _ _ _ _ _ _ _ _ _ _ | exact impl_CrossDots.mono _ _ | exact impl_IsCostas.mono _ _ | exact impl_LeastDots.mono _ _ | exact impl_MirrorDots.mono _ _ | exact impl_TurnDots.mono _ _ | exact laws_zLess.mono _ _ _ | exact laws_zSame.mono _ _ _ | exact LeO.none _ | refine LeO.ite ?_ ?_ | refine LeO.bind ?_ (fun _ => ?_))
theorem laws_FnDotsTurned.mono : ∀ a0 a1 k, LeO (laws_FnDotsTurned.f k a0 a1) (laws_FnDotsTurned.f (k + 1) a0 a1) := by
 intro a0 a1 k
 obtain ⟨ih0, ih1, ih2, ih3, ih4⟩ := laws_FnDotsTurned.mono_l k
 unfold laws_FnDotsTurned.f
 repeat' (first | (with_reducible first | exact ih0 _ _ _ _ _ _ _ _ _ _ | exact impl_CrossDots.mono _ _ | exact impl_DropCorner.mono _ _ | exact impl_IsDots.mono _ _ | exact impl_LeastDots.mono _ _ | exact impl_MirrorDots.mono _ _ | exact impl_TurnDots.mono _ _ | exact laws_zSame.mono _ _ _ | exact spec_CrossDots.mono _ _ | exact spec_DrawTurnDots.mono _ _ | exact spec_DropCorner.mono _ _ | exact spec_LeastDots.mono _ _ | exact spec_MirrorDots.mono _ _ | exact spec_TurnDots.mono _ _ | exact LeO.refl _ | exact LeO.none _ | refine LeO.ite ?_ ?_ | refine LeO.bind ?_ (fun _ => ?_)) | exact ih0 _ _ _ _ _ _ _ _ _ _ | exact impl_CrossDots.mono _ _ | exact impl_DropCorner.mono _ _ | exact impl_IsDots.mono _ _ | exact impl_LeastDots.mono _ _ | exact impl_MirrorDots.mono _ _ | exact impl_TurnDots.mono _ _ | exact laws_zSame.mono _ _ _ | exact spec_CrossDots.mono _ _ | exact spec_DrawTurnDots.mono _ _ | exact spec_DropCorner.mono _ _ | exact spec_LeastDots.mono _ _ | exact spec_MirrorDots.mono _ _ | exact spec_TurnDots.mono _ _ | exact LeO.none _ | refine LeO.ite ?_ ?_ | refine LeO.bind ?_ (fun _ => ?_))
theorem laws_FnDotsTurned.j0_no : ∀ k y0 y1 y2 y3 y4 y5 y6 y7 y8, laws_FnDotsTurned.j0 k y0 y1 y2 y3 y4 y5 y6 y7 y8 true ≠ some true := by
 intro k
 cases k <;> intros <;> simp [laws_FnDotsTurned.j0]
theorem laws_FnDotsTurned.j3_no : ∀ k y0 y1 y2 y3 y4 y5 y6 y7, laws_FnDotsTurned.j3 k y0 y1 y2 y3 y4 y5 y6 y7 true ≠ some true := by
 intro k
 cases k <;> intros <;> simp [laws_FnDotsTurned.j3]

end Go.Proofs.Ytadhfbchilaklaa.Fn
namespace Go.Proofs.Ytadhfbchilaklaa.Fn
open Go.RowKit Go.Proofs.YtadhfbchilaklaaW.PrintWords Go.Proofs.YtadhfbchilaklaaW.PrintLast Go.Proofs.YtadhfbchilaklaaW.PrintMore
attribute [local go_sem] max2_int min2_int max_two min_two max_three min_three max_four min_four   -- for this text's walks alone
set_option linter.unusedVariables false
set_option linter.unusedSimpArgs false


/-- The statement of laws_FnDotsTurned over numbers and lists. -/
def laws_FnDotsTurned.Pure : Prop := ∀ (l0 : List Int) (l1 : List Int), l0.length ≤ maxLen → l0.length * 1 ≤ 140737488351232 → (∀ x ∈ l0, (Lit.int .u8 x).wf = true) → l1.length ≤ maxLen → l1.length * 1 ≤ 140737488351232 → (∀ x ∈ l1, (Lit.int .u8 x).wf = true) → ∃ k, laws_FnDotsTurned.f k l0 l1 = some true

noncomputable def laws_FnDotsTurned.J0 (x1 : List Int) (x5 : List Int) (x6 : List Int) (x7 : Bool) (x10 : List Int) (x14 : List Int) (x18 : List Int) (x22 : List Int) (x23 : Bool) (x217 : Bool) : Option (Bool) := lim fun k => laws_FnDotsTurned.j0 k x1 x5 x6 x7 x10 x14 x18 x22 x23 x217
theorem laws_FnDotsTurned.J0_lim (x1 : List Int) (x5 : List Int) (x6 : List Int) (x7 : Bool) (x10 : List Int) (x14 : List Int) (x18 : List Int) (x22 : List Int) (x23 : Bool) (x217 : Bool) : Lim (fun k => laws_FnDotsTurned.j0 k x1 x5 x6 x7 x10 x14 x18 x22 x23 x217) (laws_FnDotsTurned.J0 x1 x5 x6 x7 x10 x14 x18 x22 x23 x217) := Lim.of fun k => (laws_FnDotsTurned.mono_l k).1 x1 x5 x6 x7 x10 x14 x18 x22 x23 x217
noncomputable def laws_FnDotsTurned.J2 (x1 : List Int) : Option (Bool) := lim fun k => laws_FnDotsTurned.j2 k x1
theorem laws_FnDotsTurned.J2_lim (x1 : List Int) : Lim (fun k => laws_FnDotsTurned.j2 k x1) (laws_FnDotsTurned.J2 x1) := Lim.of fun k => (laws_FnDotsTurned.mono_l k).2.1 x1
noncomputable def laws_FnDotsTurned.J3 (x48 : Int) (x50 : List Int) (x51 : Bool) (x58 : Int) (x59 : Int) (x60 : Int) (x61 : List Int) (x62 : Bool) (x456 : Bool) : Option (Bool) := lim fun k => laws_FnDotsTurned.j3 k x48 x50 x51 x58 x59 x60 x61 x62 x456
theorem laws_FnDotsTurned.J3_lim (x48 : Int) (x50 : List Int) (x51 : Bool) (x58 : Int) (x59 : Int) (x60 : Int) (x61 : List Int) (x62 : Bool) (x456 : Bool) : Lim (fun k => laws_FnDotsTurned.j3 k x48 x50 x51 x58 x59 x60 x61 x62 x456) (laws_FnDotsTurned.J3 x48 x50 x51 x58 x59 x60 x61 x62 x456) := Lim.of fun k => (laws_FnDotsTurned.mono_l k).2.2.1 x48 x50 x51 x58 x59 x60 x61 x62 x456
noncomputable def laws_FnDotsTurned.J4 (x58 : Int) (x59 : Int) (x60 : Int) (x61 : List Int) (x62 : Bool) : Option (Bool) := lim fun k => laws_FnDotsTurned.j4 k x58 x59 x60 x61 x62
theorem laws_FnDotsTurned.J4_lim (x58 : Int) (x59 : Int) (x60 : Int) (x61 : List Int) (x62 : Bool) : Lim (fun k => laws_FnDotsTurned.j4 k x58 x59 x60 x61 x62) (laws_FnDotsTurned.J4 x58 x59 x60 x61 x62) := Lim.of fun k => (laws_FnDotsTurned.mono_l k).2.2.2.1 x58 x59 x60 x61 x62
noncomputable def laws_FnDotsTurned.L0 (x1 : List Int) (x5 : List Int) (x6 : List Int) (x10 : List Int) (x14 : List Int) (x18 : List Int) (x22 : List Int) (x23 : Bool) (x26 : List Int) (x27 : Bool) (x28 : Bool) (x29 : Int) : Option (Bool) := lim fun k => laws_FnDotsTurned.l0 k x1 x5 x6 x10 x14 x18 x22 x23 x26 x27 x28 x29
theorem laws_FnDotsTurned.L0_lim (x1 : List Int) (x5 : List Int) (x6 : List Int) (x10 : List Int) (x14 : List Int) (x18 : List Int) (x22 : List Int) (x23 : Bool) (x26 : List Int) (x27 : Bool) (x28 : Bool) (x29 : Int) : Lim (fun k => laws_FnDotsTurned.l0 k x1 x5 x6 x10 x14 x18 x22 x23 x26 x27 x28 x29) (laws_FnDotsTurned.L0 x1 x5 x6 x10 x14 x18 x22 x23 x26 x27 x28 x29) := Lim.of fun k => (laws_FnDotsTurned.mono_l k).2.2.2.2 x1 x5 x6 x10 x14 x18 x22 x23 x26 x27 x28 x29
noncomputable def laws_FnDotsTurned.F (l0 : List Int) (l1 : List Int) : Option (Bool) := lim fun k => laws_FnDotsTurned.f k l0 l1
theorem laws_FnDotsTurned.F_lim (l0 : List Int) (l1 : List Int) : Lim (fun k => laws_FnDotsTurned.f k l0 l1) (laws_FnDotsTurned.F l0 l1) := Lim.of fun k => laws_FnDotsTurned.mono l0 l1 k
theorem laws_FnDotsTurned.J0_eq (x1 : List Int) (x5 : List Int) (x6 : List Int) (x7 : Bool) (x10 : List Int) (x14 : List Int) (x18 : List Int) (x22 : List Int) (x23 : Bool) (x217 : Bool) : laws_FnDotsTurned.J0 x1 x5 x6 x7 x10 x14 x18 x22 x23 x217 = (if x217 = true then (some false) else (if x7 = true then ((impl_IsCostas.F x5).bind fun bt749 => (laws_FnDotsTurned.L0 x1 x5 x6 x10 x14 x18 x22 x23 x5 bt749.1 bt749.2 0)) else (laws_FnDotsTurned.J2 x1))) :=
 Lim.step (f := fun k => laws_FnDotsTurned.j0 (k + 1) x1 x5 x6 x7 x10 x14 x18 x22 x23 x217) (laws_FnDotsTurned.J0_lim x1 x5 x6 x7 x10 x14 x18 x22 x23 x217) (fun _ => rfl) (by
  simp only [laws_FnDotsTurned.j0]
  repeat' (first | (with_reducible first | exact Lim.const _ | exact impl_IsCostas.F_lim _ | exact laws_FnDotsTurned.J2_lim _ | exact laws_FnDotsTurned.L0_lim _ _ _ _ _ _ _ _ _ _ _ _ | refine Lim.ite ?_ ?_ | refine Lim.bind ?_ (fun _ => ?_))))
theorem laws_FnDotsTurned.J2_eq (x1 : List Int) : laws_FnDotsTurned.J2 x1 = ((spec_DrawPowersDots.f x1).bind fun bt787 => ((impl_PowersDots.F bt787.1 bt787.2).bind fun bt789 => ((spec_PowersDots.F bt787.1 bt787.2).bind fun bt793 => ((impl_IsRoot.F bt787.1 bt787.2).bind fun bt797 => ((spec_IsRoot.F bt787.1 bt787.2).bind fun bt799 => ((spec_DrawLogsDots.f x1).bind fun bt801 => ((impl_LogsDots.F bt801.1 bt801.2.1 bt801.2.2).bind fun bt804 => ((spec_LogsDots.F bt801.1 bt801.2.1 bt801.2.2).bind fun bt808 => (if (bt789.2 != bt793.2) = true then (laws_FnDotsTurned.J3 bt787.1 bt789.1 bt789.2 bt801.1 bt801.2.1 bt801.2.2 bt804.1 bt804.2 true) else ((laws_zSame.F bt789.1 bt793.1).bind fun t812 => (if t812 = true then (if (bt797.2 != bt799.2) = true then (laws_FnDotsTurned.J3 bt787.1 bt789.1 bt789.2 bt801.1 bt801.2.1 bt801.2.2 bt804.1 bt804.2 true) else (if (bt797.1 != bt799.1) = true then (laws_FnDotsTurned.J3 bt787.1 bt789.1 bt789.2 bt801.1 bt801.2.1 bt801.2.2 bt804.1 bt804.2 true) else (if bt797.2 = true then (if (bt789.2 != bt797.1) = true then (laws_FnDotsTurned.J3 bt787.1 bt789.1 bt789.2 bt801.1 bt801.2.1 bt801.2.2 bt804.1 bt804.2 true) else (if (bt804.2 != bt808.2) = true then (laws_FnDotsTurned.J3 bt787.1 bt789.1 bt789.2 bt801.1 bt801.2.1 bt801.2.2 bt804.1 bt804.2 true) else ((laws_zSame.F bt804.1 bt808.1).bind fun t813 => (laws_FnDotsTurned.J3 bt787.1 bt789.1 bt789.2 bt801.1 bt801.2.1 bt801.2.2 bt804.1 bt804.2 (!t813))))) else (if (bt789.2 != false) = true then (laws_FnDotsTurned.J3 bt787.1 bt789.1 bt789.2 bt801.1 bt801.2.1 bt801.2.2 bt804.1 bt804.2 true) else (if (bt804.2 != bt808.2) = true then (laws_FnDotsTurned.J3 bt787.1 bt789.1 bt789.2 bt801.1 bt801.2.1 bt801.2.2 bt804.1 bt804.2 true) else ((laws_zSame.F bt804.1 bt808.1).bind fun t814 => (laws_FnDotsTurned.J3 bt787.1 bt789.1 bt789.2 bt801.1 bt801.2.1 bt801.2.2 bt804.1 bt804.2 (!t814)))))))) else (laws_FnDotsTurned.J3 bt787.1 bt789.1 bt789.2 bt801.1 bt801.2.1 bt801.2.2 bt804.1 bt804.2 true)))))))))))) :=
 Lim.step (f := fun k => laws_FnDotsTurned.j2 (k + 1) x1) (laws_FnDotsTurned.J2_lim x1) (fun _ => rfl) (by
  simp only [laws_FnDotsTurned.j2]
  repeat' (first | (with_reducible first | exact Lim.const _ | exact impl_IsRoot.F_lim _ _ | exact impl_LogsDots.F_lim _ _ _ | exact impl_PowersDots.F_lim _ _ | exact laws_FnDotsTurned.J3_lim _ _ _ _ _ _ _ _ _ | exact laws_zSame.F_lim _ _ | exact spec_IsRoot.F_lim _ _ | exact spec_LogsDots.F_lim _ _ _ | exact spec_PowersDots.F_lim _ _ | refine Lim.ite ?_ ?_ | refine Lim.bind ?_ (fun _ => ?_))))
theorem laws_FnDotsTurned.J3_eq (x48 : Int) (x50 : List Int) (x51 : Bool) (x58 : Int) (x59 : Int) (x60 : Int) (x61 : List Int) (x62 : Bool) (x456 : Bool) : laws_FnDotsTurned.J3 x48 x50 x51 x58 x59 x60 x61 x62 x456 = (if x456 = true then (some false) else (if x51 = true then ((impl_IsCostas.F x50).bind fun bt815 => (if bt815.2 = true then (if bt815.1 = true then (if (x50.length : Int) = (wrap64 (x48 - 1)) then (if 0 < (x50.length : Int) then (if (rd x50 0) = 0 then (laws_FnDotsTurned.J4 x58 x59 x60 x61 x62) else (some false)) else (none)) else (some false)) else (some false)) else (some false))) else (laws_FnDotsTurned.J4 x58 x59 x60 x61 x62))) :=
 Lim.step (f := fun k => laws_FnDotsTurned.j3 (k + 1) x48 x50 x51 x58 x59 x60 x61 x62 x456) (laws_FnDotsTurned.J3_lim x48 x50 x51 x58 x59 x60 x61 x62 x456) (fun _ => rfl) (by
  simp only [laws_FnDotsTurned.j3]
  repeat' (first | (with_reducible first | exact Lim.const _ | exact impl_IsCostas.F_lim _ | exact laws_FnDotsTurned.J4_lim _ _ _ _ _ | refine Lim.ite ?_ ?_ | refine Lim.bind ?_ (fun _ => ?_))))
theorem laws_FnDotsTurned.J4_eq (x58 : Int) (x59 : Int) (x60 : Int) (x61 : List Int) (x62 : Bool) : laws_FnDotsTurned.J4 x58 x59 x60 x61 x62 = (if x62 = true then ((impl_IsCostas.F x61).bind fun bt818 => ((impl_LogsDots.F x58 x60 x59).bind fun bt820 => ((impl_CrossDots.F x61).bind fun bt824 => (if bt818.2 = true then (if bt818.1 = true then (if (x61.length : Int) = (wrap64 (x58 - 2)) then (if bt820.2 = true then (if bt824.2 = true then ((laws_zSame.F bt820.1 bt824.1).bind fun t828 => (some t828)) else (some false)) else (some false)) else (some false)) else (some false)) else (some false))))) else (some true)) :=
 Lim.step (f := fun k => laws_FnDotsTurned.j4 (k + 1) x58 x59 x60 x61 x62) (laws_FnDotsTurned.J4_lim x58 x59 x60 x61 x62) (fun _ => rfl) (by
  simp only [laws_FnDotsTurned.j4]
  repeat' (first | (with_reducible first | exact Lim.const _ | exact impl_CrossDots.F_lim _ | exact impl_IsCostas.F_lim _ | exact impl_LogsDots.F_lim _ _ _ | exact laws_zSame.F_lim _ _ | refine Lim.ite ?_ ?_ | refine Lim.bind ?_ (fun _ => ?_))))
theorem laws_FnDotsTurned.L0_eq (x1 : List Int) (x5 : List Int) (x6 : List Int) (x10 : List Int) (x14 : List Int) (x18 : List Int) (x22 : List Int) (x23 : Bool) (x26 : List Int) (x27 : Bool) (x28 : Bool) (x29 : Int) : laws_FnDotsTurned.L0 x1 x5 x6 x10 x14 x18 x22 x23 x26 x27 x28 x29 = (if x29 < 4 then ((impl_TurnDots.F x26).bind fun bt751 => ((impl_IsCostas.F bt751.1).bind fun bt755 => ((impl_LeastDots.F bt751.1).bind fun bt757 => (if bt751.2 = true then (if bt755.2 = true then (if (bt755.1 != x27) = true then (some false) else (if bt757.2 = true then ((laws_zSame.F bt757.1 x18).bind fun t761 => (if t761 = true then ((laws_zLess.F bt751.1 x18).bind fun t762 => (if t762 = true then (some false) else (laws_FnDotsTurned.L0 x1 x5 x6 x10 x14 x18 x22 x23 bt751.1 x27 x28 (wrap64 (x29 + 1))))) else (some false))) else (some false))) else (some false)) else (some false))))) else ((impl_MirrorDots.F x10).bind fun bt763 => ((impl_CrossDots.F x14).bind fun bt767 => ((impl_IsCostas.F x14).bind fun bt771 => ((impl_MirrorDots.F x5).bind fun bt773 => ((impl_CrossDots.F bt773.1).bind fun bt777 => (if x28 = true then ((laws_zSame.F x26 x5).bind fun t781 => (if t781 = true then (if bt763.2 = true then ((laws_zSame.F bt763.1 x5).bind fun t782 => (if t782 = true then (if bt767.2 = true then ((laws_zSame.F bt767.1 x5).bind fun t783 => (if t783 = true then (if bt771.2 = true then (if (bt771.1 != x27) = true then (some false) else (if bt773.2 = true then (if bt777.2 = true then ((laws_zSame.F bt777.1 x6).bind fun t784 => (if t784 = true then (if x23 = true then ((impl_IsCostas.F x22).bind fun bt785 => (if bt785.2 = true then (if x27 = true then (if bt785.1 = true then (if (x22.length : Int) = (wrap64 ((x5.length : Int) - 1)) then (laws_FnDotsTurned.J2 x1) else (some false)) else (some false)) else (if (x22.length : Int) = (wrap64 ((x5.length : Int) - 1)) then (laws_FnDotsTurned.J2 x1) else (some false))) else (some false))) else (laws_FnDotsTurned.J2 x1)) else (some false))) else (some false)) else (some false))) else (some false)) else (some false))) else (some false)) else (some false))) else (some false)) else (some false))) else (some false)))))))) :=
 Lim.step (f := fun k => laws_FnDotsTurned.l0 (k + 1) x1 x5 x6 x10 x14 x18 x22 x23 x26 x27 x28 x29) (laws_FnDotsTurned.L0_lim x1 x5 x6 x10 x14 x18 x22 x23 x26 x27 x28 x29) (fun _ => rfl) (by
  simp only [laws_FnDotsTurned.l0]
  repeat' (first | (with_reducible first | exact Lim.const _ | exact impl_CrossDots.F_lim _ | exact impl_IsCostas.F_lim _ | exact impl_LeastDots.F_lim _ | exact impl_MirrorDots.F_lim _ | exact impl_TurnDots.F_lim _ | exact laws_FnDotsTurned.J2_lim _ | exact laws_FnDotsTurned.L0_lim _ _ _ _ _ _ _ _ _ _ _ _ | exact laws_zLess.F_lim _ _ | exact laws_zSame.F_lim _ _ | refine Lim.ite ?_ ?_ | refine Lim.bind ?_ (fun _ => ?_))))
theorem laws_FnDotsTurned.F_eq (l0 : List Int) (l1 : List Int) : laws_FnDotsTurned.F l0 l1 = ((laws_big.f l0 l1).bind fun t698 => (if t698 = true then (some true) else ((spec_DrawTurnDots.F l0).bind fun t699 => ((impl_TurnDots.F t699).bind fun bt702 => ((spec_TurnDots.F t699).bind fun bt706 => ((impl_MirrorDots.F t699).bind fun bt710 => ((spec_MirrorDots.F t699).bind fun bt714 => ((impl_CrossDots.F t699).bind fun bt718 => ((spec_CrossDots.F t699).bind fun bt722 => ((impl_LeastDots.F t699).bind fun bt726 => ((spec_LeastDots.F t699).bind fun bt730 => ((impl_DropCorner.F t699).bind fun bt734 => ((spec_DropCorner.F t699).bind fun bt738 => (if (bt702.2 != bt706.2) = true then (laws_FnDotsTurned.J0 l1 t699 bt702.1 bt702.2 bt710.1 bt718.1 bt726.1 bt734.1 bt734.2 true) else ((laws_zSame.F bt702.1 bt706.1).bind fun t742 => (if t742 = true then (if (bt710.2 != bt714.2) = true then (laws_FnDotsTurned.J0 l1 t699 bt702.1 bt702.2 bt710.1 bt718.1 bt726.1 bt734.1 bt734.2 true) else ((laws_zSame.F bt710.1 bt714.1).bind fun t743 => (if t743 = true then (if (bt718.2 != bt722.2) = true then (laws_FnDotsTurned.J0 l1 t699 bt702.1 bt702.2 bt710.1 bt718.1 bt726.1 bt734.1 bt734.2 true) else ((laws_zSame.F bt718.1 bt722.1).bind fun t744 => (if t744 = true then (if (bt726.2 != bt730.2) = true then (laws_FnDotsTurned.J0 l1 t699 bt702.1 bt702.2 bt710.1 bt718.1 bt726.1 bt734.1 bt734.2 true) else ((laws_zSame.F bt726.1 bt730.1).bind fun t745 => (if t745 = true then (if (bt734.2 != bt738.2) = true then (laws_FnDotsTurned.J0 l1 t699 bt702.1 bt702.2 bt710.1 bt718.1 bt726.1 bt734.1 bt734.2 true) else ((laws_zSame.F bt734.1 bt738.1).bind fun t746 => (if t746 = true then ((impl_IsDots.F t699).bind fun t747 => (if (bt702.2 != t747) = true then (laws_FnDotsTurned.J0 l1 t699 bt702.1 bt702.2 bt710.1 bt718.1 bt726.1 bt734.1 bt734.2 true) else (if (bt710.2 != bt702.2) = true then (laws_FnDotsTurned.J0 l1 t699 bt702.1 bt702.2 bt710.1 bt718.1 bt726.1 bt734.1 bt734.2 true) else (if (bt718.2 != bt702.2) = true then (laws_FnDotsTurned.J0 l1 t699 bt702.1 bt702.2 bt710.1 bt718.1 bt726.1 bt734.1 bt734.2 true) else (if (bt726.2 != bt702.2) = true then (laws_FnDotsTurned.J0 l1 t699 bt702.1 bt702.2 bt710.1 bt718.1 bt726.1 bt734.1 bt734.2 true) else (if bt702.2 = true then (if 0 < (t699.length : Int) then (if (rd t699 0) = 0 then (laws_FnDotsTurned.J0 l1 t699 bt702.1 bt702.2 bt710.1 bt718.1 bt726.1 bt734.1 bt734.2 (bt734.2 != (decide ((t699.length : Int) > 1)))) else (laws_FnDotsTurned.J0 l1 t699 bt702.1 bt702.2 bt710.1 bt718.1 bt726.1 bt734.1 bt734.2 (bt734.2 != false))) else (none)) else (laws_FnDotsTurned.J0 l1 t699 bt702.1 bt702.2 bt710.1 bt718.1 bt726.1 bt734.1 bt734.2 (bt734.2 != false)))))))) else (laws_FnDotsTurned.J0 l1 t699 bt702.1 bt702.2 bt710.1 bt718.1 bt726.1 bt734.1 bt734.2 true)))) else (laws_FnDotsTurned.J0 l1 t699 bt702.1 bt702.2 bt710.1 bt718.1 bt726.1 bt734.1 bt734.2 true)))) else (laws_FnDotsTurned.J0 l1 t699 bt702.1 bt702.2 bt710.1 bt718.1 bt726.1 bt734.1 bt734.2 true)))) else (laws_FnDotsTurned.J0 l1 t699 bt702.1 bt702.2 bt710.1 bt718.1 bt726.1 bt734.1 bt734.2 true)))) else (laws_FnDotsTurned.J0 l1 t699 bt702.1 bt702.2 bt710.1 bt718.1 bt726.1 bt734.1 bt734.2 true))))))))))))))))) :=
 Lim.unique (laws_FnDotsTurned.F_lim l0 l1) (by
  unfold laws_FnDotsTurned.f
  repeat' (first | (with_reducible first | exact Lim.const _ | exact impl_CrossDots.F_lim _ | exact impl_DropCorner.F_lim _ | exact impl_IsDots.F_lim _ | exact impl_LeastDots.F_lim _ | exact impl_MirrorDots.F_lim _ | exact impl_TurnDots.F_lim _ | exact laws_FnDotsTurned.J0_lim _ _ _ _ _ _ _ _ _ _ | exact laws_zSame.F_lim _ _ | exact spec_CrossDots.F_lim _ | exact spec_DrawTurnDots.F_lim _ | exact spec_DropCorner.F_lim _ | exact spec_LeastDots.F_lim _ | exact spec_MirrorDots.F_lim _ | exact spec_TurnDots.F_lim _ | refine Lim.ite ?_ ?_ | refine Lim.bind ?_ (fun _ => ?_))))

end Go.Proofs.Ytadhfbchilaklaa.Fn
