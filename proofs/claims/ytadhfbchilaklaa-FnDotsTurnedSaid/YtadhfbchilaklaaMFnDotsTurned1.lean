/- The machine's side and plain lemmas for FnDotsTurned: texts of this session, merged by its program (part 1). -/
import Derived.Lib.SliceRun
import Derived.Laws.Rows
import Derived.Test.YtadhfbchilaklaaMFnDotsTurned0
namespace Go.Proofs.Ytadhfbchilaklaa.Fn
open Go.RowKit Go.Proofs.YtadhfbchilaklaaW.PrintWords Go.Proofs.YtadhfbchilaklaaW.PrintLast Go.Proofs.YtadhfbchilaklaaW.PrintMore
attribute [local go_sem] max2_int min2_int max_two min_two max_three min_three max_four min_four   -- for this text's walks alone
set_option linter.unusedVariables false
set_option linter.unusedSimpArgs false

/-! ### impl_CrossDots: function 39 -/
def impl_CrossDots.l0 : Nat → List Int → List Int → Int → Int → Option (List Int × Bool)
 | 0, _, _, _, _ => none
 | k + 1, x4, x13, x14, x15 => if x15 < x14 then (if 0 ≤ x15 then (if x15 < (x13.length : Int) then (if 0 ≤ (rd x13 x15) then (if (rd x13 x15) < (x4.length : Int) then (impl_CrossDots.l0 k (x4.set ((rd x13 x15) : Int).toNat x15) x13 x14 (wrap64 (x15 + 1))) else (none)) else (none)) else (none)) else (none)) else (some (x4, true))
def impl_CrossDots.f (k : Nat) (l0 : List Int) : Option (List Int × Bool) := (impl_IsDots.f k l0).bind fun t505 => (if t505 = true then (if 0 ≤ (l0.length : Int) then (if ((l0.length : Int) : Int).toNat ≤ 35184372088832 then (impl_CrossDots.l0 k (List.replicate ((l0.length : Int) : Int).toNat 0) l0 (l0.length : Int) 0) else (none)) else (none)) else (some (([] : List Int), false)))
theorem impl_CrossDots.mono_l : ∀ k, (∀ y0 y1 y2 y3, LeO (impl_CrossDots.l0 k y0 y1 y2 y3) (impl_CrossDots.l0 (k + 1) y0 y1 y2 y3))
 | 0 => fun _ _ _ _ r h => by simp [impl_CrossDots.l0] at h
 | k + 1 => by
  have ih0 := impl_CrossDots.mono_l k
  ·intro y0 y1 y2 y3
   unfold impl_CrossDots.l0
   repeat' (first | (with_reducible first | exact ih0 _ _ _ _ | exact LeO.refl _ | exact LeO.none _ | refine LeO.ite ?_ ?_ | refine LeO.bind ?_ (fun _ => ?_)) | exact ih0 _ _ _ _ | exact LeO.none _ | refine LeO.ite ?_ ?_ | refine LeO.bind ?_ (fun _ => ?_))
theorem impl_CrossDots.mono : ∀ a0 k, LeO (impl_CrossDots.f k a0) (impl_CrossDots.f (k + 1) a0) := by
 intro a0 k
 have ih0 := impl_CrossDots.mono_l k
 unfold impl_CrossDots.f
 repeat' (first | (with_reducible first | exact ih0 _ _ _ _ | exact impl_IsDots.mono _ _ | exact LeO.refl _ | exact LeO.none _ | refine LeO.ite ?_ ?_ | refine LeO.bind ?_ (fun _ => ?_)) | exact ih0 _ _ _ _ | exact impl_IsDots.mono _ _ | exact LeO.none _ | refine LeO.ite ?_ ?_ | refine LeO.bind ?_ (fun _ => ?_))
set_option maxHeartbeats 8000000 in
set_option maxRecDepth 100000 in
theorem impl_CrossDots.calls (k : Nat) (A0 : Option Addr) (c0 : Nat) (l0 : List Int) (r1 : List Int) (r2 : Bool) (w : World) (hr0 : Kd.C (Kd.int .i64) w A0 l0.length l0) (hc0 : l0.length ≤ c0) (h : impl_CrossDots.f k l0 = some (r1, r2)) :
  Calls Try.prog 39 #[.slice A0 l0.length c0] w fun e w' => ∃ v0_ : Value, e = .returned (.tuple #[v0_, .bool r2]) ∧ Kd.R (Kd.int .i64) 3 w' w.heap.size (fun _ => True) v0_ r1 ∧ Below w.heap.size w w' := by
 have HR0 := Aside0.mk hr0
 have HC0 := Aside0.mk hc0
 clear hr0 hc0
 have HB := Aside0.mk (Below.refl w.heap.size w)
 have H := h
 unfold impl_CrossDots.f at H
 clear h
 replace H := Option.bind_eq_some_iff.mp H
 obtain ⟨t505, A20, H⟩ := H
 replace H : (if t505 = true then (if 0 ≤ (l0.length : Int) then (if ((l0.length : Int) : Int).toNat ≤ 35184372088832 then (impl_CrossDots.l0 k (List.replicate ((l0.length : Int) : Int).toNat 0) l0 (l0.length : Int) 0) else (none)) else (none)) else (some (([] : List Int), false))) = some (r1, r2) := H
 have A2 := Aside0.mk A20
 clear A20
 by_cases c3 : t505 = true
 ·subst c3
  have H1 : (if 0 ≤ (l0.length : Int) then (if ((l0.length : Int) : Int).toNat ≤ 35184372088832 then (impl_CrossDots.l0 k (List.replicate ((l0.length : Int) : Int).toNat 0) l0 (l0.length : Int) 0) else (none)) else (none)) = some (r1, r2) := by rw [if_pos rfl] at H; exact H
  clear H
  have H := H1
  clear H1
  by_cases c4 : 0 ≤ (l0.length : Int)
  ·rw [if_pos c4] at H
   have c4b0 := eq_true c4
   have c4b1 : decide (0 ≤ (l0.length : Int)) = true := decide_eq_true c4
   clear c4
   by_cases c5 : ((l0.length : Int) : Int).toNat ≤ 35184372088832
   ·rw [if_pos c5] at H
    have c5b0 := eq_true c5
    have c5b1 : decide (((l0.length : Int) : Int).toNat ≤ 35184372088832) = true := decide_eq_true c5
    clear c5
    obtain ⟨y506, hy506⟩ : ∃ y_ : List Int, y_ = (List.replicate ((l0.length : Int) : Int).toNat 0) := ⟨_, rfl⟩
    replace H : (impl_CrossDots.l0 k y506 l0 (l0.length : Int) 0) = some (r1, r2) := by first | (rw [hy506]; with_reducible exact H) | (have H2_ := (Option.bind_some _ _).symm.trans H; rw [hy506]; with_reducible exact H2_) | (have H2_ := (Option.bind_some _ _).symm.trans H; with_reducible exact H2_) | with_reducible exact H | (rw [hy506]; exact H) | exact H
    have Ny506 := Aside0.mk hy506
    clear hy506
    have H' := Aside0.mk H
    clear H
    go_enter Try.func39, Try.ntmps39
    go_wp2_with (first | ((with_reducible refine gate_callee (f := 46) rfl ?_); refine goesA (some 8) Try.func46 #[.slice A0 l0.length c0] ?_; (with_reducible refine (impl_IsDots.calls k _ _ l0 true _ ?side1 ?side2 A2.out).mono ?_); (case side1 => repeat (first | exact HR0.out | (with_reducible refine Kd.C_alloc ?_ _) | (with_reducible refine Kd.C_drewN ?_ _) | (with_reducible refine Kd.C_drew ?_))); (case side2 => exact HC0.out); rintro e w' ⟨rfl, ⟨nd, rfl⟩⟩; refine ⟨_, rfl, ?_⟩) | ((with_reducible refine gate_dst (N := 12) rfl ?_); refine Kd.R_make (Kd.int .i64) _ 3 rfl (N := 12) rfl 24 _ _ rfl (l0.length : Int) rfl rfl Try.underlying24 (.int .i64 0) 8 info3 rfl (by decide) (by omega) 0 (ok := fun _ => True) (okp := fun _ => True) rfl (fun _ hk => hk) trivial (of_decide_eq_true (by first | (with_reducible assumption) | assumption)) (Nat.le_trans (Nat.mul_le_mul_right _ (of_decide_eq_true (by first | (with_reducible assumption) | assumption) : (l0.length : Int).toNat ≤ 35184372088832)) (by omega)) (Below.refl _ _) (Nat.le_refl _) ?_; intro v507 w6 ho7 hb hg_ hnew_; clear hg_ hnew_; (first | rw [← Ny506.out] at ho7 | (simp only [Int.reduceToNat] at ho7; rw [← Ny506.out] at ho7)); have HO508 := lowR ho7 HB; replace HB := upB HB hb; clear hb ho7))
    go_loopg [15] k (fun kq v15 w' => ∃ (x4_1 : List Int) (x15_1 : Int), v15 = .int .i64 x15_1 ∧ Aside0 (impl_CrossDots.l0 kq x4_1 l0 (l0.length : Int) x15_1 = some (r1, r2)) ∧ Aside0 (kq ≤ k) ∧ Aside0 (Kd.R (Kd.int .i64) 3 w' w.heap.size (fun _ => True) v507 x4_1) ∧ Aside0 (Below w.heap.size w w'))
    case atStart => exact ⟨(y506), (0), eqd, H', ⟨Nat.le_refl _⟩, ⟨atR HO508⟩, ⟨atB HB⟩⟩
    case round =>
     clear H'
     try clear p2
     try clear c3
     try clear c4
     try clear c4b0
     try clear c4b1
     try clear c5
     try clear c5b0
     try clear c5b1
     obtain ⟨x4_1, x15_1, rfl, HA, HK1, HO_4, HB⟩ := hrel
     cases gk with
     | zero => exact absurd HA.out (by simp [impl_CrossDots.l0])
     | succ k1 =>
      have H := HA.out
      clear HA
      simp only [impl_CrossDots.l0] at H
      by_cases c8 : x15_1 < (l0.length : Int)
      ·rw [if_pos c8] at H
       have c8b0 : decide (x15_1 < (l0.length : Int)) = true := decide_eq_true c8
       clear c8
       by_cases c9 : 0 ≤ x15_1
       ·rw [if_pos c9] at H
        have c9b0 : decide (0 ≤ x15_1) = true := decide_eq_true c9
        clear c9
        by_cases c10 : x15_1 < (l0.length : Int)
        ·rw [if_pos c10] at H
         have c10b0 : decide (x15_1 < (l0.length : Int)) = true := decide_eq_true c10
         clear c10
         by_cases c11 : 0 ≤ (rd l0 x15_1)
         ·rw [if_pos c11] at H
          have c11b0 : decide (0 ≤ (rd l0 x15_1)) = true := decide_eq_true c11
          clear c11
          by_cases c12 : (rd l0 x15_1) < (x4_1.length : Int)
          ·rw [if_pos c12] at H
           have c12b0 : decide ((rd l0 x15_1) < (x4_1.length : Int)) = true := decide_eq_true c12
           clear c12
           obtain ⟨y510, hy510⟩ : ∃ y_ : List Int, y_ = (x4_1.set ((rd l0 x15_1) : Int).toNat x15_1) := ⟨_, rfl⟩
           replace H : (impl_CrossDots.l0 k1 y510 l0 (l0.length : Int) (wrap64 (x15_1 + 1))) = some (r1, r2) := by first | (rw [hy510]; with_reducible exact H) | (have H2_ := (Option.bind_some _ _).symm.trans H; rw [hy510]; with_reducible exact H2_) | (have H2_ := (Option.bind_some _ _).symm.trans H; with_reducible exact H2_) | with_reducible exact H | (rw [hy510]; exact H) | exact H
           have Ny510 := Aside0.mk hy510
           clear hy510
           have H' := Aside0.mk H
           clear H
           have p509 : 0 ≤ (x15_1 : Int) := ofd
           have q509 : x15_1 < (l0.length : Int) := ofd
           obtain ⟨ad509, e509, hx509_0⟩ := Kd.at_int HR0.out x15_1 p509 q509
           cases e509
           (try replace hx509_0 := (HB.out.cell (World.block_lt_of_cell? w _ hx509_0)).trans hx509_0)
           replace p509 := eq_true p509
           replace q509 := eq_true q509
           have p13 : 0 ≤ ((rd l0 x15_1) : Int) := ofd
           have q13 : ((rd l0 x15_1) : Int) < ((x4_1.length : Int) : Int) := ofd
           obtain ⟨go13, co13, eo13, gb13, gl13, cl13, HG13⟩ := Kd.R_form HO_4.out (by omega)
           (first | cases eo13 | (injection eo13 with ea_ en_ ec_; (first | subst ea_ | (injection ea_ with ea_; subst ea_)); subst ec_; clear en_))
           have GB13 := Aside0.mk gb13
           have GG13 := Aside0.mk HG13
           clear gb13 gl13 HG13
           obtain ⟨hx13_0, hf13_0⟩ := Kd.R_celln 0 HO_4.out ((rd l0 x15_1) : Int) p13 q13
           replace p13 := eq_true p13
           replace q13 := eq_true q13
           have HP14 := Kd.R_putg HO_4.out ((rd l0 x15_1) : Int) x15_1
           go_wp2_with (first | ((with_reducible refine gate_store (t := 3) (p := 23) rfl ?_); refine store_event (t := 3) (p := 23) (v := ?vo_w15) (w1 := (wr.setCell ⟨go13, ((rd l0 x15_1) : Int).toNat, none⟩ (.int .i64 x15_1))) ?hg ?ho ?hn ?hr ?_; (case ho => rfl); (case hg => rfl); (case hn => rfl); (case hr => first | (go_simp; done) | (go_simp; rfl)); intro w15 hw; have hg : wr.grownBy w15 (some go13) := (by rw [hw]; exact HP14.2); have hp_ : Kd.R (Kd.int .i64) 3 w15 w.heap.size (fun _ => True) (.slice (some ⟨go13, 0, none⟩) x4_1.length co13) y510 := (by rw [hw, Ny510.out]; exact HP14.1); clear HP14; replace HO_4 := Aside0.mk (hp_); replace HB := Aside0.mk ((by rw [hw]; exact below_set (HB.out) GB13.out : Below w.heap.size w w15)); clear hg hw hp_))
           go_roundg k1
           case measure => have := HK1.out; omega
           case rel => exact ⟨(y510), (wrap64 (x15_1 + 1)), eqd, H', ⟨by have := HK1.out; omega⟩, ⟨atR HO_4⟩, ⟨atB HB⟩⟩
          ·rw [if_neg c12] at H
           exact absurd H (by simp)
         ·rw [if_neg c11] at H
          exact absurd H (by simp)
        ·rw [if_neg c10] at H
         exact absurd H (by simp)
       ·rw [if_neg c9] at H
        exact absurd H (by simp)
      ·rw [if_neg c8] at H
       have c8b0 : decide (x15_1 < (l0.length : Int)) = false := decide_eq_false c8
       clear c8
       simp only [Option.some.injEq, Prod.mk.injEq] at H
       obtain ⟨rfl, rfl⟩ := H
       go_wp2
       go_ret2
       exact ⟨_, eqr, atR HO_4, atB HB⟩
   ·rw [if_neg c5] at H
    exact absurd H (by simp)
  ·rw [if_neg c4] at H
   exact absurd H (by simp)
 ·replace c3 := Bool.eq_false_iff.mpr c3
  subst c3
  have H1 : (some (([] : List Int), false)) = some (r1, r2) := by rw [if_neg (show ¬ (false = true) by decide)] at H; exact H
  clear H
  have H := H1
  clear H1
  simp only [Option.some.injEq, Prod.mk.injEq] at H
  obtain ⟨rfl, rfl⟩ := H
  go_enter Try.func39, Try.ntmps39
  go_wp2_with (first | ((with_reducible refine gate_callee (f := 46) rfl ?_); refine goesA (some 8) Try.func46 #[.slice A0 l0.length c0] ?_; (with_reducible refine (impl_IsDots.calls k _ _ l0 false _ ?side1 ?side2 A2.out).mono ?_); (case side1 => repeat (first | exact HR0.out | (with_reducible refine Kd.C_alloc ?_ _) | (with_reducible refine Kd.C_drewN ?_ _) | (with_reducible refine Kd.C_drew ?_))); (case side2 => exact HC0.out); rintro e w' ⟨rfl, ⟨nd, rfl⟩⟩; refine ⟨_, rfl, ?_⟩))
  go_ret2
  exact ⟨_, eqr, by first | exact Kd.R_nil _ _ _ _ _ | exact Kd.N_nil _ _ _ _ _ | exact Kd.V_nil _ _ _ _ _ | exact Kd.Q_nil _ _ _ _ _ | exact Kd.S_nil _ _ _ _ _, atB HB⟩

noncomputable def impl_CrossDots.L0 (x4 : List Int) (x13 : List Int) (x14 : Int) (x15 : Int) : Option (List Int × Bool) := lim fun k => impl_CrossDots.l0 k x4 x13 x14 x15
theorem impl_CrossDots.L0_lim (x4 : List Int) (x13 : List Int) (x14 : Int) (x15 : Int) : Lim (fun k => impl_CrossDots.l0 k x4 x13 x14 x15) (impl_CrossDots.L0 x4 x13 x14 x15) := Lim.of fun k => (impl_CrossDots.mono_l k) x4 x13 x14 x15
noncomputable def impl_CrossDots.F (l0 : List Int) : Option (List Int × Bool) := lim fun k => impl_CrossDots.f k l0
theorem impl_CrossDots.F_lim (l0 : List Int) : Lim (fun k => impl_CrossDots.f k l0) (impl_CrossDots.F l0) := Lim.of fun k => impl_CrossDots.mono l0 k
theorem impl_CrossDots.L0_eq (x4 : List Int) (x13 : List Int) (x14 : Int) (x15 : Int) : impl_CrossDots.L0 x4 x13 x14 x15 = (if x15 < x14 then (if 0 ≤ x15 then (if x15 < (x13.length : Int) then (if 0 ≤ (rd x13 x15) then (if (rd x13 x15) < (x4.length : Int) then (impl_CrossDots.L0 (x4.set ((rd x13 x15) : Int).toNat x15) x13 x14 (wrap64 (x15 + 1))) else (none)) else (none)) else (none)) else (none)) else (some (x4, true))) :=
 Lim.step (f := fun k => impl_CrossDots.l0 (k + 1) x4 x13 x14 x15) (impl_CrossDots.L0_lim x4 x13 x14 x15) (fun _ => rfl) (by
  simp only [impl_CrossDots.l0]
  repeat' (first | (with_reducible first | exact Lim.const _ | exact impl_CrossDots.L0_lim _ _ _ _ | refine Lim.ite ?_ ?_ | refine Lim.bind ?_ (fun _ => ?_))))
theorem impl_CrossDots.F_eq (l0 : List Int) : impl_CrossDots.F l0 = ((impl_IsDots.F l0).bind fun t505 => (if t505 = true then (if 0 ≤ (l0.length : Int) then (if ((l0.length : Int) : Int).toNat ≤ 35184372088832 then (impl_CrossDots.L0 (List.replicate ((l0.length : Int) : Int).toNat 0) l0 (l0.length : Int) 0) else (none)) else (none)) else (some (([] : List Int), false)))) :=
 Lim.unique (impl_CrossDots.F_lim l0) (by
  unfold impl_CrossDots.f
  repeat' (first | (with_reducible first | exact Lim.const _ | exact impl_CrossDots.L0_lim _ _ _ _ | exact impl_IsDots.F_lim _ | refine Lim.ite ?_ ?_ | refine Lim.bind ?_ (fun _ => ?_))))

end Go.Proofs.Ytadhfbchilaklaa.Fn
namespace Go.Proofs.Ytadhfbchilaklaa.Fn
open Go.RowKit Go.Proofs.YtadhfbchilaklaaW.PrintWords Go.Proofs.YtadhfbchilaklaaW.PrintLast Go.Proofs.YtadhfbchilaklaaW.PrintMore
attribute [local go_sem] max2_int min2_int max_two min_two max_three min_three max_four min_four   -- for this text's walks alone
set_option linter.unusedVariables false
set_option linter.unusedSimpArgs false

/-! ### impl_DropCorner: function 43 -/
mutual
def impl_DropCorner.j0 : Nat → List Int → Bool → Option (List Int × Bool)
 | 0, _, _ => none
 | k + 1, x0, x20 => if x20 = true then (some (([] : List Int), false)) else (if 1 ≤ (x0.length : Int) then (impl_DropCorner.l0 k ([] : List Int) (x0.drop 1) ((x0.drop 1).length : Int) 0) else (none))
def impl_DropCorner.l0 : Nat → List Int → List Int → Int → Int → Option (List Int × Bool)
 | 0, _, _, _, _ => none
 | k + 1, x4, x22, x23, x24 => if x24 < x23 then (if 0 ≤ x24 then (if x24 < (x22.length : Int) then (if x4.length < 17592186044416 then (impl_DropCorner.l0 k (x4 ++ [wrap64 ((rd x22 x24) - 1)]) x22 x23 (wrap64 (x24 + 1))) else (none)) else (none)) else (none)) else (some (x4, true))
end
def impl_DropCorner.f (k : Nat) (l0 : List Int) : Option (List Int × Bool) := (impl_IsDots.f k l0).bind fun t557 => (if t557 = true then (if 0 < (l0.length : Int) then (if (rd l0 0) = 0 then (impl_DropCorner.j0 k l0 ((l0.length : Int) == 1)) else (impl_DropCorner.j0 k l0 true)) else (none)) else (impl_DropCorner.j0 k l0 true))
theorem impl_DropCorner.mono_l : ∀ k, (∀ y0 y1, LeO (impl_DropCorner.j0 k y0 y1) (impl_DropCorner.j0 (k + 1) y0 y1)) ∧ (∀ y0 y1 y2 y3, LeO (impl_DropCorner.l0 k y0 y1 y2 y3) (impl_DropCorner.l0 (k + 1) y0 y1 y2 y3))
 | 0 => ⟨fun _ _ r h => by simp [impl_DropCorner.j0] at h, fun _ _ _ _ r h => by simp [impl_DropCorner.l0] at h⟩
 | k + 1 => by
  obtain ⟨ih0, ih1⟩ := impl_DropCorner.mono_l k
  refine ⟨?_, ?_⟩
  ·intro y0 y1
   unfold impl_DropCorner.j0
   repeat' (first | (with_reducible first | exact ih1 _ _ _ _ | exact LeO.refl _ | exact LeO.none _ | refine LeO.ite ?_ ?_ | refine LeO.bind ?_ (fun _ => ?_)) | exact ih1 _ _ _ _ | exact LeO.none _ | refine LeO.ite ?_ ?_ | refine LeO.bind ?_ (fun _ => ?_))
  ·intro y0 y1 y2 y3
   unfold impl_DropCorner.l0
   repeat' (first | (with_reducible first | exact ih1 _ _ _ _ | exact LeO.refl _ | exact LeO.none _ | refine LeO.ite ?_ ?_ | refine LeO.bind ?_ (fun _ => ?_)) | exact ih1 _ _ _ _ | exact LeO.none _ | refine LeO.ite ?_ ?_ | refine LeO.bind ?_ (fun _ => ?_))
theorem impl_DropCorner.mono : ∀ a0 k, LeO (impl_DropCorner.f k a0) (impl_DropCorner.f (k + 1) a0) := by
 intro a0 k
 obtain ⟨ih0, ih1⟩ := impl_DropCorner.mono_l k
 unfold impl_DropCorner.f
 repeat' (first | (with_reducible first | exact ih0 _ _ | exact impl_IsDots.mono _ _ | exact LeO.refl _ | exact LeO.none _ | refine LeO.ite ?_ ?_ | refine LeO.bind ?_ (fun _ => ?_)) | exact ih0 _ _ | exact impl_IsDots.mono _ _ | exact LeO.none _ | refine LeO.ite ?_ ?_ | refine LeO.bind ?_ (fun _ => ?_))
set_option maxHeartbeats 8000000 in
set_option maxRecDepth 100000 in
theorem impl_DropCorner.calls (k : Nat) (A0 : Option Addr) (c0 : Nat) (l0 : List Int) (r1 : List Int) (r2 : Bool) (w : World) (hr0 : Kd.C (Kd.int .i64) w A0 l0.length l0) (hc0 : l0.length ≤ c0) (h : impl_DropCorner.f k l0 = some (r1, r2)) :
  Calls Try.prog 43 #[.slice A0 l0.length c0] w fun e w' => ∃ v0_ : Value, e = .returned (.tuple #[v0_, .bool r2]) ∧ Kd.R (Kd.int .i64) 3 w' w.heap.size (fun _ => True) v0_ r1 ∧ Below w.heap.size w w' := by
 have HR0 := Aside0.mk hr0
 have HC0 := Aside0.mk hc0
 clear hr0 hc0
 have HB := Aside0.mk (Below.refl w.heap.size w)
 have H := h
 unfold impl_DropCorner.f at H
 clear h
 have HC2 := Aside0.mk H
 clear H
 go_enter Try.func43, Try.ntmps43
 go_upto_region 1 with (fail)
 go_cut [20] (fun v20 wc => ∃ (kq : Nat) (x20_1 : Bool), v20 = .bool x20_1 ∧ Aside0 (impl_DropCorner.j0 kq l0 x20_1 = some (r1, r2)) ∧ Aside0 (kq ≤ k) ∧ Aside0 (Below w.heap.size w wc))
 case first =>
  have H := HC2.out
  clear HC2
  replace H := Option.bind_eq_some_iff.mp H
  obtain ⟨t557, A30, H⟩ := H
  replace H : (if t557 = true then (if 0 < (l0.length : Int) then (if (rd l0 0) = 0 then (impl_DropCorner.j0 k l0 ((l0.length : Int) == 1)) else (impl_DropCorner.j0 k l0 true)) else (none)) else (impl_DropCorner.j0 k l0 true)) = some (r1, r2) := H
  have A3 := Aside0.mk A30
  clear A30
  by_cases c4 : t557 = true
  ·subst c4
   have H1 : (if 0 < (l0.length : Int) then (if (rd l0 0) = 0 then (impl_DropCorner.j0 k l0 ((l0.length : Int) == 1)) else (impl_DropCorner.j0 k l0 true)) else (none)) = some (r1, r2) := by rw [if_pos rfl] at H; exact H
   clear H
   have H := H1
   clear H1
   by_cases c5 : 0 < (l0.length : Int)
   ·rw [if_pos c5] at H
    have c5b0 : decide (0 < (l0.length : Int)) = true := decide_eq_true c5
    have c5b1 : decide (0 < l0.length) = true := decide_eq_true (by omega)
    clear c5
    (first | rw [c5b0] | (simp only [i64_w, i32_w]; rw [c5b0]) | skip)
    by_cases c6 : (rd l0 0) = 0
    ·rw [if_pos c6] at H
     have c6b0 : ((rd l0 0) == 0) = true := beq_iff_eq.mpr c6
     have c6b1 : ((rd l0 0) != 0) = false := bne_eq_false_iff_eq.mpr c6
     clear c6
     have H' := Aside0.mk H
     clear H
     go_wp2_with (first | ((with_reducible refine gate_callee (f := 46) rfl ?_); refine goesA (some 8) Try.func46 #[.slice A0 l0.length c0] ?_; (with_reducible refine (impl_IsDots.calls k _ _ l0 true _ ?side1 ?side2 A3.out).mono ?_); (case side1 => repeat (first | exact (Kd.C_below HR0.out HB.out) | (with_reducible refine Kd.C_alloc ?_ _) | (with_reducible refine Kd.C_drewN ?_ _) | (with_reducible refine Kd.C_drew ?_))); (case side2 => exact HC0.out); rintro e w' ⟨rfl, ⟨nd, rfl⟩⟩; refine ⟨_, rfl, ?_⟩; have p558 : 0 ≤ (0 : Int) := (by omega); have q558 : 0 < (l0.length : Int) := ofd; obtain ⟨ad558, e558, hx558_0⟩ := Kd.at_int HR0.out 0 p558 q558; cases e558; have qi558 : (0 < l0.length) = True := eq_true (by omega); (try rw [show ((0 : Int)).toNat = 0 from rfl] at hx558_0); (try rw [Addr.add_zero'] at hx558_0); replace hx558_0 := (HB.out.cell (World.block_lt_of_cell? w _ hx558_0)).trans hx558_0; replace p558 := eq_true p558; replace q558 := eq_true q558))
     go_meet
     case rel => exact ⟨_, (((l0.length : Int) == 1)), eqd, H', ⟨leD⟩, ⟨atB HB⟩⟩
    ·rw [if_neg c6] at H
     have c6b0 : ((rd l0 0) == 0) = false := beq_eq_false_iff_ne.mpr c6
     have c6b1 : ((rd l0 0) != 0) = true := bne_iff_ne.mpr c6
     have H' := Aside0.mk H
     clear H
     go_wp2_with (first | ((with_reducible refine gate_callee (f := 46) rfl ?_); refine goesA (some 8) Try.func46 #[.slice A0 l0.length c0] ?_; (with_reducible refine (impl_IsDots.calls k _ _ l0 true _ ?side1 ?side2 A3.out).mono ?_); (case side1 => repeat (first | exact (Kd.C_below HR0.out HB.out) | (with_reducible refine Kd.C_alloc ?_ _) | (with_reducible refine Kd.C_drewN ?_ _) | (with_reducible refine Kd.C_drew ?_))); (case side2 => exact HC0.out); rintro e w' ⟨rfl, ⟨nd, rfl⟩⟩; refine ⟨_, rfl, ?_⟩; have p558 : 0 ≤ (0 : Int) := (by omega); have q558 : 0 < (l0.length : Int) := ofd; obtain ⟨ad558, e558, hx558_0⟩ := Kd.at_int HR0.out 0 p558 q558; cases e558; have qi558 : (0 < l0.length) = True := eq_true (by omega); (try rw [show ((0 : Int)).toNat = 0 from rfl] at hx558_0); (try rw [Addr.add_zero'] at hx558_0); replace hx558_0 := (HB.out.cell (World.block_lt_of_cell? w _ hx558_0)).trans hx558_0; replace p558 := eq_true p558; replace q558 := eq_true q558))
     go_meet
     case rel => exact ⟨_, (true), eqd, H', ⟨leD⟩, ⟨atB HB⟩⟩
   ·rw [if_neg c5] at H
    exact absurd H (by simp)
  ·replace c4 := Bool.eq_false_iff.mpr c4
   subst c4
   have H1 : (impl_DropCorner.j0 k l0 true) = some (r1, r2) := by rw [if_neg (show ¬ (false = true) by decide)] at H; exact H
   clear H
   have H := H1
   clear H1
   have H' := Aside0.mk H
   clear H
   go_wp2_with (first | ((with_reducible refine gate_callee (f := 46) rfl ?_); refine goesA (some 8) Try.func46 #[.slice A0 l0.length c0] ?_; (with_reducible refine (impl_IsDots.calls k _ _ l0 false _ ?side1 ?side2 A3.out).mono ?_); (case side1 => repeat (first | exact (Kd.C_below HR0.out HB.out) | (with_reducible refine Kd.C_alloc ?_ _) | (with_reducible refine Kd.C_drewN ?_ _) | (with_reducible refine Kd.C_drew ?_))); (case side2 => exact HC0.out); rintro e w' ⟨rfl, ⟨nd, rfl⟩⟩; refine ⟨_, rfl, ?_⟩))
   go_meet
   case rel => exact ⟨_, (true), eqd, H', ⟨leD⟩, ⟨atB HB⟩⟩
 case rest =>
  clear HC2
  try clear p2
  try clear c4
  try clear c5
  try clear c5b0
  try clear c5b1
  try clear p5
  try clear q5
  try clear hx5
  try clear qi5
  try clear c6
  try clear c6b0
  try clear c6b1
  try clear hx558_0
  try clear p558
  try clear q558
  obtain ⟨kq, x20_1, rfl, HA, HJ1, HB⟩ := hcut
  cases kq with
  | zero => exact absurd HA.out (by simp [impl_DropCorner.j0])
  | succ kj1 =>
   have H := HA.out
   clear HA
   simp only [impl_DropCorner.j0] at H
   by_cases c7 : x20_1 = true
   ·subst c7
    have H1 : (some (([] : List Int), false)) = some (r1, r2) := by rw [if_pos rfl] at H; exact H
    clear H
    have H := H1
    clear H1
    simp only [Option.some.injEq, Prod.mk.injEq] at H
    obtain ⟨rfl, rfl⟩ := H
    go_wp2
    go_ret2
    exact ⟨_, eqr, by first | exact Kd.R_nil _ _ _ _ _ | exact Kd.N_nil _ _ _ _ _ | exact Kd.V_nil _ _ _ _ _ | exact Kd.Q_nil _ _ _ _ _ | exact Kd.S_nil _ _ _ _ _, atB HB⟩
   ·replace c7 := Bool.eq_false_iff.mpr c7
    subst c7
    have H1 : (if 1 ≤ (l0.length : Int) then (impl_DropCorner.l0 kj1 ([] : List Int) (l0.drop 1) ((l0.drop 1).length : Int) 0) else (none)) = some (r1, r2) := by rw [if_neg (show ¬ (false = true) by decide)] at H; exact H
    clear H
    have H := H1
    clear H1
    by_cases c8 : 1 ≤ (l0.length : Int)
    ·rw [if_pos c8] at H
     have c8b0 := eq_true c8
     have c8b1 : decide (1 ≤ (l0.length : Int)) = true := decide_eq_true c8
     clear c8
     have H' := Aside0.mk H
     clear H
     obtain ⟨i09, hi09, _, hsz9, _⟩ := info_parts info3
     obtain ⟨A9, hcut9, hA9, hC9⟩ := print_drop_of (P := Try.prog) (Value.int .i64) 0 24 3 .i64 Try.underlying24 hi09 hsz9 A0 c0 l0 1 (by omega) (of_decide_eq_true (by first | (with_reducible assumption) | assumption)) HC0.out
     have HR559 := Aside0.mk (Kd.C_of_reads (h1 := fun _ => rfl) (hA9 _ (Kd.reads_of_C HR0.out)))
     have HC559 := Aside0.mk hC9
     clear hA9 hC9 hi09 hsz9
     go_wp2
     go_loopg [4, 24] kj1 (fun kq v4 v24 w' => ∃ (x4_2 : List Int) (x24_2 : Int), v24 = .int .i64 x24_2 ∧ Aside0 (impl_DropCorner.l0 kq x4_2 (l0.drop 1) ((l0.drop 1).length : Int) x24_2 = some (r1, r2)) ∧ Aside0 (kq ≤ kj1) ∧ Aside0 (Kd.R (Kd.int .i64) 3 w' w.heap.size (fun _ => True) v4 x4_2) ∧ Aside0 (Below w.heap.size w w'))
     case atStart => exact ⟨(([] : List Int)), (0), eqd, H', ⟨Nat.le_refl _⟩, ⟨by first | exact Kd.R_nil _ _ _ _ _ | exact Kd.N_nil _ _ _ _ _ | exact Kd.V_nil _ _ _ _ _ | exact Kd.Q_nil _ _ _ _ _ | exact Kd.S_nil _ _ _ _ _⟩, ⟨atB HB⟩⟩
     case round =>
      clear H'
      try clear p2
      try clear c4
      try clear c5
      try clear c5b0
      try clear c5b1
      try clear p5
      try clear q5
      try clear hx5
      try clear qi5
      try clear c6
      try clear c6b0
      try clear c6b1
      try clear c7
      try clear c8
      try clear c8b0
      try clear c8b1
      try clear hx558_0
      try clear p2
      try clear p5
      try clear p558
      try clear q5
      try clear q558
      obtain ⟨x4_2, x24_2, rfl, HA, HK2, HO_4, HB⟩ := hrel
      cases gk with
      | zero => exact absurd HA.out (by simp [impl_DropCorner.l0])
      | succ k2 =>
       have H := HA.out
       clear HA
       simp only [impl_DropCorner.l0] at H
       by_cases c10 : x24_2 < ((l0.drop 1).length : Int)
       ·rw [if_pos c10] at H
        have c10b0 : decide (x24_2 < ((l0.drop 1).length : Int)) = true := decide_eq_true c10
        have c10b0m := c10b0; (try rw [List.length_drop] at c10b0m); (try rw [List.drop_one] at c10b0m)
        clear c10
        by_cases c11 : 0 ≤ x24_2
        ·rw [if_pos c11] at H
         have c11b0 : decide (0 ≤ x24_2) = true := decide_eq_true c11
         clear c11
         by_cases c12 : x24_2 < ((l0.drop 1).length : Int)
         ·rw [if_pos c12] at H
          have c12b0 : decide (x24_2 < ((l0.drop 1).length : Int)) = true := decide_eq_true c12
          have c12b0m := c12b0; (try rw [List.length_drop] at c12b0m); (try rw [List.drop_one] at c12b0m)
          clear c12
          by_cases c13 : x4_2.length < 17592186044416
          ·rw [if_pos c13] at H
           have LMc13 := Aside0.mk c13
           clear c13
           obtain ⟨y561, hy561⟩ : ∃ y_ : List Int, y_ = (x4_2 ++ [wrap64 ((rd (l0.drop 1) x24_2) - 1)]) := ⟨_, rfl⟩
           replace H : (impl_DropCorner.l0 k2 y561 (l0.drop 1) ((l0.drop 1).length : Int) (wrap64 (x24_2 + 1))) = some (r1, r2) := by first | (rw [hy561]; with_reducible exact H) | (have H2_ := (Option.bind_some _ _).symm.trans H; rw [hy561]; with_reducible exact H2_) | (have H2_ := (Option.bind_some _ _).symm.trans H; with_reducible exact H2_) | with_reducible exact H | (rw [hy561]; exact H) | exact H
           have Ny561 := Aside0.mk hy561
           clear hy561
           have H' := Aside0.mk H
           clear H
           have p560 : 0 ≤ (x24_2 : Int) := ofd
           have q560 : x24_2 < ((l0.drop 1).length : Int) := ofd
           obtain ⟨ad560, e560, hx560_0⟩ := Kd.at_int HR559.out x24_2 p560 q560
           obtain ⟨zd560, hzd560⟩ : ∃ z_, z_ = rd (l0.drop 1) x24_2 := ⟨_, rfl⟩
           replace hx560_0 := hx560_0.trans (congrArg (fun z_ => some (Value.int .i64 z_)) hzd560.symm)
           have hy_ := Ny561.out; rw [← hzd560] at hy_; replace Ny561 := Aside0.mk hy_; clear hy_
           clear hzd560
           cases e560
           (try replace hx560_0 := (HB.out.cell (World.block_lt_of_cell? w _ hx560_0)).trans hx560_0)
           replace p560 := eq_true p560
           replace q560 := eq_true q560
           have q560m := q560; (try rw [List.length_drop] at q560m); (try rw [List.drop_one] at q560m)
           go_wp2_with (first | ((with_reducible refine gate_builtin (b := .append) (xs := #[.tmp 28, .tmp 31]) rfl ?_); (try (refine gate_guard (by rfl) ?_; dsimp only)); at_builtin; refine Kd.R_append (Kd.int .i64) (w0 := w) w.heap.size rfl (.tmp 28) (.tmp 31) 24 3 (.int .i64 0) 8 rfl Try.underlying24 info3 rfl (by decide) (by omega) u4 x4_2 (wrap64 (zd560 - 1)) [.int .i64 (wrap64 (zd560 - 1))] (fun _ => True) (fun _ => False) rfl rfl ?aP (fun _ hk => hk.elim) ?aF ?aO ?aB ?aS ?aL ?_; (case aP => exact rfl); (case aB => exact (atB HB)); (case aF => exact (fun _ _ => trivial)); (case aO => exact (atR HO_4)); (case aS => exact (szB HB)); (case aL => have := LMc13.out; omega); intro v562 w14 ho hb hg hat; rw [← Ny561.out] at ho; have HO563 := Aside0.mk (ho); replace HB := Aside0.mk (hb); clear HO_4; clear ho hb hg hat))
           go_roundg k2
           case measure => have := HJ1.out; have := HK2.out; omega
           case rel => exact ⟨(y561), (wrap64 (x24_2 + 1)), eqd, H', ⟨by have := HJ1.out; have := HK2.out; omega⟩, ⟨atR HO563⟩, ⟨atB HB⟩⟩
          ·rw [if_neg c13] at H
           exact absurd H (by simp)
         ·rw [if_neg c12] at H
          exact absurd H (by simp)
        ·rw [if_neg c11] at H
         exact absurd H (by simp)
       ·rw [if_neg c10] at H
        have c10b0 : decide (x24_2 < ((l0.drop 1).length : Int)) = false := decide_eq_false c10
        have c10b0m := c10b0; (try rw [List.length_drop] at c10b0m); (try rw [List.drop_one] at c10b0m)
        clear c10
        simp only [Option.some.injEq, Prod.mk.injEq] at H
        obtain ⟨rfl, rfl⟩ := H
        go_wp2
        go_ret2
        exact ⟨_, eqr, atR HO_4, atB HB⟩
    ·rw [if_neg c8] at H
     exact absurd H (by simp)

noncomputable def impl_DropCorner.J0 (x0 : List Int) (x20 : Bool) : Option (List Int × Bool) := lim fun k => impl_DropCorner.j0 k x0 x20
theorem impl_DropCorner.J0_lim (x0 : List Int) (x20 : Bool) : Lim (fun k => impl_DropCorner.j0 k x0 x20) (impl_DropCorner.J0 x0 x20) := Lim.of fun k => (impl_DropCorner.mono_l k).1 x0 x20
noncomputable def impl_DropCorner.L0 (x4 : List Int) (x22 : List Int) (x23 : Int) (x24 : Int) : Option (List Int × Bool) := lim fun k => impl_DropCorner.l0 k x4 x22 x23 x24
theorem impl_DropCorner.L0_lim (x4 : List Int) (x22 : List Int) (x23 : Int) (x24 : Int) : Lim (fun k => impl_DropCorner.l0 k x4 x22 x23 x24) (impl_DropCorner.L0 x4 x22 x23 x24) := Lim.of fun k => (impl_DropCorner.mono_l k).2 x4 x22 x23 x24
noncomputable def impl_DropCorner.F (l0 : List Int) : Option (List Int × Bool) := lim fun k => impl_DropCorner.f k l0
theorem impl_DropCorner.F_lim (l0 : List Int) : Lim (fun k => impl_DropCorner.f k l0) (impl_DropCorner.F l0) := Lim.of fun k => impl_DropCorner.mono l0 k
theorem impl_DropCorner.J0_eq (x0 : List Int) (x20 : Bool) : impl_DropCorner.J0 x0 x20 = (if x20 = true then (some (([] : List Int), false)) else (if 1 ≤ (x0.length : Int) then (impl_DropCorner.L0 ([] : List Int) (x0.drop 1) ((x0.drop 1).length : Int) 0) else (none))) :=
 Lim.step (f := fun k => impl_DropCorner.j0 (k + 1) x0 x20) (impl_DropCorner.J0_lim x0 x20) (fun _ => rfl) (by
  simp only [impl_DropCorner.j0]
  repeat' (first | (with_reducible first | exact Lim.const _ | exact impl_DropCorner.L0_lim _ _ _ _ | refine Lim.ite ?_ ?_ | refine Lim.bind ?_ (fun _ => ?_))))
theorem impl_DropCorner.L0_eq (x4 : List Int) (x22 : List Int) (x23 : Int) (x24 : Int) : impl_DropCorner.L0 x4 x22 x23 x24 = (if x24 < x23 then (if 0 ≤ x24 then (if x24 < (x22.length : Int) then (if x4.length < 17592186044416 then (impl_DropCorner.L0 (x4 ++ [wrap64 ((rd x22 x24) - 1)]) x22 x23 (wrap64 (x24 + 1))) else (none)) else (none)) else (none)) else (some (x4, true))) :=
 Lim.step (f := fun k => impl_DropCorner.l0 (k + 1) x4 x22 x23 x24) (impl_DropCorner.L0_lim x4 x22 x23 x24) (fun _ => rfl) (by
  simp only [impl_DropCorner.l0]
  repeat' (first | (with_reducible first | exact Lim.const _ | exact impl_DropCorner.L0_lim _ _ _ _ | refine Lim.ite ?_ ?_ | refine Lim.bind ?_ (fun _ => ?_))))
theorem impl_DropCorner.F_eq (l0 : List Int) : impl_DropCorner.F l0 = ((impl_IsDots.F l0).bind fun t557 => (if t557 = true then (if 0 < (l0.length : Int) then (if (rd l0 0) = 0 then (impl_DropCorner.J0 l0 ((l0.length : Int) == 1)) else (impl_DropCorner.J0 l0 true)) else (none)) else (impl_DropCorner.J0 l0 true))) :=
 Lim.unique (impl_DropCorner.F_lim l0) (by
  unfold impl_DropCorner.f
  repeat' (first | (with_reducible first | exact Lim.const _ | exact impl_DropCorner.J0_lim _ _ | exact impl_IsDots.F_lim _ | refine Lim.ite ?_ ?_ | refine Lim.bind ?_ (fun _ => ?_))))

end Go.Proofs.Ytadhfbchilaklaa.Fn
namespace Go.Proofs.Ytadhfbchilaklaa.Fn
open Go.RowKit Go.Proofs.YtadhfbchilaklaaW.PrintWords Go.Proofs.YtadhfbchilaklaaW.PrintLast Go.Proofs.YtadhfbchilaklaaW.PrintMore
attribute [local go_sem] max2_int min2_int max_two min_two max_three min_three max_four min_four   -- for this text's walks alone
set_option linter.unusedVariables false
set_option linter.unusedSimpArgs false

/-! ### impl_differences: function 197 -/
def impl_differences.l0 : Nat → List Int → Int → List Int → Int → Option (List Int)
 | 0, _, _, _, _ => none
 | k + 1, x0, x1, x5, x6 => if x6 < (x0.length : Int) then (if 0 ≤ x6 then (if 0 ≤ (wrap64 (x6 - x1)) then (if (wrap64 (x6 - x1)) < (x0.length : Int) then (if x5.length < 17592186044416 then (impl_differences.l0 k x0 x1 (x5 ++ [wrap64 ((rd x0 x6) - (rd x0 (wrap64 (x6 - x1))))]) (wrap64 (x6 + 1))) else (none)) else (none)) else (none)) else (none)) else (some x5)
def impl_differences.f (k : Nat) (l0 : List Int) (a1 : Int) : Option (List Int) := impl_differences.l0 k l0 a1 ([] : List Int) a1
theorem impl_differences.mono_l : ∀ k, (∀ y0 y1 y2 y3, LeO (impl_differences.l0 k y0 y1 y2 y3) (impl_differences.l0 (k + 1) y0 y1 y2 y3))
 | 0 => fun _ _ _ _ r h => by simp [impl_differences.l0] at h
 | k + 1 => by
  have ih0 := impl_differences.mono_l k
  ·intro y0 y1 y2 y3
   unfold impl_differences.l0
   repeat' (first | (with_reducible first | exact ih0 _ _ _ _ | exact LeO.refl _ | exact LeO.none _ | refine LeO.ite ?_ ?_ | refine LeO.bind ?_ (fun _ => ?_)) | exact ih0 _ _ _ _ | exact LeO.none _ | refine LeO.ite ?_ ?_ | refine LeO.bind ?_ (fun _ => ?_))
theorem impl_differences.mono : ∀ a0 a1 k, LeO (impl_differences.f k a0 a1) (impl_differences.f (k + 1) a0 a1) := by
 intro a0 a1 k
 have ih0 := impl_differences.mono_l k
 unfold impl_differences.f
 repeat' (first | (with_reducible first | exact ih0 _ _ _ _ | exact LeO.refl _ | exact LeO.none _ | refine LeO.ite ?_ ?_ | refine LeO.bind ?_ (fun _ => ?_)) | exact ih0 _ _ _ _ | exact LeO.none _ | refine LeO.ite ?_ ?_ | refine LeO.bind ?_ (fun _ => ?_))
def impl_differences.T5 : Bool × List (List Nat × List Nat) := (true, [([], []), ([], []), ([], []), ([1, 2], [1, 2]), ([3], [3]), ([], []), ([], []), ([], []), ([6, 7], [6, 7]), ([5, 8], [5, 8]), ([9], [9]), ([4, 10], [4, 10]), ([11], [11]), ([0, 12], [0, 12]), ([13, 13, 0, 1, 2, 3, 4, 5, 6, 7, 8, 9, 10, 11, 12, 13], [0, 13])])
def impl_differences.B5 : List Nat := [0, 0, 0, 6, 14, 0, 0, 0, 192, 480, 992, 2046, 4094, 8191, 16383]
theorem impl_differences.tab5 : rtab .any (opsOf Try.f197 5) = impl_differences.T5 := by kernel_rfl
theorem impl_differences.bits5 : waitsOk impl_differences.T5.2 impl_differences.B5 = true := by kernel_rfl
set_option maxHeartbeats 8000000 in
set_option maxRecDepth 100000 in
theorem impl_differences.calls (k : Nat) (A0 : Option Addr) (c0 : Nat) (l0 : List Int) (a1 : Int) (r : List Int) (w : World) (hr0 : Kd.C (Kd.int .i64) w A0 l0.length l0) (hc0 : l0.length ≤ c0) (h : impl_differences.f k l0 a1 = some r) :
  Calls Try.prog 197 #[.slice A0 l0.length c0, .int .i64 a1] w fun e w' => ∃ v0_ : Value, e = .returned (v0_) ∧ Kd.R (Kd.int .i64) 3 w' w.heap.size (fun _ => True) v0_ r ∧ Below w.heap.size w w' := by
 have HR0 := Aside0.mk hr0
 have HC0 := Aside0.mk hc0
 clear hr0 hc0
 have HB := Aside0.mk (Below.refl w.heap.size w)
 have H := h
 unfold impl_differences.f at H
 clear h
 have H' := Aside0.mk H
 clear H
 go_enter Try.func197, Try.ntmps197
 go_wp2
 go_loopg [5, 6] k (fun kq v5 v6 w' => ∃ (x5_1 : List Int) (x6_1 : Int), v6 = .int .i64 x6_1 ∧ Aside0 (impl_differences.l0 kq l0 a1 x5_1 x6_1 = some r) ∧ Aside0 (kq ≤ k) ∧ Aside0 (Kd.R (Kd.int .i64) 3 w' w.heap.size (fun _ => True) v5 x5_1) ∧ Aside0 (Below w.heap.size w w'))
 case atStart => exact ⟨(([] : List Int)), (a1), eqd, H', ⟨Nat.le_refl _⟩, ⟨by first | exact Kd.R_nil _ _ _ _ _ | exact Kd.N_nil _ _ _ _ _ | exact Kd.V_nil _ _ _ _ _ | exact Kd.Q_nil _ _ _ _ _ | exact Kd.S_nil _ _ _ _ _⟩, ⟨atB HB⟩⟩
 case round =>
  clear H'
  try clear c1
  try clear p2
  obtain ⟨x5_1, x6_1, rfl, HA, HK1, HO_5, HB⟩ := hrel
  cases gk with
  | zero => exact absurd HA.out (by simp [impl_differences.l0])
  | succ k1 =>
   have H := HA.out
   clear HA
   simp only [impl_differences.l0] at H
   by_cases c3 : x6_1 < (l0.length : Int)
   ·rw [if_pos c3] at H
    have c3b0 : decide (x6_1 < (l0.length : Int)) = true := decide_eq_true c3
    clear c3
    by_cases c4 : 0 ≤ x6_1
    ·rw [if_pos c4] at H
     have c4b0 : decide (0 ≤ x6_1) = true := decide_eq_true c4
     clear c4
     obtain ⟨ji5, hji5⟩ : ∃ j_ : Int, (wrap64 (x6_1 - a1)) = j_ := ⟨_, rfl⟩
     replace H : (if 0 ≤ (ji5) then (if (ji5) < (l0.length : Int) then (if x5_1.length < 17592186044416 then (impl_differences.l0 k1 l0 a1 (x5_1 ++ [wrap64 ((rd l0 x6_1) - (rd l0 (ji5)))]) (wrap64 (x6_1 + 1))) else (none)) else (none)) else (none)) = some r := by first | (rw [hji5] at H; exact H) | (simp only [hji5] at H ⊢; exact H)
     have hji5w : (IntKind.i64.wrap (x6_1 - a1)) = ji5 := (i64_w _).trans hji5
     by_cases c6 : 0 ≤ (ji5)
     ·rw [if_pos c6] at H
      have c6b0 : decide (0 ≤ (ji5)) = true := decide_eq_true c6
      clear c6
      by_cases c7 : (ji5) < (l0.length : Int)
      ·rw [if_pos c7] at H
       have c7b0 : decide ((ji5) < (l0.length : Int)) = true := decide_eq_true c7
       clear c7
       by_cases c8 : x5_1.length < 17592186044416
       ·rw [if_pos c8] at H
        have LMc8 := Aside0.mk c8
        clear c8
        obtain ⟨y575, hy575⟩ : ∃ y_ : List Int, y_ = (x5_1 ++ [wrap64 ((rd l0 x6_1) - (rd l0 (ji5)))]) := ⟨_, rfl⟩
        replace H : (impl_differences.l0 k1 l0 a1 y575 (wrap64 (x6_1 + 1))) = some r := by first | (rw [hy575]; with_reducible exact H) | (have H2_ := (Option.bind_some _ _).symm.trans H; rw [hy575]; with_reducible exact H2_) | (have H2_ := (Option.bind_some _ _).symm.trans H; with_reducible exact H2_) | with_reducible exact H | (rw [hy575]; exact H) | exact H
        have Ny575 := Aside0.mk hy575
        clear hy575
        have H' := Aside0.mk H
        clear H
        try go_wp2
        have n0_ := Aside0.mk (Kd.R_drew HO_5.out)
        have n1_ := Aside0.mk (below_drew1 HB.out)
        clear HO_5
        clear HB
        have HO_5 := n0_
        have HB := n1_
        clear n0_ n1_
        have p573 : 0 ≤ (x6_1 : Int) := ofd
        have q573 : x6_1 < (l0.length : Int) := ofd
        obtain ⟨ad573, e573, hx573_0⟩ := Kd.at_int HR0.out x6_1 p573 q573
        have hw573_0 := hx573_0
        cases e573
        (try replace hx573_0 := (HB.out.cell (World.block_lt_of_cell? w _ hx573_0)).trans hx573_0)
        replace p573 := eq_true p573
        replace q573 := eq_true q573
        have p574 : 0 ≤ ((ji5) : Int) := ofd
        have q574 : (ji5) < (l0.length : Int) := ofd
        obtain ⟨ad574, e574, hx574_0⟩ := Kd.at_int HR0.out (ji5) p574 q574
        have hw574_0 := hx574_0
        obtain rfl : ad573 = ad574 := (by injection e574)
        (try replace hx574_0 := (HB.out.cell (World.block_lt_of_cell? w _ hx574_0)).trans hx574_0)
        replace p574 := eq_true p574
        replace q574 := eq_true q574
        refine start_ (n := 15) (S := fun w' => w'.cell? (ad573.add (x6_1).toNat) = some (.int .i64 (rd l0 x6_1)) ∧ w'.cell? (ad573.add ((ji5)).toNat) = some (.int .i64 (rd l0 (ji5)))) (ds := []) #[false, false, false, false, false, false, false, false, false, false, false, false, false, false, false] (by kernel_rfl) rfl rfl ⟨((HB.out.cell (World.block_lt_of_cell? w _ hw573_0)).trans hw573_0), ((HB.out.cell (World.block_lt_of_cell? w _ hw574_0)).trans hw574_0)⟩ (fun hHeld => ?_); refine with_tabW impl_differences.tab5 impl_differences.bits5 (fun HT_ HW_ => ?_)
        generalize wr.drew = w9 at HO_5 HB hx573_0 hx574_0 hHeld ⊢
        refine pure_ (i := 0) (N := some 14) (v := ?_) (a' := ?_) #[true, false, false, false, false, false, false, false, false, false, false, false, false, false, false] rfl rfl (any_of HT_.out (by kernel_rfl)) (fun _ _ _ h => h) (Or.inl ⟨by rfl, ?_⟩) ?_ ?_
        rotate_left
        ·intro w'
         go_simp
         with_reducible rfl
        rotate_left
        ·simp only [Act.put, List.setIfInBounds_toArray, List.set_cons_zero, List.set_cons_succ, i64_w, i32_w]
         rfl
        refine pure_ (i := 1) (N := some 15) (v := ?_) (a' := ?_) #[true, true, false, false, false, false, false, false, false, false, false, false, false, false, false] rfl rfl (any_of HT_.out (by kernel_rfl)) (fun _ _ _ h => h) (Or.inl ⟨by rfl, ?_⟩) ?_ ?_
        rotate_left
        ·intro w'
         go_simp
         with_reducible rfl
        rotate_left
        ·simp only [Act.put, List.setIfInBounds_toArray, List.set_cons_zero, List.set_cons_succ, i64_w, i32_w]
         rfl
        refine pure_ (i := 2) (N := some 16) (v := ?_) (a' := ?_) #[true, true, true, false, false, false, false, false, false, false, false, false, false, false, false] rfl rfl (any_of HT_.out (by kernel_rfl)) (fun _ _ _ h => h) (Or.inl ⟨by rfl, ?_⟩) ?_ ?_
        rotate_left
        ·intro w'
         go_simp
         with_reducible rfl
        rotate_left
        ·simp only [Act.put, List.setIfInBounds_toArray, List.set_cons_zero, List.set_cons_succ, i64_w, i32_w]
         rfl
        refine pure_ (i := 3) (N := some 17) (v := ?_) (a' := ?_) #[true, true, true, true, false, false, false, false, false, false, false, false, false, false, false] rfl rfl (any_of HT_.out (by kernel_rfl)) (fun _ _ _ h => h) (Or.inl ⟨by rfl, ?_⟩) ?_ ?_
        rotate_left
        ·intro w'
         go_simp
         with_reducible rfl
        rotate_left
        ·simp only [Act.put, List.setIfInBounds_toArray, List.set_cons_zero, List.set_cons_succ, i64_w, i32_w]
         rfl
        refine pure_ (i := 5) (N := some 19) (v := ?_) (a' := ?_) #[true, true, true, true, false, true, false, false, false, false, false, false, false, false, false] rfl rfl (any_of HT_.out (by kernel_rfl)) (fun _ _ _ h => h) (Or.inl ⟨by rfl, ?_⟩) ?_ ?_
        rotate_left
        ·intro w'
         go_simp
         with_reducible rfl
        rotate_left
        ·simp only [Act.put, List.setIfInBounds_toArray, List.set_cons_zero, List.set_cons_succ, i64_w, i32_w]
         rfl
        refine pure_ (i := 6) (N := some 20) (v := ?_) (a' := ?_) #[true, true, true, true, false, true, true, false, false, false, false, false, false, false, false] rfl rfl (any_of HT_.out (by kernel_rfl)) (fun _ _ _ h => h) (Or.inl ⟨by rfl, ?_⟩) ?_ ?_
        rotate_left
        ·intro w'
         go_simp
         with_reducible rfl
        rotate_left
        ·simp only [Act.put, List.setIfInBounds_toArray, List.set_cons_zero, List.set_cons_succ, i64_w, i32_w]
         rfl
        refine pure_ (i := 7) (N := some 21) (v := ?_) (a' := ?_) #[true, true, true, true, false, true, true, true, false, false, false, false, false, false, false] rfl rfl (any_of HT_.out (by kernel_rfl)) (fun _ _ _ h => h) (Or.inl ⟨by rfl, ?_⟩) ?_ ?_
        rotate_left
        ·intro w'
         go_simp
         with_reducible rfl
        rotate_left
        ·simp only [Act.put, List.setIfInBounds_toArray, List.set_cons_zero, List.set_cons_succ, i64_w, i32_w]
         rfl
        refine pure_ (i := 8) (N := some 22) (v := ?_) (a' := ?_) #[true, true, true, true, false, true, true, true, true, false, false, false, false, false, false] rfl rfl (any_of HT_.out (by kernel_rfl)) (fun _ _ _ h => h) (Or.inl ⟨by rfl, ?_⟩) ?_ ?_
        rotate_left
        ·intro w'
         go_simp
         with_reducible rfl
        rotate_left
        ·simp only [Act.put, List.setIfInBounds_toArray, List.set_cons_zero, List.set_cons_succ, i64_w, i32_w]
         rfl
        refine pure_ (i := 9) (N := some 23) (v := ?_) (a' := ?_) #[true, true, true, true, false, true, true, true, true, true, false, false, false, false, false] rfl rfl (any_of HT_.out (by kernel_rfl)) (fun _ _ _ h => h) (Or.inl ⟨by rfl, ?_⟩) ?_ ?_
        rotate_left
        ·intro w'
         go_simp
         with_reducible rfl
        rotate_left
        ·simp only [Act.put, List.setIfInBounds_toArray, List.set_cons_zero, List.set_cons_succ, i64_w, i32_w]
         rfl
        refine take_ (i := 4) (N := some 18) (v := ?_) (a' := ?_) #[true, true, true, true, true, true, true, true, true, true, false, false, false, false, false] rfl rfl (take_ofW HT_.out HW_.out (by kernel_rfl)) (fun _ _ _ h => h) (Or.inl ⟨by rfl, ?_⟩) hHeld ?_ ?_
        rotate_left
        ·rintro w' ⟨s0, s1⟩
         go_simp
         with_reducible rfl
        rotate_left
        ·simp only [Act.put, List.setIfInBounds_toArray, List.set_cons_zero, List.set_cons_succ, i64_w, i32_w]
         rfl
        refine take_ (i := 10) (N := some 24) (v := ?_) (a' := ?_) #[true, true, true, true, true, true, true, true, true, true, true, false, false, false, false] rfl rfl (take_ofW HT_.out HW_.out (by kernel_rfl)) (fun _ _ _ h => h) (Or.inl ⟨by rfl, ?_⟩) hHeld ?_ ?_
        rotate_left
        ·rintro w' ⟨s0, s1⟩
         go_simp
         with_reducible rfl
        rotate_left
        ·simp only [Act.put, List.setIfInBounds_toArray, List.set_cons_zero, List.set_cons_succ, i64_w, i32_w]
         rfl
        refine pure_ (i := 11) (N := some 25) (v := ?_) (a' := ?_) #[true, true, true, true, true, true, true, true, true, true, true, true, false, false, false] rfl rfl (any_of HT_.out (by kernel_rfl)) (fun _ _ _ h => h) (Or.inl ⟨by rfl, ?_⟩) ?_ ?_
        rotate_left
        ·intro w'
         go_simp
         with_reducible rfl
        rotate_left
        ·simp only [Act.put, List.setIfInBounds_toArray, List.set_cons_zero, List.set_cons_succ, i64_w, i32_w]
         rfl
        refine one_ (i := 12) (N := some 26) #[true, true, true, true, true, true, true, true, true, true, true, true, true, false, false] rfl rfl (one_of HT_.out (by kernel_rfl)) (by decide) (fun K hK => ?_)
        refine value_ (w1 := ?_) (v := ?_) (by rfl) rfl ?_ ?_
        rotate_left 2
        ·go_simp
         constructor
         ·rfl
         ·rfl
        refine hK.out _ _ ⟨(World.cell?_alloc_lt _ _ _ (World.block_lt_of_cell? _ _ (((HB.out.cell (World.block_lt_of_cell? w _ hw573_0)).trans hw573_0)))).trans (((HB.out.cell (World.block_lt_of_cell? w _ hw573_0)).trans hw573_0)), (World.cell?_alloc_lt _ _ _ (World.block_lt_of_cell? _ _ (((HB.out.cell (World.block_lt_of_cell? w _ hw574_0)).trans hw574_0)))).trans (((HB.out.cell (World.block_lt_of_cell? w _ hw574_0)).trans hw574_0))⟩ (fun hHeld => ?_)
        clear hK K
        refine norm_ (a' := ?_) ?_ ?_
        rotate_left
        ·show Act.put _ (some 26) _ = _
         simp only [Act.put, List.setIfInBounds_toArray, List.set_cons_zero, List.set_cons_succ, i64_w, i32_w]
         rfl
        refine one_ (i := 13) (N := some 27) #[true, true, true, true, true, true, true, true, true, true, true, true, true, true, false] rfl rfl (one_of HT_.out (by kernel_rfl)) (by decide) (fun K hK => ?_)
        refine Kd.R_append_step (Kd.int .i64) (w0 := w) w.heap.size (by rfl) (.tmp 14) (.tmp 26) 24 3 (.int .i64 0) 8 rfl Try.underlying24 info3 rfl (by decide) (by omega) u5 x5_1 (wrap64 ((rd l0 x6_1) - (rd l0 (ji5)))) [.int .i64 (wrap64 ((rd l0 x6_1) - (rd l0 (ji5))))] (fun _ => True) (fun _ => False) rfl rfl ?aP (fun _ hk => hk.elim) ?aF ?aO ?aB ?aS ?aL ?_
        (case aP => exact rfl)
        (case aB => exact (atB HB))
        (case aF => exact (fun _ _ => trivial))
        (case aO => exact (atR HO_5))
        (case aS => exact (szB HB))
        (case aL => have := LMc8.out; omega)
        intro v576 w10 ho hb hg hat
        rw [← Ny575.out] at ho
        have n0_ := Aside0.mk (hb)
        have n1_ := Aside0.mk (ho)
        clear HB
        clear HO_5
        have HB := n0_
        have HO577 := n1_
        clear n0_ n1_
        clear ho hb hg hat
        refine hK.out _ _ ⟨((HB.out.cell (World.block_lt_of_cell? w _ hw573_0)).trans hw573_0), ((HB.out.cell (World.block_lt_of_cell? w _ hw574_0)).trans hw574_0)⟩ (fun hHeld => ?_)
        clear hK K
        refine norm_ (a' := ?_) ?_ ?_
        rotate_left
        ·show Act.put _ (some 27) _ = _
         simp only [Act.put, List.setIfInBounds_toArray, List.set_cons_zero, List.set_cons_succ, i64_w, i32_w]
         rfl
        refine pure_ (i := 14) (N := some 5) (v := ?_) (a' := ?_) #[true, true, true, true, true, true, true, true, true, true, true, true, true, true, true] rfl rfl (any_of HT_.out (by kernel_rfl)) (fun _ _ _ h => h) (Or.inl ⟨by rfl, ?_⟩) ?_ ?_
        rotate_left
        ·intro w'
         go_simp
         with_reducible rfl
        rotate_left
        ·simp only [Act.put, List.setIfInBounds_toArray, List.set_cons_zero, List.set_cons_succ, i64_w, i32_w]
         rfl
        refine done_ (done_of HT_.out (by kernel_rfl)) ?_
        try go_wp2
        first | go_roundg k1 | ((try subst hji5); go_roundg k1)
        case measure => have := HK1.out; omega
        case rel => exact ⟨(y575), (wrap64 (x6_1 + 1)), eqd, H', ⟨by have := HK1.out; omega⟩, ⟨atR HO577⟩, ⟨atB HB⟩⟩
       ·rw [if_neg c8] at H
        exact absurd H (by simp)
      ·rw [if_neg c7] at H
       exact absurd H (by simp)
     ·rw [if_neg c6] at H
      exact absurd H (by simp)
    ·rw [if_neg c4] at H
     exact absurd H (by simp)
   ·rw [if_neg c3] at H
    have c3b0 : decide (x6_1 < (l0.length : Int)) = false := decide_eq_false c3
    clear c3
    obtain rfl := Option.some.inj H
    go_wp2
    go_ret
    exact ⟨_, eqr, atR HO_5, atB HB⟩

noncomputable def impl_differences.L0 (x0 : List Int) (x1 : Int) (x5 : List Int) (x6 : Int) : Option (List Int) := lim fun k => impl_differences.l0 k x0 x1 x5 x6
theorem impl_differences.L0_lim (x0 : List Int) (x1 : Int) (x5 : List Int) (x6 : Int) : Lim (fun k => impl_differences.l0 k x0 x1 x5 x6) (impl_differences.L0 x0 x1 x5 x6) := Lim.of fun k => (impl_differences.mono_l k) x0 x1 x5 x6
noncomputable def impl_differences.F (l0 : List Int) (a1 : Int) : Option (List Int) := lim fun k => impl_differences.f k l0 a1
theorem impl_differences.F_lim (l0 : List Int) (a1 : Int) : Lim (fun k => impl_differences.f k l0 a1) (impl_differences.F l0 a1) := Lim.of fun k => impl_differences.mono l0 a1 k
theorem impl_differences.L0_eq (x0 : List Int) (x1 : Int) (x5 : List Int) (x6 : Int) : impl_differences.L0 x0 x1 x5 x6 = (if x6 < (x0.length : Int) then (if 0 ≤ x6 then (if 0 ≤ (wrap64 (x6 - x1)) then (if (wrap64 (x6 - x1)) < (x0.length : Int) then (if x5.length < 17592186044416 then (impl_differences.L0 x0 x1 (x5 ++ [wrap64 ((rd x0 x6) - (rd x0 (wrap64 (x6 - x1))))]) (wrap64 (x6 + 1))) else (none)) else (none)) else (none)) else (none)) else (some x5)) :=
 Lim.step (f := fun k => impl_differences.l0 (k + 1) x0 x1 x5 x6) (impl_differences.L0_lim x0 x1 x5 x6) (fun _ => rfl) (by
  simp only [impl_differences.l0]
  repeat' (first | (with_reducible first | exact Lim.const _ | exact impl_differences.L0_lim _ _ _ _ | refine Lim.ite ?_ ?_ | refine Lim.bind ?_ (fun _ => ?_))))
theorem impl_differences.F_eq (l0 : List Int) (a1 : Int) : impl_differences.F l0 a1 = (impl_differences.L0 l0 a1 ([] : List Int) a1) :=
 Lim.unique (impl_differences.F_lim l0 a1) (by
  unfold impl_differences.f
  repeat' (first | (with_reducible first | exact Lim.const _ | exact impl_differences.L0_lim _ _ _ _ | refine Lim.ite ?_ ?_ | refine Lim.bind ?_ (fun _ => ?_))))

end Go.Proofs.Ytadhfbchilaklaa.Fn
namespace Go.Proofs.Ytadhfbchilaklaa.Fn
open Go.RowKit Go.Proofs.YtadhfbchilaklaaW.PrintWords Go.Proofs.YtadhfbchilaklaaW.PrintLast Go.Proofs.YtadhfbchilaklaaW.PrintMore
attribute [local go_sem] max2_int min2_int max_two min_two max_three min_three max_four min_four   -- for this text's walks alone
set_option linter.unusedVariables false
set_option linter.unusedSimpArgs false

/-! ### impl_repeat: function 195 -/
mutual
def impl_repeat.l0 : Nat → List Int → Int → Option (Int × Int × Int × Bool)
 | 0, _, _ => none
 | k + 1, x0, x6 => if x6 < (x0.length : Int) then ((impl_differences.f k x0 x6).bind fun t578 => (impl_repeat.l1 k x0 x6 t578 (t578.length : Int) 0)) else (some (0, 0, 0, false))
def impl_repeat.l1 : Nat → List Int → Int → List Int → Int → Int → Option (Int × Int × Int × Bool)
 | 0, _, _, _, _, _ => none
 | k + 1, x0, x6, x7, x20, x21 => if x21 < x20 then (if 0 ≤ x21 then (if x21 ≤ (x7.length : Int) then (if x21 < (x7.length : Int) then ((slices_Index_int_int.f k (x7.take (x21 : Int).toNat) (rd x7 x21)).bind fun t586 => (if t586 ≥ 0 then (some (x6, t586, x21, true)) else (impl_repeat.l1 k x0 x6 x7 x20 (wrap64 (x21 + 1))))) else (none)) else (none)) else (none)) else (impl_repeat.l0 k x0 (wrap64 (x6 + 1)))
end
def impl_repeat.f (k : Nat) (l0 : List Int) : Option (Int × Int × Int × Bool) := impl_repeat.l0 k l0 1
theorem impl_repeat.mono_l : ∀ k, (∀ y0 y1, LeO (impl_repeat.l0 k y0 y1) (impl_repeat.l0 (k + 1) y0 y1)) ∧ (∀ y0 y1 y2 y3 y4, LeO (impl_repeat.l1 k y0 y1 y2 y3 y4) (impl_repeat.l1 (k + 1) y0 y1 y2 y3 y4))
 | 0 => ⟨fun _ _ r h => by simp [impl_repeat.l0] at h, fun _ _ _ _ _ r h => by simp [impl_repeat.l1] at h⟩
 | k + 1 => by
  obtain ⟨ih0, ih1⟩ := impl_repeat.mono_l k
  refine ⟨?_, ?_⟩
  ·intro y0 y1
   unfold impl_repeat.l0
   repeat' (first | (with_reducible first | exact ih1 _ _ _ _ _ | exact impl_differences.mono _ _ _ | exact LeO.refl _ | exact LeO.none _ | refine LeO.ite ?_ ?_ | refine LeO.bind ?_ (fun _ => ?_)) | exact ih1 _ _ _ _ _ | exact impl_differences.mono _ _ _ | exact LeO.none _ | refine LeO.ite ?_ ?_ | refine LeO.bind ?_ (fun _ => ?_))
  ·intro y0 y1 y2 y3 y4
   unfold impl_repeat.l1
   repeat' (first | (with_reducible first | exact ih0 _ _ | exact ih1 _ _ _ _ _ | exact slices_Index_int_int.mono _ _ _ | exact LeO.refl _ | exact LeO.none _ | refine LeO.ite ?_ ?_ | refine LeO.bind ?_ (fun _ => ?_)) | exact ih0 _ _ | exact ih1 _ _ _ _ _ | exact slices_Index_int_int.mono _ _ _ | exact LeO.none _ | refine LeO.ite ?_ ?_ | refine LeO.bind ?_ (fun _ => ?_))
theorem impl_repeat.mono : ∀ a0 k, LeO (impl_repeat.f k a0) (impl_repeat.f (k + 1) a0) := by
 intro a0 k
 obtain ⟨ih0, ih1⟩ := impl_repeat.mono_l k
 unfold impl_repeat.f
 repeat' (first | (with_reducible first | exact ih0 _ _ | exact LeO.refl _ | exact LeO.none _ | refine LeO.ite ?_ ?_ | refine LeO.bind ?_ (fun _ => ?_)) | exact ih0 _ _ | exact LeO.none _ | refine LeO.ite ?_ ?_ | refine LeO.bind ?_ (fun _ => ?_))
set_option maxHeartbeats 8000000 in
set_option maxRecDepth 100000 in
theorem impl_repeat.calls (k : Nat) (A0 : Option Addr) (c0 : Nat) (l0 : List Int) (r1 : Int) (r2 : Int) (r3 : Int) (r4 : Bool) (w : World) (hr0 : Kd.C (Kd.int .i64) w A0 l0.length l0) (hc0 : l0.length ≤ c0) (h : impl_repeat.f k l0 = some (r1, r2, r3, r4)) :
  Calls Try.prog 195 #[.slice A0 l0.length c0] w fun e w' => e = .returned (.tuple #[.int .i64 r1, .int .i64 r2, .int .i64 r3, .bool r4]) ∧ Below w.heap.size w w' := by
 have HR0 := Aside0.mk hr0
 have HC0 := Aside0.mk hc0
 clear hr0 hc0
 have HB := Aside0.mk (Below.refl w.heap.size w)
 have H := h
 unfold impl_repeat.f at H
 clear h
 have H' := Aside0.mk H
 clear H
 go_enter Try.func195, Try.ntmps195
 go_wp2
 repeat (go_quiet (fail); try go_wp2)
 go_loopg [6] k (fun kq v6 w' => ∃ (x6_1 : Int), v6 = .int .i64 x6_1 ∧ Aside0 (impl_repeat.l0 kq l0 x6_1 = some (r1, r2, r3, r4)) ∧ Aside0 (kq ≤ k) ∧ Aside0 (Below w.heap.size w w'))
 case atStart => exact ⟨(1), eqd, H', ⟨Nat.le_refl _⟩, ⟨atB HB⟩⟩
 case round =>
  clear H'
  try clear c1
  obtain ⟨x6_1, rfl, HA, HK1, HB⟩ := hrel
  cases gk with
  | zero => exact absurd HA.out (by simp [impl_repeat.l0])
  | succ k1 =>
   have H := HA.out
   clear HA
   simp only [impl_repeat.l0] at H
   by_cases c2 : x6_1 < (l0.length : Int)
   ·rw [if_pos c2] at H
    have c2b0 : decide (x6_1 < (l0.length : Int)) = true := decide_eq_true c2
    clear c2
    replace H := Option.bind_eq_some_iff.mp H
    obtain ⟨t578, A30, H⟩ := H
    replace H : (impl_repeat.l1 k1 l0 x6_1 t578 (t578.length : Int) 0) = some (r1, r2, r3, r4) := H
    have A3 := Aside0.mk A30
    clear A30
    have H' := Aside0.mk H
    clear H
    go_wp2_with (first | (go_at_call 197; (with_reducible refine (impl_differences.calls k1 _ _ l0 x6_1 t578 _ ?side1 ?side2 A3.out).mono ?_); (case side1 => repeat (first | exact (Kd.C_below HR0.out HB.out) | (with_reducible refine Kd.C_alloc ?_ _) | (with_reducible refine Kd.C_drewN ?_ _) | (with_reducible refine Kd.C_drew ?_))); (case side2 => exact HC0.out); rintro e w4 ⟨v579, rfl, ho0, hb⟩; have HO580 := lowR ho0 HB; replace HB := upB HB hb; (try clear hb); (try clear hb2); (try clear hk); (try clear hi); (try clear ho0); obtain ⟨Ao5, co5, eo5⟩ := Kd.R_slice HO580.out; subst eo5))
    repeat (go_quiet (first | (go_at_call 197; (with_reducible refine (impl_differences.calls k1 _ _ l0 x6_1 t578 _ ?side1 ?side2 A3.out).mono ?_); (case side1 => repeat (first | exact (Kd.C_below HR0.out HB.out) | (with_reducible refine Kd.C_alloc ?_ _) | (with_reducible refine Kd.C_drewN ?_ _) | (with_reducible refine Kd.C_drew ?_))); (case side2 => exact HC0.out); rintro e w4 ⟨v579, rfl, ho0, hb⟩; have HO580 := lowR ho0 HB; replace HB := upB HB hb; (try clear hb); (try clear hb2); (try clear hk); (try clear hi); (try clear ho0); obtain ⟨Ao5, co5, eo5⟩ := Kd.R_slice HO580.out; subst eo5)); try go_wp2_with (first | (go_at_call 197; (with_reducible refine (impl_differences.calls k1 _ _ l0 x6_1 t578 _ ?side1 ?side2 A3.out).mono ?_); (case side1 => repeat (first | exact (Kd.C_below HR0.out HB.out) | (with_reducible refine Kd.C_alloc ?_ _) | (with_reducible refine Kd.C_drewN ?_ _) | (with_reducible refine Kd.C_drew ?_))); (case side2 => exact HC0.out); rintro e w4 ⟨v579, rfl, ho0, hb⟩; have HO580 := lowR ho0 HB; replace HB := upB HB hb; (try clear hb); (try clear hb2); (try clear hk); (try clear hi); (try clear ho0); obtain ⟨Ao5, co5, eo5⟩ := Kd.R_slice HO580.out; subst eo5)))
    go_loopg [21] k1 (fun kq v21 w' => ∃ (x21_2 : Int), v21 = .int .i64 x21_2 ∧ Aside0 (impl_repeat.l1 kq l0 x6_1 t578 (t578.length : Int) x21_2 = some (r1, r2, r3, r4)) ∧ Aside0 (kq ≤ k1) ∧ Aside0 (Kd.R (Kd.int .i64) 3 w' w.heap.size (fun _ => True) (.slice Ao5 t578.length co5) t578) ∧ Aside0 (Below w.heap.size w w'))
    case atStart => exact ⟨(0), eqd, H', ⟨Nat.le_refl _⟩, ⟨atR HO580⟩, ⟨atB HB⟩⟩
    case round =>
     clear H'
     try clear c1
     try clear c2
     try clear c2b0
     try clear p2
     obtain ⟨x21_2, rfl, HA, HK2, HO_7, HB⟩ := hrel
     cases gk with
     | zero => exact absurd HA.out (by simp [impl_repeat.l1])
     | succ k2 =>
      have H := HA.out
      clear HA
      simp only [impl_repeat.l1] at H
      by_cases c6 : x21_2 < (t578.length : Int)
      ·rw [if_pos c6] at H
       have c6b0 : decide (x21_2 < (t578.length : Int)) = true := decide_eq_true c6
       clear c6
       by_cases c7 : 0 ≤ x21_2
       ·rw [if_pos c7] at H
        have c7b0 := eq_true c7
        have c7b1 : decide (0 ≤ x21_2) = true := decide_eq_true c7
        clear c7
        by_cases c8 : x21_2 ≤ (t578.length : Int)
        ·rw [if_pos c8] at H
         have c8b0 := eq_true c8
         have c8b1 : decide (x21_2 ≤ (t578.length : Int)) = true := decide_eq_true c8
         clear c8
         obtain ⟨y581, hy581⟩ : ∃ y_ : List Int, y_ = (t578.take (x21_2 : Int).toNat) := ⟨_, rfl⟩
         replace H : (if x21_2 < (t578.length : Int) then ((slices_Index_int_int.f k2 y581 (rd t578 x21_2)).bind fun t586 => (if t586 ≥ 0 then (some (x6_1, t586, x21_2, true)) else (impl_repeat.l1 k2 l0 x6_1 t578 (t578.length : Int) (wrap64 (x21_2 + 1))))) else (none)) = some (r1, r2, r3, r4) := by first | (rw [hy581]; with_reducible exact H) | (have H2_ := (Option.bind_some _ _).symm.trans H; rw [hy581]; with_reducible exact H2_) | (have H2_ := (Option.bind_some _ _).symm.trans H; with_reducible exact H2_) | with_reducible exact H | (rw [hy581]; exact H) | exact H
         have Ny581 := Aside0.mk hy581
         clear hy581
         by_cases c9 : x21_2 < (t578.length : Int)
         ·rw [if_pos c9] at H
          have c9b0 : decide (x21_2 < (t578.length : Int)) = true := decide_eq_true c9
          clear c9
          replace H := Option.bind_eq_some_iff.mp H
          obtain ⟨t586, A100, H⟩ := H
          replace H : (if t586 ≥ 0 then (some (x6_1, t586, x21_2, true)) else (impl_repeat.l1 k2 l0 x6_1 t578 (t578.length : Int) (wrap64 (x21_2 + 1)))) = some (r1, r2, r3, r4) := H
          have A10 := Aside0.mk A100
          clear A100
          by_cases c11 : t586 ≥ 0
          ·rw [if_pos c11] at H
           have c11b0 : decide (0 ≤ t586) = true := decide_eq_true c11
           clear c11
           simp only [Option.some.injEq, Prod.mk.injEq] at H
           obtain ⟨rfl, rfl, rfl, rfl⟩ := H
           have q12 : (x21_2 : Int) ≤ ((t578.length : Int) : Int) := ofd
           obtain ⟨i012, hi012, _, hsz12, _⟩ := info_parts info3
           have hroom12 : t578.length ≤ co5 := (Kd.R_reads' HO_7.out).2.1
           have hC12 : Kd.C (Kd.int .i64) _ Ao5 t578.length t578 := (Kd.R_reads' HO_7.out).2.2
           have hcut12 := cut_to (P := Try.prog) 24 3 .i64 Try.underlying24 hi012 Ao5 t578.length co5 x21_2 (of_decide_eq_true (by first | (with_reducible assumption) | assumption)) q12 hroom12
           have hr12 := Kd.C_take (m := (x21_2 : Int).toNat) hC12 (by omega)
           have hy12 : y581.length = (x21_2 : Int).toNat := (by rw [Ny581.out, List.length_take]; omega)
           rw [← Ny581.out] at hr12
           rw [← hy12] at hcut12
           have HR584 := Aside0.mk hr12
           have HC584 := Aside0.mk (show y581.length ≤ co5 from by omega)
           clear hr12 hC12 hroom12 hi012 hsz12
           have KY12 := Aside0.mk hy12
           clear hy12
           have KL12 := Aside0.mk (show (x21_2 : Int).toNat ≤ t578.length from by omega)
           replace q12 := eq_true q12
           have p585 : 0 ≤ (x21_2 : Int) := ofd
           have q585 : x21_2 < (t578.length : Int) := ofd
           obtain ⟨ad585, e585, hx585_0⟩ := Kd.at_int (Kd.R_reads' HO_7.out).2.2 x21_2 p585 q585
           cases e585
           replace p585 := eq_true p585
           replace q585 := eq_true q585
           go_wp2_with (first | (go_at_call 249; (with_reducible refine (slices_Index_int_int.calls k2 _ _ y581 (rd t578 x21_2) t586 _ ?side1 ?side2 A10.out).mono ?_); (case side1 => exact atC HR584); (case side2 => exact HC584.out); rintro e w' ⟨rfl, ⟨nd, rfl⟩⟩; (try first | exact ⟨rfl, _, World.drewN_drewN _ _ _⟩ | exact ⟨rfl, _, Eq.trans (World.drewN_drewN _ _ _) (congrArg (World.drewN _) (Nat.add_assoc _ _ _))⟩)))
           repeat (go_quiet (first | (go_at_call 249; (with_reducible refine (slices_Index_int_int.calls k2 _ _ y581 (rd t578 x21_2) t586 _ ?side1 ?side2 A10.out).mono ?_); (case side1 => exact atC HR584); (case side2 => exact HC584.out); rintro e w' ⟨rfl, ⟨nd, rfl⟩⟩; (try first | exact ⟨rfl, _, World.drewN_drewN _ _ _⟩ | exact ⟨rfl, _, Eq.trans (World.drewN_drewN _ _ _) (congrArg (World.drewN _) (Nat.add_assoc _ _ _))⟩))); try go_wp2_with (first | (go_at_call 249; (with_reducible refine (slices_Index_int_int.calls k2 _ _ y581 (rd t578 x21_2) t586 _ ?side1 ?side2 A10.out).mono ?_); (case side1 => exact atC HR584); (case side2 => exact HC584.out); rintro e w' ⟨rfl, ⟨nd, rfl⟩⟩; (try first | exact ⟨rfl, _, World.drewN_drewN _ _ _⟩ | exact ⟨rfl, _, Eq.trans (World.drewN_drewN _ _ _) (congrArg (World.drewN _) (Nat.add_assoc _ _ _))⟩))))
           refine bodyPost_ret (results_list (rs := [.tmp 2, .tmp 3, .tmp 4, .tmp 5]) rfl (by simp) (.tmp (.tmp (.tmp (.tmp .nil))))) rfl ?_
           exact ⟨eqr, atB HB⟩
          ·rw [if_neg c11] at H
           have c11b0 : decide (0 ≤ t586) = false := decide_eq_false c11
           clear c11
           have H' := Aside0.mk H
           clear H
           have q13 : (x21_2 : Int) ≤ ((t578.length : Int) : Int) := ofd
           obtain ⟨i013, hi013, _, hsz13, _⟩ := info_parts info3
           have hroom13 : t578.length ≤ co5 := (Kd.R_reads' HO_7.out).2.1
           have hC13 : Kd.C (Kd.int .i64) _ Ao5 t578.length t578 := (Kd.R_reads' HO_7.out).2.2
           have hcut13 := cut_to (P := Try.prog) 24 3 .i64 Try.underlying24 hi013 Ao5 t578.length co5 x21_2 (of_decide_eq_true (by first | (with_reducible assumption) | assumption)) q13 hroom13
           have hr13 := Kd.C_take (m := (x21_2 : Int).toNat) hC13 (by omega)
           have hy13 : y581.length = (x21_2 : Int).toNat := (by rw [Ny581.out, List.length_take]; omega)
           rw [← Ny581.out] at hr13
           rw [← hy13] at hcut13
           have HR584 := Aside0.mk hr13
           have HC584 := Aside0.mk (show y581.length ≤ co5 from by omega)
           clear hr13 hC13 hroom13 hi013 hsz13
           have KY13 := Aside0.mk hy13
           clear hy13
           have KL13 := Aside0.mk (show (x21_2 : Int).toNat ≤ t578.length from by omega)
           replace q13 := eq_true q13
           have p585 : 0 ≤ (x21_2 : Int) := ofd
           have q585 : x21_2 < (t578.length : Int) := ofd
           obtain ⟨ad585, e585, hx585_0⟩ := Kd.at_int (Kd.R_reads' HO_7.out).2.2 x21_2 p585 q585
           cases e585
           replace p585 := eq_true p585
           replace q585 := eq_true q585
           go_wp2_with (first | (go_at_call 249; (with_reducible refine (slices_Index_int_int.calls k2 _ _ y581 (rd t578 x21_2) t586 _ ?side1 ?side2 A10.out).mono ?_); (case side1 => exact atC HR584); (case side2 => exact HC584.out); rintro e w' ⟨rfl, ⟨nd, rfl⟩⟩; (try first | exact ⟨rfl, _, World.drewN_drewN _ _ _⟩ | exact ⟨rfl, _, Eq.trans (World.drewN_drewN _ _ _) (congrArg (World.drewN _) (Nat.add_assoc _ _ _))⟩)))
           repeat (go_quiet (first | (go_at_call 249; (with_reducible refine (slices_Index_int_int.calls k2 _ _ y581 (rd t578 x21_2) t586 _ ?side1 ?side2 A10.out).mono ?_); (case side1 => exact atC HR584); (case side2 => exact HC584.out); rintro e w' ⟨rfl, ⟨nd, rfl⟩⟩; (try first | exact ⟨rfl, _, World.drewN_drewN _ _ _⟩ | exact ⟨rfl, _, Eq.trans (World.drewN_drewN _ _ _) (congrArg (World.drewN _) (Nat.add_assoc _ _ _))⟩))); try go_wp2_with (first | (go_at_call 249; (with_reducible refine (slices_Index_int_int.calls k2 _ _ y581 (rd t578 x21_2) t586 _ ?side1 ?side2 A10.out).mono ?_); (case side1 => exact atC HR584); (case side2 => exact HC584.out); rintro e w' ⟨rfl, ⟨nd, rfl⟩⟩; (try first | exact ⟨rfl, _, World.drewN_drewN _ _ _⟩ | exact ⟨rfl, _, Eq.trans (World.drewN_drewN _ _ _) (congrArg (World.drewN _) (Nat.add_assoc _ _ _))⟩))))
           go_roundg k2
           case measure => have := HK1.out; have := HK2.out; omega
           case rel => exact ⟨(wrap64 (x21_2 + 1)), eqd, H', ⟨by have := HK1.out; have := HK2.out; omega⟩, ⟨atR HO_7⟩, ⟨atB HB⟩⟩
         ·rw [if_neg c9] at H
          exact absurd H (by simp)
        ·rw [if_neg c8] at H
         exact absurd H (by simp)
       ·rw [if_neg c7] at H
        exact absurd H (by simp)
      ·rw [if_neg c6] at H
       have c6b0 : decide (x21_2 < (t578.length : Int)) = false := decide_eq_false c6
       clear c6
       have H' := Aside0.mk H
       clear H
       go_wp2
       repeat (go_quiet (fail); try go_wp2)
       go_roundg k2
       case measure => have := HK1.out; have := HK2.out; omega
       case rel => exact ⟨(wrap64 (x6_1 + 1)), eqd, H', ⟨by have := HK1.out; have := HK2.out; omega⟩, ⟨atB HB⟩⟩
   ·rw [if_neg c2] at H
    have c2b0 : decide (x6_1 < (l0.length : Int)) = false := decide_eq_false c2
    clear c2
    simp only [Option.some.injEq, Prod.mk.injEq] at H
    obtain ⟨rfl, rfl, rfl, rfl⟩ := H
    go_wp2
    repeat (go_quiet (fail); try go_wp2)
    refine bodyPost_ret (results_list (rs := [.tmp 2, .tmp 3, .tmp 4, .tmp 5]) rfl (by simp) (.tmp (.tmp (.tmp (.tmp .nil))))) rfl ?_
    exact ⟨eqr, atB HB⟩

noncomputable def impl_repeat.L0 (x0 : List Int) (x6 : Int) : Option (Int × Int × Int × Bool) := lim fun k => impl_repeat.l0 k x0 x6
theorem impl_repeat.L0_lim (x0 : List Int) (x6 : Int) : Lim (fun k => impl_repeat.l0 k x0 x6) (impl_repeat.L0 x0 x6) := Lim.of fun k => (impl_repeat.mono_l k).1 x0 x6
noncomputable def impl_repeat.L1 (x0 : List Int) (x6 : Int) (x7 : List Int) (x20 : Int) (x21 : Int) : Option (Int × Int × Int × Bool) := lim fun k => impl_repeat.l1 k x0 x6 x7 x20 x21
theorem impl_repeat.L1_lim (x0 : List Int) (x6 : Int) (x7 : List Int) (x20 : Int) (x21 : Int) : Lim (fun k => impl_repeat.l1 k x0 x6 x7 x20 x21) (impl_repeat.L1 x0 x6 x7 x20 x21) := Lim.of fun k => (impl_repeat.mono_l k).2 x0 x6 x7 x20 x21
noncomputable def impl_repeat.F (l0 : List Int) : Option (Int × Int × Int × Bool) := lim fun k => impl_repeat.f k l0
theorem impl_repeat.F_lim (l0 : List Int) : Lim (fun k => impl_repeat.f k l0) (impl_repeat.F l0) := Lim.of fun k => impl_repeat.mono l0 k
theorem impl_repeat.L0_eq (x0 : List Int) (x6 : Int) : impl_repeat.L0 x0 x6 = (if x6 < (x0.length : Int) then ((impl_differences.F x0 x6).bind fun t578 => (impl_repeat.L1 x0 x6 t578 (t578.length : Int) 0)) else (some (0, 0, 0, false))) :=
 Lim.step (f := fun k => impl_repeat.l0 (k + 1) x0 x6) (impl_repeat.L0_lim x0 x6) (fun _ => rfl) (by
  simp only [impl_repeat.l0]
  repeat' (first | (with_reducible first | exact Lim.const _ | exact impl_differences.F_lim _ _ | exact impl_repeat.L1_lim _ _ _ _ _ | refine Lim.ite ?_ ?_ | refine Lim.bind ?_ (fun _ => ?_))))
theorem impl_repeat.L1_eq (x0 : List Int) (x6 : Int) (x7 : List Int) (x20 : Int) (x21 : Int) : impl_repeat.L1 x0 x6 x7 x20 x21 = (if x21 < x20 then (if 0 ≤ x21 then (if x21 ≤ (x7.length : Int) then (if x21 < (x7.length : Int) then ((slices_Index_int_int.F (x7.take (x21 : Int).toNat) (rd x7 x21)).bind fun t586 => (if t586 ≥ 0 then (some (x6, t586, x21, true)) else (impl_repeat.L1 x0 x6 x7 x20 (wrap64 (x21 + 1))))) else (none)) else (none)) else (none)) else (impl_repeat.L0 x0 (wrap64 (x6 + 1)))) :=
 Lim.step (f := fun k => impl_repeat.l1 (k + 1) x0 x6 x7 x20 x21) (impl_repeat.L1_lim x0 x6 x7 x20 x21) (fun _ => rfl) (by
  simp only [impl_repeat.l1]
  repeat' (first | (with_reducible first | exact Lim.const _ | exact impl_repeat.L0_lim _ _ | exact impl_repeat.L1_lim _ _ _ _ _ | exact slices_Index_int_int.F_lim _ _ | refine Lim.ite ?_ ?_ | refine Lim.bind ?_ (fun _ => ?_))))
theorem impl_repeat.F_eq (l0 : List Int) : impl_repeat.F l0 = (impl_repeat.L0 l0 1) :=
 Lim.unique (impl_repeat.F_lim l0) (by
  unfold impl_repeat.f
  repeat' (first | (with_reducible first | exact Lim.const _ | exact impl_repeat.L0_lim _ _ | refine Lim.ite ?_ ?_ | refine Lim.bind ?_ (fun _ => ?_))))

end Go.Proofs.Ytadhfbchilaklaa.Fn
namespace Go.Proofs.Ytadhfbchilaklaa.Fn
open Go.RowKit Go.Proofs.YtadhfbchilaklaaW.PrintWords Go.Proofs.YtadhfbchilaklaaW.PrintLast Go.Proofs.YtadhfbchilaklaaW.PrintMore
attribute [local go_sem] max2_int min2_int max_two min_two max_three min_three max_four min_four   -- for this text's walks alone
set_option linter.unusedVariables false
set_option linter.unusedSimpArgs false

/-! ### impl_costas: function 169 -/
def impl_costas.f (k : Nat) (l0 : List Int) : Option (Bool) := (impl_repeat.f k l0).bind fun bt587 => (some (!bt587.2.2.2))
theorem impl_costas.mono : ∀ a0 k, LeO (impl_costas.f k a0) (impl_costas.f (k + 1) a0) := by
 intro a0 k
 unfold impl_costas.f
 repeat' (first | (with_reducible first | exact impl_repeat.mono _ _ | exact LeO.refl _ | exact LeO.none _ | refine LeO.ite ?_ ?_ | refine LeO.bind ?_ (fun _ => ?_)) | exact impl_repeat.mono _ _ | exact LeO.none _ | refine LeO.ite ?_ ?_ | refine LeO.bind ?_ (fun _ => ?_))
set_option maxHeartbeats 8000000 in
set_option maxRecDepth 100000 in
theorem impl_costas.calls (k : Nat) (A0 : Option Addr) (c0 : Nat) (l0 : List Int) (r : Bool) (w : World) (hr0 : Kd.C (Kd.int .i64) w A0 l0.length l0) (hc0 : l0.length ≤ c0) (h : impl_costas.f k l0 = some r) :
  Calls Try.prog 169 #[.slice A0 l0.length c0] w fun e w' => e = .returned (.bool r) ∧ Below w.heap.size w w' := by
 have HR0 := Aside0.mk hr0
 have HC0 := Aside0.mk hc0
 clear hr0 hc0
 have HB := Aside0.mk (Below.refl w.heap.size w)
 have H := h
 unfold impl_costas.f at H
 clear h
 replace H := Option.bind_eq_some_iff.mp H
 obtain ⟨⟨t587, t588, t589, t590⟩, A20, H⟩ := H
 replace H : (some (!t590)) = some r := H
 have A2 := Aside0.mk A20
 clear A20
 obtain rfl := Option.some.inj H
 go_enter Try.func169, Try.ntmps169
 go_wp2_with (first | ((with_reducible refine gate_callee (f := 195) rfl ?_); refine goesA (some 9) Try.func195 #[.slice A0 l0.length c0] ?_; (with_reducible refine (impl_repeat.calls k _ _ l0 t587 t588 t589 t590 _ ?side1 ?side2 A2.out).mono ?_); (case side1 => repeat (first | exact HR0.out | (with_reducible refine Kd.C_alloc ?_ _) | (with_reducible refine Kd.C_drewN ?_ _) | (with_reducible refine Kd.C_drew ?_))); (case side2 => exact HC0.out); rintro e w3 ⟨rfl, hb⟩; refine ⟨_, rfl, ?_⟩; replace HB := upB HB hb; (try clear hb); (try clear hb2); (try clear hk); (try clear hi)))
 go_ret
 exact ⟨eqr, atB HB⟩

noncomputable def impl_costas.F (l0 : List Int) : Option (Bool) := lim fun k => impl_costas.f k l0
theorem impl_costas.F_lim (l0 : List Int) : Lim (fun k => impl_costas.f k l0) (impl_costas.F l0) := Lim.of fun k => impl_costas.mono l0 k
theorem impl_costas.F_eq (l0 : List Int) : impl_costas.F l0 = ((impl_repeat.F l0).bind fun bt587 => (some (!bt587.2.2.2))) :=
 Lim.unique (impl_costas.F_lim l0) (by
  unfold impl_costas.f
  repeat' (first | (with_reducible first | exact Lim.const _ | exact impl_repeat.F_lim _ | refine Lim.ite ?_ ?_ | refine Lim.bind ?_ (fun _ => ?_))))

end Go.Proofs.Ytadhfbchilaklaa.Fn
namespace Go.Proofs.Ytadhfbchilaklaa.Fn
open Go.RowKit Go.Proofs.YtadhfbchilaklaaW.PrintWords Go.Proofs.YtadhfbchilaklaaW.PrintLast Go.Proofs.YtadhfbchilaklaaW.PrintMore
attribute [local go_sem] max2_int min2_int max_two min_two max_three min_three max_four min_four   -- for this text's walks alone
set_option linter.unusedVariables false
set_option linter.unusedSimpArgs false

/-! ### impl_IsCostas: function 47 -/
def impl_IsCostas.f (k : Nat) (l0 : List Int) : Option (Bool × Bool) := (impl_IsDots.f k l0).bind fun t591 => (if t591 = true then ((impl_costas.f k l0).bind fun t592 => (some (t592, true))) else (some (false, false)))
theorem impl_IsCostas.mono : ∀ a0 k, LeO (impl_IsCostas.f k a0) (impl_IsCostas.f (k + 1) a0) := by
 intro a0 k
 unfold impl_IsCostas.f
 repeat' (first | (with_reducible first | exact impl_IsDots.mono _ _ | exact impl_costas.mono _ _ | exact LeO.refl _ | exact LeO.none _ | refine LeO.ite ?_ ?_ | refine LeO.bind ?_ (fun _ => ?_)) | exact impl_IsDots.mono _ _ | exact impl_costas.mono _ _ | exact LeO.none _ | refine LeO.ite ?_ ?_ | refine LeO.bind ?_ (fun _ => ?_))
set_option maxHeartbeats 8000000 in
set_option maxRecDepth 100000 in
theorem impl_IsCostas.calls (k : Nat) (A0 : Option Addr) (c0 : Nat) (l0 : List Int) (r1 : Bool) (r2 : Bool) (w : World) (hr0 : Kd.C (Kd.int .i64) w A0 l0.length l0) (hc0 : l0.length ≤ c0) (h : impl_IsCostas.f k l0 = some (r1, r2)) :
  Calls Try.prog 47 #[.slice A0 l0.length c0] w fun e w' => e = .returned (.tuple #[.bool r1, .bool r2]) ∧ Below w.heap.size w w' := by
 have HR0 := Aside0.mk hr0
 have HC0 := Aside0.mk hc0
 clear hr0 hc0
 have HB := Aside0.mk (Below.refl w.heap.size w)
 have H := h
 unfold impl_IsCostas.f at H
 clear h
 replace H := Option.bind_eq_some_iff.mp H
 obtain ⟨t591, A20, H⟩ := H
 replace H : (if t591 = true then ((impl_costas.f k l0).bind fun t592 => (some (t592, true))) else (some (false, false))) = some (r1, r2) := H
 have A2 := Aside0.mk A20
 clear A20
 by_cases c3 : t591 = true
 ·subst c3
  have H1 : ((impl_costas.f k l0).bind fun t592 => (some (t592, true))) = some (r1, r2) := by rw [if_pos rfl] at H; exact H
  clear H
  have H := H1
  clear H1
  replace H := Option.bind_eq_some_iff.mp H
  obtain ⟨t592, A40, H⟩ := H
  replace H : (some (t592, true)) = some (r1, r2) := H
  have A4 := Aside0.mk A40
  clear A40
  simp only [Option.some.injEq, Prod.mk.injEq] at H
  obtain ⟨rfl, rfl⟩ := H
  go_enter Try.func47, Try.ntmps47
  go_wp2_with (first | ((with_reducible refine gate_callee (f := 46) rfl ?_); refine goesA (some 5) Try.func46 #[.slice A0 l0.length c0] ?_; (with_reducible refine (impl_IsDots.calls k _ _ l0 true _ ?side1 ?side2 A2.out).mono ?_); (case side1 => repeat (first | exact HR0.out | (with_reducible refine Kd.C_alloc ?_ _) | (with_reducible refine Kd.C_drewN ?_ _) | (with_reducible refine Kd.C_drew ?_))); (case side2 => exact HC0.out); rintro e w' ⟨rfl, ⟨nd, rfl⟩⟩; refine ⟨_, rfl, ?_⟩) | ((with_reducible refine gate_callee (f := 169) rfl ?_); refine goesA (some 8) Try.func169 #[.slice A0 l0.length c0] ?_; (with_reducible refine (impl_costas.calls k _ _ l0 t592 _ ?side1 ?side2 A4.out).mono ?_); (case side1 => repeat (first | exact HR0.out | (with_reducible refine Kd.C_alloc ?_ _) | (with_reducible refine Kd.C_drewN ?_ _) | (with_reducible refine Kd.C_drew ?_))); (case side2 => exact HC0.out); rintro e w5 ⟨rfl, hb⟩; refine ⟨_, rfl, ?_⟩; replace HB := upB HB hb; (try clear hb); (try clear hb2); (try clear hk); (try clear hi)))
  go_ret2
  exact ⟨eqr, atB HB⟩
 ·replace c3 := Bool.eq_false_iff.mpr c3
  subst c3
  have H1 : (some (false, false)) = some (r1, r2) := by rw [if_neg (show ¬ (false = true) by decide)] at H; exact H
  clear H
  have H := H1
  clear H1
  simp only [Option.some.injEq, Prod.mk.injEq] at H
  obtain ⟨rfl, rfl⟩ := H
  go_enter Try.func47, Try.ntmps47
  go_wp2_with (first | ((with_reducible refine gate_callee (f := 46) rfl ?_); refine goesA (some 5) Try.func46 #[.slice A0 l0.length c0] ?_; (with_reducible refine (impl_IsDots.calls k _ _ l0 false _ ?side1 ?side2 A2.out).mono ?_); (case side1 => repeat (first | exact HR0.out | (with_reducible refine Kd.C_alloc ?_ _) | (with_reducible refine Kd.C_drewN ?_ _) | (with_reducible refine Kd.C_drew ?_))); (case side2 => exact HC0.out); rintro e w' ⟨rfl, ⟨nd, rfl⟩⟩; refine ⟨_, rfl, ?_⟩))
  go_ret2
  exact ⟨eqr, atB HB⟩

noncomputable def impl_IsCostas.F (l0 : List Int) : Option (Bool × Bool) := lim fun k => impl_IsCostas.f k l0
theorem impl_IsCostas.F_lim (l0 : List Int) : Lim (fun k => impl_IsCostas.f k l0) (impl_IsCostas.F l0) := Lim.of fun k => impl_IsCostas.mono l0 k
theorem impl_IsCostas.F_eq (l0 : List Int) : impl_IsCostas.F l0 = ((impl_IsDots.F l0).bind fun t591 => (if t591 = true then ((impl_costas.F l0).bind fun t592 => (some (t592, true))) else (some (false, false)))) :=
 Lim.unique (impl_IsCostas.F_lim l0) (by
  unfold impl_IsCostas.f
  repeat' (first | (with_reducible first | exact Lim.const _ | exact impl_IsDots.F_lim _ | exact impl_costas.F_lim _ | refine Lim.ite ?_ ?_ | refine Lim.bind ?_ (fun _ => ?_))))

end Go.Proofs.Ytadhfbchilaklaa.Fn
namespace Go.Proofs.Ytadhfbchilaklaa.Fn
open Go.RowKit Go.Proofs.YtadhfbchilaklaaW.PrintWords Go.Proofs.YtadhfbchilaklaaW.PrintLast Go.Proofs.YtadhfbchilaklaaW.PrintMore
attribute [local go_sem] max2_int min2_int max_two min_two max_three min_three max_four min_four   -- for this text's walks alone
set_option linter.unusedVariables false
set_option linter.unusedSimpArgs false

/-! ### slices_Clone_int_int: function 165 (given) -/
def slices_Clone_int_int.f (l0 : List Int) : Option (List Int) := if l0.length < 17592186044416 then some l0 else none
theorem slices_Clone_int_int.app_room {y l : List Int} (h1 : l.length < 17592186044416) (h2 : y = []) : (y.length + l.length) * 8 ≤ 140737488355328 := by
 subst h2; simp; omega
set_option maxHeartbeats 8000000 in
set_option maxRecDepth 100000 in
theorem slices_Clone_int_int.calls (A0 : Option Addr) (c0 : Nat) (l0 : List Int) (r : List Int) (w : World) (hr0 : Kd.C (Kd.int .i64) w A0 l0.length l0) (hc0 : l0.length ≤ c0) (h : slices_Clone_int_int.f l0 = some r) :
  Calls Try.prog 165 #[.slice A0 l0.length c0] w fun e w' => ∃ v0_ : Value, e = .returned (v0_) ∧ Kd.R (Kd.int .i64) 3 w' w.heap.size (fun _ => True) v0_ r ∧ Below w.heap.size w w' := by
 have HR0 := Aside0.mk hr0
 have hlen : l0.length < 17592186044416 := by
  unfold slices_Clone_int_int.f at h
  split at h
  ·assumption
  ·cases h
 obtain rfl : l0 = r := by
  unfold slices_Clone_int_int.f at h
  rw [if_pos hlen] at h
  exact Option.some.inj h
 have LM := Aside0.mk hlen
 have HB := Aside0.mk (Below.refl w.heap.size w)
 have hu := Try.underlying24
 have heq := fun (w : World) => Lib.run_eql_slice_nil (P := Try.prog) w 24 3 A0 l0.length c0 0 0 hu
 clear h hlen hc0
 cases A0 with
 | none =>
  have hl : l0 = [] := by
   cases l0 with
   | nil => rfl
   | cons x xs =>
    obtain ⟨ad, e, _⟩ := hr0.2.2 (by simp)
    cases e
  have HL := Aside0.mk hl
  clear hr0 hl
  go_enter Try.func165, Try.ntmps165
  go_wp2
  go_ret
  exact ⟨_, rfl, by rw [HL.out]; exact Kd.R_nil _ _ _ _ _, atB HB⟩
 | some ad =>
  clear hr0
  obtain ⟨y113, hy113⟩ : ∃ y_ : List Int, y_ = (([] : List Int)) := ⟨_, rfl⟩
  have Ny113 := Aside0.mk hy113
  clear hy113
  obtain ⟨y116, hy116⟩ : ∃ y_ : List Int, y_ = (y113 ++ l0) := ⟨_, rfl⟩
  have Ny116 := Aside0.mk hy116
  clear hy116
  go_enter Try.func165, Try.ntmps165
  go_wp2_with (first | ((with_reducible refine gate_dst (N := 5) rfl ?_); refine Kd.R_lit (Kd.int .i64) _ 3 ?hg (N := 5) ?hd (xs := ([] : List Int)) (inner := []) (ok := fun _ => True) (okp := fun _ => True) ?hr ?hp (fun _ hk => hk) trivial (Below.refl _ _) (Nat.le_refl _) (by simp) ?_; (case hd => rfl); (case hg => rfl); (case hr => first | (go_simp; done) | (go_simp; rfl)); (case hp => exact (Reps.none _ _)); intro v114 w3 ho4 hb hg_ hnew_; clear hg_ hnew_; (first | rw [← Ny113.out] at ho4 | (simp only [Int.reduceToNat] at ho4; rw [← Ny113.out] at ho4)); have HO115 := lowR ho4 HB; replace HB := upB HB hb; clear hb ho4) | ((with_reducible refine gate_builtin (b := .append) (xs := #[.tmp 5, .tmp 6]) rfl ?_); at_builtin; refine Kd.R_append_rows (Kd.int .i64) (w0 := w) w.heap.size rfl (.tmp 5) (.tmp 6) 24 3 (.int .i64 0) 8 rfl Try.underlying24 info3 rfl (by decide) (by omega) v114 y113 l0 _ _ _ (fun _ => True) (fun _ => False) rfl rfl ?aO ?aR (fun _ _ h => h) (fun _ h => h.elim) ?aF ?aB ?aS ?aL ?_; (case aR => repeat (first | exact (Kd.C_below HR0.out HB.out) | (with_reducible refine Kd.C_alloc ?_ _) | (with_reducible refine Kd.C_drewN ?_ _) | (with_reducible refine Kd.C_drew ?_))); (case aB => exact (atB HB)); (case aF => exact (fun _ _ => trivial)); (case aO => exact (atR HO115)); (case aS => exact (szB HB)); (case aL => exact slices_Clone_int_int.app_room LM.out Ny113.out); intro v117 w5 ho hb hg hat; rw [← Ny116.out] at ho; have HO118 := Aside0.mk (ho); replace HB := Aside0.mk (hb); clear HO115; clear ho hb hg hat))
  go_ret
  exact ⟨_, rfl, by (with_reducible repeat (first | apply Kd.R_alloc | apply Kd.R_drewN | apply Kd.R_drew)); have h := HO118.out; rw [Ny116.out, Ny113.out, List.nil_append] at h; exact h, atB HB⟩


end Go.Proofs.Ytadhfbchilaklaa.Fn
namespace Go.Proofs.Ytadhfbchilaklaa.Fn
open Go.RowKit Go.Proofs.YtadhfbchilaklaaW.PrintWords Go.Proofs.YtadhfbchilaklaaW.PrintLast Go.Proofs.YtadhfbchilaklaaW.PrintMore
attribute [local go_sem] max2_int min2_int max_two min_two max_three min_three max_four min_four   -- for this text's walks alone
set_option linter.unusedVariables false
set_option linter.unusedSimpArgs false

/-! ### impl_turned: function 160 -/
def impl_turned.l0 : Nat → List Int → List Int → List Int → Int → Int → Option (List Int)
 | 0, _, _, _, _, _ => none
 | k + 1, x0, x3, x9, x10, x11 => if x11 < x10 then (if 0 ≤ x11 then (if x11 < (x9.length : Int) then (if 0 ≤ (rd x9 x11) then (if (rd x9 x11) < (x3.length : Int) then (impl_turned.l0 k x0 (x3.set ((rd x9 x11) : Int).toNat (wrap64 ((wrap64 ((x0.length : Int) - 1)) - x11))) x9 x10 (wrap64 (x11 + 1))) else (none)) else (none)) else (none)) else (none)) else (some x3)
def impl_turned.f (k : Nat) (l0 : List Int) : Option (List Int) := if 0 ≤ (l0.length : Int) then (if ((l0.length : Int) : Int).toNat ≤ 35184372088832 then (impl_turned.l0 k l0 (List.replicate ((l0.length : Int) : Int).toNat 0) l0 (l0.length : Int) 0) else (none)) else (none)
theorem impl_turned.mono_l : ∀ k, (∀ y0 y1 y2 y3 y4, LeO (impl_turned.l0 k y0 y1 y2 y3 y4) (impl_turned.l0 (k + 1) y0 y1 y2 y3 y4))
 | 0 => fun _ _ _ _ _ r h => by simp [impl_turned.l0] at h
 | k + 1 => by
  have ih0 := impl_turned.mono_l k
  ·intro y0 y1 y2 y3 y4
   unfold impl_turned.l0
   repeat' (first | (with_reducible first | exact ih0 _ _ _ _ _ | exact LeO.refl _ | exact LeO.none _ | refine LeO.ite ?_ ?_ | refine LeO.bind ?_ (fun _ => ?_)) | exact ih0 _ _ _ _ _ | exact LeO.none _ | refine LeO.ite ?_ ?_ | refine LeO.bind ?_ (fun _ => ?_))
theorem impl_turned.mono : ∀ a0 k, LeO (impl_turned.f k a0) (impl_turned.f (k + 1) a0) := by
 intro a0 k
 have ih0 := impl_turned.mono_l k
 unfold impl_turned.f
 repeat' (first | (with_reducible first | exact ih0 _ _ _ _ _ | exact LeO.refl _ | exact LeO.none _ | refine LeO.ite ?_ ?_ | refine LeO.bind ?_ (fun _ => ?_)) | exact ih0 _ _ _ _ _ | exact LeO.none _ | refine LeO.ite ?_ ?_ | refine LeO.bind ?_ (fun _ => ?_))
set_option maxHeartbeats 8000000 in
set_option maxRecDepth 100000 in
theorem impl_turned.calls (k : Nat) (A0 : Option Addr) (c0 : Nat) (l0 : List Int) (r : List Int) (w : World) (hr0 : Kd.C (Kd.int .i64) w A0 l0.length l0) (hc0 : l0.length ≤ c0) (h : impl_turned.f k l0 = some r) :
  Calls Try.prog 160 #[.slice A0 l0.length c0] w fun e w' => ∃ v0_ : Value, e = .returned (v0_) ∧ Kd.R (Kd.int .i64) 3 w' w.heap.size (fun _ => True) v0_ r ∧ Below w.heap.size w w' := by
 have HR0 := Aside0.mk hr0
 have HC0 := Aside0.mk hc0
 clear hr0 hc0
 have HB := Aside0.mk (Below.refl w.heap.size w)
 have H := h
 unfold impl_turned.f at H
 clear h
 by_cases c2 : 0 ≤ (l0.length : Int)
 ·rw [if_pos c2] at H
  have c2b0 := eq_true c2
  have c2b1 : decide (0 ≤ (l0.length : Int)) = true := decide_eq_true c2
  clear c2
  by_cases c3 : ((l0.length : Int) : Int).toNat ≤ 35184372088832
  ·rw [if_pos c3] at H
   have c3b0 := eq_true c3
   have c3b1 : decide (((l0.length : Int) : Int).toNat ≤ 35184372088832) = true := decide_eq_true c3
   clear c3
   obtain ⟨y462, hy462⟩ : ∃ y_ : List Int, y_ = (List.replicate ((l0.length : Int) : Int).toNat 0) := ⟨_, rfl⟩
   replace H : (impl_turned.l0 k l0 y462 l0 (l0.length : Int) 0) = some r := by first | (rw [hy462]; with_reducible exact H) | (have H2_ := (Option.bind_some _ _).symm.trans H; rw [hy462]; with_reducible exact H2_) | (have H2_ := (Option.bind_some _ _).symm.trans H; with_reducible exact H2_) | with_reducible exact H | (rw [hy462]; exact H) | exact H
   have Ny462 := Aside0.mk hy462
   clear hy462
   have H' := Aside0.mk H
   clear H
   go_enter Try.func160, Try.ntmps160
   go_wp2_with (first | ((with_reducible refine gate_dst (N := 8) rfl ?_); refine Kd.R_make (Kd.int .i64) _ 3 rfl (N := 8) rfl 24 _ _ rfl (l0.length : Int) rfl rfl Try.underlying24 (.int .i64 0) 8 info3 rfl (by decide) (by omega) 0 (ok := fun _ => True) (okp := fun _ => True) rfl (fun _ hk => hk) trivial (of_decide_eq_true (by first | (with_reducible assumption) | assumption)) (Nat.le_trans (Nat.mul_le_mul_right _ (of_decide_eq_true (by first | (with_reducible assumption) | assumption) : (l0.length : Int).toNat ≤ 35184372088832)) (by omega)) (Below.refl _ _) (Nat.le_refl _) ?_; intro v463 w4 ho5 hb hg_ hnew_; clear hg_ hnew_; (first | rw [← Ny462.out] at ho5 | (simp only [Int.reduceToNat] at ho5; rw [← Ny462.out] at ho5)); have HO464 := lowR ho5 HB; replace HB := upB HB hb; clear hb ho5))
   go_loopg [11] k (fun kq v11 w' => ∃ (x3_1 : List Int) (x11_1 : Int), v11 = .int .i64 x11_1 ∧ Aside0 (impl_turned.l0 kq l0 x3_1 l0 (l0.length : Int) x11_1 = some r) ∧ Aside0 (kq ≤ k) ∧ Aside0 (Kd.R (Kd.int .i64) 3 w' w.heap.size (fun _ => True) v463 x3_1) ∧ Aside0 (Below w.heap.size w w'))
   case atStart => exact ⟨(y462), (0), eqd, H', ⟨Nat.le_refl _⟩, ⟨atR HO464⟩, ⟨atB HB⟩⟩
   case round =>
    clear H'
    try clear c1
    try clear c2
    try clear c2b0
    try clear c2b1
    try clear p2
    try clear c3
    try clear c3b0
    try clear c3b1
    obtain ⟨x3_1, x11_1, rfl, HA, HK1, HO_3, HB⟩ := hrel
    cases gk with
    | zero => exact absurd HA.out (by simp [impl_turned.l0])
    | succ k1 =>
     have H := HA.out
     clear HA
     simp only [impl_turned.l0] at H
     by_cases c6 : x11_1 < (l0.length : Int)
     ·rw [if_pos c6] at H
      have c6b0 : decide (x11_1 < (l0.length : Int)) = true := decide_eq_true c6
      clear c6
      by_cases c7 : 0 ≤ x11_1
      ·rw [if_pos c7] at H
       have c7b0 : decide (0 ≤ x11_1) = true := decide_eq_true c7
       clear c7
       by_cases c8 : x11_1 < (l0.length : Int)
       ·rw [if_pos c8] at H
        have c8b0 : decide (x11_1 < (l0.length : Int)) = true := decide_eq_true c8
        clear c8
        by_cases c9 : 0 ≤ (rd l0 x11_1)
        ·rw [if_pos c9] at H
         have c9b0 : decide (0 ≤ (rd l0 x11_1)) = true := decide_eq_true c9
         clear c9
         by_cases c10 : (rd l0 x11_1) < (x3_1.length : Int)
         ·rw [if_pos c10] at H
          have c10b0 : decide ((rd l0 x11_1) < (x3_1.length : Int)) = true := decide_eq_true c10
          clear c10
          obtain ⟨y466, hy466⟩ : ∃ y_ : List Int, y_ = (x3_1.set ((rd l0 x11_1) : Int).toNat (wrap64 ((wrap64 ((l0.length : Int) - 1)) - x11_1))) := ⟨_, rfl⟩
          replace H : (impl_turned.l0 k1 l0 y466 l0 (l0.length : Int) (wrap64 (x11_1 + 1))) = some r := by first | (rw [hy466]; with_reducible exact H) | (have H2_ := (Option.bind_some _ _).symm.trans H; rw [hy466]; with_reducible exact H2_) | (have H2_ := (Option.bind_some _ _).symm.trans H; with_reducible exact H2_) | with_reducible exact H | (rw [hy466]; exact H) | exact H
          have Ny466 := Aside0.mk hy466
          clear hy466
          have H' := Aside0.mk H
          clear H
          have p465 : 0 ≤ (x11_1 : Int) := ofd
          have q465 : x11_1 < (l0.length : Int) := ofd
          obtain ⟨ad465, e465, hx465_0⟩ := Kd.at_int HR0.out x11_1 p465 q465
          cases e465
          (try replace hx465_0 := (HB.out.cell (World.block_lt_of_cell? w _ hx465_0)).trans hx465_0)
          replace p465 := eq_true p465
          replace q465 := eq_true q465
          have p11 : 0 ≤ ((rd l0 x11_1) : Int) := ofd
          have q11 : ((rd l0 x11_1) : Int) < ((x3_1.length : Int) : Int) := ofd
          obtain ⟨go11, co11, eo11, gb11, gl11, cl11, HG11⟩ := Kd.R_form HO_3.out (by omega)
          (first | cases eo11 | (injection eo11 with ea_ en_ ec_; (first | subst ea_ | (injection ea_ with ea_; subst ea_)); subst ec_; clear en_))
          have GB11 := Aside0.mk gb11
          have GG11 := Aside0.mk HG11
          clear gb11 gl11 HG11
          obtain ⟨hx11_0, hf11_0⟩ := Kd.R_celln 0 HO_3.out ((rd l0 x11_1) : Int) p11 q11
          replace p11 := eq_true p11
          replace q11 := eq_true q11
          have HP12 := Kd.R_putg HO_3.out ((rd l0 x11_1) : Int) (wrap64 ((wrap64 ((l0.length : Int) - 1)) - x11_1))
          go_wp2_with (first | ((with_reducible refine gate_store (t := 3) (p := 23) rfl ?_); refine store_event (t := 3) (p := 23) (v := ?vo_w13) (w1 := (wr.setCell ⟨go11, ((rd l0 x11_1) : Int).toNat, none⟩ (.int .i64 (wrap64 ((wrap64 ((l0.length : Int) - 1)) - x11_1))))) ?hg ?ho ?hn ?hr ?_; (case ho => rfl); (case hg => rfl); (case hn => rfl); (case hr => first | (go_simp; done) | (go_simp; rfl)); intro w13 hw; have hg : wr.grownBy w13 (some go11) := (by rw [hw]; exact HP12.2); have hp_ : Kd.R (Kd.int .i64) 3 w13 w.heap.size (fun _ => True) (.slice (some ⟨go11, 0, none⟩) x3_1.length co11) y466 := (by rw [hw, Ny466.out]; exact HP12.1); clear HP12; replace HO_3 := Aside0.mk (hp_); replace HB := Aside0.mk ((by rw [hw]; exact below_set (HB.out) GB11.out : Below w.heap.size w w13)); clear hg hw hp_))
          go_roundg k1
          case measure => have := HK1.out; omega
          case rel => exact ⟨(y466), (wrap64 (x11_1 + 1)), eqd, H', ⟨by have := HK1.out; omega⟩, ⟨atR HO_3⟩, ⟨atB HB⟩⟩
         ·rw [if_neg c10] at H
          exact absurd H (by simp)
        ·rw [if_neg c9] at H
         exact absurd H (by simp)
       ·rw [if_neg c8] at H
        exact absurd H (by simp)
      ·rw [if_neg c7] at H
       exact absurd H (by simp)
     ·rw [if_neg c6] at H
      have c6b0 : decide (x11_1 < (l0.length : Int)) = false := decide_eq_false c6
      clear c6
      obtain rfl := Option.some.inj H
      go_wp2
      go_ret
      exact ⟨_, eqr, atR HO_3, atB HB⟩
  ·rw [if_neg c3] at H
   exact absurd H (by simp)
 ·rw [if_neg c2] at H
  exact absurd H (by simp)

noncomputable def impl_turned.L0 (x0 : List Int) (x3 : List Int) (x9 : List Int) (x10 : Int) (x11 : Int) : Option (List Int) := lim fun k => impl_turned.l0 k x0 x3 x9 x10 x11
theorem impl_turned.L0_lim (x0 : List Int) (x3 : List Int) (x9 : List Int) (x10 : Int) (x11 : Int) : Lim (fun k => impl_turned.l0 k x0 x3 x9 x10 x11) (impl_turned.L0 x0 x3 x9 x10 x11) := Lim.of fun k => (impl_turned.mono_l k) x0 x3 x9 x10 x11
noncomputable def impl_turned.F (l0 : List Int) : Option (List Int) := lim fun k => impl_turned.f k l0
theorem impl_turned.F_lim (l0 : List Int) : Lim (fun k => impl_turned.f k l0) (impl_turned.F l0) := Lim.of fun k => impl_turned.mono l0 k
theorem impl_turned.L0_eq (x0 : List Int) (x3 : List Int) (x9 : List Int) (x10 : Int) (x11 : Int) : impl_turned.L0 x0 x3 x9 x10 x11 = (if x11 < x10 then (if 0 ≤ x11 then (if x11 < (x9.length : Int) then (if 0 ≤ (rd x9 x11) then (if (rd x9 x11) < (x3.length : Int) then (impl_turned.L0 x0 (x3.set ((rd x9 x11) : Int).toNat (wrap64 ((wrap64 ((x0.length : Int) - 1)) - x11))) x9 x10 (wrap64 (x11 + 1))) else (none)) else (none)) else (none)) else (none)) else (some x3)) :=
 Lim.step (f := fun k => impl_turned.l0 (k + 1) x0 x3 x9 x10 x11) (impl_turned.L0_lim x0 x3 x9 x10 x11) (fun _ => rfl) (by
  simp only [impl_turned.l0]
  repeat' (first | (with_reducible first | exact Lim.const _ | exact impl_turned.L0_lim _ _ _ _ _ | refine Lim.ite ?_ ?_ | refine Lim.bind ?_ (fun _ => ?_))))
theorem impl_turned.F_eq (l0 : List Int) : impl_turned.F l0 = (if 0 ≤ (l0.length : Int) then (if ((l0.length : Int) : Int).toNat ≤ 35184372088832 then (impl_turned.L0 l0 (List.replicate ((l0.length : Int) : Int).toNat 0) l0 (l0.length : Int) 0) else (none)) else (none)) :=
 Lim.unique (impl_turned.F_lim l0) (by
  unfold impl_turned.f
  repeat' (first | (with_reducible first | exact Lim.const _ | exact impl_turned.L0_lim _ _ _ _ _ | refine Lim.ite ?_ ?_ | refine Lim.bind ?_ (fun _ => ?_))))

end Go.Proofs.Ytadhfbchilaklaa.Fn
namespace Go.Proofs.Ytadhfbchilaklaa.Fn
open Go.RowKit Go.Proofs.YtadhfbchilaklaaW.PrintWords Go.Proofs.YtadhfbchilaklaaW.PrintLast Go.Proofs.YtadhfbchilaklaaW.PrintMore
attribute [local go_sem] max2_int min2_int max_two min_two max_three min_three max_four min_four   -- for this text's walks alone
set_option linter.unusedVariables false
set_option linter.unusedSimpArgs false

/-! ### slices_Reverse_int_int: function 245 -/
def slices_Reverse_int_int.l0 : Nat → List Int → Int → Int → Option (List Int)
 | 0, _, _, _ => none
 | k + 1, x0, x2, x3 => if x2 < x3 then (if 0 ≤ x3 then (if x3 < (x0.length : Int) then (if 0 ≤ x2 then (if x2 < (x0.length : Int) then (slices_Reverse_int_int.l0 k ((x0.set (x2 : Int).toNat (rd x0 x3)).set (x3 : Int).toNat (rd x0 x2)) (wrap64 (x2 + 1)) (wrap64 (x3 - 1))) else (none)) else (none)) else (none)) else (none)) else (some x0)
def slices_Reverse_int_int.f (k : Nat) (l0 : List Int) : Option (List Int) := slices_Reverse_int_int.l0 k l0 0 (wrap64 ((l0.length : Int) - 1))
theorem slices_Reverse_int_int.mono_l : ∀ k, (∀ y0 y1 y2, LeO (slices_Reverse_int_int.l0 k y0 y1 y2) (slices_Reverse_int_int.l0 (k + 1) y0 y1 y2))
 | 0 => fun _ _ _ r h => by simp [slices_Reverse_int_int.l0] at h
 | k + 1 => by
  have ih0 := slices_Reverse_int_int.mono_l k
  ·intro y0 y1 y2
   unfold slices_Reverse_int_int.l0
   repeat' (first | (with_reducible first | exact ih0 _ _ _ | exact LeO.refl _ | exact LeO.none _ | refine LeO.ite ?_ ?_ | refine LeO.bind ?_ (fun _ => ?_)) | exact ih0 _ _ _ | exact LeO.none _ | refine LeO.ite ?_ ?_ | refine LeO.bind ?_ (fun _ => ?_))
theorem slices_Reverse_int_int.mono : ∀ a0 k, LeO (slices_Reverse_int_int.f k a0) (slices_Reverse_int_int.f (k + 1) a0) := by
 intro a0 k
 have ih0 := slices_Reverse_int_int.mono_l k
 unfold slices_Reverse_int_int.f
 repeat' (first | (with_reducible first | exact ih0 _ _ _ | exact LeO.refl _ | exact LeO.none _ | refine LeO.ite ?_ ?_ | refine LeO.bind ?_ (fun _ => ?_)) | exact ih0 _ _ _ | exact LeO.none _ | refine LeO.ite ?_ ?_ | refine LeO.bind ?_ (fun _ => ?_))
def slices_Reverse_int_int.T3 : Bool × List (List Nat × List Nat) := (true, [([], []), ([], []), ([], []), ([], []), ([], []), ([], []), ([4, 5], [4, 5]), ([6], [6]), ([], []), ([], []), ([8, 9], [8, 9]), ([10], [10]), ([0, 1, 0, 1, 4, 5, 6, 7, 11], [0, 1]), ([12, 7, 0, 1, 4, 5, 6, 7, 11], [7, 12]), ([2, 3, 0, 1, 2, 3, 4, 5, 6, 7, 8, 9, 10, 11, 12, 13], [2, 3]), ([14, 11, 13, 0, 1, 2, 3, 4, 5, 6, 7, 8, 9, 10, 11, 12, 13], [11, 14])])
def slices_Reverse_int_int.B3 : List Nat := [0, 0, 0, 0, 0, 0, 48, 112, 0, 0, 768, 1792, 4083, 8179, 16383, 32767]
theorem slices_Reverse_int_int.tab3 : rtab .any (opsOf Try.f245 3) = slices_Reverse_int_int.T3 := by kernel_rfl
theorem slices_Reverse_int_int.bits3 : waitsOk slices_Reverse_int_int.T3.2 slices_Reverse_int_int.B3 = true := by kernel_rfl
set_option maxHeartbeats 8000000 in
set_option maxRecDepth 100000 in
theorem slices_Reverse_int_int.calls (k : Nat) (P0_ : Nat → Prop) (u9000_ : Value) (l0 : List Int) (r : List Int) (w0 w : World) (hB : Below w0.heap.size w0 w) (ho0 : Kd.R (Kd.int .i64) 3 w w0.heap.size P0_ u9000_ l0) (h : slices_Reverse_int_int.f k l0 = some r) :
  Calls Try.prog 245 #[u9000_] w fun e w' => e = .returned (.tuple #[]) ∧ Kd.R (Kd.int .i64) 3 w' w0.heap.size (fun k_ => (P0_ k_ ∨ w.heap.size ≤ k_)) u9000_ r ∧ Below w0.heap.size w0 w' ∧ Kept w w' (fun k_ => P0_ k_) := by
 have HO0 := Aside0.mk (show Kd.R (Kd.int .i64) 3 w w0.heap.size (fun k_ => (P0_ k_ ∨ w.heap.size ≤ k_)) u9000_ l0 from Kd.R_mono ho0 (fun k_ hk => (.inl hk)))
 have HK := Aside0.mk (Kept.refl w (fun k_ => P0_ k_))
 have HW0 := Aside0.mk hB.size
 have HB := Aside0.mk hB
 clear hB
 have H := h
 unfold slices_Reverse_int_int.f at H
 clear h
 have H' := Aside0.mk H
 clear H
 obtain ⟨Ao2, co2, eo2⟩ := Kd.R_slice HO0.out
 subst eo2
 go_enter Try.func245, Try.ntmps245
 go_wp2
 go_loopg [2, 3] k (fun kq v2 v3 w' => ∃ (x0_1 : List Int) (x2_1 : Int) (x3_1 : Int), v2 = .int .i64 x2_1 ∧ v3 = .int .i64 x3_1 ∧ Aside0 (slices_Reverse_int_int.l0 kq x0_1 x2_1 x3_1 = some r) ∧ Aside0 (kq ≤ k) ∧ Aside0 (Kd.R (Kd.int .i64) 3 w' w0.heap.size (fun k_ => (P0_ k_ ∨ w.heap.size ≤ k_)) (.slice Ao2 l0.length co2) x0_1) ∧ Aside0 (Kept w w' (fun k_ => P0_ k_)) ∧ Aside0 (Below w0.heap.size w0 w'))
 case atStart => exact ⟨(l0), (0), (wrap64 ((l0.length : Int) - 1)), eqd, eqd, H', ⟨Nat.le_refl _⟩, ⟨atR HO0⟩, ⟨by repeat (first | (with_reducible first | exact HK.out | apply Kept.alloc | apply Kept.drewN | apply Kept.drew) | exact HK.out)⟩, ⟨atB HB⟩⟩
 case round =>
  clear H'
  try clear c2
  try clear p2
  obtain ⟨x0_1, x2_1, x3_1, rfl, rfl, HA, HK1, HO_0, HK, HB⟩ := hrel
  have hl0_1 := (Kd.R_reads' HO_0.out).1
  rw [hl0_1] at HO_0
  (try simp only [hl0_1])
  cases gk with
  | zero => exact absurd HA.out (by simp [slices_Reverse_int_int.l0])
  | succ k1 =>
   have H := HA.out
   clear HA
   simp only [slices_Reverse_int_int.l0] at H
   by_cases c3 : x2_1 < x3_1
   ·rw [if_pos c3] at H
    have c3b0 : decide (x2_1 < x3_1) = true := decide_eq_true c3
    clear c3
    by_cases c4 : 0 ≤ x3_1
    ·rw [if_pos c4] at H
     have c4b0 : decide (0 ≤ x3_1) = true := decide_eq_true c4
     clear c4
     by_cases c5 : x3_1 < (x0_1.length : Int)
     ·rw [if_pos c5] at H
      have c5b0 : decide (x3_1 < (x0_1.length : Int)) = true := decide_eq_true c5
      clear c5
      by_cases c6 : 0 ≤ x2_1
      ·rw [if_pos c6] at H
       have c6b0 : decide (0 ≤ x2_1) = true := decide_eq_true c6
       clear c6
       by_cases c7 : x2_1 < (x0_1.length : Int)
       ·rw [if_pos c7] at H
        have c7b0 : decide (x2_1 < (x0_1.length : Int)) = true := decide_eq_true c7
        clear c7
        obtain ⟨y487, hy487⟩ : ∃ y_ : List Int, y_ = (x0_1.set (x2_1 : Int).toNat (rd x0_1 x3_1)) := ⟨_, rfl⟩
        replace H : (slices_Reverse_int_int.l0 k1 (y487.set (x3_1 : Int).toNat (rd x0_1 x2_1)) (wrap64 (x2_1 + 1)) (wrap64 (x3_1 - 1))) = some r := by first | (rw [hy487]; with_reducible exact H) | (have H2_ := (Option.bind_some _ _).symm.trans H; rw [hy487]; with_reducible exact H2_) | (have H2_ := (Option.bind_some _ _).symm.trans H; with_reducible exact H2_) | with_reducible exact H | (rw [hy487]; exact H) | exact H
        have Ny487 := Aside0.mk hy487
        clear hy487
        obtain ⟨y488, hy488⟩ : ∃ y_ : List Int, y_ = (y487.set (x3_1 : Int).toNat (rd x0_1 x2_1)) := ⟨_, rfl⟩
        replace H : (slices_Reverse_int_int.l0 k1 y488 (wrap64 (x2_1 + 1)) (wrap64 (x3_1 - 1))) = some r := by first | (rw [hy488]; with_reducible exact H) | (have H2_ := (Option.bind_some _ _).symm.trans H; rw [hy488]; with_reducible exact H2_) | (have H2_ := (Option.bind_some _ _).symm.trans H; with_reducible exact H2_) | with_reducible exact H | (rw [hy488]; exact H) | exact H
        have Ny488 := Aside0.mk hy488
        clear hy488
        have H' := Aside0.mk H
        clear H
        try go_wp2
        have n0_ := Aside0.mk (Kd.R_drew HO_0.out)
        have n1_ := Aside0.mk (Kept.drew HK.out)
        have n2_ := Aside0.mk (below_drew1 HB.out)
        clear HO_0
        clear HK
        clear HB
        have HO_0 := n0_
        have HK := n1_
        have HB := n2_
        clear n0_ n1_ n2_
        have p485 : 0 ≤ (x3_1 : Int) := ofd
        have q485 : x3_1 < (x0_1.length : Int) := ofd
        obtain ⟨ad485, e485, hx485_0⟩ := Kd.at_int (Kd.R_reads' HO_0.out).2.2 x3_1 p485 q485
        cases e485
        replace p485 := eq_true p485
        replace q485 := eq_true q485
        have p486 : 0 ≤ (x2_1 : Int) := ofd
        have q486 : x2_1 < (x0_1.length : Int) := ofd
        obtain ⟨ad486, e486, hx486_0⟩ := Kd.at_int (Kd.R_reads' HO_0.out).2.2 x2_1 p486 q486
        obtain rfl : ad485 = ad486 := (by injection e486)
        replace p486 := eq_true p486
        replace q486 := eq_true q486
        have p8 : 0 ≤ (x2_1 : Int) := ofd
        have q8 : (x2_1 : Int) < ((x0_1.length : Int) : Int) := ofd
        obtain ⟨go8, co8, eo8, gb8, gl8, cl8, HG8⟩ := Kd.R_form HO_0.out (by omega)
        (first | cases eo8 | (injection eo8 with ea_ en_ ec_; (first | subst ea_ | (injection ea_ with ea_; subst ea_)); subst ec_; clear en_))
        have GB8 := Aside0.mk gb8
        have GG8 := Aside0.mk HG8
        clear gb8 gl8 HG8
        have HMgo8 := Aside0.mk (show (P0_ go8 ∨ w.heap.size ≤ go8) from (HO_0.out.1 _ rfl))
        (first | simp only [add_plain] at hx485_0 | skip)
        (first | simp only [add_plain] at hx486_0 | skip)
        obtain ⟨hx8_0, hf8_0⟩ := Kd.R_celln 0 HO_0.out (x2_1 : Int) p8 q8
        replace p8 := eq_true p8
        replace q8 := eq_true q8
        have HP11 := Kd.R_putn HO_0.out (x2_1 : Int) (rd x0_1 x3_1)
        rw [← Ny487.out] at HP11
        have HQ11 := Aside0.mk HP11
        clear HP11
        have p9 : 0 ≤ (x3_1 : Int) := ofd
        have q9 : (x3_1 : Int) < ((x0_1.length : Int) : Int) := ofd
        obtain ⟨hx9_0, hf9_0⟩ := Kd.R_celln 0 HQ11.out (x3_1 : Int) p9 q9
        replace p9 := eq_true p9
        replace q9 := eq_true q9
        have HP12 := Kd.R_putn HQ11.out (x3_1 : Int) (rd x0_1 x2_1)
        rw [← Ny488.out] at HP12
        have HQ12 := Aside0.mk HP12
        clear HP12
        refine start_ (n := 16) (S := fun w' => w'.cell? ⟨go8, (x3_1).toNat, none⟩ = some (.int .i64 (rd x0_1 x3_1)) ∧ w'.cell? ⟨go8, (x2_1).toNat, none⟩ = some (.int .i64 (rd x0_1 x2_1))) (ds := [13, 15]) #[false, false, false, false, false, false, false, false, false, false, false, false, false, false, false, false] (by kernel_rfl) rfl rfl ⟨hx485_0, hx486_0⟩ (fun hHeld => ?_); refine with_tabW slices_Reverse_int_int.tab3 slices_Reverse_int_int.bits3 (fun HT_ HW_ => ?_)
        generalize wr.drew = w10 at HO_0 HK HB GG8 HQ11 HQ12 hf8_0 hf9_0 hx485_0 hx486_0 hx8_0 hx9_0 hHeld ⊢
        refine pure_ (i := 0) (N := some 14) (v := ?_) (a' := ?_) #[true, false, false, false, false, false, false, false, false, false, false, false, false, false, false, false] rfl rfl (any_of HT_.out (by kernel_rfl)) (fun _ _ _ h => h) (Or.inl ⟨by rfl, ?_⟩) ?_ ?_
        rotate_left
        ·intro w'
         go_simp
         with_reducible rfl
        rotate_left
        ·simp only [Act.put, List.setIfInBounds_toArray, List.set_cons_zero, List.set_cons_succ, i64_w, i32_w]
         rfl
        refine pure_ (i := 1) (N := some 15) (v := ?_) (a' := ?_) #[true, true, false, false, false, false, false, false, false, false, false, false, false, false, false, false] rfl rfl (any_of HT_.out (by kernel_rfl)) (fun _ _ _ h => h) (Or.inl ⟨by rfl, ?_⟩) ?_ ?_
        rotate_left
        ·intro w'
         go_simp
         with_reducible rfl
        rotate_left
        ·simp only [Act.put, List.setIfInBounds_toArray, List.set_cons_zero, List.set_cons_succ, i64_w, i32_w]
         rfl
        refine pure_ (i := 2) (N := some 16) (v := ?_) (a' := ?_) #[true, true, true, false, false, false, false, false, false, false, false, false, false, false, false, false] rfl rfl (any_of HT_.out (by kernel_rfl)) (fun _ _ _ h => h) (Or.inl ⟨by rfl, ?_⟩) ?_ ?_
        rotate_left
        ·intro w'
         go_simp
         with_reducible rfl
        rotate_left
        ·simp only [Act.put, List.setIfInBounds_toArray, List.set_cons_zero, List.set_cons_succ, i64_w, i32_w]
         rfl
        refine pure_ (i := 3) (N := some 17) (v := ?_) (a' := ?_) #[true, true, true, true, false, false, false, false, false, false, false, false, false, false, false, false] rfl rfl (any_of HT_.out (by kernel_rfl)) (fun _ _ _ h => h) (Or.inl ⟨by rfl, ?_⟩) ?_ ?_
        rotate_left
        ·intro w'
         go_simp
         with_reducible rfl
        rotate_left
        ·simp only [Act.put, List.setIfInBounds_toArray, List.set_cons_zero, List.set_cons_succ, i64_w, i32_w]
         rfl
        refine pure_ (i := 4) (N := some 18) (v := ?_) (a' := ?_) #[true, true, true, true, true, false, false, false, false, false, false, false, false, false, false, false] rfl rfl (any_of HT_.out (by kernel_rfl)) (fun _ _ _ h => h) (Or.inl ⟨by rfl, ?_⟩) ?_ ?_
        rotate_left
        ·intro w'
         go_simp
         with_reducible rfl
        rotate_left
        ·simp only [Act.put, List.setIfInBounds_toArray, List.set_cons_zero, List.set_cons_succ, i64_w, i32_w]
         rfl
        refine pure_ (i := 5) (N := some 19) (v := ?_) (a' := ?_) #[true, true, true, true, true, true, false, false, false, false, false, false, false, false, false, false] rfl rfl (any_of HT_.out (by kernel_rfl)) (fun _ _ _ h => h) (Or.inl ⟨by rfl, ?_⟩) ?_ ?_
        rotate_left
        ·intro w'
         go_simp
         with_reducible rfl
        rotate_left
        ·simp only [Act.put, List.setIfInBounds_toArray, List.set_cons_zero, List.set_cons_succ, i64_w, i32_w]
         rfl
        refine pure_ (i := 6) (N := some 20) (v := ?_) (a' := ?_) #[true, true, true, true, true, true, true, false, false, false, false, false, false, false, false, false] rfl rfl (any_of HT_.out (by kernel_rfl)) (fun _ _ _ h => h) (Or.inl ⟨by rfl, ?_⟩) ?_ ?_
        rotate_left
        ·intro w'
         go_simp
         with_reducible rfl
        rotate_left
        ·simp only [Act.put, List.setIfInBounds_toArray, List.set_cons_zero, List.set_cons_succ, i64_w, i32_w]
         rfl
        refine pure_ (i := 8) (N := some 22) (v := ?_) (a' := ?_) #[true, true, true, true, true, true, true, false, true, false, false, false, false, false, false, false] rfl rfl (any_of HT_.out (by kernel_rfl)) (fun _ _ _ h => h) (Or.inl ⟨by rfl, ?_⟩) ?_ ?_
        rotate_left
        ·intro w'
         go_simp
         with_reducible rfl
        rotate_left
        ·simp only [Act.put, List.setIfInBounds_toArray, List.set_cons_zero, List.set_cons_succ, i64_w, i32_w]
         rfl
        refine pure_ (i := 9) (N := some 23) (v := ?_) (a' := ?_) #[true, true, true, true, true, true, true, false, true, true, false, false, false, false, false, false] rfl rfl (any_of HT_.out (by kernel_rfl)) (fun _ _ _ h => h) (Or.inl ⟨by rfl, ?_⟩) ?_ ?_
        rotate_left
        ·intro w'
         go_simp
         with_reducible rfl
        rotate_left
        ·simp only [Act.put, List.setIfInBounds_toArray, List.set_cons_zero, List.set_cons_succ, i64_w, i32_w]
         rfl
        refine pure_ (i := 10) (N := some 24) (v := ?_) (a' := ?_) #[true, true, true, true, true, true, true, false, true, true, true, false, false, false, false, false] rfl rfl (any_of HT_.out (by kernel_rfl)) (fun _ _ _ h => h) (Or.inl ⟨by rfl, ?_⟩) ?_ ?_
        rotate_left
        ·intro w'
         go_simp
         with_reducible rfl
        rotate_left
        ·simp only [Act.put, List.setIfInBounds_toArray, List.set_cons_zero, List.set_cons_succ, i64_w, i32_w]
         rfl
        refine take_ (i := 7) (N := some 21) (v := ?_) (a' := ?_) #[true, true, true, true, true, true, true, true, true, true, true, false, false, false, false, false] rfl rfl (take_ofW HT_.out HW_.out (by kernel_rfl)) (fun _ _ _ h => h) (Or.inl ⟨by rfl, ?_⟩) hHeld ?_ ?_
        rotate_left
        ·rintro w' ⟨s0, s1⟩
         go_simp
         with_reducible rfl
        rotate_left
        ·simp only [Act.put, List.setIfInBounds_toArray, List.set_cons_zero, List.set_cons_succ, i64_w, i32_w]
         rfl
        refine take_ (i := 11) (N := some 25) (v := ?_) (a' := ?_) #[true, true, true, true, true, true, true, true, true, true, true, true, false, false, false, false] rfl rfl (take_ofW HT_.out HW_.out (by kernel_rfl)) (fun _ _ _ h => h) (Or.inl ⟨by rfl, ?_⟩) hHeld ?_ ?_
        rotate_left
        ·rintro w' ⟨s0, s1⟩
         go_simp
         with_reducible rfl
        rotate_left
        ·simp only [Act.put, List.setIfInBounds_toArray, List.set_cons_zero, List.set_cons_succ, i64_w, i32_w]
         rfl
        refine pure_ (i := 12) (N := some 26) (v := ?_) (a' := ?_) #[true, true, true, true, true, true, true, true, true, true, true, true, true, false, false, false] rfl rfl (any_of HT_.out (by kernel_rfl)) (fun _ _ _ h => h) (Or.inl ⟨by rfl, ?_⟩) ?_ ?_
        rotate_left
        ·intro w'
         go_simp
         with_reducible rfl
        rotate_left
        ·simp only [Act.put, List.setIfInBounds_toArray, List.set_cons_zero, List.set_cons_succ, i64_w, i32_w]
         rfl
        refine last_ (i := 13) (N := none) #[true, true, true, true, true, true, true, true, true, true, true, true, true, true, false, false] rfl rfl (one_of HT_.out (by kernel_rfl)) (by decide) (fun K hK => ?_)
        refine skip_ (w1 := ?_) (by rfl) rfl ?_ ?_
        rotate_left
        ·go_simp
         rfl
        refine hK.out _ _ ?_
        clear hK K
        refine pure_ (i := 14) (N := some 27) (v := ?_) (a' := ?_) #[true, true, true, true, true, true, true, true, true, true, true, true, true, true, true, false] rfl rfl (any_of HT_.out (by kernel_rfl)) (fun _ _ _ h => h) (Or.inl ⟨by rfl, ?_⟩) ?_ ?_
        rotate_left
        ·intro w'
         go_simp
         with_reducible rfl
        rotate_left
        ·simp only [Act.put, List.setIfInBounds_toArray, List.set_cons_zero, List.set_cons_succ, i64_w, i32_w]
         rfl
        refine last_ (i := 15) (N := none) #[true, true, true, true, true, true, true, true, true, true, true, true, true, true, true, true] rfl rfl (one_of HT_.out (by kernel_rfl)) (by decide) (fun K hK => ?_)
        refine skip_ (w1 := ?_) (by rfl) rfl ?_ ?_
        rotate_left
        ·go_simp
         rfl
        refine hK.out _ _ ?_
        clear hK K
        refine done_ (done_of HT_.out (by kernel_rfl)) ?_
        try go_wp2
        (try simp only [← hl0_1])
        go_roundg k1
        case measure => have := HK1.out; omega
        case rel => exact ⟨(y488), (wrap64 (x2_1 + 1)), (wrap64 (x3_1 - 1)), eqd, eqd, H', ⟨by have := HK1.out; omega⟩, ⟨by (try simp only [hl0_1]); (with_reducible repeat (first | apply Kd.R_alloc | apply Kd.R_drewN | apply Kd.R_drew)); exact HQ12.out⟩, ⟨by repeat (first | (with_reducible first | exact HK.out | apply Kept.alloc | apply Kept.drewN | apply Kept.drew | refine Kept.setCell ?_ HMgo8.out _ | refine Kept.setCell ?_ HMgo8.out _) | exact HK.out)⟩, ⟨by repeat (first | (with_reducible first | exact HB.out | apply below_alloc | apply pw_below_drewN | apply below_drew1 | refine below_set ?_ GB8.out | refine below_set ?_ GB8.out) | exact HB.out)⟩⟩
       ·rw [if_neg c7] at H
        exact absurd H (by simp)
      ·rw [if_neg c6] at H
       exact absurd H (by simp)
     ·rw [if_neg c5] at H
      exact absurd H (by simp)
    ·rw [if_neg c4] at H
     exact absurd H (by simp)
   ·rw [if_neg c3] at H
    have c3b0 : decide (x2_1 < x3_1) = false := decide_eq_false c3
    clear c3
    obtain rfl := Option.some.inj H
    go_wp2
    first | go_end0 | ((try simp only [Exit.inBlock, Exit.then]); refine bodyPost_ret (results_none rfl _ _ _) rfl ?_)
    exact ⟨eqr, (by first | exact (atR HO_0) | (simp only [hl0_1]; exact (atR HO_0))), atB HB, by repeat (first | (with_reducible first | exact HK.out | apply Kept.alloc | apply Kept.drewN | apply Kept.drew) | exact HK.out)⟩

noncomputable def slices_Reverse_int_int.L0 (x0 : List Int) (x2 : Int) (x3 : Int) : Option (List Int) := lim fun k => slices_Reverse_int_int.l0 k x0 x2 x3
theorem slices_Reverse_int_int.L0_lim (x0 : List Int) (x2 : Int) (x3 : Int) : Lim (fun k => slices_Reverse_int_int.l0 k x0 x2 x3) (slices_Reverse_int_int.L0 x0 x2 x3) := Lim.of fun k => (slices_Reverse_int_int.mono_l k) x0 x2 x3
noncomputable def slices_Reverse_int_int.F (l0 : List Int) : Option (List Int) := lim fun k => slices_Reverse_int_int.f k l0
theorem slices_Reverse_int_int.F_lim (l0 : List Int) : Lim (fun k => slices_Reverse_int_int.f k l0) (slices_Reverse_int_int.F l0) := Lim.of fun k => slices_Reverse_int_int.mono l0 k
theorem slices_Reverse_int_int.L0_eq (x0 : List Int) (x2 : Int) (x3 : Int) : slices_Reverse_int_int.L0 x0 x2 x3 = (if x2 < x3 then (if 0 ≤ x3 then (if x3 < (x0.length : Int) then (if 0 ≤ x2 then (if x2 < (x0.length : Int) then (slices_Reverse_int_int.L0 ((x0.set (x2 : Int).toNat (rd x0 x3)).set (x3 : Int).toNat (rd x0 x2)) (wrap64 (x2 + 1)) (wrap64 (x3 - 1))) else (none)) else (none)) else (none)) else (none)) else (some x0)) :=
 Lim.step (f := fun k => slices_Reverse_int_int.l0 (k + 1) x0 x2 x3) (slices_Reverse_int_int.L0_lim x0 x2 x3) (fun _ => rfl) (by
  simp only [slices_Reverse_int_int.l0]
  repeat' (first | (with_reducible first | exact Lim.const _ | exact slices_Reverse_int_int.L0_lim _ _ _ | refine Lim.ite ?_ ?_ | refine Lim.bind ?_ (fun _ => ?_))))
theorem slices_Reverse_int_int.F_eq (l0 : List Int) : slices_Reverse_int_int.F l0 = (slices_Reverse_int_int.L0 l0 0 (wrap64 ((l0.length : Int) - 1))) :=
 Lim.unique (slices_Reverse_int_int.F_lim l0) (by
  unfold slices_Reverse_int_int.f
  repeat' (first | (with_reducible first | exact Lim.const _ | exact slices_Reverse_int_int.L0_lim _ _ _ | refine Lim.ite ?_ ?_ | refine Lim.bind ?_ (fun _ => ?_))))

end Go.Proofs.Ytadhfbchilaklaa.Fn
namespace Go.Proofs.Ytadhfbchilaklaa.Fn
open Go.RowKit Go.Proofs.YtadhfbchilaklaaW.PrintWords Go.Proofs.YtadhfbchilaklaaW.PrintLast Go.Proofs.YtadhfbchilaklaaW.PrintMore
attribute [local go_sem] max2_int min2_int max_two min_two max_three min_three max_four min_four   -- for this text's walks alone
set_option linter.unusedVariables false
set_option linter.unusedSimpArgs false

/-! ### impl_back: function 163 -/
def impl_back.f (k : Nat) (l0 : List Int) : Option (List Int) := (slices_Clone_int_int.f l0).bind fun t489 => ((slices_Reverse_int_int.f k t489).bind fun t492 => (some t492))
theorem impl_back.mono : ∀ a0 k, LeO (impl_back.f k a0) (impl_back.f (k + 1) a0) := by
 intro a0 k
 unfold impl_back.f
 repeat' (first | (with_reducible first | exact slices_Reverse_int_int.mono _ _ | exact LeO.refl _ | exact LeO.none _ | refine LeO.ite ?_ ?_ | refine LeO.bind ?_ (fun _ => ?_)) | exact slices_Reverse_int_int.mono _ _ | exact LeO.none _ | refine LeO.ite ?_ ?_ | refine LeO.bind ?_ (fun _ => ?_))
set_option maxHeartbeats 8000000 in
set_option maxRecDepth 100000 in
theorem impl_back.calls (k : Nat) (A0 : Option Addr) (c0 : Nat) (l0 : List Int) (r : List Int) (w : World) (hr0 : Kd.C (Kd.int .i64) w A0 l0.length l0) (hc0 : l0.length ≤ c0) (h : impl_back.f k l0 = some r) :
  Calls Try.prog 163 #[.slice A0 l0.length c0] w fun e w' => ∃ v0_ : Value, e = .returned (v0_) ∧ Kd.R (Kd.int .i64) 3 w' w.heap.size (fun _ => True) v0_ r ∧ Below w.heap.size w w' := by
 have HR0 := Aside0.mk hr0
 have HC0 := Aside0.mk hc0
 clear hr0 hc0
 have HB := Aside0.mk (Below.refl w.heap.size w)
 have H := h
 unfold impl_back.f at H
 clear h
 replace H := Option.bind_eq_some_iff.mp H
 obtain ⟨t489, A20, H⟩ := H
 replace H : ((slices_Reverse_int_int.f k t489).bind fun t492 => (some t492)) = some r := H
 have A2 := Aside0.mk A20
 clear A20
 replace H := Option.bind_eq_some_iff.mp H
 obtain ⟨t492, A30, H⟩ := H
 replace H : (some t492) = some r := H
 have A3 := Aside0.mk A30
 clear A30
 obtain rfl := Option.some.inj H
 go_enter Try.func163, Try.ntmps163
 go_wp2_with (first | ((with_reducible refine gate_callee (f := 165) rfl ?_); refine goesA (some 5) Try.func165 #[.slice A0 l0.length c0] ?_; (with_reducible refine (slices_Clone_int_int.calls _ _ l0 t489 _ ?side1 ?side2 A2.out).mono ?_); (case side1 => repeat (first | exact HR0.out | (with_reducible refine Kd.C_alloc ?_ _) | (with_reducible refine Kd.C_drewN ?_ _) | (with_reducible refine Kd.C_drew ?_))); (case side2 => exact HC0.out); rintro e w4 ⟨v490, rfl, ho0, hb⟩; refine ⟨_, rfl, ?_⟩; have HO491 := lowR ho0 HB; replace HB := upB HB hb; (try clear hb); (try clear hb2); (try clear hk); (try clear hi); (try clear ho0); obtain ⟨Ao5, co5, eo5⟩ := Kd.R_slice HO491.out; subst eo5) | ((with_reducible refine gate_callee (f := 245) rfl ?_); refine goesA (some 7) Try.func245 #[.slice Ao5 t489.length co5] ?_; (with_reducible refine (slices_Reverse_int_int.calls k (fun k_ => some k_ = (.slice Ao5 t489.length co5 : Value).ownBlock) (.slice Ao5 t489.length co5) t489 t492 w _ ?side1 ?side2 A3.out).mono ?_); (case side1 => exact atB HB); (case side2 => exact Kd.R_tight rfl HO491.out); rintro e w6 ⟨rfl, hy0, hb, hkp⟩; refine ⟨_, rfl, ?_⟩; replace HO491 := Aside0.mk (Kd.R_reok rfl hy0 (fun k_ e_ => HO491.out.1 k_ e_)); replace HB := Aside0.mk (hb); (try clear hb); (try clear hkp); (try clear hy0)))
 go_ret
 exact ⟨_, eqr, atR HO491, atB HB⟩

noncomputable def impl_back.F (l0 : List Int) : Option (List Int) := lim fun k => impl_back.f k l0
theorem impl_back.F_lim (l0 : List Int) : Lim (fun k => impl_back.f k l0) (impl_back.F l0) := Lim.of fun k => impl_back.mono l0 k
theorem impl_back.F_eq (l0 : List Int) : impl_back.F l0 = ((slices_Clone_int_int.f l0).bind fun t489 => ((slices_Reverse_int_int.F t489).bind fun t492 => (some t492))) :=
 Lim.unique (impl_back.F_lim l0) (by
  unfold impl_back.f
  repeat' (first | (with_reducible first | exact Lim.const _ | exact slices_Reverse_int_int.F_lim _ | refine Lim.ite ?_ ?_ | refine Lim.bind ?_ (fun _ => ?_))))

end Go.Proofs.Ytadhfbchilaklaa.Fn
namespace Go.Proofs.Ytadhfbchilaklaa.Fn
open Go.RowKit Go.Proofs.YtadhfbchilaklaaW.PrintWords Go.Proofs.YtadhfbchilaklaaW.PrintLast Go.Proofs.YtadhfbchilaklaaW.PrintMore
attribute [local go_sem] max2_int min2_int max_two min_two max_three min_three max_four min_four   -- for this text's walks alone
set_option linter.unusedVariables false
set_option linter.unusedSimpArgs false

/-! ### cmp_isNaN_int: function 282 -/
def cmp_isNaN_int.f (a0 : Int) : Option (Bool) := some (a0 != a0)
set_option maxHeartbeats 8000000 in
set_option maxRecDepth 100000 in
theorem cmp_isNaN_int.calls (a0 : Int) (r : Bool) (w : World) (h : cmp_isNaN_int.f a0 = some r) :
  Calls Try.prog 282 #[.int .i64 a0] w fun e w' => e = .returned (.bool r) ∧ Drawn0 w w' := by
 have H := h
 unfold cmp_isNaN_int.f at H
 clear h
 obtain rfl := Option.some.inj H
 go_enter Try.func282, Try.ntmps282
 go_wp2
 go_ret
 exact ⟨by first | rfl | (simp; done) | (simp [*]; done), by repeat (first | exact Drawn0.refl _ | apply Drawn0.step)⟩


end Go.Proofs.Ytadhfbchilaklaa.Fn
namespace Go.Proofs.Ytadhfbchilaklaa.Fn
open Go.RowKit Go.Proofs.YtadhfbchilaklaaW.PrintWords Go.Proofs.YtadhfbchilaklaaW.PrintLast Go.Proofs.YtadhfbchilaklaaW.PrintMore
attribute [local go_sem] max2_int min2_int max_two min_two max_three min_three max_four min_four   -- for this text's walks alone
set_option linter.unusedVariables false
set_option linter.unusedSimpArgs false

/-! ### cmp_Compare_int: function 275 -/
def cmp_Compare_int.f (a0 : Int) (a1 : Int) : Option (Int) := (cmp_isNaN_int.f a0).bind fun t517 => ((cmp_isNaN_int.f a1).bind fun t518 => (if t517 = true then (if t518 = true then (some 0) else (some (-1))) else (if t518 = true then (some 1) else (if a0 < a1 then (some (-1)) else (if a0 > a1 then (some 1) else (some 0))))))
set_option maxHeartbeats 8000000 in
set_option maxRecDepth 100000 in
theorem cmp_Compare_int.calls (a0 : Int) (a1 : Int) (r : Int) (w : World) (h : cmp_Compare_int.f a0 a1 = some r) :
  Calls Try.prog 275 #[.int .i64 a0, .int .i64 a1] w fun e w' => e = .returned (.int .i64 r) ∧ Drawn0 w w' := by
 have H := h
 unfold cmp_Compare_int.f at H
 clear h
 replace H := Option.bind_eq_some_iff.mp H
 obtain ⟨t517, A30, H⟩ := H
 replace H : ((cmp_isNaN_int.f a1).bind fun t518 => (if t517 = true then (if t518 = true then (some 0) else (some (-1))) else (if t518 = true then (some 1) else (if a0 < a1 then (some (-1)) else (if a0 > a1 then (some 1) else (some 0)))))) = some r := H
 have A3 := Aside0.mk A30
 clear A30
 replace H := Option.bind_eq_some_iff.mp H
 obtain ⟨t518, A40, H⟩ := H
 replace H : (if t517 = true then (if t518 = true then (some 0) else (some (-1))) else (if t518 = true then (some 1) else (if a0 < a1 then (some (-1)) else (if a0 > a1 then (some 1) else (some 0))))) = some r := H
 have A4 := Aside0.mk A40
 clear A40
 by_cases c5 : t517 = true
 ·subst c5
  have H1 : (if t518 = true then (some 0) else (some (-1))) = some r := by rw [if_pos rfl] at H; exact H
  clear H
  have H := H1
  clear H1
  by_cases c6 : t518 = true
  ·subst c6
   have H1 : (some 0) = some r := by rw [if_pos rfl] at H; exact H
   clear H
   have H := H1
   clear H1
   obtain rfl := Option.some.inj H
   go_enter Try.func275, Try.ntmps275
   go_wp2_with (first | ((with_reducible refine gate_callee (f := 282) rfl ?_); refine goesA (some 8) Try.func282 #[.int .i64 a0] ?_; (with_reducible refine (cmp_isNaN_int.calls a0 true _ A3.out).mono ?_); rintro e w' ⟨rfl, ⟨nd, rfl⟩⟩; refine ⟨_, rfl, ?_⟩) | ((with_reducible refine gate_callee (f := 282) rfl ?_); refine goesA (some 10) Try.func282 #[.int .i64 a1] ?_; (with_reducible refine (cmp_isNaN_int.calls a1 true _ A4.out).mono ?_); rintro e w' ⟨rfl, ⟨nd, rfl⟩⟩; refine ⟨_, rfl, ?_⟩))
   go_ret
   exact ⟨by first | rfl | (simp; done) | (simp [*]; done), by repeat (first | exact Drawn0.refl _ | apply Drawn0.step)⟩
  ·replace c6 := Bool.eq_false_iff.mpr c6
   subst c6
   have H1 : (some (-1)) = some r := by rw [if_neg (show ¬ (false = true) by decide)] at H; exact H
   clear H
   have H := H1
   clear H1
   obtain rfl := Option.some.inj H
   go_enter Try.func275, Try.ntmps275
   go_wp2_with (first | ((with_reducible refine gate_callee (f := 282) rfl ?_); refine goesA (some 8) Try.func282 #[.int .i64 a0] ?_; (with_reducible refine (cmp_isNaN_int.calls a0 true _ A3.out).mono ?_); rintro e w' ⟨rfl, ⟨nd, rfl⟩⟩; refine ⟨_, rfl, ?_⟩) | ((with_reducible refine gate_callee (f := 282) rfl ?_); refine goesA (some 10) Try.func282 #[.int .i64 a1] ?_; (with_reducible refine (cmp_isNaN_int.calls a1 false _ A4.out).mono ?_); rintro e w' ⟨rfl, ⟨nd, rfl⟩⟩; refine ⟨_, rfl, ?_⟩))
   go_ret
   exact ⟨by first | rfl | (simp; done) | (simp [*]; done), by repeat (first | exact Drawn0.refl _ | apply Drawn0.step)⟩
 ·replace c5 := Bool.eq_false_iff.mpr c5
  subst c5
  have H1 : (if t518 = true then (some 1) else (if a0 < a1 then (some (-1)) else (if a0 > a1 then (some 1) else (some 0)))) = some r := by rw [if_neg (show ¬ (false = true) by decide)] at H; exact H
  clear H
  have H := H1
  clear H1
  by_cases c7 : t518 = true
  ·subst c7
   have H1 : (some 1) = some r := by rw [if_pos rfl] at H; exact H
   clear H
   have H := H1
   clear H1
   obtain rfl := Option.some.inj H
   go_enter Try.func275, Try.ntmps275
   go_wp2_with (first | ((with_reducible refine gate_callee (f := 282) rfl ?_); refine goesA (some 8) Try.func282 #[.int .i64 a0] ?_; (with_reducible refine (cmp_isNaN_int.calls a0 false _ A3.out).mono ?_); rintro e w' ⟨rfl, ⟨nd, rfl⟩⟩; refine ⟨_, rfl, ?_⟩) | ((with_reducible refine gate_callee (f := 282) rfl ?_); refine goesA (some 10) Try.func282 #[.int .i64 a1] ?_; (with_reducible refine (cmp_isNaN_int.calls a1 true _ A4.out).mono ?_); rintro e w' ⟨rfl, ⟨nd, rfl⟩⟩; refine ⟨_, rfl, ?_⟩))
   go_ret
   exact ⟨by first | rfl | (simp; done) | (simp [*]; done), by repeat (first | exact Drawn0.refl _ | apply Drawn0.step)⟩
  ·replace c7 := Bool.eq_false_iff.mpr c7
   subst c7
   have H1 : (if a0 < a1 then (some (-1)) else (if a0 > a1 then (some 1) else (some 0))) = some r := by rw [if_neg (show ¬ (false = true) by decide)] at H; exact H
   clear H
   have H := H1
   clear H1
   by_cases c8 : a0 < a1
   ·rw [if_pos c8] at H
    have c8b0 : decide (a0 < a1) = true := decide_eq_true c8
    clear c8
    obtain rfl := Option.some.inj H
    go_enter Try.func275, Try.ntmps275
    go_wp2_with (first | ((with_reducible refine gate_callee (f := 282) rfl ?_); refine goesA (some 8) Try.func282 #[.int .i64 a0] ?_; (with_reducible refine (cmp_isNaN_int.calls a0 false _ A3.out).mono ?_); rintro e w' ⟨rfl, ⟨nd, rfl⟩⟩; refine ⟨_, rfl, ?_⟩) | ((with_reducible refine gate_callee (f := 282) rfl ?_); refine goesA (some 10) Try.func282 #[.int .i64 a1] ?_; (with_reducible refine (cmp_isNaN_int.calls a1 false _ A4.out).mono ?_); rintro e w' ⟨rfl, ⟨nd, rfl⟩⟩; refine ⟨_, rfl, ?_⟩))
    go_ret
    exact ⟨by first | rfl | (simp; done) | (simp [*]; done), by repeat (first | exact Drawn0.refl _ | apply Drawn0.step)⟩
   ·rw [if_neg c8] at H
    have c8b0 : decide (a0 < a1) = false := decide_eq_false c8
    clear c8
    by_cases c9 : a0 > a1
    ·rw [if_pos c9] at H
     have c9b0 : decide (a1 < a0) = true := decide_eq_true c9
     clear c9
     obtain rfl := Option.some.inj H
     go_enter Try.func275, Try.ntmps275
     go_wp2_with (first | ((with_reducible refine gate_callee (f := 282) rfl ?_); refine goesA (some 8) Try.func282 #[.int .i64 a0] ?_; (with_reducible refine (cmp_isNaN_int.calls a0 false _ A3.out).mono ?_); rintro e w' ⟨rfl, ⟨nd, rfl⟩⟩; refine ⟨_, rfl, ?_⟩) | ((with_reducible refine gate_callee (f := 282) rfl ?_); refine goesA (some 10) Try.func282 #[.int .i64 a1] ?_; (with_reducible refine (cmp_isNaN_int.calls a1 false _ A4.out).mono ?_); rintro e w' ⟨rfl, ⟨nd, rfl⟩⟩; refine ⟨_, rfl, ?_⟩))
     go_ret
     exact ⟨by first | rfl | (simp; done) | (simp [*]; done), by repeat (first | exact Drawn0.refl _ | apply Drawn0.step)⟩
    ·rw [if_neg c9] at H
     have c9b0 : decide (a1 < a0) = false := decide_eq_false c9
     clear c9
     obtain rfl := Option.some.inj H
     go_enter Try.func275, Try.ntmps275
     go_wp2_with (first | ((with_reducible refine gate_callee (f := 282) rfl ?_); refine goesA (some 8) Try.func282 #[.int .i64 a0] ?_; (with_reducible refine (cmp_isNaN_int.calls a0 false _ A3.out).mono ?_); rintro e w' ⟨rfl, ⟨nd, rfl⟩⟩; refine ⟨_, rfl, ?_⟩) | ((with_reducible refine gate_callee (f := 282) rfl ?_); refine goesA (some 10) Try.func282 #[.int .i64 a1] ?_; (with_reducible refine (cmp_isNaN_int.calls a1 false _ A4.out).mono ?_); rintro e w' ⟨rfl, ⟨nd, rfl⟩⟩; refine ⟨_, rfl, ?_⟩))
     go_ret
     exact ⟨by first | rfl | (simp; done) | (simp [*]; done), by repeat (first | exact Drawn0.refl _ | apply Drawn0.step)⟩


end Go.Proofs.Ytadhfbchilaklaa.Fn
namespace Go.Proofs.Ytadhfbchilaklaa.Fn
open Go.RowKit Go.Proofs.YtadhfbchilaklaaW.PrintWords Go.Proofs.YtadhfbchilaklaaW.PrintLast Go.Proofs.YtadhfbchilaklaaW.PrintMore
attribute [local go_sem] max2_int min2_int max_two min_two max_three min_three max_four min_four   -- for this text's walks alone
set_option linter.unusedVariables false
set_option linter.unusedSimpArgs false

/-! ### slices_Compare_int_int: function 246 -/
def slices_Compare_int_int.l0 : Nat → List Int → List Int → List Int → Int → Int → Option (Int)
 | 0, _, _, _, _, _ => none
 | k + 1, x0, x1, x9, x10, x11 => if x11 < x10 then (if 0 ≤ x11 then (if x11 < (x9.length : Int) then (if x11 ≥ (x1.length : Int) then (some 1) else (if x11 < (x1.length : Int) then ((cmp_Compare_int.f (rd x9 x11) (rd x1 x11)).bind fun t521 => (if t521 = 0 then (slices_Compare_int_int.l0 k x0 x1 x9 x10 (wrap64 (x11 + 1))) else (some t521))) else (none))) else (none)) else (none)) else (if (x0.length : Int) < (x1.length : Int) then (some (-1)) else (some 0))
def slices_Compare_int_int.f (k : Nat) (l0 : List Int) (l1 : List Int) : Option (Int) := slices_Compare_int_int.l0 k l0 l1 l0 (l0.length : Int) 0
theorem slices_Compare_int_int.mono_l : ∀ k, (∀ y0 y1 y2 y3 y4, LeO (slices_Compare_int_int.l0 k y0 y1 y2 y3 y4) (slices_Compare_int_int.l0 (k + 1) y0 y1 y2 y3 y4))
 | 0 => fun _ _ _ _ _ r h => by simp [slices_Compare_int_int.l0] at h
 | k + 1 => by
  have ih0 := slices_Compare_int_int.mono_l k
  ·intro y0 y1 y2 y3 y4
   unfold slices_Compare_int_int.l0
   repeat' (first | (with_reducible first | exact ih0 _ _ _ _ _ | exact LeO.refl _ | exact LeO.none _ | refine LeO.ite ?_ ?_ | refine LeO.bind ?_ (fun _ => ?_)) | exact ih0 _ _ _ _ _ | exact LeO.none _ | refine LeO.ite ?_ ?_ | refine LeO.bind ?_ (fun _ => ?_))
theorem slices_Compare_int_int.mono : ∀ a0 a1 k, LeO (slices_Compare_int_int.f k a0 a1) (slices_Compare_int_int.f (k + 1) a0 a1) := by
 intro a0 a1 k
 have ih0 := slices_Compare_int_int.mono_l k
 unfold slices_Compare_int_int.f
 repeat' (first | (with_reducible first | exact ih0 _ _ _ _ _ | exact LeO.refl _ | exact LeO.none _ | refine LeO.ite ?_ ?_ | refine LeO.bind ?_ (fun _ => ?_)) | exact ih0 _ _ _ _ _ | exact LeO.none _ | refine LeO.ite ?_ ?_ | refine LeO.bind ?_ (fun _ => ?_))
set_option maxHeartbeats 8000000 in
set_option maxRecDepth 100000 in
theorem slices_Compare_int_int.calls (k : Nat) (A0 : Option Addr) (c0 : Nat) (l0 : List Int) (A1 : Option Addr) (c1 : Nat) (l1 : List Int) (r : Int) (w : World) (hr0 : Kd.C (Kd.int .i64) w A0 l0.length l0) (hc0 : l0.length ≤ c0) (hr1 : Kd.C (Kd.int .i64) w A1 l1.length l1) (hc1 : l1.length ≤ c1) (h : slices_Compare_int_int.f k l0 l1 = some r) :
  Calls Try.prog 246 #[.slice A0 l0.length c0, .slice A1 l1.length c1] w fun e w' => e = .returned (.int .i64 r) ∧ Drawn0 w w' := by
 have HR0 := Aside0.mk hr0
 have HC0 := Aside0.mk hc0
 clear hr0 hc0
 have HR1 := Aside0.mk hr1
 have HC1 := Aside0.mk hc1
 clear hr1 hc1
 have H := h
 unfold slices_Compare_int_int.f at H
 clear h
 have H' := Aside0.mk H
 clear H
 go_enter Try.func246, Try.ntmps246
 go_wp2
 go_loopg [11] k (fun kq v11 w' => ∃ (x11_1 : Int), v11 = .int .i64 x11_1 ∧ Aside0 (slices_Compare_int_int.l0 kq l0 l1 l0 (l0.length : Int) x11_1 = some r) ∧ Aside0 (kq ≤ k) ∧ Drawn0 w w')
 case atStart => exact ⟨(0), eqd, H', ⟨Nat.le_refl _⟩, by repeat (first | exact Drawn0.refl _ | apply Drawn0.step)⟩
 case round =>
  clear H'
  try clear c1
  try clear c2
  try clear p2
  obtain ⟨x11_1, rfl, HA, HK1, ⟨m1, rfl⟩⟩ := hrel
  cases gk with
  | zero => exact absurd HA.out (by simp [slices_Compare_int_int.l0])
  | succ k1 =>
   have H := HA.out
   clear HA
   simp only [slices_Compare_int_int.l0] at H
   by_cases c3 : x11_1 < (l0.length : Int)
   ·rw [if_pos c3] at H
    have c3b0 : decide (x11_1 < (l0.length : Int)) = true := decide_eq_true c3
    clear c3
    by_cases c4 : 0 ≤ x11_1
    ·rw [if_pos c4] at H
     have c4b0 : decide (0 ≤ x11_1) = true := decide_eq_true c4
     clear c4
     by_cases c5 : x11_1 < (l0.length : Int)
     ·rw [if_pos c5] at H
      have c5b0 : decide (x11_1 < (l0.length : Int)) = true := decide_eq_true c5
      clear c5
      by_cases c6 : x11_1 ≥ (l1.length : Int)
      ·rw [if_pos c6] at H
       have c6b0 : decide ((l1.length : Int) ≤ x11_1) = true := decide_eq_true c6
       clear c6
       obtain rfl := Option.some.inj H
       have p519 : 0 ≤ (x11_1 : Int) := ofd
       have q519 : x11_1 < (l0.length : Int) := ofd
       obtain ⟨ad519, e519, hx519_0⟩ := Kd.at_int HR0.out x11_1 p519 q519
       cases e519
       replace p519 := eq_true p519
       replace q519 := eq_true q519
       go_wp2
       go_ret
       exact ⟨by first | rfl | (simp; done) | (simp [*]; done), by repeat (first | exact Drawn0.refl _ | apply Drawn0.step)⟩
      ·rw [if_neg c6] at H
       have c6b0 : decide ((l1.length : Int) ≤ x11_1) = false := decide_eq_false c6
       clear c6
       by_cases c7 : x11_1 < (l1.length : Int)
       ·rw [if_pos c7] at H
        have c7b0 : decide (x11_1 < (l1.length : Int)) = true := decide_eq_true c7
        clear c7
        replace H := Option.bind_eq_some_iff.mp H
        obtain ⟨t521, A80, H⟩ := H
        replace H : (if t521 = 0 then (slices_Compare_int_int.l0 k1 l0 l1 l0 (l0.length : Int) (wrap64 (x11_1 + 1))) else (some t521)) = some r := H
        have A8 := Aside0.mk A80
        clear A80
        by_cases c9 : t521 = 0
        ·rw [if_pos c9] at H
         have c9b0 : (t521 == 0) = true := beq_iff_eq.mpr c9
         have c9b1 : (t521 != 0) = false := bne_eq_false_iff_eq.mpr c9
         clear c9
         have H' := Aside0.mk H
         clear H
         have p519 : 0 ≤ (x11_1 : Int) := ofd
         have q519 : x11_1 < (l0.length : Int) := ofd
         obtain ⟨ad519, e519, hx519_0⟩ := Kd.at_int HR0.out x11_1 p519 q519
         cases e519
         replace p519 := eq_true p519
         replace q519 := eq_true q519
         have p520 : 0 ≤ (x11_1 : Int) := ofd
         have q520 : x11_1 < (l1.length : Int) := ofd
         obtain ⟨ad520, e520, hx520_0⟩ := Kd.at_int HR1.out x11_1 p520 q520
         cases e520
         replace p520 := eq_true p520
         replace q520 := eq_true q520
         go_wp2_with (first | ((with_reducible refine gate_callee (f := 275) rfl ?_); refine goesA (some 26) Try.func275 #[.int .i64 (rd l0 x11_1), .int .i64 (rd l1 x11_1)] ?_; (with_reducible refine (cmp_Compare_int.calls (rd l0 x11_1) (rd l1 x11_1) t521 _ A8.out).mono ?_); rintro e w' ⟨rfl, ⟨nd, rfl⟩⟩; refine ⟨_, rfl, ?_⟩))
         go_roundg k1
         case measure => have := HK1.out; omega
         case rel => exact ⟨(wrap64 (x11_1 + 1)), eqd, H', ⟨by have := HK1.out; omega⟩, by repeat (first | exact Drawn0.refl _ | apply Drawn0.step)⟩
        ·rw [if_neg c9] at H
         have c9b0 : (t521 == 0) = false := beq_eq_false_iff_ne.mpr c9
         have c9b1 : (t521 != 0) = true := bne_iff_ne.mpr c9
         obtain rfl := Option.some.inj H
         have p519 : 0 ≤ (x11_1 : Int) := ofd
         have q519 : x11_1 < (l0.length : Int) := ofd
         obtain ⟨ad519, e519, hx519_0⟩ := Kd.at_int HR0.out x11_1 p519 q519
         cases e519
         replace p519 := eq_true p519
         replace q519 := eq_true q519
         have p520 : 0 ≤ (x11_1 : Int) := ofd
         have q520 : x11_1 < (l1.length : Int) := ofd
         obtain ⟨ad520, e520, hx520_0⟩ := Kd.at_int HR1.out x11_1 p520 q520
         cases e520
         replace p520 := eq_true p520
         replace q520 := eq_true q520
         go_wp2_with (first | ((with_reducible refine gate_callee (f := 275) rfl ?_); refine goesA (some 26) Try.func275 #[.int .i64 (rd l0 x11_1), .int .i64 (rd l1 x11_1)] ?_; (with_reducible refine (cmp_Compare_int.calls (rd l0 x11_1) (rd l1 x11_1) t521 _ A8.out).mono ?_); rintro e w' ⟨rfl, ⟨nd, rfl⟩⟩; refine ⟨_, rfl, ?_⟩))
         go_ret
         exact ⟨by first | rfl | (simp; done) | (simp [*]; done), by repeat (first | exact Drawn0.refl _ | apply Drawn0.step)⟩
       ·rw [if_neg c7] at H
        exact absurd H (by simp)
     ·rw [if_neg c5] at H
      exact absurd H (by simp)
    ·rw [if_neg c4] at H
     exact absurd H (by simp)
   ·rw [if_neg c3] at H
    have c3b0 : decide (x11_1 < (l0.length : Int)) = false := decide_eq_false c3
    clear c3
    by_cases c10 : (l0.length : Int) < (l1.length : Int)
    ·rw [if_pos c10] at H
     have c10b0 : decide ((l0.length : Int) < (l1.length : Int)) = true := decide_eq_true c10
     have c10b1 : decide (l0.length < l1.length) = true := decide_eq_true (Int.ofNat_lt.mp c10)
     clear c10
     obtain rfl := Option.some.inj H
     go_wp2
     go_ret
     exact ⟨by first | rfl | (simp; done) | (simp [*]; done), by repeat (first | exact Drawn0.refl _ | apply Drawn0.step)⟩
    ·rw [if_neg c10] at H
     have c10b0 : decide ((l0.length : Int) < (l1.length : Int)) = false := decide_eq_false c10
     have c10b1 : decide (l0.length < l1.length) = false := decide_eq_false (fun h => c10 (Int.ofNat_lt.mpr h))
     clear c10
     obtain rfl := Option.some.inj H
     go_wp2
     go_ret
     exact ⟨by first | rfl | (simp; done) | (simp [*]; done), by repeat (first | exact Drawn0.refl _ | apply Drawn0.step)⟩

noncomputable def slices_Compare_int_int.L0 (x0 : List Int) (x1 : List Int) (x9 : List Int) (x10 : Int) (x11 : Int) : Option (Int) := lim fun k => slices_Compare_int_int.l0 k x0 x1 x9 x10 x11
theorem slices_Compare_int_int.L0_lim (x0 : List Int) (x1 : List Int) (x9 : List Int) (x10 : Int) (x11 : Int) : Lim (fun k => slices_Compare_int_int.l0 k x0 x1 x9 x10 x11) (slices_Compare_int_int.L0 x0 x1 x9 x10 x11) := Lim.of fun k => (slices_Compare_int_int.mono_l k) x0 x1 x9 x10 x11
noncomputable def slices_Compare_int_int.F (l0 : List Int) (l1 : List Int) : Option (Int) := lim fun k => slices_Compare_int_int.f k l0 l1
theorem slices_Compare_int_int.F_lim (l0 : List Int) (l1 : List Int) : Lim (fun k => slices_Compare_int_int.f k l0 l1) (slices_Compare_int_int.F l0 l1) := Lim.of fun k => slices_Compare_int_int.mono l0 l1 k
theorem slices_Compare_int_int.L0_eq (x0 : List Int) (x1 : List Int) (x9 : List Int) (x10 : Int) (x11 : Int) : slices_Compare_int_int.L0 x0 x1 x9 x10 x11 = (if x11 < x10 then (if 0 ≤ x11 then (if x11 < (x9.length : Int) then (if x11 ≥ (x1.length : Int) then (some 1) else (if x11 < (x1.length : Int) then ((cmp_Compare_int.f (rd x9 x11) (rd x1 x11)).bind fun t521 => (if t521 = 0 then (slices_Compare_int_int.L0 x0 x1 x9 x10 (wrap64 (x11 + 1))) else (some t521))) else (none))) else (none)) else (none)) else (if (x0.length : Int) < (x1.length : Int) then (some (-1)) else (some 0))) :=
 Lim.step (f := fun k => slices_Compare_int_int.l0 (k + 1) x0 x1 x9 x10 x11) (slices_Compare_int_int.L0_lim x0 x1 x9 x10 x11) (fun _ => rfl) (by
  simp only [slices_Compare_int_int.l0]
  repeat' (first | (with_reducible first | exact Lim.const _ | exact slices_Compare_int_int.L0_lim _ _ _ _ _ | refine Lim.ite ?_ ?_ | refine Lim.bind ?_ (fun _ => ?_))))
theorem slices_Compare_int_int.F_eq (l0 : List Int) (l1 : List Int) : slices_Compare_int_int.F l0 l1 = (slices_Compare_int_int.L0 l0 l1 l0 (l0.length : Int) 0) :=
 Lim.unique (slices_Compare_int_int.F_lim l0 l1) (by
  unfold slices_Compare_int_int.f
  repeat' (first | (with_reducible first | exact Lim.const _ | exact slices_Compare_int_int.L0_lim _ _ _ _ _ | refine Lim.ite ?_ ?_ | refine Lim.bind ?_ (fun _ => ?_))))

end Go.Proofs.Ytadhfbchilaklaa.Fn
namespace Go.Proofs.Ytadhfbchilaklaa.Fn
open Go.RowKit Go.Proofs.YtadhfbchilaklaaW.PrintWords Go.Proofs.YtadhfbchilaklaaW.PrintLast Go.Proofs.YtadhfbchilaklaaW.PrintMore
attribute [local go_sem] max2_int min2_int max_two min_two max_three min_three max_four min_four   -- for this text's walks alone
set_option linter.unusedVariables false
set_option linter.unusedSimpArgs false

/-! ### impl_least: function 166 (given) -/
/-- The first of some lists that comes before a list and all before it in the line. -/
def impl_least.fold (k : Nat) : List (List Int) → List Int → Option (List Int)
 | [], b => some b
 | q :: qs, b => (slices_Compare_int_int.f k q b).bind fun c => impl_least.fold k qs (if c < 0 then q else b)
/-- Some quarter turns; after each the turned one and its mirror image are looked at. -/
def impl_least.turns (k : Nat) : Nat → List Int → List Int → Option (List Int)
 | 0, b, _ => some b
 | n + 1, b, p => (impl_turned.f k p).bind fun t => (impl_back.f k t).bind fun u => (impl_least.fold k [t, u] b).bind fun b' => impl_least.turns k n b' t
def impl_least.f (k : Nat) (l0 : List Int) : Option (List Int) :=
 (slices_Clone_int_int.f l0).bind fun b => impl_least.turns k 4 b l0
theorem impl_least.fold_mono (k : Nat) : ∀ (qs : List (List Int)) (b : List Int), LeO (impl_least.fold k qs b) (impl_least.fold (k + 1) qs b)
 | [], b => LeO.refl _
 | q :: qs, b => LeO.bind (slices_Compare_int_int.mono _ _ _) (fun _ => impl_least.fold_mono k qs _)
theorem impl_least.turns_mono (k : Nat) : ∀ (n : Nat) (b p : List Int), LeO (impl_least.turns k n b p) (impl_least.turns (k + 1) n b p)
 | 0, b, p => LeO.refl _
 | n + 1, b, p => LeO.bind (impl_turned.mono _ _) (fun _ => LeO.bind (impl_back.mono _ _) (fun _ => LeO.bind (impl_least.fold_mono _ _ _) (fun _ => impl_least.turns_mono k n _ _)))
theorem impl_least.mono : ∀ a0 k, LeO (impl_least.f k a0) (impl_least.f (k + 1) a0) := fun a0 k => LeO.bind (LeO.refl _) (fun _ => impl_least.turns_mono _ _ _ _)
/-! what these come to when the rounds are enough -/
noncomputable def impl_least.foldF : List (List Int) → List Int → Option (List Int)
 | [], b => some b
 | q :: qs, b => (slices_Compare_int_int.F q b).bind fun c => impl_least.foldF qs (if c < 0 then q else b)
noncomputable def impl_least.turnsF : Nat → List Int → List Int → Option (List Int)
 | 0, b, _ => some b
 | n + 1, b, p => (impl_turned.F p).bind fun t => (impl_back.F t).bind fun u => (impl_least.foldF [t, u] b).bind fun b' => impl_least.turnsF n b' t
noncomputable def impl_least.F (l0 : List Int) : Option (List Int) :=
 (slices_Clone_int_int.f l0).bind fun b => impl_least.turnsF 4 b l0
theorem impl_least.fold_lim : ∀ (qs : List (List Int)) (b : List Int), Lim (fun k => impl_least.fold k qs b) (impl_least.foldF qs b)
 | [], b => Lim.const _
 | q :: qs, b => Lim.bind (slices_Compare_int_int.F_lim q b) (fun _ => impl_least.fold_lim qs _)
theorem impl_least.turns_lim : ∀ (n : Nat) (b p : List Int), Lim (fun k => impl_least.turns k n b p) (impl_least.turnsF n b p)
 | 0, b, p => Lim.const _
 | n + 1, b, p => Lim.bind (impl_turned.F_lim p) (fun t => Lim.bind (impl_back.F_lim t) (fun u => Lim.bind (impl_least.fold_lim [t, u] b) (fun b' => impl_least.turns_lim n b' t)))
theorem impl_least.F_lim {l0 : List Int} : Lim (fun k => impl_least.f k l0) (impl_least.F l0) := Lim.bind (Lim.const _) (fun b => impl_least.turns_lim 4 b l0)
set_option maxHeartbeats 8000000 in
set_option maxRecDepth 100000 in
theorem impl_least.calls (k : Nat) (A0 : Option Addr) (c0 : Nat) (l0 : List Int) (r : List Int) (w : World) (hr0 : Kd.C (Kd.int .i64) w A0 l0.length l0) (hc0 : l0.length ≤ c0) (h : impl_least.f k l0 = some r) :
  Calls Try.prog 166 #[.slice A0 l0.length c0] w fun e w' => ∃ v0_ : Value, e = .returned (v0_) ∧ Kd.R (Kd.int .i64) 3 w' w.heap.size (fun _ => True) v0_ r ∧ Below w.heap.size w w' := by
 obtain ⟨b0, hA, h⟩ := Option.bind_eq_some_iff.1 h
 have A1 := Aside0.mk hA
 have HR := Aside0.mk hr0
 have HC := Aside0.mk hc0
 have H := Aside0.mk h
 clear hA hr0 hc0 h
 go_enter Try.func166, Try.ntmps166
 go_wp2_with (first | ((with_reducible refine gate_callee (f := 165) rfl ?_); refine goesA (some 8) Try.func165 #[.slice A0 l0.length c0] ?_; refine (slices_Clone_int_int.calls A0 c0 l0 b0 w HR.out HC.out A1.out).mono ?_; rintro e w1 ⟨v1, rfl, hv1, hb1⟩; refine ⟨_, rfl, ?_⟩; obtain ⟨A3, c3, e3⟩ := Kd.R_slice hv1; subst e3; have HV1 := Aside0.mk hv1; have HB1 := Aside0.mk hb1; clear hv1 hb1))
 have HC0 := Aside0.mk (Kd.C_below HR.out HB1.out)
 clear HR A1
 go_loopw [3, 4, 10] (fun v3 v4 v10 wr => ∃ (i : Nat) (b p : List Int) (Ab : Option Addr) (cb : Nat) (Ap : Option Addr) (cp : Nat), i ≤ 4 ∧ v10 = .int .i64 i ∧ v3 = .slice Ab b.length cb ∧ v4 = .slice Ap p.length cp ∧ Aside0 (Kd.R (Kd.int .i64) 3 wr w.heap.size (fun _ => True) (.slice Ab b.length cb) b) ∧ Aside0 (Kd.C (Kd.int .i64) wr Ap p.length p) ∧ Aside0 (p.length ≤ cp) ∧ Aside0 (Below w.heap.size w wr) ∧ Aside0 (impl_least.turns k (4 - i) b p = some r)) (fun _ _ v _ => 4 - (intOf v).toNat)
 case atStart => exact ⟨0, b0, l0, A3, c3, A0, c0, by omega, rfl, rfl, rfl, HV1, HC0, HC, HB1, H⟩
 case round =>
  obtain ⟨i, b, p, Ab, cb, Ap, cp, hi, rfl, rfl, rfl, HRB, HCP, HLP, HB, HT⟩ := hrel
  by_cases hlt : i < 4
  ·have ht := HT.out
   rw [show 4 - i = (4 - (i + 1)) + 1 by omega] at ht
   obtain ⟨t, ht1, ht⟩ := Option.bind_eq_some_iff.1 ht
   obtain ⟨u, hu1, ht⟩ := Option.bind_eq_some_iff.1 ht
   obtain ⟨b', hf1, ht⟩ := Option.bind_eq_some_iff.1 ht
   have HT1 := Aside0.mk ht1
   have HU1 := Aside0.mk hu1
   have HF1 := Aside0.mk hf1
   have HREST := Aside0.mk ht
   have HLT := Aside0.mk hlt
   clear HT ht1 hu1 hf1 ht hi
   go_wp2_with (first | ((with_reducible refine gate_callee (f := 160) rfl ?_); refine goesA (some 13) Try.func160 #[.slice Ap p.length cp] ?_; refine (impl_turned.calls k Ap cp p t _ HCP.out HLP.out HT1.out).mono ?_; rintro e w2 ⟨v2, rfl, hv2, hb2⟩; refine ⟨_, rfl, ?_⟩; obtain ⟨At, ct, et⟩ := Kd.R_slice hv2; subst et; have HV2 := Aside0.mk hv2; have HB2 := Aside0.mk hb2; clear hv2 hb2) | ((with_reducible refine gate_callee (f := 163) rfl ?_); refine goesA (some 16) Try.func163 #[.slice At t.length ct] ?_; refine (impl_back.calls k At ct t u w2 (Kd.R_reads' HV2.out).2.2 (Kd.R_reads' HV2.out).2.1 HU1.out).mono ?_; rintro e w5 ⟨v5, rfl, hv5, hb5⟩; refine ⟨_, rfl, ?_⟩; obtain ⟨Au, cu, eu⟩ := Kd.R_slice hv5; subst eu; have HV5 := Aside0.mk hv5; have HB5 := Aside0.mk hb5; clear hv5 hb5))
   have HS2 := Aside0.mk (HB.out.size)
   have HS5 := Aside0.mk (Nat.le_trans HB.out.size HB2.out.size)
   have HRU := Aside0.mk (Kd.R_alloc (Kd.R_lower HV5.out HS5.out) (.cells #[.slice At t.length ct, .slice Au u.length cu] 24))
   have HRT := Aside0.mk (Kd.R_alloc (Kd.R_below (Kd.R_lower HV2.out HS2.out) HB5.out) (.cells #[.slice At t.length ct, .slice Au u.length cu] 24))
   have HRB5 := Aside0.mk (Kd.R_alloc (Kd.R_below (Kd.R_below HRB.out HB2.out) HB5.out) (.cells #[.slice At t.length ct, .slice Au u.length cu] 24))
   have HBW := Aside0.mk (below_alloc (HB.out.trans ((HB2.out.mono HS2.out).trans (HB5.out.mono HS5.out))) (.cells #[.slice At t.length ct, .slice Au u.length cu] 24))
   have HNEW := Aside0.mk (heap_alloc_new w5 (.cells #[.slice At t.length ct, .slice Au u.length cu] 24))
   clear HRB HCP HLP HB HV2 HB2 HV5 HB5 HS2 HS5
   go_loopw [3, 19] (fun v3 v19 wq => ∃ (j : Nat) (d : List Int) (Ad : Option Addr) (cd : Nat), j ≤ 2 ∧ v19 = .int .i64 j ∧ v3 = .slice Ad d.length cd ∧ Aside0 (Kd.R (Kd.int .i64) 3 wq w.heap.size (fun _ => True) (.slice Ad d.length cd) d) ∧ Aside0 (Kd.R (Kd.int .i64) 3 wq w.heap.size (fun _ => True) (.slice At t.length ct) t) ∧ Aside0 (Kd.R (Kd.int .i64) 3 wq w.heap.size (fun _ => True) (.slice Au u.length cu) u) ∧ Aside0 (wq.heap[w5.heap.size]? = some (.cells #[.slice At t.length ct, .slice Au u.length cu] 24 (0, 0))) ∧ Aside0 (Below w.heap.size w wq) ∧ Aside0 (impl_least.fold k ([t, u].drop j) d = some b')) (fun _ v _ => 2 - (intOf v).toNat)
   case atStart => exact ⟨0, b, Ab, cb, by omega, rfl, rfl, HRB5, HRT, HRU, HNEW, HBW, HF1⟩
   case round =>
    obtain ⟨j, d, Ad, cd, hj, rfl, rfl, HRD, HRT2, HRU2, HBOX, HBQ, HF⟩ := hrel
    have hc0 : wr.cell? ⟨w5.heap.size, 0, none⟩ = some (.slice At t.length ct) := by
     have h_ := HBOX.out
     simp [World.cell?, h_]
    have hc1 : wr.cell? ⟨w5.heap.size, 1, none⟩ = some (.slice Au u.length cu) := by
     have h_ := HBOX.out
     simp [World.cell?, h_]
    match j, hj with
    | 0, _ =>
     obtain ⟨c, hcmp, hf⟩ := Option.bind_eq_some_iff.1 (show (slices_Compare_int_int.f k t d).bind _ = some b' from HF.out)
     have HCMP := Aside0.mk hcmp
     by_cases hneg : c < 0
     ·rw [if_pos hneg] at hf
      have HF2 := Aside0.mk hf
      have b1 : decide (c < 0) = true := decide_eq_true hneg
      clear hcmp hf hneg HF
      go_wp2_with (first | ((with_reducible refine gate_callee (f := 246) rfl ?_); refine goesA (some 25) Try.func246 #[.slice At t.length ct, .slice Ad d.length cd] ?_; refine (slices_Compare_int_int.calls k At ct t Ad cd d c wr (Kd.R_reads' HRT2.out).2.2 (Kd.R_reads' HRT2.out).2.1 (Kd.R_reads' HRD.out).2.2 (Kd.R_reads' HRD.out).2.1 HCMP.out).mono ?_; rintro e w9 ⟨rfl, ⟨nd, rfl⟩⟩; refine ⟨_, rfl, ?_⟩))
      go_roundw
      case rel => exact ⟨1, t, At, ct, by omega, rfl, rfl, ⟨Kd.R_drewN HRT2.out nd⟩, ⟨Kd.R_drewN HRT2.out nd⟩, ⟨Kd.R_drewN HRU2.out nd⟩, ⟨HBOX.out⟩, ⟨pw_below_drewN HBQ.out nd⟩, HF2⟩
      case measure => simp [intOf]
     ·rw [if_neg hneg] at hf
      have HF2 := Aside0.mk hf
      have b1 : decide (c < 0) = false := decide_eq_false hneg
      clear hcmp hf hneg HF
      go_wp2_with (first | ((with_reducible refine gate_callee (f := 246) rfl ?_); refine goesA (some 25) Try.func246 #[.slice At t.length ct, .slice Ad d.length cd] ?_; refine (slices_Compare_int_int.calls k At ct t Ad cd d c wr (Kd.R_reads' HRT2.out).2.2 (Kd.R_reads' HRT2.out).2.1 (Kd.R_reads' HRD.out).2.2 (Kd.R_reads' HRD.out).2.1 HCMP.out).mono ?_; rintro e w9 ⟨rfl, ⟨nd, rfl⟩⟩; refine ⟨_, rfl, ?_⟩))
      go_roundw
      case rel => exact ⟨1, d, Ad, cd, by omega, rfl, rfl, ⟨Kd.R_drewN HRD.out nd⟩, ⟨Kd.R_drewN HRT2.out nd⟩, ⟨Kd.R_drewN HRU2.out nd⟩, ⟨HBOX.out⟩, ⟨pw_below_drewN HBQ.out nd⟩, HF2⟩
      case measure => simp [intOf]
    | 1, _ =>
     obtain ⟨c, hcmp, hf⟩ := Option.bind_eq_some_iff.1 (show (slices_Compare_int_int.f k u d).bind _ = some b' from HF.out)
     have HCMP := Aside0.mk hcmp
     by_cases hneg : c < 0
     ·rw [if_pos hneg] at hf
      have HF2 := Aside0.mk hf
      have b1 : decide (c < 0) = true := decide_eq_true hneg
      clear hcmp hf hneg HF
      go_wp2_with (first | ((with_reducible refine gate_callee (f := 246) rfl ?_); refine goesA (some 25) Try.func246 #[.slice Au u.length cu, .slice Ad d.length cd] ?_; refine (slices_Compare_int_int.calls k Au cu u Ad cd d c wr (Kd.R_reads' HRU2.out).2.2 (Kd.R_reads' HRU2.out).2.1 (Kd.R_reads' HRD.out).2.2 (Kd.R_reads' HRD.out).2.1 HCMP.out).mono ?_; rintro e w9 ⟨rfl, ⟨nd, rfl⟩⟩; refine ⟨_, rfl, ?_⟩))
      go_roundw
      case rel => exact ⟨2, u, Au, cu, by omega, rfl, rfl, ⟨Kd.R_drewN HRU2.out nd⟩, ⟨Kd.R_drewN HRT2.out nd⟩, ⟨Kd.R_drewN HRU2.out nd⟩, ⟨HBOX.out⟩, ⟨pw_below_drewN HBQ.out nd⟩, HF2⟩
      case measure => simp [intOf]
     ·rw [if_neg hneg] at hf
      have HF2 := Aside0.mk hf
      have b1 : decide (c < 0) = false := decide_eq_false hneg
      clear hcmp hf hneg HF
      go_wp2_with (first | ((with_reducible refine gate_callee (f := 246) rfl ?_); refine goesA (some 25) Try.func246 #[.slice Au u.length cu, .slice Ad d.length cd] ?_; refine (slices_Compare_int_int.calls k Au cu u Ad cd d c wr (Kd.R_reads' HRU2.out).2.2 (Kd.R_reads' HRU2.out).2.1 (Kd.R_reads' HRD.out).2.2 (Kd.R_reads' HRD.out).2.1 HCMP.out).mono ?_; rintro e w9 ⟨rfl, ⟨nd, rfl⟩⟩; refine ⟨_, rfl, ?_⟩))
      go_roundw
      case rel => exact ⟨2, d, Ad, cd, by omega, rfl, rfl, ⟨Kd.R_drewN HRD.out nd⟩, ⟨Kd.R_drewN HRT2.out nd⟩, ⟨Kd.R_drewN HRU2.out nd⟩, ⟨HBOX.out⟩, ⟨pw_below_drewN HBQ.out nd⟩, HF2⟩
      case measure => simp [intOf]
    | 2, _ =>
     have HE := Aside0.mk (show d = b' from Option.some.inj HF.out)
     clear HF
     go_wp2
     go_roundw
     case rel => exact ⟨i + 1, d, t, Ad, cd, At, ct, HLT.out, by go_num, rfl, rfl, HRD, ⟨(Kd.R_reads' HRT2.out).2.2⟩, ⟨(Kd.R_reads' HRT2.out).2.1⟩, HBQ, ⟨by rw [HE.out]; exact HREST.out⟩⟩
     case measure => simp [intOf]; have := HLT.out; omega
  ·obtain rfl : i = 4 := by omega
   have HE := Aside0.mk (show b = r from Option.some.inj HT.out)
   clear HT hlt hi
   go_wp2
   go_ret
   exact ⟨_, rfl, by rw [← HE.out]; exact HRB.out, HB.out⟩


end Go.Proofs.Ytadhfbchilaklaa.Fn
namespace Go.Proofs.Ytadhfbchilaklaa.Fn
open Go.RowKit Go.Proofs.YtadhfbchilaklaaW.PrintWords Go.Proofs.YtadhfbchilaklaaW.PrintLast Go.Proofs.YtadhfbchilaklaaW.PrintMore
attribute [local go_sem] max2_int min2_int max_two min_two max_three min_three max_four min_four   -- for this text's walks alone
set_option linter.unusedVariables false
set_option linter.unusedSimpArgs false

/-! ### impl_LeastDots: function 41 -/
def impl_LeastDots.f (k : Nat) (l0 : List Int) : Option (List Int × Bool) := (impl_IsDots.f k l0).bind fun t522 => (if t522 = true then ((impl_least.f k l0).bind fun t523 => ((slices_Clone_int_int.f t523).bind fun t526 => (some (t526, true)))) else (some (([] : List Int), false)))
theorem impl_LeastDots.mono : ∀ a0 k, LeO (impl_LeastDots.f k a0) (impl_LeastDots.f (k + 1) a0) := by
 intro a0 k
 unfold impl_LeastDots.f
 repeat' (first | (with_reducible first | exact impl_IsDots.mono _ _ | exact impl_least.mono _ _ | exact LeO.refl _ | exact LeO.none _ | refine LeO.ite ?_ ?_ | refine LeO.bind ?_ (fun _ => ?_)) | exact impl_IsDots.mono _ _ | exact impl_least.mono _ _ | exact LeO.none _ | refine LeO.ite ?_ ?_ | refine LeO.bind ?_ (fun _ => ?_))
set_option maxHeartbeats 8000000 in
set_option maxRecDepth 100000 in
theorem impl_LeastDots.calls (k : Nat) (A0 : Option Addr) (c0 : Nat) (l0 : List Int) (r1 : List Int) (r2 : Bool) (w : World) (hr0 : Kd.C (Kd.int .i64) w A0 l0.length l0) (hc0 : l0.length ≤ c0) (h : impl_LeastDots.f k l0 = some (r1, r2)) :
  Calls Try.prog 41 #[.slice A0 l0.length c0] w fun e w' => ∃ v0_ : Value, e = .returned (.tuple #[v0_, .bool r2]) ∧ Kd.R (Kd.int .i64) 3 w' w.heap.size (fun _ => True) v0_ r1 ∧ Below w.heap.size w w' := by
 have HR0 := Aside0.mk hr0
 have HC0 := Aside0.mk hc0
 clear hr0 hc0
 have HB := Aside0.mk (Below.refl w.heap.size w)
 have H := h
 unfold impl_LeastDots.f at H
 clear h
 replace H := Option.bind_eq_some_iff.mp H
 obtain ⟨t522, A20, H⟩ := H
 replace H : (if t522 = true then ((impl_least.f k l0).bind fun t523 => ((slices_Clone_int_int.f t523).bind fun t526 => (some (t526, true)))) else (some (([] : List Int), false))) = some (r1, r2) := H
 have A2 := Aside0.mk A20
 clear A20
 by_cases c3 : t522 = true
 ·subst c3
  have H1 : ((impl_least.f k l0).bind fun t523 => ((slices_Clone_int_int.f t523).bind fun t526 => (some (t526, true)))) = some (r1, r2) := by rw [if_pos rfl] at H; exact H
  clear H
  have H := H1
  clear H1
  replace H := Option.bind_eq_some_iff.mp H
  obtain ⟨t523, A40, H⟩ := H
  replace H : ((slices_Clone_int_int.f t523).bind fun t526 => (some (t526, true))) = some (r1, r2) := H
  have A4 := Aside0.mk A40
  clear A40
  replace H := Option.bind_eq_some_iff.mp H
  obtain ⟨t526, A50, H⟩ := H
  replace H : (some (t526, true)) = some (r1, r2) := H
  have A5 := Aside0.mk A50
  clear A50
  simp only [Option.some.injEq, Prod.mk.injEq] at H
  obtain ⟨rfl, rfl⟩ := H
  go_enter Try.func41, Try.ntmps41
  go_wp2_with (first | ((with_reducible refine gate_callee (f := 46) rfl ?_); refine goesA (some 5) Try.func46 #[.slice A0 l0.length c0] ?_; (with_reducible refine (impl_IsDots.calls k _ _ l0 true _ ?side1 ?side2 A2.out).mono ?_); (case side1 => repeat (first | exact HR0.out | (with_reducible refine Kd.C_alloc ?_ _) | (with_reducible refine Kd.C_drewN ?_ _) | (with_reducible refine Kd.C_drew ?_))); (case side2 => exact HC0.out); rintro e w' ⟨rfl, ⟨nd, rfl⟩⟩; refine ⟨_, rfl, ?_⟩) | ((with_reducible refine gate_callee (f := 166) rfl ?_); refine goesA (some 8) Try.func166 #[.slice A0 l0.length c0] ?_; (with_reducible refine (impl_least.calls k _ _ l0 t523 _ ?side1 ?side2 A4.out).mono ?_); (case side1 => repeat (first | exact HR0.out | (with_reducible refine Kd.C_alloc ?_ _) | (with_reducible refine Kd.C_drewN ?_ _) | (with_reducible refine Kd.C_drew ?_))); (case side2 => exact HC0.out); rintro e w6 ⟨v524, rfl, ho0, hb⟩; refine ⟨_, rfl, ?_⟩; have HO525 := lowR ho0 HB; replace HB := upB HB hb; (try clear hb); (try clear hb2); (try clear hk); (try clear hi); (try clear ho0); obtain ⟨Ao7, co7, eo7⟩ := Kd.R_slice HO525.out; subst eo7) | ((with_reducible refine gate_callee (f := 165) rfl ?_); refine goesA (some 9) Try.func165 #[.slice Ao7 t523.length co7] ?_; (with_reducible refine (slices_Clone_int_int.calls _ _ t523 t526 _ ?side1 ?side2 A5.out).mono ?_); (case side1 => exact atRC HO525); (case side2 => exact (Kd.R_reads' HO525.out).2.1); rintro e w8 ⟨v527, rfl, ho0, hb⟩; refine ⟨_, rfl, ?_⟩; have HO528 := Aside0.mk (Kd.R_lower (Kd.R_new' ho0 (ltR HO525)) (szB HB)); replace HO525 := eldRR HO525 ho0 hb; replace HB := upB HB hb; (try clear hb); (try clear hb2); (try clear hk); (try clear hi); (try clear ho0)))
  go_ret2
  exact ⟨_, eqr, by (with_reducible repeat (first | apply Kd.R_alloc | apply Kd.R_drewN | apply Kd.R_drew)); exact Kd.R_mono HO528.out (fun _ hk => trivial), atB HB⟩
 ·replace c3 := Bool.eq_false_iff.mpr c3
  subst c3
  have H1 : (some (([] : List Int), false)) = some (r1, r2) := by rw [if_neg (show ¬ (false = true) by decide)] at H; exact H
  clear H
  have H := H1
  clear H1
  simp only [Option.some.injEq, Prod.mk.injEq] at H
  obtain ⟨rfl, rfl⟩ := H
  go_enter Try.func41, Try.ntmps41
  go_wp2_with (first | ((with_reducible refine gate_callee (f := 46) rfl ?_); refine goesA (some 5) Try.func46 #[.slice A0 l0.length c0] ?_; (with_reducible refine (impl_IsDots.calls k _ _ l0 false _ ?side1 ?side2 A2.out).mono ?_); (case side1 => repeat (first | exact HR0.out | (with_reducible refine Kd.C_alloc ?_ _) | (with_reducible refine Kd.C_drewN ?_ _) | (with_reducible refine Kd.C_drew ?_))); (case side2 => exact HC0.out); rintro e w' ⟨rfl, ⟨nd, rfl⟩⟩; refine ⟨_, rfl, ?_⟩))
  go_ret2
  exact ⟨_, eqr, by first | exact Kd.R_nil _ _ _ _ _ | exact Kd.N_nil _ _ _ _ _ | exact Kd.V_nil _ _ _ _ _ | exact Kd.Q_nil _ _ _ _ _ | exact Kd.S_nil _ _ _ _ _, atB HB⟩

noncomputable def impl_LeastDots.F (l0 : List Int) : Option (List Int × Bool) := lim fun k => impl_LeastDots.f k l0
theorem impl_LeastDots.F_lim (l0 : List Int) : Lim (fun k => impl_LeastDots.f k l0) (impl_LeastDots.F l0) := Lim.of fun k => impl_LeastDots.mono l0 k
theorem impl_LeastDots.F_eq (l0 : List Int) : impl_LeastDots.F l0 = ((impl_IsDots.F l0).bind fun t522 => (if t522 = true then ((impl_least.F l0).bind fun t523 => ((slices_Clone_int_int.f t523).bind fun t526 => (some (t526, true)))) else (some (([] : List Int), false)))) :=
 Lim.unique (impl_LeastDots.F_lim l0) (by
  unfold impl_LeastDots.f
  repeat' (first | (with_reducible first | exact Lim.const _ | exact impl_IsDots.F_lim _ | exact impl_least.F_lim | refine Lim.ite ?_ ?_ | refine Lim.bind ?_ (fun _ => ?_))))

end Go.Proofs.Ytadhfbchilaklaa.Fn
namespace Go.Proofs.Ytadhfbchilaklaa.Fn
open Go.RowKit Go.Proofs.YtadhfbchilaklaaW.PrintWords Go.Proofs.YtadhfbchilaklaaW.PrintLast Go.Proofs.YtadhfbchilaklaaW.PrintMore
attribute [local go_sem] max2_int min2_int max_two min_two max_three min_three max_four min_four   -- for this text's walks alone
set_option linter.unusedVariables false
set_option linter.unusedSimpArgs false

/-! ### impl_MirrorDots: function 37 -/
def impl_MirrorDots.f (k : Nat) (l0 : List Int) : Option (List Int × Bool) := (impl_IsDots.f k l0).bind fun t493 => (if t493 = true then ((impl_back.f k l0).bind fun t494 => (some (t494, true))) else (some (([] : List Int), false)))
theorem impl_MirrorDots.mono : ∀ a0 k, LeO (impl_MirrorDots.f k a0) (impl_MirrorDots.f (k + 1) a0) := by
 intro a0 k
 unfold impl_MirrorDots.f
 repeat' (first | (with_reducible first | exact impl_IsDots.mono _ _ | exact impl_back.mono _ _ | exact LeO.refl _ | exact LeO.none _ | refine LeO.ite ?_ ?_ | refine LeO.bind ?_ (fun _ => ?_)) | exact impl_IsDots.mono _ _ | exact impl_back.mono _ _ | exact LeO.none _ | refine LeO.ite ?_ ?_ | refine LeO.bind ?_ (fun _ => ?_))
set_option maxHeartbeats 8000000 in
set_option maxRecDepth 100000 in
theorem impl_MirrorDots.calls (k : Nat) (A0 : Option Addr) (c0 : Nat) (l0 : List Int) (r1 : List Int) (r2 : Bool) (w : World) (hr0 : Kd.C (Kd.int .i64) w A0 l0.length l0) (hc0 : l0.length ≤ c0) (h : impl_MirrorDots.f k l0 = some (r1, r2)) :
  Calls Try.prog 37 #[.slice A0 l0.length c0] w fun e w' => ∃ v0_ : Value, e = .returned (.tuple #[v0_, .bool r2]) ∧ Kd.R (Kd.int .i64) 3 w' w.heap.size (fun _ => True) v0_ r1 ∧ Below w.heap.size w w' := by
 have HR0 := Aside0.mk hr0
 have HC0 := Aside0.mk hc0
 clear hr0 hc0
 have HB := Aside0.mk (Below.refl w.heap.size w)
 have H := h
 unfold impl_MirrorDots.f at H
 clear h
 replace H := Option.bind_eq_some_iff.mp H
 obtain ⟨t493, A20, H⟩ := H
 replace H : (if t493 = true then ((impl_back.f k l0).bind fun t494 => (some (t494, true))) else (some (([] : List Int), false))) = some (r1, r2) := H
 have A2 := Aside0.mk A20
 clear A20
 by_cases c3 : t493 = true
 ·subst c3
  have H1 : ((impl_back.f k l0).bind fun t494 => (some (t494, true))) = some (r1, r2) := by rw [if_pos rfl] at H; exact H
  clear H
  have H := H1
  clear H1
  replace H := Option.bind_eq_some_iff.mp H
  obtain ⟨t494, A40, H⟩ := H
  replace H : (some (t494, true)) = some (r1, r2) := H
  have A4 := Aside0.mk A40
  clear A40
  simp only [Option.some.injEq, Prod.mk.injEq] at H
  obtain ⟨rfl, rfl⟩ := H
  go_enter Try.func37, Try.ntmps37
  go_wp2_with (first | ((with_reducible refine gate_callee (f := 46) rfl ?_); refine goesA (some 5) Try.func46 #[.slice A0 l0.length c0] ?_; (with_reducible refine (impl_IsDots.calls k _ _ l0 true _ ?side1 ?side2 A2.out).mono ?_); (case side1 => repeat (first | exact HR0.out | (with_reducible refine Kd.C_alloc ?_ _) | (with_reducible refine Kd.C_drewN ?_ _) | (with_reducible refine Kd.C_drew ?_))); (case side2 => exact HC0.out); rintro e w' ⟨rfl, ⟨nd, rfl⟩⟩; refine ⟨_, rfl, ?_⟩) | ((with_reducible refine gate_callee (f := 163) rfl ?_); refine goesA (some 8) Try.func163 #[.slice A0 l0.length c0] ?_; (with_reducible refine (impl_back.calls k _ _ l0 t494 _ ?side1 ?side2 A4.out).mono ?_); (case side1 => repeat (first | exact HR0.out | (with_reducible refine Kd.C_alloc ?_ _) | (with_reducible refine Kd.C_drewN ?_ _) | (with_reducible refine Kd.C_drew ?_))); (case side2 => exact HC0.out); rintro e w5 ⟨v495, rfl, ho0, hb⟩; refine ⟨_, rfl, ?_⟩; have HO496 := lowR ho0 HB; replace HB := upB HB hb; (try clear hb); (try clear hb2); (try clear hk); (try clear hi); (try clear ho0)))
  go_ret2
  exact ⟨_, eqr, atR HO496, atB HB⟩
 ·replace c3 := Bool.eq_false_iff.mpr c3
  subst c3
  have H1 : (some (([] : List Int), false)) = some (r1, r2) := by rw [if_neg (show ¬ (false = true) by decide)] at H; exact H
  clear H
  have H := H1
  clear H1
  simp only [Option.some.injEq, Prod.mk.injEq] at H
  obtain ⟨rfl, rfl⟩ := H
  go_enter Try.func37, Try.ntmps37
  go_wp2_with (first | ((with_reducible refine gate_callee (f := 46) rfl ?_); refine goesA (some 5) Try.func46 #[.slice A0 l0.length c0] ?_; (with_reducible refine (impl_IsDots.calls k _ _ l0 false _ ?side1 ?side2 A2.out).mono ?_); (case side1 => repeat (first | exact HR0.out | (with_reducible refine Kd.C_alloc ?_ _) | (with_reducible refine Kd.C_drewN ?_ _) | (with_reducible refine Kd.C_drew ?_))); (case side2 => exact HC0.out); rintro e w' ⟨rfl, ⟨nd, rfl⟩⟩; refine ⟨_, rfl, ?_⟩))
  go_ret2
  exact ⟨_, eqr, by first | exact Kd.R_nil _ _ _ _ _ | exact Kd.N_nil _ _ _ _ _ | exact Kd.V_nil _ _ _ _ _ | exact Kd.Q_nil _ _ _ _ _ | exact Kd.S_nil _ _ _ _ _, atB HB⟩

noncomputable def impl_MirrorDots.F (l0 : List Int) : Option (List Int × Bool) := lim fun k => impl_MirrorDots.f k l0
theorem impl_MirrorDots.F_lim (l0 : List Int) : Lim (fun k => impl_MirrorDots.f k l0) (impl_MirrorDots.F l0) := Lim.of fun k => impl_MirrorDots.mono l0 k
theorem impl_MirrorDots.F_eq (l0 : List Int) : impl_MirrorDots.F l0 = ((impl_IsDots.F l0).bind fun t493 => (if t493 = true then ((impl_back.F l0).bind fun t494 => (some (t494, true))) else (some (([] : List Int), false)))) :=
 Lim.unique (impl_MirrorDots.F_lim l0) (by
  unfold impl_MirrorDots.f
  repeat' (first | (with_reducible first | exact Lim.const _ | exact impl_IsDots.F_lim _ | exact impl_back.F_lim _ | refine Lim.ite ?_ ?_ | refine Lim.bind ?_ (fun _ => ?_))))

end Go.Proofs.Ytadhfbchilaklaa.Fn
namespace Go.Proofs.Ytadhfbchilaklaa.Fn
open Go.RowKit Go.Proofs.YtadhfbchilaklaaW.PrintWords Go.Proofs.YtadhfbchilaklaaW.PrintLast Go.Proofs.YtadhfbchilaklaaW.PrintMore
attribute [local go_sem] max2_int min2_int max_two min_two max_three min_three max_four min_four   -- for this text's walks alone
set_option linter.unusedVariables false
set_option linter.unusedSimpArgs false

/-! ### impl_TurnDots: function 35 -/
def impl_TurnDots.f (k : Nat) (l0 : List Int) : Option (List Int × Bool) := (impl_IsDots.f k l0).bind fun t467 => (if t467 = true then ((impl_turned.f k l0).bind fun t468 => (some (t468, true))) else (some (([] : List Int), false)))
theorem impl_TurnDots.mono : ∀ a0 k, LeO (impl_TurnDots.f k a0) (impl_TurnDots.f (k + 1) a0) := by
 intro a0 k
 unfold impl_TurnDots.f
 repeat' (first | (with_reducible first | exact impl_IsDots.mono _ _ | exact impl_turned.mono _ _ | exact LeO.refl _ | exact LeO.none _ | refine LeO.ite ?_ ?_ | refine LeO.bind ?_ (fun _ => ?_)) | exact impl_IsDots.mono _ _ | exact impl_turned.mono _ _ | exact LeO.none _ | refine LeO.ite ?_ ?_ | refine LeO.bind ?_ (fun _ => ?_))
set_option maxHeartbeats 8000000 in
set_option maxRecDepth 100000 in
theorem impl_TurnDots.calls (k : Nat) (A0 : Option Addr) (c0 : Nat) (l0 : List Int) (r1 : List Int) (r2 : Bool) (w : World) (hr0 : Kd.C (Kd.int .i64) w A0 l0.length l0) (hc0 : l0.length ≤ c0) (h : impl_TurnDots.f k l0 = some (r1, r2)) :
  Calls Try.prog 35 #[.slice A0 l0.length c0] w fun e w' => ∃ v0_ : Value, e = .returned (.tuple #[v0_, .bool r2]) ∧ Kd.R (Kd.int .i64) 3 w' w.heap.size (fun _ => True) v0_ r1 ∧ Below w.heap.size w w' := by
 have HR0 := Aside0.mk hr0
 have HC0 := Aside0.mk hc0
 clear hr0 hc0
 have HB := Aside0.mk (Below.refl w.heap.size w)
 have H := h
 unfold impl_TurnDots.f at H
 clear h
 replace H := Option.bind_eq_some_iff.mp H
 obtain ⟨t467, A20, H⟩ := H
 replace H : (if t467 = true then ((impl_turned.f k l0).bind fun t468 => (some (t468, true))) else (some (([] : List Int), false))) = some (r1, r2) := H
 have A2 := Aside0.mk A20
 clear A20
 by_cases c3 : t467 = true
 ·subst c3
  have H1 : ((impl_turned.f k l0).bind fun t468 => (some (t468, true))) = some (r1, r2) := by rw [if_pos rfl] at H; exact H
  clear H
  have H := H1
  clear H1
  replace H := Option.bind_eq_some_iff.mp H
  obtain ⟨t468, A40, H⟩ := H
  replace H : (some (t468, true)) = some (r1, r2) := H
  have A4 := Aside0.mk A40
  clear A40
  simp only [Option.some.injEq, Prod.mk.injEq] at H
  obtain ⟨rfl, rfl⟩ := H
  go_enter Try.func35, Try.ntmps35
  go_wp2_with (first | ((with_reducible refine gate_callee (f := 46) rfl ?_); refine goesA (some 5) Try.func46 #[.slice A0 l0.length c0] ?_; (with_reducible refine (impl_IsDots.calls k _ _ l0 true _ ?side1 ?side2 A2.out).mono ?_); (case side1 => repeat (first | exact HR0.out | (with_reducible refine Kd.C_alloc ?_ _) | (with_reducible refine Kd.C_drewN ?_ _) | (with_reducible refine Kd.C_drew ?_))); (case side2 => exact HC0.out); rintro e w' ⟨rfl, ⟨nd, rfl⟩⟩; refine ⟨_, rfl, ?_⟩) | ((with_reducible refine gate_callee (f := 160) rfl ?_); refine goesA (some 8) Try.func160 #[.slice A0 l0.length c0] ?_; (with_reducible refine (impl_turned.calls k _ _ l0 t468 _ ?side1 ?side2 A4.out).mono ?_); (case side1 => repeat (first | exact HR0.out | (with_reducible refine Kd.C_alloc ?_ _) | (with_reducible refine Kd.C_drewN ?_ _) | (with_reducible refine Kd.C_drew ?_))); (case side2 => exact HC0.out); rintro e w5 ⟨v469, rfl, ho0, hb⟩; refine ⟨_, rfl, ?_⟩; have HO470 := lowR ho0 HB; replace HB := upB HB hb; (try clear hb); (try clear hb2); (try clear hk); (try clear hi); (try clear ho0)))
  go_ret2
  exact ⟨_, eqr, atR HO470, atB HB⟩
 ·replace c3 := Bool.eq_false_iff.mpr c3
  subst c3
  have H1 : (some (([] : List Int), false)) = some (r1, r2) := by rw [if_neg (show ¬ (false = true) by decide)] at H; exact H
  clear H
  have H := H1
  clear H1
  simp only [Option.some.injEq, Prod.mk.injEq] at H
  obtain ⟨rfl, rfl⟩ := H
  go_enter Try.func35, Try.ntmps35
  go_wp2_with (first | ((with_reducible refine gate_callee (f := 46) rfl ?_); refine goesA (some 5) Try.func46 #[.slice A0 l0.length c0] ?_; (with_reducible refine (impl_IsDots.calls k _ _ l0 false _ ?side1 ?side2 A2.out).mono ?_); (case side1 => repeat (first | exact HR0.out | (with_reducible refine Kd.C_alloc ?_ _) | (with_reducible refine Kd.C_drewN ?_ _) | (with_reducible refine Kd.C_drew ?_))); (case side2 => exact HC0.out); rintro e w' ⟨rfl, ⟨nd, rfl⟩⟩; refine ⟨_, rfl, ?_⟩))
  go_ret2
  exact ⟨_, eqr, by first | exact Kd.R_nil _ _ _ _ _ | exact Kd.N_nil _ _ _ _ _ | exact Kd.V_nil _ _ _ _ _ | exact Kd.Q_nil _ _ _ _ _ | exact Kd.S_nil _ _ _ _ _, atB HB⟩

noncomputable def impl_TurnDots.F (l0 : List Int) : Option (List Int × Bool) := lim fun k => impl_TurnDots.f k l0
theorem impl_TurnDots.F_lim (l0 : List Int) : Lim (fun k => impl_TurnDots.f k l0) (impl_TurnDots.F l0) := Lim.of fun k => impl_TurnDots.mono l0 k
theorem impl_TurnDots.F_eq (l0 : List Int) : impl_TurnDots.F l0 = ((impl_IsDots.F l0).bind fun t467 => (if t467 = true then ((impl_turned.F l0).bind fun t468 => (some (t468, true))) else (some (([] : List Int), false)))) :=
 Lim.unique (impl_TurnDots.F_lim l0) (by
  unfold impl_TurnDots.f
  repeat' (first | (with_reducible first | exact Lim.const _ | exact impl_IsDots.F_lim _ | exact impl_turned.F_lim _ | refine Lim.ite ?_ ?_ | refine Lim.bind ?_ (fun _ => ?_))))

end Go.Proofs.Ytadhfbchilaklaa.Fn
namespace Go.Proofs.Ytadhfbchilaklaa.Fn
open Go.RowKit Go.Proofs.YtadhfbchilaklaaW.PrintWords Go.Proofs.YtadhfbchilaklaaW.PrintLast Go.Proofs.YtadhfbchilaklaaW.PrintMore
attribute [local go_sem] max2_int min2_int max_two min_two max_three min_three max_four min_four   -- for this text's walks alone
set_option linter.unusedVariables false
set_option linter.unusedSimpArgs false

/-! ### spec_l1Cur_dotsUp: function 257 -/
def spec_l1Cur_dotsUp.l0 : Nat → Int → List Int → Int → List Int → Int → Int → Option (List Int × Int × Int)
 | 0, _, _, _, _, _, _ => none
 | k + 1, x1, x5, x6, x1000, x1001, x1002 => if x6 < x1 then ((spec_l1Cur_pick.f x1000 x1001 x1002 x6).bind fun bt373 => ((insAt.f x5 bt373.1 x6).bind fun t376 => (spec_l1Cur_dotsUp.l0 k x1 t376 (wrap64 (x6 + 1)) x1000 bt373.2.1 bt373.2.2))) else (some (x5, x1001, x1002))
def spec_l1Cur_dotsUp.f (k : Nat) (s0_0 : List Int) (s0_1 : Int) (s0_2 : Int) (a1 : Int) : Option (List Int × Int × Int) := spec_l1Cur_dotsUp.l0 k a1 ([] : List Int) 1 s0_0 s0_1 s0_2
theorem spec_l1Cur_dotsUp.mono_l : ∀ k, (∀ y0 y1 y2 y3 y4 y5, LeO (spec_l1Cur_dotsUp.l0 k y0 y1 y2 y3 y4 y5) (spec_l1Cur_dotsUp.l0 (k + 1) y0 y1 y2 y3 y4 y5))
 | 0 => fun _ _ _ _ _ _ r h => by simp [spec_l1Cur_dotsUp.l0] at h
 | k + 1 => by
  have ih0 := spec_l1Cur_dotsUp.mono_l k
  ·intro y0 y1 y2 y3 y4 y5
   unfold spec_l1Cur_dotsUp.l0
   repeat' (first | (with_reducible first | exact ih0 _ _ _ _ _ _ | exact LeO.refl _ | exact LeO.none _ | refine LeO.ite ?_ ?_ | refine LeO.bind ?_ (fun _ => ?_)) | exact ih0 _ _ _ _ _ _ | exact LeO.none _ | refine LeO.ite ?_ ?_ | refine LeO.bind ?_ (fun _ => ?_))
theorem spec_l1Cur_dotsUp.mono : ∀ a0 a1 a2 a3 k, LeO (spec_l1Cur_dotsUp.f k a0 a1 a2 a3) (spec_l1Cur_dotsUp.f (k + 1) a0 a1 a2 a3) := by
 intro a0 a1 a2 a3 k
 have ih0 := spec_l1Cur_dotsUp.mono_l k
 unfold spec_l1Cur_dotsUp.f
 repeat' (first | (with_reducible first | exact ih0 _ _ _ _ _ _ | exact LeO.refl _ | exact LeO.none _ | refine LeO.ite ?_ ?_ | refine LeO.bind ?_ (fun _ => ?_)) | exact ih0 _ _ _ _ _ _ | exact LeO.none _ | refine LeO.ite ?_ ?_ | refine LeO.bind ?_ (fun _ => ?_))
set_option maxHeartbeats 8000000 in
set_option maxRecDepth 100000 in
theorem spec_l1Cur_dotsUp.calls (k : Nat) (g : Nat) (s0_0 : List Int) (s0_1 : Int) (s0_2 : Int) (a1 : Int) (r1 : List Int) (r2 : Int) (r3 : Int) (w0 w : World) (hI : IsS83 w0 w g s0_0 s0_1 s0_2) (hB : Below w0.heap.size w0 w) (h : spec_l1Cur_dotsUp.f k s0_0 s0_1 s0_2 a1 = some (r1, r2, r3)) :
  Calls Try.prog 257 #[.pointer (some ⟨g, 0, none⟩), .int .i64 a1] w fun e w' => ∃ v0_ : Value, e = .returned (v0_) ∧ Kd.R (Kd.int .i64) 3 w' w.heap.size (fun _ => True) v0_ r1 ∧ IsS83 w0 w' g s0_0 r2 r3 ∧ Below w0.heap.size w0 w' ∧ KeepBut w w' g none := by
 have HI0 := Aside0.mk hI
 have HK := Aside0.mk (KeepBut.refl w g none)
 have HL := Aside0.mk hB.size
 clear hI
 have HW0 := Aside0.mk hB.size
 have HB := Aside0.mk hB
 clear hB
 have H := h
 unfold spec_l1Cur_dotsUp.f at H
 clear h
 have H' := Aside0.mk H
 clear H
 go_enter Try.func257, Try.ntmps257
 go_wp2
 go_loopg [5, 6] k (fun kq v5 v6 w' => ∃ (x5_1 : List Int) (x6_1 : Int) (x1001_1 : Int) (x1002_1 : Int), v6 = .int .i64 x6_1 ∧ Aside0 (spec_l1Cur_dotsUp.l0 kq a1 x5_1 x6_1 s0_0 x1001_1 x1002_1 = some (r1, r2, r3)) ∧ Aside0 (kq ≤ k) ∧ Aside0 (Kd.R (Kd.int .i64) 3 w' w.heap.size (fun _ => True) v5 x5_1) ∧ Aside0 (IsS83 w0 w' g s0_0 x1001_1 x1002_1) ∧ Aside0 (KeepBut w w' g none) ∧ Aside0 (Below w0.heap.size w0 w'))
 case atStart => exact ⟨(([] : List Int)), (1), (s0_1), (s0_2), eqd, H', ⟨Nat.le_refl _⟩, ⟨by first | exact Kd.R_nil _ _ _ _ _ | exact Kd.N_nil _ _ _ _ _ | exact Kd.V_nil _ _ _ _ _ | exact Kd.Q_nil _ _ _ _ _ | exact Kd.S_nil _ _ _ _ _⟩, ⟨IsS83.at HI0⟩, ⟨atK HK⟩, ⟨atB HB⟩⟩
 case round =>
  clear H'
  try clear c2
  try clear p2
  obtain ⟨x5_1, x6_1, x1001_1, x1002_1, rfl, HA, HK1, HO_5, HI0, HK, HB⟩ := hrel
  cases gk with
  | zero => exact absurd HA.out (by simp [spec_l1Cur_dotsUp.l0])
  | succ k1 =>
   have H := HA.out
   clear HA
   simp only [spec_l1Cur_dotsUp.l0] at H
   by_cases c3 : x6_1 < a1
   ·rw [if_pos c3] at H
    have c3b0 : decide (x6_1 < a1) = true := decide_eq_true c3
    clear c3
    replace H := Option.bind_eq_some_iff.mp H
    obtain ⟨⟨t373, t374, t375⟩, A40, H⟩ := H
    replace H : ((insAt.f x5_1 t373 x6_1).bind fun t376 => (spec_l1Cur_dotsUp.l0 k1 a1 t376 (wrap64 (x6_1 + 1)) s0_0 t374 t375)) = some (r1, r2, r3) := H
    have A4 := Aside0.mk A40
    clear A40
    replace H := Option.bind_eq_some_iff.mp H
    obtain ⟨t376, A50, H⟩ := H
    replace H : (spec_l1Cur_dotsUp.l0 k1 a1 t376 (wrap64 (x6_1 + 1)) s0_0 t374 t375) = some (r1, r2, r3) := H
    have A5 := Aside0.mk A50
    clear A50
    have H' := Aside0.mk H
    clear H
    go_wp2_with (first | ((with_reducible refine gate_callee (f := 177) rfl ?_); refine goesA (some 15) Try.func177 #[.pointer (some ⟨g, 0, none⟩), .int .i64 x6_1] ?_; (with_reducible refine (spec_l1Cur_pick.calls g s0_0 x1001_1 x1002_1 x6_1 t373 t374 t375 w0 _ ?side1 ?side2 A4.out).mono ?_); (case side1 => exact IsS83.at HI0); (case side2 => exact atB HB); rintro e w6 ⟨rfl, hi, hb, hk⟩; refine ⟨_, rfl, ?_⟩; replace HO_5 := IsS83.keepR HI0 HO_5 hk; replace HK := upK HK hk; replace HB := Aside0.mk (hb); replace HI0 := Aside0.mk (hi); (try clear hb); (try clear hb2); (try clear hk); (try clear hi); obtain ⟨Ao7, co7, eo7⟩ := Kd.R_slice HO_5.out; subst eo7))
    have hI_ := A5.out
    unfold insAt.f at hI_
    obtain ⟨i0_, i1_, i2_, hI_⟩ := insAt_parts hI_
    obtain ⟨iq_, hiq_, _, hsq_, _⟩ := info_parts info3
    have hc_ : x5_1.length ≤ co7 := by exact (Kd.R_reads' HO_5.out).2.1
    have hC0_ : Kd.C (Kd.int .i64) w6 Ao7 x5_1.length x5_1 := by repeat (first | exact (Kd.R_reads' HO_5.out).2.2 | (with_reducible refine Kd.C_alloc ?_ _) | (with_reducible refine Kd.C_drewN ?_ _) | (with_reducible refine Kd.C_drew ?_))
    obtain ⟨hcutP_, hAP_, hCP_⟩ := print_take_of (P := Try.prog) (Value.int .i64) 0 24 3 .i64 Try.underlying24 hiq_ hsq_ Ao7 co7 x5_1 t373 i0_ i1_ hc_
    obtain ⟨AD_, hcutD_, hAD_, hCD_⟩ := print_drop_of (P := Try.prog) (Value.int .i64) 0 24 3 .i64 Try.underlying24 hiq_ hsq_ Ao7 co7 x5_1 t373 i0_ i1_ hc_
    replace hCP_ := Kd.C_of_reads (h1 := fun _ => rfl) (hAP_ _ (Kd.reads_of_C hC0_))
    replace hCD_ := Kd.C_of_reads (h1 := fun _ => rfl) (hAD_ _ (Kd.reads_of_C hC0_))
    have hlP_ : (x5_1.take t373.toNat).length = t373.toNat := by rw [List.length_take]; omega
    rw [hlP_] at hCP_
    rw [List.length_drop] at hCD_
    have hbW_ : Below w6.heap.size w6 w6.drew := below_drew1 (Below.refl _ _)
    refine start_ (n := 13) (S := fun w' => True) (ds := []) #[false, false, false, false, false, false, false, false, false, false, false, false, false] (by kernel_rfl) rfl rfl trivial (fun hHeld => ?_)
    refine pure_ (i := 1) (N := some 17) (v := ?_) (a' := ?_) #[false, true, false, false, false, false, false, false, false, false, false, false, false] rfl rfl (by kernel_rfl) (fun _ _ _ h => h) (Or.inl ⟨by rfl, ?_⟩) ?_ ?_
    rotate_left
    ·intro w'
     go_simp
     with_reducible rfl
    rotate_left
    ·simp only [Act.put, List.setIfInBounds_toArray, List.set_cons_zero, List.set_cons_succ, i64_w, i32_w]
     rfl
    refine pure_ (i := 2) (N := some 18) (v := ?_) (a' := ?_) #[false, true, true, false, false, false, false, false, false, false, false, false, false] rfl rfl (by kernel_rfl) (fun _ _ _ h => h) (Or.inl ⟨by rfl, ?_⟩) ?_ ?_
    rotate_left
    ·intro w'
     go_simp
     with_reducible rfl
    rotate_left
    ·simp only [Act.put, List.setIfInBounds_toArray, List.set_cons_zero, List.set_cons_succ, i64_w, i32_w]
     rfl
    refine pure_ (i := 3) (N := some 19) (v := ?_) (a' := ?_) #[false, true, true, true, false, false, false, false, false, false, false, false, false] rfl rfl (by kernel_rfl) (fun _ _ _ h => h) (Or.inl ⟨by rfl, ?_⟩) ?_ ?_
    rotate_left
    ·intro w'
     go_simp
     with_reducible rfl
    rotate_left
    ·simp only [Act.put, List.setIfInBounds_toArray, List.set_cons_zero, List.set_cons_succ, i64_w, i32_w]
     rfl
    refine pure_ (i := 5) (N := some 21) (v := ?_) (a' := ?_) #[false, true, true, true, false, true, false, false, false, false, false, false, false] rfl rfl (by kernel_rfl) (fun _ _ _ h => h) (Or.inl ⟨by rfl, ?_⟩) ?_ ?_
    rotate_left
    ·intro w'
     go_simp
     with_reducible rfl
    rotate_left
    ·simp only [Act.put, List.setIfInBounds_toArray, List.set_cons_zero, List.set_cons_succ, i64_w, i32_w]
     rfl
    refine pure_ (i := 8) (N := some 24) (v := ?_) (a' := ?_) #[false, true, true, true, false, true, false, false, true, false, false, false, false] rfl rfl (by kernel_rfl) (fun _ _ _ h => h) (Or.inl ⟨by rfl, ?_⟩) ?_ ?_
    rotate_left
    ·intro w'
     go_simp
     with_reducible rfl
    rotate_left
    ·simp only [Act.put, List.setIfInBounds_toArray, List.set_cons_zero, List.set_cons_succ, i64_w, i32_w]
     rfl
    refine pure_ (i := 9) (N := some 25) (v := ?_) (a' := ?_) #[false, true, true, true, false, true, false, false, true, true, false, false, false] rfl rfl (by kernel_rfl) (fun _ _ _ h => h) (Or.inl ⟨by rfl, ?_⟩) ?_ ?_
    rotate_left
    ·intro w'
     go_simp
     with_reducible rfl
    rotate_left
    ·simp only [Act.put, List.setIfInBounds_toArray, List.set_cons_zero, List.set_cons_succ, i64_w, i32_w]
     rfl
    refine pure_ (i := 10) (N := some 26) (v := ?_) (a' := ?_) #[false, true, true, true, false, true, false, false, true, true, true, false, false] rfl rfl (by kernel_rfl) (fun _ _ _ h => h) (Or.inl ⟨by rfl, ?_⟩) ?_ ?_
    rotate_left
    ·intro w'
     go_simp
     with_reducible rfl
    rotate_left
    ·simp only [Act.put, List.setIfInBounds_toArray, List.set_cons_zero, List.set_cons_succ, i64_w, i32_w]
     rfl
    refine join_ (σ := Value × Value × Nat) 3 #[true, true, true, true, true, true, true, false, true, true, true, false, false] (fun s => [(16, s.1), (20, s.2.1), (22, .slice (some ⟨s.2.2, 0, none⟩) 1 1)]) (fun s w' => Kd.R (Kd.int .i64) 3 w' w6.heap.size (fun _ => True) s.2.1 ([] ++ (x5_1.take t373.toNat)) ∧ w'.heap[s.2.2]? = some (.cells #[.int .i64 x6_1] 3 (0, 0)) ∧ Below w6.heap.size w6 w') ?_ ?_
    rotate_left
    ·intro hCont
     refine two_ (i := 0) (j := 6) (Ni := some 16) (Nj := some 22) #[true, true, true, true, false, true, false, false, true, true, true, false, false] #[false, true, true, true, false, true, true, false, true, true, true, false, false] rfl rfl rfl rfl (by kernel_rfl) (by decide) (by decide) (fun K hK => ?_) (fun K hK => ?_)
     ·skip
      refine Kd.R_lit_step (Kd.int .i64) (w0 := w6) w6.heap.size 3 (by rfl) (N := 16) rfl (xs := ([] : List Int)) (inner := []) (ok := fun _ => True) (okp := fun _ => True) ?hr ?hp (fun _ hk => hk) trivial hbW_ (hbW_).size (by simp) ?_
      case hr => first | (go_simp; done) | (go_simp; rfl)
      case hp => exact Reps.none _ _
      intro vE wE hoE hbE hgE hnE
      refine hK.out _ _ trivial (fun hHeld => ?_)
      clear hK K
      refine norm_ (a' := ?_) ?_ ?_
      rotate_left
      ·show Act.put _ (some 16) _ = _
       simp only [Act.put, List.setIfInBounds_toArray, List.set_cons_zero, List.set_cons_succ, i64_w, i32_w]
       rfl
      refine two_ (i := 4) (j := 6) (Ni := some 20) (Nj := some 22) #[true, true, true, true, true, true, false, false, true, true, true, false, false] #[true, true, true, true, false, true, true, false, true, true, true, false, false] rfl rfl rfl rfl (by kernel_rfl) (by decide) (by decide) (fun K hK => ?_) (fun K hK => ?_)
      ·skip
       refine Kd.R_append_rows_step (Kd.int .i64) (w0 := w6) w6.heap.size (by rfl) (.tmp 16) (.tmp 19) 24 3 (.int .i64 0) 8 rfl Try.underlying24 info3 rfl (by decide) (by omega) vE [] (x5_1.take t373.toNat) Ao7 _ _ (fun _ => True) (fun _ => False) rfl rfl ?aO ?aR (fun _ _ h => h) (fun _ h => h.elim) (fun _ _ => trivial) ?aB ?aS ?aL ?_
       case aO => exact hoE
       case aR => exact (Kd.C_below hCP_ hbE)
       case aB => exact hbE
       case aS => exact (hbE).size
       case aL => simp only [List.length_append, List.length_cons, List.length_nil, List.length_take, List.length_drop]; omega
       intro vA wA hoA hbA hgA haA
       refine hK.out _ _ trivial (fun hHeld => ?_)
       clear hK K
       refine norm_ (a' := ?_) ?_ ?_
       rotate_left
       ·show Act.put _ (some 20) _ = _
        simp only [Act.put, List.setIfInBounds_toArray, List.set_cons_zero, List.set_cons_succ, i64_w, i32_w]
        rfl
       refine one_ (i := 6) (N := some 22) #[true, true, true, true, true, true, true, false, true, true, true, false, false] rfl rfl (by kernel_rfl) (by decide) (fun K hK => ?_)
       refine value_ (w1 := ?_) (v := ?_) (by rfl) rfl ?_ ?_
       rotate_left 2
       ·go_simp
        constructor
        ·rfl
        ·rfl
       refine hK.out _ _ trivial (fun hHeld => ?_)
       clear hK K
       refine norm_ (a' := ?_) ?_ ?_
       rotate_left
       ·show Act.put _ (some 22) _ = _
        simp only [Act.put, List.setIfInBounds_toArray, List.set_cons_zero, List.set_cons_succ, i64_w, i32_w]
        rfl
       exact norm_ (by simp only [putAll, Act.put, List.setIfInBounds_toArray, List.set_cons_zero, List.set_cons_succ]) (hCont (vE, vA, wA.heap.size) _ ⟨Kd.R_alloc hoA _, heap_alloc_new wA _, below_alloc hbA _⟩)
      ·skip
       refine value_ (w1 := ?_) (v := ?_) (by rfl) rfl ?_ ?_
       rotate_left 2
       ·go_simp
        constructor
        ·rfl
        ·rfl
       refine hK.out _ _ trivial (fun hHeld => ?_)
       clear hK K
       refine norm_ (a' := ?_) ?_ ?_
       rotate_left
       ·show Act.put _ (some 22) _ = _
        simp only [Act.put, List.setIfInBounds_toArray, List.set_cons_zero, List.set_cons_succ, i64_w, i32_w]
        rfl
       refine one_ (i := 4) (N := some 20) #[true, true, true, true, true, true, true, false, true, true, true, false, false] rfl rfl (by kernel_rfl) (by decide) (fun K hK => ?_)
       refine Kd.R_append_rows_step (Kd.int .i64) (w0 := w6) w6.heap.size (by rfl) (.tmp 16) (.tmp 19) 24 3 (.int .i64 0) 8 rfl Try.underlying24 info3 rfl (by decide) (by omega) vE [] (x5_1.take t373.toNat) Ao7 _ _ (fun _ => True) (fun _ => False) rfl rfl ?aO ?aR (fun _ _ h => h) (fun _ h => h.elim) (fun _ _ => trivial) ?aB ?aS ?aL ?_
       case aO => exact (Kd.R_alloc hoE _)
       case aR => exact (Kd.C_below hCP_ (below_alloc hbE _))
       case aB => exact (below_alloc hbE _)
       case aS => exact ((below_alloc hbE _)).size
       case aL => simp only [List.length_append, List.length_cons, List.length_nil, List.length_take, List.length_drop]; omega
       intro vA wA hoA hbA hgA haA
       have hx2_ := (hgA.block wE.heap.size (heap_lt_alloc _ _) (new_ne hoE)).trans (heap_alloc_new wE (.cells #[.int .i64 x6_1] 3))
       refine hK.out _ _ trivial (fun hHeld => ?_)
       clear hK K
       refine norm_ (a' := ?_) ?_ ?_
       rotate_left
       ·show Act.put _ (some 20) _ = _
        simp only [Act.put, List.setIfInBounds_toArray, List.set_cons_zero, List.set_cons_succ, i64_w, i32_w]
        rfl
       exact norm_ (by simp only [putAll, Act.put, List.setIfInBounds_toArray, List.set_cons_zero, List.set_cons_succ]) (hCont (vE, vA, wE.heap.size) _ ⟨hoA, hx2_, hbA⟩)
     ·skip
      refine value_ (w1 := ?_) (v := ?_) (by rfl) rfl ?_ ?_
      rotate_left 2
      ·go_simp
       constructor
       ·rfl
       ·rfl
      refine hK.out _ _ trivial (fun hHeld => ?_)
      clear hK K
      refine norm_ (a' := ?_) ?_ ?_
      rotate_left
      ·show Act.put _ (some 22) _ = _
       simp only [Act.put, List.setIfInBounds_toArray, List.set_cons_zero, List.set_cons_succ, i64_w, i32_w]
       rfl
      refine one_ (i := 0) (N := some 16) #[true, true, true, true, false, true, true, false, true, true, true, false, false] rfl rfl (by kernel_rfl) (by decide) (fun K hK => ?_)
      refine Kd.R_lit_step (Kd.int .i64) (w0 := w6) w6.heap.size 3 (by rfl) (N := 16) rfl (xs := ([] : List Int)) (inner := []) (ok := fun _ => True) (okp := fun _ => True) ?hr ?hp (fun _ hk => hk) trivial (below_alloc hbW_ (.cells #[.int .i64 x6_1] 3)) ((below_alloc hbW_ (.cells #[.int .i64 x6_1] 3))).size (by simp) ?_
      case hr => first | (go_simp; done) | (go_simp; rfl)
      case hp => exact Reps.none _ _
      intro vE wE hoE hbE hgE hnE
      have hx1_ := (hgE.block w6.drew.heap.size (heap_lt_alloc _ _) (by simp)).trans (heap_alloc_new w6.drew (.cells #[.int .i64 x6_1] 3))
      refine hK.out _ _ trivial (fun hHeld => ?_)
      clear hK K
      refine norm_ (a' := ?_) ?_ ?_
      rotate_left
      ·show Act.put _ (some 16) _ = _
       simp only [Act.put, List.setIfInBounds_toArray, List.set_cons_zero, List.set_cons_succ, i64_w, i32_w]
       rfl
      refine one_ (i := 4) (N := some 20) #[true, true, true, true, true, true, true, false, true, true, true, false, false] rfl rfl (by kernel_rfl) (by decide) (fun K hK => ?_)
      refine Kd.R_append_rows_step (Kd.int .i64) (w0 := w6) w6.heap.size (by rfl) (.tmp 16) (.tmp 19) 24 3 (.int .i64 0) 8 rfl Try.underlying24 info3 rfl (by decide) (by omega) vE [] (x5_1.take t373.toNat) Ao7 _ _ (fun _ => True) (fun _ => False) rfl rfl ?aO ?aR (fun _ _ h => h) (fun _ h => h.elim) (fun _ _ => trivial) ?aB ?aS ?aL ?_
      case aO => exact hoE
      case aR => exact (Kd.C_below hCP_ hbE)
      case aB => exact hbE
      case aS => exact (hbE).size
      case aL => simp only [List.length_append, List.length_cons, List.length_nil, List.length_take, List.length_drop]; omega
      intro vA wA hoA hbA hgA haA
      have hx2_ := (hgA.block w6.drew.heap.size (lt_of_cells hx1_) (elder_ne hnE (heap_lt_alloc _ _))).trans hx1_
      refine hK.out _ _ trivial (fun hHeld => ?_)
      clear hK K
      refine norm_ (a' := ?_) ?_ ?_
      rotate_left
      ·show Act.put _ (some 20) _ = _
       simp only [Act.put, List.setIfInBounds_toArray, List.set_cons_zero, List.set_cons_succ, i64_w, i32_w]
       rfl
      exact norm_ (by simp only [putAll, Act.put, List.setIfInBounds_toArray, List.set_cons_zero, List.set_cons_succ]) (hCont (vE, vA, w6.heap.size) _ ⟨hoA, hx2_, hbA⟩)
    rintro ⟨v16_, v20_, b_⟩ w20_ ⟨hoT_, hbx_, hbT_⟩
    have hHeld : True := trivial
    refine norm_ (a' := ?_) ?_ ?_
    rotate_left
    ·simp only [putAll, Act.put, List.setIfInBounds_toArray, List.set_cons_zero, List.set_cons_succ]
     rfl
    refine one_ (i := 7) (N := some 23) #[true, true, true, true, true, true, true, true, true, true, true, false, false] rfl rfl (by kernel_rfl) (by decide) (fun K hK => ?_)
    refine Kd.R_append_rows_step (Kd.int .i64) (w0 := w6) w6.heap.size (by rfl) (.tmp 20) (.tmp 22) 24 3 (.int .i64 0) 8 rfl Try.underlying24 info3 rfl (by decide) (by omega) v20_ ([] ++ (x5_1.take t373.toNat)) [x6_1] (some ⟨b_, 0, none⟩) 1 1 (fun _ => True) (fun _ => False) rfl rfl ?aO ?aR (fun _ _ h => h) (fun _ h => h.elim) (fun _ _ => trivial) ?aB ?aS ?aL ?_
    case aO => exact hoT_
    case aR => exact (C_box hbx_)
    case aB => exact hbT_
    case aS => exact (hbT_).size
    case aL => simp only [List.length_append, List.length_cons, List.length_nil, List.length_take, List.length_drop]; omega
    intro v23_ w23_ hoT2_ hbT2_ hgT2_ haT2_
    refine hK.out _ _ trivial (fun hHeld => ?_)
    clear hK K
    refine norm_ (a' := ?_) ?_ ?_
    rotate_left
    ·show Act.put _ (some 23) _ = _
     simp only [Act.put, List.setIfInBounds_toArray, List.set_cons_zero, List.set_cons_succ, i64_w, i32_w]
     rfl
    refine one_ (i := 11) (N := some 27) #[true, true, true, true, true, true, true, true, true, true, true, true, false] rfl rfl (by kernel_rfl) (by decide) (fun K hK => ?_)
    refine Kd.R_append_rows_step (Kd.int .i64) (w0 := w6) w6.heap.size (by rfl) (.tmp 23) (.tmp 26) 24 3 (.int .i64 0) 8 rfl Try.underlying24 info3 rfl (by decide) (by omega) v23_ ([] ++ (x5_1.take t373.toNat) ++ [x6_1]) (x5_1.drop t373.toNat) AD_ _ _ (fun _ => True) (fun _ => False) rfl rfl ?aO ?aR (fun _ _ h => h) (fun _ h => h.elim) (fun _ _ => trivial) ?aB ?aS ?aL ?_
    case aO => exact hoT2_
    case aR => exact (Kd.C_below hCD_ hbT2_)
    case aB => exact hbT2_
    case aS => exact (hbT2_).size
    case aL => simp only [List.length_append, List.length_cons, List.length_nil, List.length_take, List.length_drop]; omega
    intro v377 w8 hoZ_ hbZ_ hgZ_ haZ_
    refine hK.out _ _ trivial (fun hHeld => ?_)
    clear hK K
    refine norm_ (a' := ?_) ?_ ?_
    rotate_left
    ·show Act.put _ (some 27) _ = _
     simp only [Act.put, List.setIfInBounds_toArray, List.set_cons_zero, List.set_cons_succ, i64_w, i32_w]
     rfl
    refine pure_ (i := 12) (N := some 5) (v := ?_) (a' := ?_) #[true, true, true, true, true, true, true, true, true, true, true, true, true] rfl rfl (by kernel_rfl) (fun _ _ _ h => h) (Or.inl ⟨by rfl, ?_⟩) ?_ ?_
    rotate_left
    ·intro w'
     go_simp
     with_reducible rfl
    rotate_left
    ·simp only [Act.put, List.setIfInBounds_toArray, List.set_cons_zero, List.set_cons_succ, i64_w, i32_w]
     rfl
    refine done_ (by kernel_rfl) ?_
    have ho0 : Kd.R (Kd.int .i64) 3 w8 w6.heap.size (fun _ => True) v377 t376 := by have h_ := hoZ_; rw [List.nil_append] at h_; rw [← hI_]; exact h_
    have hb := hbZ_
    have HO378 := Aside0.mk (Kd.R_lower (Kd.R_new' ho0 (ltR HO_5)) (szK HK)); replace HO_5 := eldRR HO_5 ho0 hb; replace HI0 := IsS83.up HI0 hb; replace HK := upKB HK hb; replace HB := upB HB hb; (try clear hb); (try clear hb2); (try clear hk); (try clear hi); (try clear ho0)
    (try clear hoZ_ hbZ_ hgZ_ haZ_ hoT_ hoT2_)
    try go_wp2
    go_roundg k1
    case measure => have := HK1.out; omega
    case rel => exact ⟨(t376), (wrap64 (x6_1 + 1)), (t374), (t375), eqd, H', ⟨by have := HK1.out; omega⟩, ⟨by (with_reducible repeat (first | apply Kd.R_alloc | apply Kd.R_drewN | apply Kd.R_drew)); exact Kd.R_mono HO378.out (fun _ hk => trivial)⟩, ⟨IsS83.at HI0⟩, ⟨atK HK⟩, ⟨atB HB⟩⟩
   ·rw [if_neg c3] at H
    have c3b0 : decide (x6_1 < a1) = false := decide_eq_false c3
    clear c3
    simp only [Option.some.injEq, Prod.mk.injEq] at H
    obtain ⟨rfl, rfl, rfl⟩ := H
    go_wp2
    go_ret
    exact ⟨_, eqr, atR HO_5, IsS83.at HI0, atB HB, atK HK⟩

noncomputable def spec_l1Cur_dotsUp.L0 (x1 : Int) (x5 : List Int) (x6 : Int) (x1000 : List Int) (x1001 : Int) (x1002 : Int) : Option (List Int × Int × Int) := lim fun k => spec_l1Cur_dotsUp.l0 k x1 x5 x6 x1000 x1001 x1002
theorem spec_l1Cur_dotsUp.L0_lim (x1 : Int) (x5 : List Int) (x6 : Int) (x1000 : List Int) (x1001 : Int) (x1002 : Int) : Lim (fun k => spec_l1Cur_dotsUp.l0 k x1 x5 x6 x1000 x1001 x1002) (spec_l1Cur_dotsUp.L0 x1 x5 x6 x1000 x1001 x1002) := Lim.of fun k => (spec_l1Cur_dotsUp.mono_l k) x1 x5 x6 x1000 x1001 x1002
noncomputable def spec_l1Cur_dotsUp.F (s0_0 : List Int) (s0_1 : Int) (s0_2 : Int) (a1 : Int) : Option (List Int × Int × Int) := lim fun k => spec_l1Cur_dotsUp.f k s0_0 s0_1 s0_2 a1
theorem spec_l1Cur_dotsUp.F_lim (s0_0 : List Int) (s0_1 : Int) (s0_2 : Int) (a1 : Int) : Lim (fun k => spec_l1Cur_dotsUp.f k s0_0 s0_1 s0_2 a1) (spec_l1Cur_dotsUp.F s0_0 s0_1 s0_2 a1) := Lim.of fun k => spec_l1Cur_dotsUp.mono s0_0 s0_1 s0_2 a1 k
theorem spec_l1Cur_dotsUp.L0_eq (x1 : Int) (x5 : List Int) (x6 : Int) (x1000 : List Int) (x1001 : Int) (x1002 : Int) : spec_l1Cur_dotsUp.L0 x1 x5 x6 x1000 x1001 x1002 = (if x6 < x1 then ((spec_l1Cur_pick.f x1000 x1001 x1002 x6).bind fun bt373 => ((insAt.f x5 bt373.1 x6).bind fun t376 => (spec_l1Cur_dotsUp.L0 x1 t376 (wrap64 (x6 + 1)) x1000 bt373.2.1 bt373.2.2))) else (some (x5, x1001, x1002))) :=
 Lim.step (f := fun k => spec_l1Cur_dotsUp.l0 (k + 1) x1 x5 x6 x1000 x1001 x1002) (spec_l1Cur_dotsUp.L0_lim x1 x5 x6 x1000 x1001 x1002) (fun _ => rfl) (by
  simp only [spec_l1Cur_dotsUp.l0]
  repeat' (first | (with_reducible first | exact Lim.const _ | exact spec_l1Cur_dotsUp.L0_lim _ _ _ _ _ _ | refine Lim.ite ?_ ?_ | refine Lim.bind ?_ (fun _ => ?_))))
theorem spec_l1Cur_dotsUp.F_eq (s0_0 : List Int) (s0_1 : Int) (s0_2 : Int) (a1 : Int) : spec_l1Cur_dotsUp.F s0_0 s0_1 s0_2 a1 = (spec_l1Cur_dotsUp.L0 a1 ([] : List Int) 1 s0_0 s0_1 s0_2) :=
 Lim.unique (spec_l1Cur_dotsUp.F_lim s0_0 s0_1 s0_2 a1) (by
  unfold spec_l1Cur_dotsUp.f
  repeat' (first | (with_reducible first | exact Lim.const _ | exact spec_l1Cur_dotsUp.L0_lim _ _ _ _ _ _ | refine Lim.ite ?_ ?_ | refine Lim.bind ?_ (fun _ => ?_))))

end Go.Proofs.Ytadhfbchilaklaa.Fn
namespace Go.Proofs.Ytadhfbchilaklaa.Fn
open Go.RowKit Go.Proofs.YtadhfbchilaklaaW.PrintWords Go.Proofs.YtadhfbchilaklaaW.PrintLast Go.Proofs.YtadhfbchilaklaaW.PrintMore
attribute [local go_sem] max2_int min2_int max_two min_two max_three min_three max_four min_four   -- for this text's walks alone
set_option linter.unusedVariables false
set_option linter.unusedSimpArgs false

/-! ### spec_PowersDots: function 51 -/
mutual
def spec_PowersDots.j0 : Nat → Int → Int → Bool → Option (List Int × Bool)
 | 0, _, _, _ => none
 | k + 1, x0, x1, x17 => if x17 = true then (some (([] : List Int), false)) else ((spec_doPowers.f k x0 x1).bind fun t352 => (spec_PowersDots.l0 k ([] : List Int) t352 (t352.length : Int) 0))
def spec_PowersDots.l0 : Nat → List Int → List Int → Int → Int → Option (List Int × Bool)
 | 0, _, _, _, _ => none
 | k + 1, x6, x20, x21, x22 => if x22 < x21 then (if 0 ≤ x22 then (if x22 < (x20.length : Int) then (if x6.length < 17592186044416 then (spec_PowersDots.l0 k (x6 ++ [wrap64 ((rd x20 x22) - 1)]) x20 x21 (wrap64 (x22 + 1))) else (none)) else (none)) else (none)) else (some (x6, true))
end
def spec_PowersDots.f (k : Nat) (a0 : Int) (a1 : Int) : Option (List Int × Bool) := (spec_doPrime.f k a0).bind fun t350 => (if t350 = true then ((spec_doRoot.f k a0 a1).bind fun t351 => (spec_PowersDots.j0 k a0 a1 (!t351))) else (spec_PowersDots.j0 k a0 a1 true))
theorem spec_PowersDots.mono_l : ∀ k, (∀ y0 y1 y2, LeO (spec_PowersDots.j0 k y0 y1 y2) (spec_PowersDots.j0 (k + 1) y0 y1 y2)) ∧ (∀ y0 y1 y2 y3, LeO (spec_PowersDots.l0 k y0 y1 y2 y3) (spec_PowersDots.l0 (k + 1) y0 y1 y2 y3))
 | 0 => ⟨fun _ _ _ r h => by simp [spec_PowersDots.j0] at h, fun _ _ _ _ r h => by simp [spec_PowersDots.l0] at h⟩
 | k + 1 => by
  obtain ⟨ih0, ih1⟩ := spec_PowersDots.mono_l k
  refine ⟨?_, ?_⟩
  ·intro y0 y1 y2
   unfold spec_PowersDots.j0
   repeat' (first | (with_reducible first | exact ih1 _ _ _ _ | exact spec_doPowers.mono _ _ _ | exact LeO.refl _ | exact LeO.none _ | refine LeO.ite ?_ ?_ | refine LeO.bind ?_ (fun _ => ?_)) | exact ih1 _ _ _ _ | exact spec_doPowers.mono _ _ _ | exact LeO.none _ | refine LeO.ite ?_ ?_ | refine LeO.bind ?_ (fun _ => ?_))
  ·intro y0 y1 y2 y3
   unfold spec_PowersDots.l0
   repeat' (first | (with_reducible first | exact ih1 _ _ _ _ | exact LeO.refl _ | exact LeO.none _ | refine LeO.ite ?_ ?_ | refine LeO.bind ?_ (fun _ => ?_)) | exact ih1 _ _ _ _ | exact LeO.none _ | refine LeO.ite ?_ ?_ | refine LeO.bind ?_ (fun _ => ?_))
theorem spec_PowersDots.mono : ∀ a0 a1 k, LeO (spec_PowersDots.f k a0 a1) (spec_PowersDots.f (k + 1) a0 a1) := by
 intro a0 a1 k
 obtain ⟨ih0, ih1⟩ := spec_PowersDots.mono_l k
 unfold spec_PowersDots.f
 repeat' (first | (with_reducible first | exact ih0 _ _ _ | exact spec_doPrime.mono _ _ | exact spec_doRoot.mono _ _ _ | exact LeO.refl _ | exact LeO.none _ | refine LeO.ite ?_ ?_ | refine LeO.bind ?_ (fun _ => ?_)) | exact ih0 _ _ _ | exact spec_doPrime.mono _ _ | exact spec_doRoot.mono _ _ _ | exact LeO.none _ | refine LeO.ite ?_ ?_ | refine LeO.bind ?_ (fun _ => ?_))
set_option maxHeartbeats 8000000 in
set_option maxRecDepth 100000 in
theorem spec_PowersDots.calls (k : Nat) (a0 : Int) (a1 : Int) (r1 : List Int) (r2 : Bool) (w : World) (h : spec_PowersDots.f k a0 a1 = some (r1, r2)) :
  Calls Try.prog 51 #[.int .i64 a0, .int .i64 a1] w fun e w' => ∃ v0_ : Value, e = .returned (.tuple #[v0_, .bool r2]) ∧ Kd.R (Kd.int .i64) 3 w' w.heap.size (fun _ => True) v0_ r1 ∧ Below w.heap.size w w' := by
 have HB := Aside0.mk (Below.refl w.heap.size w)
 have H := h
 unfold spec_PowersDots.f at H
 clear h
 have HC3 := Aside0.mk H
 clear H
 go_enter Try.func51, Try.ntmps51
 go_upto_region 1 with (fail)
 go_cut [17] (fun v17 wc => ∃ (kq : Nat) (x17_2 : Bool), v17 = .bool x17_2 ∧ Aside0 (spec_PowersDots.j0 kq a0 a1 x17_2 = some (r1, r2)) ∧ Aside0 (kq ≤ k) ∧ Aside0 (Below w.heap.size w wc))
 case first =>
  have H := HC3.out
  clear HC3
  replace H := Option.bind_eq_some_iff.mp H
  obtain ⟨t350, A40, H⟩ := H
  replace H : (if t350 = true then ((spec_doRoot.f k a0 a1).bind fun t351 => (spec_PowersDots.j0 k a0 a1 (!t351))) else (spec_PowersDots.j0 k a0 a1 true)) = some (r1, r2) := H
  have A4 := Aside0.mk A40
  clear A40
  by_cases c5 : t350 = true
  ·subst c5
   have H1 : ((spec_doRoot.f k a0 a1).bind fun t351 => (spec_PowersDots.j0 k a0 a1 (!t351))) = some (r1, r2) := by rw [if_pos rfl] at H; exact H
   clear H
   have H := H1
   clear H1
   replace H := Option.bind_eq_some_iff.mp H
   obtain ⟨t351, A60, H⟩ := H
   replace H : (spec_PowersDots.j0 k a0 a1 (!t351)) = some (r1, r2) := H
   have A6 := Aside0.mk A60
   clear A60
   have H' := Aside0.mk H
   clear H
   go_wp2_with (first | ((with_reducible refine gate_callee (f := 173) rfl ?_); refine goesA (some 10) Try.func173 #[.int .i64 a0] ?_; (with_reducible refine (spec_doPrime.calls k a0 true _ A4.out).mono ?_); rintro e w7 ⟨rfl, hb⟩; refine ⟨_, rfl, ?_⟩; replace HB := upB HB hb; (try clear hb); (try clear hb2); (try clear hk); (try clear hi)) | (go_at_call 174; (with_reducible refine (spec_doRoot.calls k a0 a1 t351 _ A6.out).mono ?_); rintro e w8 ⟨rfl, hb⟩; replace HB := upB HB hb; (try clear hb); (try clear hb2); (try clear hk); (try clear hi)))
   go_meet
   case rel => exact ⟨_, (!t351), eqd, H', ⟨leD⟩, ⟨atB HB⟩⟩
  ·replace c5 := Bool.eq_false_iff.mpr c5
   subst c5
   have H1 : (spec_PowersDots.j0 k a0 a1 true) = some (r1, r2) := by rw [if_neg (show ¬ (false = true) by decide)] at H; exact H
   clear H
   have H := H1
   clear H1
   have H' := Aside0.mk H
   clear H
   go_wp2_with (first | ((with_reducible refine gate_callee (f := 173) rfl ?_); refine goesA (some 10) Try.func173 #[.int .i64 a0] ?_; (with_reducible refine (spec_doPrime.calls k a0 false _ A4.out).mono ?_); rintro e w9 ⟨rfl, hb⟩; refine ⟨_, rfl, ?_⟩; replace HB := upB HB hb; (try clear hb); (try clear hb2); (try clear hk); (try clear hi)))
   go_meet
   case rel => exact ⟨_, (true), eqd, H', ⟨leD⟩, ⟨atB HB⟩⟩
 case rest =>
  clear HC3
  try clear c1
  try clear p2
  try clear c5
  obtain ⟨kq, x17_2, rfl, HA, HJ2, HB⟩ := hcut
  cases kq with
  | zero => exact absurd HA.out (by simp [spec_PowersDots.j0])
  | succ kj2 =>
   have H := HA.out
   clear HA
   simp only [spec_PowersDots.j0] at H
   by_cases c10 : x17_2 = true
   ·subst c10
    have H1 : (some (([] : List Int), false)) = some (r1, r2) := by rw [if_pos rfl] at H; exact H
    clear H
    have H := H1
    clear H1
    simp only [Option.some.injEq, Prod.mk.injEq] at H
    obtain ⟨rfl, rfl⟩ := H
    go_wp2
    go_ret2
    exact ⟨_, eqr, by first | exact Kd.R_nil _ _ _ _ _ | exact Kd.N_nil _ _ _ _ _ | exact Kd.V_nil _ _ _ _ _ | exact Kd.Q_nil _ _ _ _ _ | exact Kd.S_nil _ _ _ _ _, atB HB⟩
   ·replace c10 := Bool.eq_false_iff.mpr c10
    subst c10
    have H1 : ((spec_doPowers.f kj2 a0 a1).bind fun t352 => (spec_PowersDots.l0 kj2 ([] : List Int) t352 (t352.length : Int) 0)) = some (r1, r2) := by rw [if_neg (show ¬ (false = true) by decide)] at H; exact H
    clear H
    have H := H1
    clear H1
    replace H := Option.bind_eq_some_iff.mp H
    obtain ⟨t352, A110, H⟩ := H
    replace H : (spec_PowersDots.l0 kj2 ([] : List Int) t352 (t352.length : Int) 0) = some (r1, r2) := H
    have A11 := Aside0.mk A110
    clear A110
    have H' := Aside0.mk H
    clear H
    go_wp2_with (first | ((with_reducible refine gate_callee (f := 175) rfl ?_); refine goesA (some 20) Try.func175 #[.int .i64 a0, .int .i64 a1] ?_; (with_reducible refine (spec_doPowers.calls kj2 a0 a1 t352 _ A11.out).mono ?_); rintro e w12 ⟨v353, rfl, ho0, hb⟩; refine ⟨_, rfl, ?_⟩; have HO354 := lowR ho0 HB; replace HB := upB HB hb; (try clear hb); (try clear hb2); (try clear hk); (try clear hi); (try clear ho0); obtain ⟨Ao13, co13, eo13⟩ := Kd.R_slice HO354.out; subst eo13))
    go_loopg [6, 22] kj2 (fun kq v6 v22 w' => ∃ (x6_2 : List Int) (x22_2 : Int), v22 = .int .i64 x22_2 ∧ Aside0 (spec_PowersDots.l0 kq x6_2 t352 (t352.length : Int) x22_2 = some (r1, r2)) ∧ Aside0 (kq ≤ kj2) ∧ Aside0 (Kd.R (Kd.int .i64) 3 w' w.heap.size (fun k_ => some k_ ≠ ((.slice Ao13 t352.length co13) : Value).ownBlock) v6 x6_2) ∧ Aside0 (Kd.R (Kd.int .i64) 3 w' w.heap.size (fun k_ => some k_ ≠ (v6 : Value).ownBlock) (.slice Ao13 t352.length co13) t352) ∧ Aside0 (Below w.heap.size w w'))
    case atStart => exact ⟨(([] : List Int)), (0), eqd, H', ⟨Nat.le_refl _⟩, ⟨by first | exact Kd.R_nil _ _ _ _ _ | exact Kd.N_nil _ _ _ _ _ | exact Kd.V_nil _ _ _ _ _ | exact Kd.Q_nil _ _ _ _ _ | exact Kd.S_nil _ _ _ _ _⟩, ⟨by (with_reducible repeat (first | apply Kd.R_alloc | apply Kd.R_drewN | apply Kd.R_drew)); exact Kd.R_mono HO354.out (fun _ hk => (by simp [Value.ownBlock]))⟩, ⟨atB HB⟩⟩
    case round =>
     clear H'
     try clear c1
     try clear p2
     try clear c5
     try clear c10
     try clear p2
     obtain ⟨x6_2, x22_2, rfl, HA, HK2, HO_6, HO_20, HB⟩ := hrel
     cases gk with
     | zero => exact absurd HA.out (by simp [spec_PowersDots.l0])
     | succ k2 =>
      have H := HA.out
      clear HA
      simp only [spec_PowersDots.l0] at H
      by_cases c14 : x22_2 < (t352.length : Int)
      ·rw [if_pos c14] at H
       have c14b0 : decide (x22_2 < (t352.length : Int)) = true := decide_eq_true c14
       clear c14
       by_cases c15 : 0 ≤ x22_2
       ·rw [if_pos c15] at H
        have c15b0 : decide (0 ≤ x22_2) = true := decide_eq_true c15
        clear c15
        by_cases c16 : x22_2 < (t352.length : Int)
        ·rw [if_pos c16] at H
         have c16b0 : decide (x22_2 < (t352.length : Int)) = true := decide_eq_true c16
         clear c16
         by_cases c17 : x6_2.length < 17592186044416
         ·rw [if_pos c17] at H
          have LMc17 := Aside0.mk c17
          clear c17
          obtain ⟨y356, hy356⟩ : ∃ y_ : List Int, y_ = (x6_2 ++ [wrap64 ((rd t352 x22_2) - 1)]) := ⟨_, rfl⟩
          replace H : (spec_PowersDots.l0 k2 y356 t352 (t352.length : Int) (wrap64 (x22_2 + 1))) = some (r1, r2) := by first | (rw [hy356]; with_reducible exact H) | (have H2_ := (Option.bind_some _ _).symm.trans H; rw [hy356]; with_reducible exact H2_) | (have H2_ := (Option.bind_some _ _).symm.trans H; with_reducible exact H2_) | with_reducible exact H | (rw [hy356]; exact H) | exact H
          have Ny356 := Aside0.mk hy356
          clear hy356
          have H' := Aside0.mk H
          clear H
          have p355 : 0 ≤ (x22_2 : Int) := ofd
          have q355 : x22_2 < (t352.length : Int) := ofd
          obtain ⟨ad355, e355, hx355_0⟩ := Kd.at_int (Kd.R_reads' HO_20.out).2.2 x22_2 p355 q355
          cases e355
          replace p355 := eq_true p355
          replace q355 := eq_true q355
          go_wp2_with (first | ((with_reducible refine gate_builtin (b := .append) (xs := #[.tmp 26, .tmp 29]) rfl ?_); at_builtin; refine Kd.R_append (Kd.int .i64) (w0 := w) w.heap.size rfl (.tmp 26) (.tmp 29) 24 3 (.int .i64 0) 8 rfl Try.underlying24 info3 rfl (by decide) (by omega) u6 x6_2 (wrap64 ((rd t352 x22_2) - 1)) [.int .i64 (wrap64 ((rd t352 x22_2) - 1))] (fun k_ => some k_ ≠ (.slice (some ad355) t352.length co13 : Value).ownBlock) (fun _ => False) rfl rfl ?aP (fun _ hk => hk.elim) ?aF ?aO ?aB ?aS ?aL ?_; (case aP => exact rfl); (case aB => exact (atB HB)); (case aF => exact (fun k_ hk => Kd.fresh' (ltR HO_20) k_ hk)); (case aO => exact (atR HO_6)); (case aS => exact (szB HB)); (case aL => have := LMc17.out; omega); intro v357 w18 ho hb hg hat; rw [← Ny356.out] at ho; have HO358 := Aside0.mk (ho); replace HO_20 := Aside0.mk (Kd.R_after (ok := (fun _ => True)) (by (with_reducible repeat (first | apply Kd.R_alloc | apply Kd.R_drewN | apply Kd.R_drew)); exact Kd.R_mono HO_20.out (fun _ hk => ⟨trivial, hk⟩)) hg hat); replace HB := Aside0.mk (hb); clear HO_6; clear ho hb hg hat))
          go_roundg k2
          case measure => have := HJ2.out; have := HK2.out; omega
          case rel => exact ⟨(y356), (wrap64 (x22_2 + 1)), eqd, H', ⟨by have := HJ2.out; have := HK2.out; omega⟩, ⟨atR HO358⟩, ⟨by (with_reducible repeat (first | apply Kd.R_alloc | apply Kd.R_drewN | apply Kd.R_drew)); exact Kd.R_mono HO_20.out (fun _ hk => hk.2)⟩, ⟨atB HB⟩⟩
         ·rw [if_neg c17] at H
          exact absurd H (by simp)
        ·rw [if_neg c16] at H
         exact absurd H (by simp)
       ·rw [if_neg c15] at H
        exact absurd H (by simp)
      ·rw [if_neg c14] at H
       have c14b0 : decide (x22_2 < (t352.length : Int)) = false := decide_eq_false c14
       clear c14
       simp only [Option.some.injEq, Prod.mk.injEq] at H
       obtain ⟨rfl, rfl⟩ := H
       go_wp2
       go_ret2
       exact ⟨_, eqr, by (with_reducible repeat (first | apply Kd.R_alloc | apply Kd.R_drewN | apply Kd.R_drew)); exact Kd.R_mono HO_6.out (fun _ hk => trivial), atB HB⟩

noncomputable def spec_PowersDots.J0 (x0 : Int) (x1 : Int) (x17 : Bool) : Option (List Int × Bool) := lim fun k => spec_PowersDots.j0 k x0 x1 x17
theorem spec_PowersDots.J0_lim (x0 : Int) (x1 : Int) (x17 : Bool) : Lim (fun k => spec_PowersDots.j0 k x0 x1 x17) (spec_PowersDots.J0 x0 x1 x17) := Lim.of fun k => (spec_PowersDots.mono_l k).1 x0 x1 x17
noncomputable def spec_PowersDots.L0 (x6 : List Int) (x20 : List Int) (x21 : Int) (x22 : Int) : Option (List Int × Bool) := lim fun k => spec_PowersDots.l0 k x6 x20 x21 x22
theorem spec_PowersDots.L0_lim (x6 : List Int) (x20 : List Int) (x21 : Int) (x22 : Int) : Lim (fun k => spec_PowersDots.l0 k x6 x20 x21 x22) (spec_PowersDots.L0 x6 x20 x21 x22) := Lim.of fun k => (spec_PowersDots.mono_l k).2 x6 x20 x21 x22
noncomputable def spec_PowersDots.F (a0 : Int) (a1 : Int) : Option (List Int × Bool) := lim fun k => spec_PowersDots.f k a0 a1
theorem spec_PowersDots.F_lim (a0 : Int) (a1 : Int) : Lim (fun k => spec_PowersDots.f k a0 a1) (spec_PowersDots.F a0 a1) := Lim.of fun k => spec_PowersDots.mono a0 a1 k
theorem spec_PowersDots.J0_eq (x0 : Int) (x1 : Int) (x17 : Bool) : spec_PowersDots.J0 x0 x1 x17 = (if x17 = true then (some (([] : List Int), false)) else ((spec_doPowers.F x0 x1).bind fun t352 => (spec_PowersDots.L0 ([] : List Int) t352 (t352.length : Int) 0))) :=
 Lim.step (f := fun k => spec_PowersDots.j0 (k + 1) x0 x1 x17) (spec_PowersDots.J0_lim x0 x1 x17) (fun _ => rfl) (by
  simp only [spec_PowersDots.j0]
  repeat' (first | (with_reducible first | exact Lim.const _ | exact spec_PowersDots.L0_lim _ _ _ _ | exact spec_doPowers.F_lim _ _ | refine Lim.ite ?_ ?_ | refine Lim.bind ?_ (fun _ => ?_))))
theorem spec_PowersDots.L0_eq (x6 : List Int) (x20 : List Int) (x21 : Int) (x22 : Int) : spec_PowersDots.L0 x6 x20 x21 x22 = (if x22 < x21 then (if 0 ≤ x22 then (if x22 < (x20.length : Int) then (if x6.length < 17592186044416 then (spec_PowersDots.L0 (x6 ++ [wrap64 ((rd x20 x22) - 1)]) x20 x21 (wrap64 (x22 + 1))) else (none)) else (none)) else (none)) else (some (x6, true))) :=
 Lim.step (f := fun k => spec_PowersDots.l0 (k + 1) x6 x20 x21 x22) (spec_PowersDots.L0_lim x6 x20 x21 x22) (fun _ => rfl) (by
  simp only [spec_PowersDots.l0]
  repeat' (first | (with_reducible first | exact Lim.const _ | exact spec_PowersDots.L0_lim _ _ _ _ | refine Lim.ite ?_ ?_ | refine Lim.bind ?_ (fun _ => ?_))))
theorem spec_PowersDots.F_eq (a0 : Int) (a1 : Int) : spec_PowersDots.F a0 a1 = ((spec_doPrime.F a0).bind fun t350 => (if t350 = true then ((spec_doRoot.F a0 a1).bind fun t351 => (spec_PowersDots.J0 a0 a1 (!t351))) else (spec_PowersDots.J0 a0 a1 true))) :=
 Lim.unique (spec_PowersDots.F_lim a0 a1) (by
  unfold spec_PowersDots.f
  repeat' (first | (with_reducible first | exact Lim.const _ | exact spec_PowersDots.J0_lim _ _ _ | exact spec_doPrime.F_lim _ | exact spec_doRoot.F_lim _ _ | refine Lim.ite ?_ ?_ | refine Lim.bind ?_ (fun _ => ?_))))

end Go.Proofs.Ytadhfbchilaklaa.Fn
