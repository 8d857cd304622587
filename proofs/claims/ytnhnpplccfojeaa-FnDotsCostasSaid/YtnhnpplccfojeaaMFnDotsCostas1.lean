/- The machine's side and plain lemmas for FnDotsCostas: texts of this session, merged by its program (part 1). -/
import Derived.Laws.Rows
import Derived.Test.YtnhnpplccfojeaaMFnDotsCostas0
namespace Go.Proofs.Ytnhnpplccfojeaa.Fn
open Go.RowKit Go.Proofs.YtnhnpplccfojeaaW.PrintWords Go.Proofs.YtnhnpplccfojeaaW.PrintLast Go.Proofs.YtnhnpplccfojeaaW.PrintMore
attribute [local go_sem] max2_int min2_int max_two min_two max_three min_three max_four min_four   -- for this text's walks alone
set_option linter.unusedVariables false
set_option linter.unusedSimpArgs false
/-! ### impl_turned: function 152 -/
def impl_turned.l0 : Nat → List Int → List Int → List Int → Int → Int → Option (List Int)
 | 0, _, _, _, _, _ => none
 | k + 1, x0, x3, x9, x10, x11 => if x11 < x10 then (if 0 ≤ x11 then (if x11 < (x9.length : Int) then (if 0 ≤ (rd x9 x11) then (if (rd x9 x11) < (x3.length : Int) then (impl_turned.l0 k x0 (x3.set ((rd x9 x11) : Int).toNat (wrap64 ((wrap64 ((x0.length : Int) - 1)) - x11))) x9 x10 (wrap64 (x11 + 1))) else (none)) else (none)) else (none)) else (none)) else (some x3)
def impl_turned.f (k : Nat) (l0 : List Int) : Option (List Int) := if 0 ≤ (l0.length : Int) then (if ((l0.length : Int) : Int).toNat ≤ 35184372088832 then (impl_turned.l0 k l0 (List.replicate ((l0.length : Int) : Int).toNat 0) l0 (l0.length : Int) 0) else (none)) else (none)
theorem impl_turned.mono_l : ∀ k, (∀ y0 y1 y2 y3 y4, LeO (impl_turned.l0 k y0 y1 y2 y3 y4) (impl_turned.l0 (k + 1) y0 y1 y2 y3 y4))
 | 0 => fun _ _ _ _ _ r h => by simp [impl_turned.l0] at h
 | k + 1 => by
  have ih0 := impl_turned.mono_l k
  ·intro y0 y1 y2 y3 y4
   unfold impl_turned.l0
   repeat' (first | (with_reducible first | exact ih0 _ _ _ _ _ | exact LeO.refl _ | exact LeO.none _ | refine LeO.ite ?_ ?_ | refine LeO.bind ?_ (fun _ => ?_)) | exact ih0 _ _ _ _ _ | exact LeO.none _ | refine LeO.ite ?_ ?_ | refine LeO.bind ?_ (fun _ => ?_))
theorem impl_turned.mono : ∀ a0 k, LeO (impl_turned.f k a0) (impl_turned.f (k + 1) a0) := by
 intro a0 k
 have ih0 := impl_turned.mono_l k
 unfold impl_turned.f
 repeat' (first | (with_reducible first | exact ih0 _ _ _ _ _ | exact LeO.refl _ | exact LeO.none _ | refine LeO.ite ?_ ?_ | refine LeO.bind ?_ (fun _ => ?_)) | exact ih0 _ _ _ _ _ | exact LeO.none _ | refine LeO.ite ?_ ?_ | refine LeO.bind ?_ (fun _ => ?_))
set_option maxHeartbeats 8000000 in
set_option maxRecDepth 100000 in
theorem impl_turned.calls (k : Nat) (A0 : Option Addr) (c0 : Nat) (l0 : List Int) (r : List Int) (w : World) (hr0 : Kd.C (Kd.int .i64) w A0 l0.length l0) (hc0 : l0.length ≤ c0) (h : impl_turned.f k l0 = some r) :
  Calls Try.prog 152 #[.slice A0 l0.length c0] w fun e w' => ∃ v0_ : Value, e = .returned (v0_) ∧ Kd.R (Kd.int .i64) 3 w' w.heap.size (fun _ => True) v0_ r ∧ Below w.heap.size w w' := by
 have HR0 := Aside0.mk hr0
 have HC0 := Aside0.mk hc0
 clear hr0 hc0
 have HB := Aside0.mk (Below.refl w.heap.size w)
 have H := h
 unfold impl_turned.f at H
 clear h
 by_cases c2 : 0 ≤ (l0.length : Int)
 ·rw [if_pos c2] at H
  have c2b0 := eq_true c2
  have c2b1 : decide (0 ≤ (l0.length : Int)) = true := decide_eq_true c2
  clear c2
  by_cases c3 : ((l0.length : Int) : Int).toNat ≤ 35184372088832
  ·rw [if_pos c3] at H
   have c3b0 := eq_true c3
   have c3b1 : decide (((l0.length : Int) : Int).toNat ≤ 35184372088832) = true := decide_eq_true c3
   clear c3
   obtain ⟨y907, hy907⟩ : ∃ y_ : List Int, y_ = (List.replicate ((l0.length : Int) : Int).toNat 0) := ⟨_, rfl⟩
   replace H : (impl_turned.l0 k l0 y907 l0 (l0.length : Int) 0) = some r := by first | (rw [hy907]; with_reducible exact H) | (have H2_ := (Option.bind_some _ _).symm.trans H; rw [hy907]; with_reducible exact H2_) | (have H2_ := (Option.bind_some _ _).symm.trans H; with_reducible exact H2_) | with_reducible exact H | (rw [hy907]; exact H) | exact H
   have Ny907 := Aside0.mk hy907
   clear hy907
   have H' := Aside0.mk H
   clear H
   go_enter Try.func152, Try.ntmps152
   go_wp2_with (first | ((with_reducible refine gate_dst (N := 8) rfl ?_); refine Kd.R_make (Kd.int .i64) _ 3 rfl (N := 8) rfl 24 _ _ rfl (l0.length : Int) rfl rfl Try.underlying24 (.int .i64 0) 8 info3 rfl (by decide) (by omega) 0 (ok := fun _ => True) (okp := fun _ => True) rfl (fun _ hk => hk) trivial (of_decide_eq_true (by first | (with_reducible assumption) | assumption)) (Nat.le_trans (Nat.mul_le_mul_right _ (of_decide_eq_true (by first | (with_reducible assumption) | assumption) : (l0.length : Int).toNat ≤ 35184372088832)) (by omega)) (Below.refl _ _) (Nat.le_refl _) ?_; intro v908 w4 ho5 hb hg_ hnew_; clear hg_ hnew_; (first | rw [← Ny907.out] at ho5 | (simp only [Int.reduceToNat] at ho5; rw [← Ny907.out] at ho5)); have HO909 := lowR ho5 HB; replace HB := upB HB hb; clear hb ho5))
   go_loopg [11] k (fun kq v11 w' => ∃ (x3_1 : List Int) (x11_1 : Int), v11 = .int .i64 x11_1 ∧ Aside0 (impl_turned.l0 kq l0 x3_1 l0 (l0.length : Int) x11_1 = some r) ∧ Aside0 (kq ≤ k) ∧ Aside0 (Kd.R (Kd.int .i64) 3 w' w.heap.size (fun _ => True) v908 x3_1) ∧ Aside0 (Below w.heap.size w w'))
   case atStart => exact ⟨(y907), (0), eqd, H', ⟨Nat.le_refl _⟩, ⟨atR HO909⟩, ⟨atB HB⟩⟩
   case round =>
    clear H'
    try clear c1
    try clear c2
    try clear c2b0
    try clear c2b1
    try clear p2
    try clear c3
    try clear c3b0
    try clear c3b1
    obtain ⟨x3_1, x11_1, rfl, HA, HK1, HO_3, HB⟩ := hrel
    cases gk with
    | zero => exact absurd HA.out (by simp [impl_turned.l0])
    | succ k1 =>
     have H := HA.out
     clear HA
     simp only [impl_turned.l0] at H
     by_cases c6 : x11_1 < (l0.length : Int)
     ·rw [if_pos c6] at H
      have c6b0 : decide (x11_1 < (l0.length : Int)) = true := decide_eq_true c6
      clear c6
      by_cases c7 : 0 ≤ x11_1
      ·rw [if_pos c7] at H
       have c7b0 : decide (0 ≤ x11_1) = true := decide_eq_true c7
       clear c7
       by_cases c8 : x11_1 < (l0.length : Int)
       ·rw [if_pos c8] at H
        have c8b0 : decide (x11_1 < (l0.length : Int)) = true := decide_eq_true c8
        clear c8
        by_cases c9 : 0 ≤ (rd l0 x11_1)
        ·rw [if_pos c9] at H
         have c9b0 : decide (0 ≤ (rd l0 x11_1)) = true := decide_eq_true c9
         clear c9
         by_cases c10 : (rd l0 x11_1) < (x3_1.length : Int)
         ·rw [if_pos c10] at H
          have c10b0 : decide ((rd l0 x11_1) < (x3_1.length : Int)) = true := decide_eq_true c10
          clear c10
          obtain ⟨y911, hy911⟩ : ∃ y_ : List Int, y_ = (x3_1.set ((rd l0 x11_1) : Int).toNat (wrap64 ((wrap64 ((l0.length : Int) - 1)) - x11_1))) := ⟨_, rfl⟩
          replace H : (impl_turned.l0 k1 l0 y911 l0 (l0.length : Int) (wrap64 (x11_1 + 1))) = some r := by first | (rw [hy911]; with_reducible exact H) | (have H2_ := (Option.bind_some _ _).symm.trans H; rw [hy911]; with_reducible exact H2_) | (have H2_ := (Option.bind_some _ _).symm.trans H; with_reducible exact H2_) | with_reducible exact H | (rw [hy911]; exact H) | exact H
          have Ny911 := Aside0.mk hy911
          clear hy911
          have H' := Aside0.mk H
          clear H
          have p910 : 0 ≤ (x11_1 : Int) := ofd
          have q910 : x11_1 < (l0.length : Int) := ofd
          obtain ⟨ad910, e910, hx910_0⟩ := Kd.at_int HR0.out x11_1 p910 q910
          cases e910
          (try replace hx910_0 := (HB.out.cell (World.block_lt_of_cell? w _ hx910_0)).trans hx910_0)
          replace p910 := eq_true p910
          replace q910 := eq_true q910
          have p11 : 0 ≤ ((rd l0 x11_1) : Int) := ofd
          have q11 : ((rd l0 x11_1) : Int) < ((x3_1.length : Int) : Int) := ofd
          obtain ⟨go11, co11, eo11, gb11, gl11, cl11, HG11⟩ := Kd.R_form HO_3.out (by omega)
          (first | cases eo11 | (injection eo11 with ea_ en_ ec_; (first | subst ea_ | (injection ea_ with ea_; subst ea_)); subst ec_; clear en_))
          have GB11 := Aside0.mk gb11
          have GG11 := Aside0.mk HG11
          clear gb11 gl11 HG11
          obtain ⟨hx11_0, hf11_0⟩ := Kd.R_celln 0 HO_3.out ((rd l0 x11_1) : Int) p11 q11
          replace p11 := eq_true p11
          replace q11 := eq_true q11
          have HP12 := Kd.R_putg HO_3.out ((rd l0 x11_1) : Int) (wrap64 ((wrap64 ((l0.length : Int) - 1)) - x11_1))
          go_wp2_with (first | ((with_reducible refine gate_store (t := 3) (p := 23) rfl ?_); refine store_event (t := 3) (p := 23) (v := ?vo_w13) (w1 := (wr.setCell ⟨go11, ((rd l0 x11_1) : Int).toNat, none⟩ (.int .i64 (wrap64 ((wrap64 ((l0.length : Int) - 1)) - x11_1))))) ?hg ?ho ?hn ?hr ?_; (case ho => rfl); (case hg => rfl); (case hn => rfl); (case hr => first | (go_simp; done) | (go_simp; rfl)); intro w13 hw; have hg : wr.grownBy w13 (some go11) := (by rw [hw]; exact HP12.2); have hp_ : Kd.R (Kd.int .i64) 3 w13 w.heap.size (fun _ => True) (.slice (some ⟨go11, 0, none⟩) x3_1.length co11) y911 := (by rw [hw, Ny911.out]; exact HP12.1); clear HP12; replace HO_3 := Aside0.mk (hp_); replace HB := Aside0.mk ((by rw [hw]; exact below_set (HB.out) GB11.out : Below w.heap.size w w13)); clear hg hw hp_))
          go_roundg k1
          case measure => have := HK1.out; omega
          case rel => exact ⟨(y911), (wrap64 (x11_1 + 1)), eqd, H', ⟨by have := HK1.out; omega⟩, ⟨atR HO_3⟩, ⟨atB HB⟩⟩
         ·rw [if_neg c10] at H
          exact absurd H (by simp)
        ·rw [if_neg c9] at H
         exact absurd H (by simp)
       ·rw [if_neg c8] at H
        exact absurd H (by simp)
      ·rw [if_neg c7] at H
       exact absurd H (by simp)
     ·rw [if_neg c6] at H
      have c6b0 : decide (x11_1 < (l0.length : Int)) = false := decide_eq_false c6
      clear c6
      obtain rfl := Option.some.inj H
      go_wp2
      go_ret
      exact ⟨_, eqr, atR HO_3, atB HB⟩
  ·rw [if_neg c3] at H
   exact absurd H (by simp)
 ·rw [if_neg c2] at H
  exact absurd H (by simp)
noncomputable def impl_turned.L0 (x0 : List Int) (x3 : List Int) (x9 : List Int) (x10 : Int) (x11 : Int) : Option (List Int) := lim fun k => impl_turned.l0 k x0 x3 x9 x10 x11
theorem impl_turned.L0_lim (x0 : List Int) (x3 : List Int) (x9 : List Int) (x10 : Int) (x11 : Int) : Lim (fun k => impl_turned.l0 k x0 x3 x9 x10 x11) (impl_turned.L0 x0 x3 x9 x10 x11) := Lim.of fun k => (impl_turned.mono_l k) x0 x3 x9 x10 x11
noncomputable def impl_turned.F (l0 : List Int) : Option (List Int) := lim fun k => impl_turned.f k l0
theorem impl_turned.F_lim (l0 : List Int) : Lim (fun k => impl_turned.f k l0) (impl_turned.F l0) := Lim.of fun k => impl_turned.mono l0 k
theorem impl_turned.L0_eq (x0 : List Int) (x3 : List Int) (x9 : List Int) (x10 : Int) (x11 : Int) : impl_turned.L0 x0 x3 x9 x10 x11 = (if x11 < x10 then (if 0 ≤ x11 then (if x11 < (x9.length : Int) then (if 0 ≤ (rd x9 x11) then (if (rd x9 x11) < (x3.length : Int) then (impl_turned.L0 x0 (x3.set ((rd x9 x11) : Int).toNat (wrap64 ((wrap64 ((x0.length : Int) - 1)) - x11))) x9 x10 (wrap64 (x11 + 1))) else (none)) else (none)) else (none)) else (none)) else (some x3)) :=
 Lim.step (f := fun k => impl_turned.l0 (k + 1) x0 x3 x9 x10 x11) (impl_turned.L0_lim x0 x3 x9 x10 x11) (fun _ => rfl) (by
  simp only [impl_turned.l0]
  repeat' (first | (with_reducible first | exact Lim.const _ | exact impl_turned.L0_lim _ _ _ _ _ | refine Lim.ite ?_ ?_ | refine Lim.bind ?_ (fun _ => ?_))))
theorem impl_turned.F_eq (l0 : List Int) : impl_turned.F l0 = (if 0 ≤ (l0.length : Int) then (if ((l0.length : Int) : Int).toNat ≤ 35184372088832 then (impl_turned.L0 l0 (List.replicate ((l0.length : Int) : Int).toNat 0) l0 (l0.length : Int) 0) else (none)) else (none)) :=
 Lim.unique (impl_turned.F_lim l0) (by
  unfold impl_turned.f
  repeat' (first | (with_reducible first | exact Lim.const _ | exact impl_turned.L0_lim _ _ _ _ _ | refine Lim.ite ?_ ?_ | refine Lim.bind ?_ (fun _ => ?_))))
/-! ### slices_Reverse_int_int: function 164 -/
def slices_Reverse_int_int.l0 : Nat → List Int → Int → Int → Option (List Int)
 | 0, _, _, _ => none
 | k + 1, x0, x2, x3 => if x2 < x3 then (if 0 ≤ x3 then (if x3 < (x0.length : Int) then (if 0 ≤ x2 then (if x2 < (x0.length : Int) then (slices_Reverse_int_int.l0 k ((x0.set (x2 : Int).toNat (rd x0 x3)).set (x3 : Int).toNat (rd x0 x2)) (wrap64 (x2 + 1)) (wrap64 (x3 - 1))) else (none)) else (none)) else (none)) else (none)) else (some x0)
def slices_Reverse_int_int.f (k : Nat) (l0 : List Int) : Option (List Int) := slices_Reverse_int_int.l0 k l0 0 (wrap64 ((l0.length : Int) - 1))
theorem slices_Reverse_int_int.mono_l : ∀ k, (∀ y0 y1 y2, LeO (slices_Reverse_int_int.l0 k y0 y1 y2) (slices_Reverse_int_int.l0 (k + 1) y0 y1 y2))
 | 0 => fun _ _ _ r h => by simp [slices_Reverse_int_int.l0] at h
 | k + 1 => by
  have ih0 := slices_Reverse_int_int.mono_l k
  ·intro y0 y1 y2
   unfold slices_Reverse_int_int.l0
   repeat' (first | (with_reducible first | exact ih0 _ _ _ | exact LeO.refl _ | exact LeO.none _ | refine LeO.ite ?_ ?_ | refine LeO.bind ?_ (fun _ => ?_)) | exact ih0 _ _ _ | exact LeO.none _ | refine LeO.ite ?_ ?_ | refine LeO.bind ?_ (fun _ => ?_))
theorem slices_Reverse_int_int.mono : ∀ a0 k, LeO (slices_Reverse_int_int.f k a0) (slices_Reverse_int_int.f (k + 1) a0) := by
 intro a0 k
 have ih0 := slices_Reverse_int_int.mono_l k
 unfold slices_Reverse_int_int.f
 repeat' (first | (with_reducible first | exact ih0 _ _ _ | exact LeO.refl _ | exact LeO.none _ | refine LeO.ite ?_ ?_ | refine LeO.bind ?_ (fun _ => ?_)) | exact ih0 _ _ _ | exact LeO.none _ | refine LeO.ite ?_ ?_ | refine LeO.bind ?_ (fun _ => ?_))
def slices_Reverse_int_int.T3 : Bool × List (List Nat × List Nat) := (true, [([], []), ([], []), ([], []), ([], []), ([], []), ([], []), ([4, 5], [4, 5]), ([6], [6]), ([], []), ([], []), ([8, 9], [8, 9]), ([10], [10]), ([0, 1, 0, 1, 4, 5, 6, 7, 11], [0, 1]), ([12, 7, 0, 1, 4, 5, 6, 7, 11], [7, 12]), ([2, 3, 0, 1, 2, 3, 4, 5, 6, 7, 8, 9, 10, 11, 12, 13], [2, 3]), ([14, 11, 13, 0, 1, 2, 3, 4, 5, 6, 7, 8, 9, 10, 11, 12, 13], [11, 14])])
def slices_Reverse_int_int.B3 : List Nat := [0, 0, 0, 0, 0, 0, 48, 112, 0, 0, 768, 1792, 4083, 8179, 16383, 32767]
theorem slices_Reverse_int_int.tab3 : rtab .any (opsOf Try.f164 3) = slices_Reverse_int_int.T3 := by kernel_rfl
theorem slices_Reverse_int_int.bits3 : waitsOk slices_Reverse_int_int.T3.2 slices_Reverse_int_int.B3 = true := by kernel_rfl
set_option maxHeartbeats 8000000 in
set_option maxRecDepth 100000 in
theorem slices_Reverse_int_int.calls (k : Nat) (P0_ : Nat → Prop) (u9000_ : Value) (l0 : List Int) (r : List Int) (w0 w : World) (hB : Below w0.heap.size w0 w) (ho0 : Kd.R (Kd.int .i64) 3 w w0.heap.size P0_ u9000_ l0) (h : slices_Reverse_int_int.f k l0 = some r) :
  Calls Try.prog 164 #[u9000_] w fun e w' => e = .returned (.tuple #[]) ∧ Kd.R (Kd.int .i64) 3 w' w0.heap.size (fun k_ => (P0_ k_ ∨ w.heap.size ≤ k_)) u9000_ r ∧ Below w0.heap.size w0 w' ∧ Kept w w' (fun k_ => P0_ k_) := by
 have HO0 := Aside0.mk (show Kd.R (Kd.int .i64) 3 w w0.heap.size (fun k_ => (P0_ k_ ∨ w.heap.size ≤ k_)) u9000_ l0 from Kd.R_mono ho0 (fun k_ hk => (.inl hk)))
 have HK := Aside0.mk (Kept.refl w (fun k_ => P0_ k_))
 have HW0 := Aside0.mk hB.size
 have HB := Aside0.mk hB
 clear hB
 have H := h
 unfold slices_Reverse_int_int.f at H
 clear h
 have H' := Aside0.mk H
 clear H
 obtain ⟨Ao2, co2, eo2⟩ := Kd.R_slice HO0.out
 subst eo2
 go_enter Try.func164, Try.ntmps164
 go_wp2
 go_loopg [2, 3] k (fun kq v2 v3 w' => ∃ (x0_1 : List Int) (x2_1 : Int) (x3_1 : Int), v2 = .int .i64 x2_1 ∧ v3 = .int .i64 x3_1 ∧ Aside0 (slices_Reverse_int_int.l0 kq x0_1 x2_1 x3_1 = some r) ∧ Aside0 (kq ≤ k) ∧ Aside0 (Kd.R (Kd.int .i64) 3 w' w0.heap.size (fun k_ => (P0_ k_ ∨ w.heap.size ≤ k_)) (.slice Ao2 l0.length co2) x0_1) ∧ Aside0 (Kept w w' (fun k_ => P0_ k_)) ∧ Aside0 (Below w0.heap.size w0 w'))
 case atStart => exact ⟨(l0), (0), (wrap64 ((l0.length : Int) - 1)), eqd, eqd, H', ⟨Nat.le_refl _⟩, ⟨atR HO0⟩, ⟨by repeat (first | (with_reducible first | exact HK.out | apply Kept.alloc | apply Kept.drewN | apply Kept.drew) | exact HK.out)⟩, ⟨atB HB⟩⟩
 case round =>
  clear H'
  try clear c1
  try clear p2
  obtain ⟨x0_1, x2_1, x3_1, rfl, rfl, HA, HK1, HO_0, HK, HB⟩ := hrel
  have hl0_1 := (Kd.R_reads' HO_0.out).1
  rw [hl0_1] at HO_0
  (try simp only [hl0_1])
  cases gk with
  | zero => exact absurd HA.out (by simp [slices_Reverse_int_int.l0])
  | succ k1 =>
   have H := HA.out
   clear HA
   simp only [slices_Reverse_int_int.l0] at H
   by_cases c3 : x2_1 < x3_1
   ·rw [if_pos c3] at H
    have c3b0 : decide (x2_1 < x3_1) = true := decide_eq_true c3
    clear c3
    by_cases c4 : 0 ≤ x3_1
    ·rw [if_pos c4] at H
     have c4b0 : decide (0 ≤ x3_1) = true := decide_eq_true c4
     clear c4
     by_cases c5 : x3_1 < (x0_1.length : Int)
     ·rw [if_pos c5] at H
      have c5b0 : decide (x3_1 < (x0_1.length : Int)) = true := decide_eq_true c5
      clear c5
      by_cases c6 : 0 ≤ x2_1
      ·rw [if_pos c6] at H
       have c6b0 : decide (0 ≤ x2_1) = true := decide_eq_true c6
       clear c6
       by_cases c7 : x2_1 < (x0_1.length : Int)
       ·rw [if_pos c7] at H
        have c7b0 : decide (x2_1 < (x0_1.length : Int)) = true := decide_eq_true c7
        clear c7
        obtain ⟨y914, hy914⟩ : ∃ y_ : List Int, y_ = (x0_1.set (x2_1 : Int).toNat (rd x0_1 x3_1)) := ⟨_, rfl⟩
        replace H : (slices_Reverse_int_int.l0 k1 (y914.set (x3_1 : Int).toNat (rd x0_1 x2_1)) (wrap64 (x2_1 + 1)) (wrap64 (x3_1 - 1))) = some r := by first | (rw [hy914]; with_reducible exact H) | (have H2_ := (Option.bind_some _ _).symm.trans H; rw [hy914]; with_reducible exact H2_) | (have H2_ := (Option.bind_some _ _).symm.trans H; with_reducible exact H2_) | with_reducible exact H | (rw [hy914]; exact H) | exact H
        have Ny914 := Aside0.mk hy914
        clear hy914
        obtain ⟨y915, hy915⟩ : ∃ y_ : List Int, y_ = (y914.set (x3_1 : Int).toNat (rd x0_1 x2_1)) := ⟨_, rfl⟩
        replace H : (slices_Reverse_int_int.l0 k1 y915 (wrap64 (x2_1 + 1)) (wrap64 (x3_1 - 1))) = some r := by first | (rw [hy915]; with_reducible exact H) | (have H2_ := (Option.bind_some _ _).symm.trans H; rw [hy915]; with_reducible exact H2_) | (have H2_ := (Option.bind_some _ _).symm.trans H; with_reducible exact H2_) | with_reducible exact H | (rw [hy915]; exact H) | exact H
        have Ny915 := Aside0.mk hy915
        clear hy915
        have H' := Aside0.mk H
        clear H
        try go_wp2
        have n0_ := Aside0.mk (Kd.R_drew HO_0.out)
        have n1_ := Aside0.mk (Kept.drew HK.out)
        have n2_ := Aside0.mk (below_drew1 HB.out)
        clear HO_0
        clear HK
        clear HB
        have HO_0 := n0_
        have HK := n1_
        have HB := n2_
        clear n0_ n1_ n2_
        have p912 : 0 ≤ (x3_1 : Int) := ofd
        have q912 : x3_1 < (x0_1.length : Int) := ofd
        obtain ⟨ad912, e912, hx912_0⟩ := Kd.at_int (Kd.R_reads' HO_0.out).2.2 x3_1 p912 q912
        cases e912
        replace p912 := eq_true p912
        replace q912 := eq_true q912
        have p913 : 0 ≤ (x2_1 : Int) := ofd
        have q913 : x2_1 < (x0_1.length : Int) := ofd
        obtain ⟨ad913, e913, hx913_0⟩ := Kd.at_int (Kd.R_reads' HO_0.out).2.2 x2_1 p913 q913
        obtain rfl : ad912 = ad913 := (by injection e913)
        replace p913 := eq_true p913
        replace q913 := eq_true q913
        have p8 : 0 ≤ (x2_1 : Int) := ofd
        have q8 : (x2_1 : Int) < ((x0_1.length : Int) : Int) := ofd
        obtain ⟨go8, co8, eo8, gb8, gl8, cl8, HG8⟩ := Kd.R_form HO_0.out (by omega)
        (first | cases eo8 | (injection eo8 with ea_ en_ ec_; (first | subst ea_ | (injection ea_ with ea_; subst ea_)); subst ec_; clear en_))
        have GB8 := Aside0.mk gb8
        have GG8 := Aside0.mk HG8
        clear gb8 gl8 HG8
        have HMgo8 := Aside0.mk (show (P0_ go8 ∨ w.heap.size ≤ go8) from (HO_0.out.1 _ rfl))
        (first | simp only [add_plain] at hx912_0 | skip)
        (first | simp only [add_plain] at hx913_0 | skip)
        obtain ⟨hx8_0, hf8_0⟩ := Kd.R_celln 0 HO_0.out (x2_1 : Int) p8 q8
        replace p8 := eq_true p8
        replace q8 := eq_true q8
        have HP11 := Kd.R_putn HO_0.out (x2_1 : Int) (rd x0_1 x3_1)
        rw [← Ny914.out] at HP11
        have HQ11 := Aside0.mk HP11
        clear HP11
        have p9 : 0 ≤ (x3_1 : Int) := ofd
        have q9 : (x3_1 : Int) < ((x0_1.length : Int) : Int) := ofd
        obtain ⟨hx9_0, hf9_0⟩ := Kd.R_celln 0 HQ11.out (x3_1 : Int) p9 q9
        replace p9 := eq_true p9
        replace q9 := eq_true q9
        have HP12 := Kd.R_putn HQ11.out (x3_1 : Int) (rd x0_1 x2_1)
        rw [← Ny915.out] at HP12
        have HQ12 := Aside0.mk HP12
        clear HP12
        refine start_ (n := 16) (S := fun w' => w'.cell? ⟨go8, (x3_1).toNat, none⟩ = some (.int .i64 (rd x0_1 x3_1)) ∧ w'.cell? ⟨go8, (x2_1).toNat, none⟩ = some (.int .i64 (rd x0_1 x2_1))) (ds := [13, 15]) #[false, false, false, false, false, false, false, false, false, false, false, false, false, false, false, false] (by kernel_rfl) rfl rfl ⟨hx912_0, hx913_0⟩ (fun hHeld => ?_); refine with_tabW slices_Reverse_int_int.tab3 slices_Reverse_int_int.bits3 (fun HT_ HW_ => ?_)
        generalize wr.drew = w10 at HO_0 HK HB GG8 HQ11 HQ12 hf8_0 hf9_0 hx8_0 hx912_0 hx913_0 hx9_0 hHeld ⊢
        refine pure_ (i := 0) (N := some 14) (v := ?_) (a' := ?_) #[true, false, false, false, false, false, false, false, false, false, false, false, false, false, false, false] rfl rfl (any_of HT_.out (by kernel_rfl)) (fun _ _ _ h => h) (Or.inl ⟨by rfl, ?_⟩) ?_ ?_
        rotate_left
        ·intro w'
         go_simp
         with_reducible rfl
        rotate_left
        ·simp only [Act.put, List.setIfInBounds_toArray, List.set_cons_zero, List.set_cons_succ, i64_w, i32_w]
         rfl
        refine pure_ (i := 1) (N := some 15) (v := ?_) (a' := ?_) #[true, true, false, false, false, false, false, false, false, false, false, false, false, false, false, false] rfl rfl (any_of HT_.out (by kernel_rfl)) (fun _ _ _ h => h) (Or.inl ⟨by rfl, ?_⟩) ?_ ?_
        rotate_left
        ·intro w'
         go_simp
         with_reducible rfl
        rotate_left
        ·simp only [Act.put, List.setIfInBounds_toArray, List.set_cons_zero, List.set_cons_succ, i64_w, i32_w]
         rfl
        refine pure_ (i := 2) (N := some 16) (v := ?_) (a' := ?_) #[true, true, true, false, false, false, false, false, false, false, false, false, false, false, false, false] rfl rfl (any_of HT_.out (by kernel_rfl)) (fun _ _ _ h => h) (Or.inl ⟨by rfl, ?_⟩) ?_ ?_
        rotate_left
        ·intro w'
         go_simp
         with_reducible rfl
        rotate_left
        ·simp only [Act.put, List.setIfInBounds_toArray, List.set_cons_zero, List.set_cons_succ, i64_w, i32_w]
         rfl
        refine pure_ (i := 3) (N := some 17) (v := ?_) (a' := ?_) #[true, true, true, true, false, false, false, false, false, false, false, false, false, false, false, false] rfl rfl (any_of HT_.out (by kernel_rfl)) (fun _ _ _ h => h) (Or.inl ⟨by rfl, ?_⟩) ?_ ?_
        rotate_left
        ·intro w'
         go_simp
         with_reducible rfl
        rotate_left
        ·simp only [Act.put, List.setIfInBounds_toArray, List.set_cons_zero, List.set_cons_succ, i64_w, i32_w]
         rfl
        refine pure_ (i := 4) (N := some 18) (v := ?_) (a' := ?_) #[true, true, true, true, true, false, false, false, false, false, false, false, false, false, false, false] rfl rfl (any_of HT_.out (by kernel_rfl)) (fun _ _ _ h => h) (Or.inl ⟨by rfl, ?_⟩) ?_ ?_
        rotate_left
        ·intro w'
         go_simp
         with_reducible rfl
        rotate_left
        ·simp only [Act.put, List.setIfInBounds_toArray, List.set_cons_zero, List.set_cons_succ, i64_w, i32_w]
         rfl
        refine pure_ (i := 5) (N := some 19) (v := ?_) (a' := ?_) #[true, true, true, true, true, true, false, false, false, false, false, false, false, false, false, false] rfl rfl (any_of HT_.out (by kernel_rfl)) (fun _ _ _ h => h) (Or.inl ⟨by rfl, ?_⟩) ?_ ?_
        rotate_left
        ·intro w'
         go_simp
         with_reducible rfl
        rotate_left
        ·simp only [Act.put, List.setIfInBounds_toArray, List.set_cons_zero, List.set_cons_succ, i64_w, i32_w]
         rfl
        refine pure_ (i := 6) (N := some 20) (v := ?_) (a' := ?_) #[true, true, true, true, true, true, true, false, false, false, false, false, false, false, false, false] rfl rfl (any_of HT_.out (by kernel_rfl)) (fun _ _ _ h => h) (Or.inl ⟨by rfl, ?_⟩) ?_ ?_
        rotate_left
        ·intro w'
         go_simp
         with_reducible rfl
        rotate_left
        ·simp only [Act.put, List.setIfInBounds_toArray, List.set_cons_zero, List.set_cons_succ, i64_w, i32_w]
         rfl
        refine pure_ (i := 8) (N := some 22) (v := ?_) (a' := ?_) #[true, true, true, true, true, true, true, false, true, false, false, false, false, false, false, false] rfl rfl (any_of HT_.out (by kernel_rfl)) (fun _ _ _ h => h) (Or.inl ⟨by rfl, ?_⟩) ?_ ?_
        rotate_left
        ·intro w'
         go_simp
         with_reducible rfl
        rotate_left
        ·simp only [Act.put, List.setIfInBounds_toArray, List.set_cons_zero, List.set_cons_succ, i64_w, i32_w]
         rfl
        refine pure_ (i := 9) (N := some 23) (v := ?_) (a' := ?_) #[true, true, true, true, true, true, true, false, true, true, false, false, false, false, false, false] rfl rfl (any_of HT_.out (by kernel_rfl)) (fun _ _ _ h => h) (Or.inl ⟨by rfl, ?_⟩) ?_ ?_
        rotate_left
        ·intro w'
         go_simp
         with_reducible rfl
        rotate_left
        ·simp only [Act.put, List.setIfInBounds_toArray, List.set_cons_zero, List.set_cons_succ, i64_w, i32_w]
         rfl
        refine pure_ (i := 10) (N := some 24) (v := ?_) (a' := ?_) #[true, true, true, true, true, true, true, false, true, true, true, false, false, false, false, false] rfl rfl (any_of HT_.out (by kernel_rfl)) (fun _ _ _ h => h) (Or.inl ⟨by rfl, ?_⟩) ?_ ?_
        rotate_left
        ·intro w'
         go_simp
         with_reducible rfl
        rotate_left
        ·simp only [Act.put, List.setIfInBounds_toArray, List.set_cons_zero, List.set_cons_succ, i64_w, i32_w]
         rfl
        refine take_ (i := 7) (N := some 21) (v := ?_) (a' := ?_) #[true, true, true, true, true, true, true, true, true, true, true, false, false, false, false, false] rfl rfl (take_ofW HT_.out HW_.out (by kernel_rfl)) (fun _ _ _ h => h) (Or.inl ⟨by rfl, ?_⟩) hHeld ?_ ?_
        rotate_left
        ·rintro w' ⟨s0, s1⟩
         go_simp
         with_reducible rfl
        rotate_left
        ·simp only [Act.put, List.setIfInBounds_toArray, List.set_cons_zero, List.set_cons_succ, i64_w, i32_w]
         rfl
        refine take_ (i := 11) (N := some 25) (v := ?_) (a' := ?_) #[true, true, true, true, true, true, true, true, true, true, true, true, false, false, false, false] rfl rfl (take_ofW HT_.out HW_.out (by kernel_rfl)) (fun _ _ _ h => h) (Or.inl ⟨by rfl, ?_⟩) hHeld ?_ ?_
        rotate_left
        ·rintro w' ⟨s0, s1⟩
         go_simp
         with_reducible rfl
        rotate_left
        ·simp only [Act.put, List.setIfInBounds_toArray, List.set_cons_zero, List.set_cons_succ, i64_w, i32_w]
         rfl
        refine pure_ (i := 12) (N := some 26) (v := ?_) (a' := ?_) #[true, true, true, true, true, true, true, true, true, true, true, true, true, false, false, false] rfl rfl (any_of HT_.out (by kernel_rfl)) (fun _ _ _ h => h) (Or.inl ⟨by rfl, ?_⟩) ?_ ?_
        rotate_left
        ·intro w'
         go_simp
         with_reducible rfl
        rotate_left
        ·simp only [Act.put, List.setIfInBounds_toArray, List.set_cons_zero, List.set_cons_succ, i64_w, i32_w]
         rfl
        refine last_ (i := 13) (N := none) #[true, true, true, true, true, true, true, true, true, true, true, true, true, true, false, false] rfl rfl (one_of HT_.out (by kernel_rfl)) (by decide) (fun K hK => ?_)
        refine skip_ (w1 := ?_) (by rfl) rfl ?_ ?_
        rotate_left
        ·go_simp
         rfl
        refine hK.out _ _ ?_
        clear hK K
        refine pure_ (i := 14) (N := some 27) (v := ?_) (a' := ?_) #[true, true, true, true, true, true, true, true, true, true, true, true, true, true, true, false] rfl rfl (any_of HT_.out (by kernel_rfl)) (fun _ _ _ h => h) (Or.inl ⟨by rfl, ?_⟩) ?_ ?_
        rotate_left
        ·intro w'
         go_simp
         with_reducible rfl
        rotate_left
        ·simp only [Act.put, List.setIfInBounds_toArray, List.set_cons_zero, List.set_cons_succ, i64_w, i32_w]
         rfl
        refine last_ (i := 15) (N := none) #[true, true, true, true, true, true, true, true, true, true, true, true, true, true, true, true] rfl rfl (one_of HT_.out (by kernel_rfl)) (by decide) (fun K hK => ?_)
        refine skip_ (w1 := ?_) (by rfl) rfl ?_ ?_
        rotate_left
        ·go_simp
         rfl
        refine hK.out _ _ ?_
        clear hK K
        refine done_ (done_of HT_.out (by kernel_rfl)) ?_
        try go_wp2
        (try simp only [← hl0_1])
        go_roundg k1
        case measure => have := HK1.out; omega
        case rel => exact ⟨(y915), (wrap64 (x2_1 + 1)), (wrap64 (x3_1 - 1)), eqd, eqd, H', ⟨by have := HK1.out; omega⟩, ⟨by (try simp only [hl0_1]); (with_reducible repeat (first | apply Kd.R_alloc | apply Kd.R_drewN | apply Kd.R_drew)); exact HQ12.out⟩, ⟨by repeat (first | (with_reducible first | exact HK.out | apply Kept.alloc | apply Kept.drewN | apply Kept.drew | refine Kept.setCell ?_ HMgo8.out _ | refine Kept.setCell ?_ HMgo8.out _) | exact HK.out)⟩, ⟨by repeat (first | (with_reducible first | exact HB.out | apply below_alloc | apply pw_below_drewN | apply below_drew1 | refine below_set ?_ GB8.out | refine below_set ?_ GB8.out) | exact HB.out)⟩⟩
       ·rw [if_neg c7] at H
        exact absurd H (by simp)
      ·rw [if_neg c6] at H
       exact absurd H (by simp)
     ·rw [if_neg c5] at H
      exact absurd H (by simp)
    ·rw [if_neg c4] at H
     exact absurd H (by simp)
   ·rw [if_neg c3] at H
    have c3b0 : decide (x2_1 < x3_1) = false := decide_eq_false c3
    clear c3
    obtain rfl := Option.some.inj H
    go_wp2
    first | go_end0 | ((try simp only [Exit.inBlock, Exit.then]); refine bodyPost_ret (results_none rfl _ _ _) rfl ?_)
    exact ⟨eqr, (by first | exact (atR HO_0) | (simp only [hl0_1]; exact (atR HO_0))), atB HB, by repeat (first | (with_reducible first | exact HK.out | apply Kept.alloc | apply Kept.drewN | apply Kept.drew) | exact HK.out)⟩
noncomputable def slices_Reverse_int_int.L0 (x0 : List Int) (x2 : Int) (x3 : Int) : Option (List Int) := lim fun k => slices_Reverse_int_int.l0 k x0 x2 x3
theorem slices_Reverse_int_int.L0_lim (x0 : List Int) (x2 : Int) (x3 : Int) : Lim (fun k => slices_Reverse_int_int.l0 k x0 x2 x3) (slices_Reverse_int_int.L0 x0 x2 x3) := Lim.of fun k => (slices_Reverse_int_int.mono_l k) x0 x2 x3
noncomputable def slices_Reverse_int_int.F (l0 : List Int) : Option (List Int) := lim fun k => slices_Reverse_int_int.f k l0
theorem slices_Reverse_int_int.F_lim (l0 : List Int) : Lim (fun k => slices_Reverse_int_int.f k l0) (slices_Reverse_int_int.F l0) := Lim.of fun k => slices_Reverse_int_int.mono l0 k
theorem slices_Reverse_int_int.L0_eq (x0 : List Int) (x2 : Int) (x3 : Int) : slices_Reverse_int_int.L0 x0 x2 x3 = (if x2 < x3 then (if 0 ≤ x3 then (if x3 < (x0.length : Int) then (if 0 ≤ x2 then (if x2 < (x0.length : Int) then (slices_Reverse_int_int.L0 ((x0.set (x2 : Int).toNat (rd x0 x3)).set (x3 : Int).toNat (rd x0 x2)) (wrap64 (x2 + 1)) (wrap64 (x3 - 1))) else (none)) else (none)) else (none)) else (none)) else (some x0)) :=
 Lim.step (f := fun k => slices_Reverse_int_int.l0 (k + 1) x0 x2 x3) (slices_Reverse_int_int.L0_lim x0 x2 x3) (fun _ => rfl) (by
  simp only [slices_Reverse_int_int.l0]
  repeat' (first | (with_reducible first | exact Lim.const _ | exact slices_Reverse_int_int.L0_lim _ _ _ | refine Lim.ite ?_ ?_ | refine Lim.bind ?_ (fun _ => ?_))))
theorem slices_Reverse_int_int.F_eq (l0 : List Int) : slices_Reverse_int_int.F l0 = (slices_Reverse_int_int.L0 l0 0 (wrap64 ((l0.length : Int) - 1))) :=
 Lim.unique (slices_Reverse_int_int.F_lim l0) (by
  unfold slices_Reverse_int_int.f
  repeat' (first | (with_reducible first | exact Lim.const _ | exact slices_Reverse_int_int.L0_lim _ _ _ | refine Lim.ite ?_ ?_ | refine Lim.bind ?_ (fun _ => ?_))))
/-! ### impl_back: function 153 -/
def impl_back.f (k : Nat) (l0 : List Int) : Option (List Int) := (slices_Clone_int_int.f l0).bind fun t916 => ((slices_Reverse_int_int.f k t916).bind fun t919 => (some t919))
theorem impl_back.mono : ∀ a0 k, LeO (impl_back.f k a0) (impl_back.f (k + 1) a0) := by
 intro a0 k
 unfold impl_back.f
 repeat' (first | (with_reducible first | exact slices_Reverse_int_int.mono _ _ | exact LeO.refl _ | exact LeO.none _ | refine LeO.ite ?_ ?_ | refine LeO.bind ?_ (fun _ => ?_)) | exact slices_Reverse_int_int.mono _ _ | exact LeO.none _ | refine LeO.ite ?_ ?_ | refine LeO.bind ?_ (fun _ => ?_))
set_option maxHeartbeats 8000000 in
set_option maxRecDepth 100000 in
theorem impl_back.calls (k : Nat) (A0 : Option Addr) (c0 : Nat) (l0 : List Int) (r : List Int) (w : World) (hr0 : Kd.C (Kd.int .i64) w A0 l0.length l0) (hc0 : l0.length ≤ c0) (h : impl_back.f k l0 = some r) :
  Calls Try.prog 153 #[.slice A0 l0.length c0] w fun e w' => ∃ v0_ : Value, e = .returned (v0_) ∧ Kd.R (Kd.int .i64) 3 w' w.heap.size (fun _ => True) v0_ r ∧ Below w.heap.size w w' := by
 have HR0 := Aside0.mk hr0
 have HC0 := Aside0.mk hc0
 clear hr0 hc0
 have HB := Aside0.mk (Below.refl w.heap.size w)
 have H := h
 unfold impl_back.f at H
 clear h
 replace H := Option.bind_eq_some_iff.mp H
 obtain ⟨t916, A20, H⟩ := H
 replace H : ((slices_Reverse_int_int.f k t916).bind fun t919 => (some t919)) = some r := H
 have A2 := Aside0.mk A20
 clear A20
 replace H := Option.bind_eq_some_iff.mp H
 obtain ⟨t919, A30, H⟩ := H
 replace H : (some t919) = some r := H
 have A3 := Aside0.mk A30
 clear A30
 obtain rfl := Option.some.inj H
 go_enter Try.func153, Try.ntmps153
 go_wp2_with (first | ((with_reducible refine gate_callee (f := 101) rfl ?_); refine goesA (some 5) Try.func101 #[.slice A0 l0.length c0] ?_; (with_reducible refine (slices_Clone_int_int.calls _ _ l0 t916 _ ?side1 ?side2 A2.out).mono ?_); (case side1 => repeat (first | exact HR0.out | (with_reducible refine Kd.C_alloc ?_ _) | (with_reducible refine Kd.C_drewN ?_ _) | (with_reducible refine Kd.C_drew ?_))); (case side2 => exact HC0.out); rintro e w4 ⟨v917, rfl, ho0, hb⟩; refine ⟨_, rfl, ?_⟩; have HO918 := lowR ho0 HB; replace HB := upB HB hb; (try clear hb); (try clear hb2); (try clear hk); (try clear hi); (try clear ho0); obtain ⟨Ao5, co5, eo5⟩ := Kd.R_slice HO918.out; subst eo5) | ((with_reducible refine gate_callee (f := 164) rfl ?_); refine goesA (some 7) Try.func164 #[.slice Ao5 t916.length co5] ?_; (with_reducible refine (slices_Reverse_int_int.calls k (fun k_ => some k_ = (.slice Ao5 t916.length co5 : Value).ownBlock) (.slice Ao5 t916.length co5) t916 t919 w _ ?side1 ?side2 A3.out).mono ?_); (case side1 => exact atB HB); (case side2 => exact Kd.R_tight rfl HO918.out); rintro e w6 ⟨rfl, hy0, hb, hkp⟩; refine ⟨_, rfl, ?_⟩; replace HO918 := Aside0.mk (Kd.R_reok rfl hy0 (fun k_ e_ => HO918.out.1 k_ e_)); replace HB := Aside0.mk (hb); (try clear hb); (try clear hkp); (try clear hy0)))
 go_ret
 exact ⟨_, eqr, atR HO918, atB HB⟩
noncomputable def impl_back.F (l0 : List Int) : Option (List Int) := lim fun k => impl_back.f k l0
theorem impl_back.F_lim (l0 : List Int) : Lim (fun k => impl_back.f k l0) (impl_back.F l0) := Lim.of fun k => impl_back.mono l0 k
theorem impl_back.F_eq (l0 : List Int) : impl_back.F l0 = ((slices_Clone_int_int.f l0).bind fun t916 => ((slices_Reverse_int_int.F t916).bind fun t919 => (some t919))) :=
 Lim.unique (impl_back.F_lim l0) (by
  unfold impl_back.f
  repeat' (first | (with_reducible first | exact Lim.const _ | exact slices_Reverse_int_int.F_lim _ | refine Lim.ite ?_ ?_ | refine Lim.bind ?_ (fun _ => ?_))))
/-! ### cmp_isNaN_int: function 167 -/
def cmp_isNaN_int.f (a0 : Int) : Option (Bool) := some (a0 != a0)
set_option maxHeartbeats 8000000 in
set_option maxRecDepth 100000 in
theorem cmp_isNaN_int.calls (a0 : Int) (r : Bool) (w : World) (h : cmp_isNaN_int.f a0 = some r) :
  Calls Try.prog 167 #[.int .i64 a0] w fun e w' => e = .returned (.bool r) ∧ Drawn0 w w' := by
 have H := h
 unfold cmp_isNaN_int.f at H
 clear h
 obtain rfl := Option.some.inj H
 go_enter Try.func167, Try.ntmps167
 go_wp2
 go_ret
 exact ⟨by first | rfl | (simp; done) | (simp [*]; done), by repeat (first | exact Drawn0.refl _ | apply Drawn0.step)⟩
/-! ### cmp_Compare_int: function 165 -/
def cmp_Compare_int.f (a0 : Int) (a1 : Int) : Option (Int) := (cmp_isNaN_int.f a0).bind fun t920 => ((cmp_isNaN_int.f a1).bind fun t921 => (if t920 = true then (if t921 = true then (some 0) else (some (-1))) else (if t921 = true then (some 1) else (if a0 < a1 then (some (-1)) else (if a0 > a1 then (some 1) else (some 0))))))
set_option maxHeartbeats 8000000 in
set_option maxRecDepth 100000 in
theorem cmp_Compare_int.calls (a0 : Int) (a1 : Int) (r : Int) (w : World) (h : cmp_Compare_int.f a0 a1 = some r) :
  Calls Try.prog 165 #[.int .i64 a0, .int .i64 a1] w fun e w' => e = .returned (.int .i64 r) ∧ Drawn0 w w' := by
 have H := h
 unfold cmp_Compare_int.f at H
 clear h
 replace H := Option.bind_eq_some_iff.mp H
 obtain ⟨t920, A30, H⟩ := H
 replace H : ((cmp_isNaN_int.f a1).bind fun t921 => (if t920 = true then (if t921 = true then (some 0) else (some (-1))) else (if t921 = true then (some 1) else (if a0 < a1 then (some (-1)) else (if a0 > a1 then (some 1) else (some 0)))))) = some r := H
 have A3 := Aside0.mk A30
 clear A30
 replace H := Option.bind_eq_some_iff.mp H
 obtain ⟨t921, A40, H⟩ := H
 replace H : (if t920 = true then (if t921 = true then (some 0) else (some (-1))) else (if t921 = true then (some 1) else (if a0 < a1 then (some (-1)) else (if a0 > a1 then (some 1) else (some 0))))) = some r := H
 have A4 := Aside0.mk A40
 clear A40
 by_cases c5 : t920 = true
 ·subst c5
  have H1 : (if t921 = true then (some 0) else (some (-1))) = some r := by rw [if_pos rfl] at H; exact H
  clear H
  have H := H1
  clear H1
  by_cases c6 : t921 = true
  ·subst c6
   have H1 : (some 0) = some r := by rw [if_pos rfl] at H; exact H
   clear H
   have H := H1
   clear H1
   obtain rfl := Option.some.inj H
   go_enter Try.func165, Try.ntmps165
   go_wp2_with (first | ((with_reducible refine gate_callee (f := 167) rfl ?_); refine goesA (some 8) Try.func167 #[.int .i64 a0] ?_; (with_reducible refine (cmp_isNaN_int.calls a0 true _ A3.out).mono ?_); rintro e w' ⟨rfl, ⟨nd, rfl⟩⟩; refine ⟨_, rfl, ?_⟩) | ((with_reducible refine gate_callee (f := 167) rfl ?_); refine goesA (some 10) Try.func167 #[.int .i64 a1] ?_; (with_reducible refine (cmp_isNaN_int.calls a1 true _ A4.out).mono ?_); rintro e w' ⟨rfl, ⟨nd, rfl⟩⟩; refine ⟨_, rfl, ?_⟩))
   go_ret
   exact ⟨by first | rfl | (simp; done) | (simp [*]; done), by repeat (first | exact Drawn0.refl _ | apply Drawn0.step)⟩
  ·replace c6 := Bool.eq_false_iff.mpr c6
   subst c6
   have H1 : (some (-1)) = some r := by rw [if_neg (show ¬ (false = true) by decide)] at H; exact H
   clear H
   have H := H1
   clear H1
   obtain rfl := Option.some.inj H
   go_enter Try.func165, Try.ntmps165
   go_wp2_with (first | ((with_reducible refine gate_callee (f := 167) rfl ?_); refine goesA (some 8) Try.func167 #[.int .i64 a0] ?_; (with_reducible refine (cmp_isNaN_int.calls a0 true _ A3.out).mono ?_); rintro e w' ⟨rfl, ⟨nd, rfl⟩⟩; refine ⟨_, rfl, ?_⟩) | ((with_reducible refine gate_callee (f := 167) rfl ?_); refine goesA (some 10) Try.func167 #[.int .i64 a1] ?_; (with_reducible refine (cmp_isNaN_int.calls a1 false _ A4.out).mono ?_); rintro e w' ⟨rfl, ⟨nd, rfl⟩⟩; refine ⟨_, rfl, ?_⟩))
   go_ret
   exact ⟨by first | rfl | (simp; done) | (simp [*]; done), by repeat (first | exact Drawn0.refl _ | apply Drawn0.step)⟩
 ·replace c5 := Bool.eq_false_iff.mpr c5
  subst c5
  have H1 : (if t921 = true then (some 1) else (if a0 < a1 then (some (-1)) else (if a0 > a1 then (some 1) else (some 0)))) = some r := by rw [if_neg (show ¬ (false = true) by decide)] at H; exact H
  clear H
  have H := H1
  clear H1
  by_cases c7 : t921 = true
  ·subst c7
   have H1 : (some 1) = some r := by rw [if_pos rfl] at H; exact H
   clear H
   have H := H1
   clear H1
   obtain rfl := Option.some.inj H
   go_enter Try.func165, Try.ntmps165
   go_wp2_with (first | ((with_reducible refine gate_callee (f := 167) rfl ?_); refine goesA (some 8) Try.func167 #[.int .i64 a0] ?_; (with_reducible refine (cmp_isNaN_int.calls a0 false _ A3.out).mono ?_); rintro e w' ⟨rfl, ⟨nd, rfl⟩⟩; refine ⟨_, rfl, ?_⟩) | ((with_reducible refine gate_callee (f := 167) rfl ?_); refine goesA (some 10) Try.func167 #[.int .i64 a1] ?_; (with_reducible refine (cmp_isNaN_int.calls a1 true _ A4.out).mono ?_); rintro e w' ⟨rfl, ⟨nd, rfl⟩⟩; refine ⟨_, rfl, ?_⟩))
   go_ret
   exact ⟨by first | rfl | (simp; done) | (simp [*]; done), by repeat (first | exact Drawn0.refl _ | apply Drawn0.step)⟩
  ·replace c7 := Bool.eq_false_iff.mpr c7
   subst c7
   have H1 : (if a0 < a1 then (some (-1)) else (if a0 > a1 then (some 1) else (some 0))) = some r := by rw [if_neg (show ¬ (false = true) by decide)] at H; exact H
   clear H
   have H := H1
   clear H1
   by_cases c8 : a0 < a1
   ·rw [if_pos c8] at H
    have c8b0 : decide (a0 < a1) = true := decide_eq_true c8
    clear c8
    obtain rfl := Option.some.inj H
    go_enter Try.func165, Try.ntmps165
    go_wp2_with (first | ((with_reducible refine gate_callee (f := 167) rfl ?_); refine goesA (some 8) Try.func167 #[.int .i64 a0] ?_; (with_reducible refine (cmp_isNaN_int.calls a0 false _ A3.out).mono ?_); rintro e w' ⟨rfl, ⟨nd, rfl⟩⟩; refine ⟨_, rfl, ?_⟩) | ((with_reducible refine gate_callee (f := 167) rfl ?_); refine goesA (some 10) Try.func167 #[.int .i64 a1] ?_; (with_reducible refine (cmp_isNaN_int.calls a1 false _ A4.out).mono ?_); rintro e w' ⟨rfl, ⟨nd, rfl⟩⟩; refine ⟨_, rfl, ?_⟩))
    go_ret
    exact ⟨by first | rfl | (simp; done) | (simp [*]; done), by repeat (first | exact Drawn0.refl _ | apply Drawn0.step)⟩
   ·rw [if_neg c8] at H
    have c8b0 : decide (a0 < a1) = false := decide_eq_false c8
    clear c8
    by_cases c9 : a0 > a1
    ·rw [if_pos c9] at H
     have c9b0 : decide (a1 < a0) = true := decide_eq_true c9
     clear c9
     obtain rfl := Option.some.inj H
     go_enter Try.func165, Try.ntmps165
     go_wp2_with (first | ((with_reducible refine gate_callee (f := 167) rfl ?_); refine goesA (some 8) Try.func167 #[.int .i64 a0] ?_; (with_reducible refine (cmp_isNaN_int.calls a0 false _ A3.out).mono ?_); rintro e w' ⟨rfl, ⟨nd, rfl⟩⟩; refine ⟨_, rfl, ?_⟩) | ((with_reducible refine gate_callee (f := 167) rfl ?_); refine goesA (some 10) Try.func167 #[.int .i64 a1] ?_; (with_reducible refine (cmp_isNaN_int.calls a1 false _ A4.out).mono ?_); rintro e w' ⟨rfl, ⟨nd, rfl⟩⟩; refine ⟨_, rfl, ?_⟩))
     go_ret
     exact ⟨by first | rfl | (simp; done) | (simp [*]; done), by repeat (first | exact Drawn0.refl _ | apply Drawn0.step)⟩
    ·rw [if_neg c9] at H
     have c9b0 : decide (a1 < a0) = false := decide_eq_false c9
     clear c9
     obtain rfl := Option.some.inj H
     go_enter Try.func165, Try.ntmps165
     go_wp2_with (first | ((with_reducible refine gate_callee (f := 167) rfl ?_); refine goesA (some 8) Try.func167 #[.int .i64 a0] ?_; (with_reducible refine (cmp_isNaN_int.calls a0 false _ A3.out).mono ?_); rintro e w' ⟨rfl, ⟨nd, rfl⟩⟩; refine ⟨_, rfl, ?_⟩) | ((with_reducible refine gate_callee (f := 167) rfl ?_); refine goesA (some 10) Try.func167 #[.int .i64 a1] ?_; (with_reducible refine (cmp_isNaN_int.calls a1 false _ A4.out).mono ?_); rintro e w' ⟨rfl, ⟨nd, rfl⟩⟩; refine ⟨_, rfl, ?_⟩))
     go_ret
     exact ⟨by first | rfl | (simp; done) | (simp [*]; done), by repeat (first | exact Drawn0.refl _ | apply Drawn0.step)⟩
/-! ### slices_Compare_int_int: function 154 -/
def slices_Compare_int_int.l0 : Nat → List Int → List Int → List Int → Int → Int → Option (Int)
 | 0, _, _, _, _, _ => none
 | k + 1, x0, x1, x9, x10, x11 => if x11 < x10 then (if 0 ≤ x11 then (if x11 < (x9.length : Int) then (if x11 ≥ (x1.length : Int) then (some 1) else (if x11 < (x1.length : Int) then ((cmp_Compare_int.f (rd x9 x11) (rd x1 x11)).bind fun t924 => (if t924 = 0 then (slices_Compare_int_int.l0 k x0 x1 x9 x10 (wrap64 (x11 + 1))) else (some t924))) else (none))) else (none)) else (none)) else (if (x0.length : Int) < (x1.length : Int) then (some (-1)) else (some 0))
def slices_Compare_int_int.f (k : Nat) (l0 : List Int) (l1 : List Int) : Option (Int) := slices_Compare_int_int.l0 k l0 l1 l0 (l0.length : Int) 0
theorem slices_Compare_int_int.mono_l : ∀ k, (∀ y0 y1 y2 y3 y4, LeO (slices_Compare_int_int.l0 k y0 y1 y2 y3 y4) (slices_Compare_int_int.l0 (k + 1) y0 y1 y2 y3 y4))
 | 0 => fun _ _ _ _ _ r h => by simp [slices_Compare_int_int.l0] at h
 | k + 1 => by
  have ih0 := slices_Compare_int_int.mono_l k
  ·intro y0 y1 y2 y3 y4
   unfold slices_Compare_int_int.l0
   repeat' (first | (with_reducible first | exact ih0 _ _ _ _ _ | exact LeO.refl _ | exact LeO.none _ | refine LeO.ite ?_ ?_ | refine LeO.bind ?_ (fun _ => ?_)) | exact ih0 _ _ _ _ _ | exact LeO.none _ | refine LeO.ite ?_ ?_ | refine LeO.bind ?_ (fun _ => ?_))
theorem slices_Compare_int_int.mono : ∀ a0 a1 k, LeO (slices_Compare_int_int.f k a0 a1) (slices_Compare_int_int.f (k + 1) a0 a1) := by
 intro a0 a1 k
 have ih0 := slices_Compare_int_int.mono_l k
 unfold slices_Compare_int_int.f
 repeat' (first | (with_reducible first | exact ih0 _ _ _ _ _ | exact LeO.refl _ | exact LeO.none _ | refine LeO.ite ?_ ?_ | refine LeO.bind ?_ (fun _ => ?_)) | exact ih0 _ _ _ _ _ | exact LeO.none _ | refine LeO.ite ?_ ?_ | refine LeO.bind ?_ (fun _ => ?_))
set_option maxHeartbeats 8000000 in
set_option maxRecDepth 100000 in
theorem slices_Compare_int_int.calls (k : Nat) (A0 : Option Addr) (c0 : Nat) (l0 : List Int) (A1 : Option Addr) (c1 : Nat) (l1 : List Int) (r : Int) (w : World) (hr0 : Kd.C (Kd.int .i64) w A0 l0.length l0) (hc0 : l0.length ≤ c0) (hr1 : Kd.C (Kd.int .i64) w A1 l1.length l1) (hc1 : l1.length ≤ c1) (h : slices_Compare_int_int.f k l0 l1 = some r) :
  Calls Try.prog 154 #[.slice A0 l0.length c0, .slice A1 l1.length c1] w fun e w' => e = .returned (.int .i64 r) ∧ Drawn0 w w' := by
 have HR0 := Aside0.mk hr0
 have HC0 := Aside0.mk hc0
 clear hr0 hc0
 have HR1 := Aside0.mk hr1
 have HC1 := Aside0.mk hc1
 clear hr1 hc1
 have H := h
 unfold slices_Compare_int_int.f at H
 clear h
 have H' := Aside0.mk H
 clear H
 go_enter Try.func154, Try.ntmps154
 go_wp2
 go_loopg [11] k (fun kq v11 w' => ∃ (x11_1 : Int), v11 = .int .i64 x11_1 ∧ Aside0 (slices_Compare_int_int.l0 kq l0 l1 l0 (l0.length : Int) x11_1 = some r) ∧ Aside0 (kq ≤ k) ∧ Drawn0 w w')
 case atStart => exact ⟨(0), eqd, H', ⟨Nat.le_refl _⟩, by repeat (first | exact Drawn0.refl _ | apply Drawn0.step)⟩
 case round =>
  clear H'
  try clear c1
  try clear p2
  obtain ⟨x11_1, rfl, HA, HK1, ⟨m1, rfl⟩⟩ := hrel
  cases gk with
  | zero => exact absurd HA.out (by simp [slices_Compare_int_int.l0])
  | succ k1 =>
   have H := HA.out
   clear HA
   simp only [slices_Compare_int_int.l0] at H
   by_cases c3 : x11_1 < (l0.length : Int)
   ·rw [if_pos c3] at H
    have c3b0 : decide (x11_1 < (l0.length : Int)) = true := decide_eq_true c3
    clear c3
    by_cases c4 : 0 ≤ x11_1
    ·rw [if_pos c4] at H
     have c4b0 : decide (0 ≤ x11_1) = true := decide_eq_true c4
     clear c4
     by_cases c5 : x11_1 < (l0.length : Int)
     ·rw [if_pos c5] at H
      have c5b0 : decide (x11_1 < (l0.length : Int)) = true := decide_eq_true c5
      clear c5
      by_cases c6 : x11_1 ≥ (l1.length : Int)
      ·rw [if_pos c6] at H
       have c6b0 : decide ((l1.length : Int) ≤ x11_1) = true := decide_eq_true c6
       clear c6
       obtain rfl := Option.some.inj H
       have p922 : 0 ≤ (x11_1 : Int) := ofd
       have q922 : x11_1 < (l0.length : Int) := ofd
       obtain ⟨ad922, e922, hx922_0⟩ := Kd.at_int HR0.out x11_1 p922 q922
       cases e922
       replace p922 := eq_true p922
       replace q922 := eq_true q922
       go_wp2
       go_ret
       exact ⟨by first | rfl | (simp; done) | (simp [*]; done), by repeat (first | exact Drawn0.refl _ | apply Drawn0.step)⟩
      ·rw [if_neg c6] at H
       have c6b0 : decide ((l1.length : Int) ≤ x11_1) = false := decide_eq_false c6
       clear c6
       by_cases c7 : x11_1 < (l1.length : Int)
       ·rw [if_pos c7] at H
        have c7b0 : decide (x11_1 < (l1.length : Int)) = true := decide_eq_true c7
        clear c7
        replace H := Option.bind_eq_some_iff.mp H
        obtain ⟨t924, A80, H⟩ := H
        replace H : (if t924 = 0 then (slices_Compare_int_int.l0 k1 l0 l1 l0 (l0.length : Int) (wrap64 (x11_1 + 1))) else (some t924)) = some r := H
        have A8 := Aside0.mk A80
        clear A80
        by_cases c9 : t924 = 0
        ·rw [if_pos c9] at H
         have c9b0 : (t924 == 0) = true := beq_iff_eq.mpr c9
         have c9b1 : (t924 != 0) = false := bne_eq_false_iff_eq.mpr c9
         clear c9
         have H' := Aside0.mk H
         clear H
         have p922 : 0 ≤ (x11_1 : Int) := ofd
         have q922 : x11_1 < (l0.length : Int) := ofd
         obtain ⟨ad922, e922, hx922_0⟩ := Kd.at_int HR0.out x11_1 p922 q922
         cases e922
         replace p922 := eq_true p922
         replace q922 := eq_true q922
         have p923 : 0 ≤ (x11_1 : Int) := ofd
         have q923 : x11_1 < (l1.length : Int) := ofd
         obtain ⟨ad923, e923, hx923_0⟩ := Kd.at_int HR1.out x11_1 p923 q923
         cases e923
         replace p923 := eq_true p923
         replace q923 := eq_true q923
         go_wp2_with (first | ((with_reducible refine gate_callee (f := 165) rfl ?_); refine goesA (some 26) Try.func165 #[.int .i64 (rd l0 x11_1), .int .i64 (rd l1 x11_1)] ?_; (with_reducible refine (cmp_Compare_int.calls (rd l0 x11_1) (rd l1 x11_1) t924 _ A8.out).mono ?_); rintro e w' ⟨rfl, ⟨nd, rfl⟩⟩; refine ⟨_, rfl, ?_⟩))
         go_roundg k1
         case measure => have := HK1.out; omega
         case rel => exact ⟨(wrap64 (x11_1 + 1)), eqd, H', ⟨by have := HK1.out; omega⟩, by repeat (first | exact Drawn0.refl _ | apply Drawn0.step)⟩
        ·rw [if_neg c9] at H
         have c9b0 : (t924 == 0) = false := beq_eq_false_iff_ne.mpr c9
         have c9b1 : (t924 != 0) = true := bne_iff_ne.mpr c9
         obtain rfl := Option.some.inj H
         have p922 : 0 ≤ (x11_1 : Int) := ofd
         have q922 : x11_1 < (l0.length : Int) := ofd
         obtain ⟨ad922, e922, hx922_0⟩ := Kd.at_int HR0.out x11_1 p922 q922
         cases e922
         replace p922 := eq_true p922
         replace q922 := eq_true q922
         have p923 : 0 ≤ (x11_1 : Int) := ofd
         have q923 : x11_1 < (l1.length : Int) := ofd
         obtain ⟨ad923, e923, hx923_0⟩ := Kd.at_int HR1.out x11_1 p923 q923
         cases e923
         replace p923 := eq_true p923
         replace q923 := eq_true q923
         go_wp2_with (first | ((with_reducible refine gate_callee (f := 165) rfl ?_); refine goesA (some 26) Try.func165 #[.int .i64 (rd l0 x11_1), .int .i64 (rd l1 x11_1)] ?_; (with_reducible refine (cmp_Compare_int.calls (rd l0 x11_1) (rd l1 x11_1) t924 _ A8.out).mono ?_); rintro e w' ⟨rfl, ⟨nd, rfl⟩⟩; refine ⟨_, rfl, ?_⟩))
         go_ret
         exact ⟨by first | rfl | (simp; done) | (simp [*]; done), by repeat (first | exact Drawn0.refl _ | apply Drawn0.step)⟩
       ·rw [if_neg c7] at H
        exact absurd H (by simp)
     ·rw [if_neg c5] at H
      exact absurd H (by simp)
    ·rw [if_neg c4] at H
     exact absurd H (by simp)
   ·rw [if_neg c3] at H
    have c3b0 : decide (x11_1 < (l0.length : Int)) = false := decide_eq_false c3
    clear c3
    by_cases c10 : (l0.length : Int) < (l1.length : Int)
    ·rw [if_pos c10] at H
     have c10b0 : decide ((l0.length : Int) < (l1.length : Int)) = true := decide_eq_true c10
     have c10b1 : decide (l0.length < l1.length) = true := decide_eq_true (Int.ofNat_lt.mp c10)
     clear c10
     obtain rfl := Option.some.inj H
     go_wp2
     go_ret
     exact ⟨by first | rfl | (simp; done) | (simp [*]; done), by repeat (first | exact Drawn0.refl _ | apply Drawn0.step)⟩
    ·rw [if_neg c10] at H
     have c10b0 : decide ((l0.length : Int) < (l1.length : Int)) = false := decide_eq_false c10
     have c10b1 : decide (l0.length < l1.length) = false := decide_eq_false (fun h => c10 (Int.ofNat_lt.mpr h))
     clear c10
     obtain rfl := Option.some.inj H
     go_wp2
     go_ret
     exact ⟨by first | rfl | (simp; done) | (simp [*]; done), by repeat (first | exact Drawn0.refl _ | apply Drawn0.step)⟩
noncomputable def slices_Compare_int_int.L0 (x0 : List Int) (x1 : List Int) (x9 : List Int) (x10 : Int) (x11 : Int) : Option (Int) := lim fun k => slices_Compare_int_int.l0 k x0 x1 x9 x10 x11
theorem slices_Compare_int_int.L0_lim (x0 : List Int) (x1 : List Int) (x9 : List Int) (x10 : Int) (x11 : Int) : Lim (fun k => slices_Compare_int_int.l0 k x0 x1 x9 x10 x11) (slices_Compare_int_int.L0 x0 x1 x9 x10 x11) := Lim.of fun k => (slices_Compare_int_int.mono_l k) x0 x1 x9 x10 x11
noncomputable def slices_Compare_int_int.F (l0 : List Int) (l1 : List Int) : Option (Int) := lim fun k => slices_Compare_int_int.f k l0 l1
theorem slices_Compare_int_int.F_lim (l0 : List Int) (l1 : List Int) : Lim (fun k => slices_Compare_int_int.f k l0 l1) (slices_Compare_int_int.F l0 l1) := Lim.of fun k => slices_Compare_int_int.mono l0 l1 k
theorem slices_Compare_int_int.L0_eq (x0 : List Int) (x1 : List Int) (x9 : List Int) (x10 : Int) (x11 : Int) : slices_Compare_int_int.L0 x0 x1 x9 x10 x11 = (if x11 < x10 then (if 0 ≤ x11 then (if x11 < (x9.length : Int) then (if x11 ≥ (x1.length : Int) then (some 1) else (if x11 < (x1.length : Int) then ((cmp_Compare_int.f (rd x9 x11) (rd x1 x11)).bind fun t924 => (if t924 = 0 then (slices_Compare_int_int.L0 x0 x1 x9 x10 (wrap64 (x11 + 1))) else (some t924))) else (none))) else (none)) else (none)) else (if (x0.length : Int) < (x1.length : Int) then (some (-1)) else (some 0))) :=
 Lim.step (f := fun k => slices_Compare_int_int.l0 (k + 1) x0 x1 x9 x10 x11) (slices_Compare_int_int.L0_lim x0 x1 x9 x10 x11) (fun _ => rfl) (by
  simp only [slices_Compare_int_int.l0]
  repeat' (first | (with_reducible first | exact Lim.const _ | exact slices_Compare_int_int.L0_lim _ _ _ _ _ | refine Lim.ite ?_ ?_ | refine Lim.bind ?_ (fun _ => ?_))))
theorem slices_Compare_int_int.F_eq (l0 : List Int) (l1 : List Int) : slices_Compare_int_int.F l0 l1 = (slices_Compare_int_int.L0 l0 l1 l0 (l0.length : Int) 0) :=
 Lim.unique (slices_Compare_int_int.F_lim l0 l1) (by
  unfold slices_Compare_int_int.f
  repeat' (first | (with_reducible first | exact Lim.const _ | exact slices_Compare_int_int.L0_lim _ _ _ _ _ | refine Lim.ite ?_ ?_ | refine Lim.bind ?_ (fun _ => ?_))))
/-! ### impl_least: function 128 (given) -/
/-- The first of some lists that comes before a list and all before it in the line. -/
def impl_least.fold (k : Nat) : List (List Int) → List Int → Option (List Int)
 | [], b => some b
 | q :: qs, b => (slices_Compare_int_int.f k q b).bind fun c => impl_least.fold k qs (if c < 0 then q else b)
/-- Some quarter turns; after each the turned one and its mirror image are looked at. -/
def impl_least.turns (k : Nat) : Nat → List Int → List Int → Option (List Int)
 | 0, b, _ => some b
 | n + 1, b, p => (impl_turned.f k p).bind fun t => (impl_back.f k t).bind fun u => (impl_least.fold k [t, u] b).bind fun b' => impl_least.turns k n b' t
def impl_least.f (k : Nat) (l0 : List Int) : Option (List Int) :=
 (slices_Clone_int_int.f l0).bind fun b => impl_least.turns k 4 b l0
theorem impl_least.fold_mono (k : Nat) : ∀ (qs : List (List Int)) (b : List Int), LeO (impl_least.fold k qs b) (impl_least.fold (k + 1) qs b)
 | [], b => LeO.refl _
 | q :: qs, b => LeO.bind (slices_Compare_int_int.mono _ _ _) (fun _ => impl_least.fold_mono k qs _)
theorem impl_least.turns_mono (k : Nat) : ∀ (n : Nat) (b p : List Int), LeO (impl_least.turns k n b p) (impl_least.turns (k + 1) n b p)
 | 0, b, p => LeO.refl _
 | n + 1, b, p => LeO.bind (impl_turned.mono _ _) (fun _ => LeO.bind (impl_back.mono _ _) (fun _ => LeO.bind (impl_least.fold_mono _ _ _) (fun _ => impl_least.turns_mono k n _ _)))
theorem impl_least.mono : ∀ a0 k, LeO (impl_least.f k a0) (impl_least.f (k + 1) a0) := fun a0 k => LeO.bind (LeO.refl _) (fun _ => impl_least.turns_mono _ _ _ _)
/-! what these come to when the rounds are enough -/
noncomputable def impl_least.foldF : List (List Int) → List Int → Option (List Int)
 | [], b => some b
 | q :: qs, b => (slices_Compare_int_int.F q b).bind fun c => impl_least.foldF qs (if c < 0 then q else b)
noncomputable def impl_least.turnsF : Nat → List Int → List Int → Option (List Int)
 | 0, b, _ => some b
 | n + 1, b, p => (impl_turned.F p).bind fun t => (impl_back.F t).bind fun u => (impl_least.foldF [t, u] b).bind fun b' => impl_least.turnsF n b' t
noncomputable def impl_least.F (l0 : List Int) : Option (List Int) :=
 (slices_Clone_int_int.f l0).bind fun b => impl_least.turnsF 4 b l0
theorem impl_least.fold_lim : ∀ (qs : List (List Int)) (b : List Int), Lim (fun k => impl_least.fold k qs b) (impl_least.foldF qs b)
 | [], b => Lim.const _
 | q :: qs, b => Lim.bind (slices_Compare_int_int.F_lim q b) (fun _ => impl_least.fold_lim qs _)
theorem impl_least.turns_lim : ∀ (n : Nat) (b p : List Int), Lim (fun k => impl_least.turns k n b p) (impl_least.turnsF n b p)
 | 0, b, p => Lim.const _
 | n + 1, b, p => Lim.bind (impl_turned.F_lim p) (fun t => Lim.bind (impl_back.F_lim t) (fun u => Lim.bind (impl_least.fold_lim [t, u] b) (fun b' => impl_least.turns_lim n b' t)))
theorem impl_least.F_lim {l0 : List Int} : Lim (fun k => impl_least.f k l0) (impl_least.F l0) := Lim.bind (Lim.const _) (fun b => impl_least.turns_lim 4 b l0)
set_option maxHeartbeats 8000000 in
set_option maxRecDepth 100000 in
theorem impl_least.calls (k : Nat) (A0 : Option Addr) (c0 : Nat) (l0 : List Int) (r : List Int) (w : World) (hr0 : Kd.C (Kd.int .i64) w A0 l0.length l0) (hc0 : l0.length ≤ c0) (h : impl_least.f k l0 = some r) :
  Calls Try.prog 128 #[.slice A0 l0.length c0] w fun e w' => ∃ v0_ : Value, e = .returned (v0_) ∧ Kd.R (Kd.int .i64) 3 w' w.heap.size (fun _ => True) v0_ r ∧ Below w.heap.size w w' := by
 obtain ⟨b0, hA, h⟩ := Option.bind_eq_some_iff.1 h
 have A1 := Aside0.mk hA
 have HR := Aside0.mk hr0
 have HC := Aside0.mk hc0
 have H := Aside0.mk h
 clear hA hr0 hc0 h
 go_enter Try.func128, Try.ntmps128
 go_wp2_with (first | ((with_reducible refine gate_callee (f := 101) rfl ?_); refine goesA (some 8) Try.func101 #[.slice A0 l0.length c0] ?_; refine (slices_Clone_int_int.calls A0 c0 l0 b0 w HR.out HC.out A1.out).mono ?_; rintro e w1 ⟨v1, rfl, hv1, hb1⟩; refine ⟨_, rfl, ?_⟩; obtain ⟨A3, c3, e3⟩ := Kd.R_slice hv1; subst e3; have HV1 := Aside0.mk hv1; have HB1 := Aside0.mk hb1; clear hv1 hb1))
 have HC0 := Aside0.mk (Kd.C_below HR.out HB1.out)
 clear HR A1
 go_loopw [3, 4, 10] (fun v3 v4 v10 wr => ∃ (i : Nat) (b p : List Int) (Ab : Option Addr) (cb : Nat) (Ap : Option Addr) (cp : Nat), i ≤ 4 ∧ v10 = .int .i64 i ∧ v3 = .slice Ab b.length cb ∧ v4 = .slice Ap p.length cp ∧ Aside0 (Kd.R (Kd.int .i64) 3 wr w.heap.size (fun _ => True) (.slice Ab b.length cb) b) ∧ Aside0 (Kd.C (Kd.int .i64) wr Ap p.length p) ∧ Aside0 (p.length ≤ cp) ∧ Aside0 (Below w.heap.size w wr) ∧ Aside0 (impl_least.turns k (4 - i) b p = some r)) (fun _ _ v _ => 4 - (intOf v).toNat)
 case atStart => exact ⟨0, b0, l0, A3, c3, A0, c0, by omega, rfl, rfl, rfl, HV1, HC0, HC, HB1, H⟩
 case round =>
  obtain ⟨i, b, p, Ab, cb, Ap, cp, hi, rfl, rfl, rfl, HRB, HCP, HLP, HB, HT⟩ := hrel
  by_cases hlt : i < 4
  ·have ht := HT.out
   rw [show 4 - i = (4 - (i + 1)) + 1 by omega] at ht
   obtain ⟨t, ht1, ht⟩ := Option.bind_eq_some_iff.1 ht
   obtain ⟨u, hu1, ht⟩ := Option.bind_eq_some_iff.1 ht
   obtain ⟨b', hf1, ht⟩ := Option.bind_eq_some_iff.1 ht
   have HT1 := Aside0.mk ht1
   have HU1 := Aside0.mk hu1
   have HF1 := Aside0.mk hf1
   have HREST := Aside0.mk ht
   have HLT := Aside0.mk hlt
   clear HT ht1 hu1 hf1 ht hi
   go_wp2_with (first | ((with_reducible refine gate_callee (f := 152) rfl ?_); refine goesA (some 13) Try.func152 #[.slice Ap p.length cp] ?_; refine (impl_turned.calls k Ap cp p t _ HCP.out HLP.out HT1.out).mono ?_; rintro e w2 ⟨v2, rfl, hv2, hb2⟩; refine ⟨_, rfl, ?_⟩; obtain ⟨At, ct, et⟩ := Kd.R_slice hv2; subst et; have HV2 := Aside0.mk hv2; have HB2 := Aside0.mk hb2; clear hv2 hb2) | ((with_reducible refine gate_callee (f := 153) rfl ?_); refine goesA (some 16) Try.func153 #[.slice At t.length ct] ?_; refine (impl_back.calls k At ct t u w2 (Kd.R_reads' HV2.out).2.2 (Kd.R_reads' HV2.out).2.1 HU1.out).mono ?_; rintro e w5 ⟨v5, rfl, hv5, hb5⟩; refine ⟨_, rfl, ?_⟩; obtain ⟨Au, cu, eu⟩ := Kd.R_slice hv5; subst eu; have HV5 := Aside0.mk hv5; have HB5 := Aside0.mk hb5; clear hv5 hb5))
   have HS2 := Aside0.mk (HB.out.size)
   have HS5 := Aside0.mk (Nat.le_trans HB.out.size HB2.out.size)
   have HRU := Aside0.mk (Kd.R_alloc (Kd.R_lower HV5.out HS5.out) (.cells #[.slice At t.length ct, .slice Au u.length cu] 24))
   have HRT := Aside0.mk (Kd.R_alloc (Kd.R_below (Kd.R_lower HV2.out HS2.out) HB5.out) (.cells #[.slice At t.length ct, .slice Au u.length cu] 24))
   have HRB5 := Aside0.mk (Kd.R_alloc (Kd.R_below (Kd.R_below HRB.out HB2.out) HB5.out) (.cells #[.slice At t.length ct, .slice Au u.length cu] 24))
   have HBW := Aside0.mk (below_alloc (HB.out.trans ((HB2.out.mono HS2.out).trans (HB5.out.mono HS5.out))) (.cells #[.slice At t.length ct, .slice Au u.length cu] 24))
   have HNEW := Aside0.mk (heap_alloc_new w5 (.cells #[.slice At t.length ct, .slice Au u.length cu] 24))
   clear HRB HCP HLP HB HV2 HB2 HV5 HB5 HS2 HS5
   go_loopw [3, 19] (fun v3 v19 wq => ∃ (j : Nat) (d : List Int) (Ad : Option Addr) (cd : Nat), j ≤ 2 ∧ v19 = .int .i64 j ∧ v3 = .slice Ad d.length cd ∧ Aside0 (Kd.R (Kd.int .i64) 3 wq w.heap.size (fun _ => True) (.slice Ad d.length cd) d) ∧ Aside0 (Kd.R (Kd.int .i64) 3 wq w.heap.size (fun _ => True) (.slice At t.length ct) t) ∧ Aside0 (Kd.R (Kd.int .i64) 3 wq w.heap.size (fun _ => True) (.slice Au u.length cu) u) ∧ Aside0 (wq.heap[w5.heap.size]? = some (.cells #[.slice At t.length ct, .slice Au u.length cu] 24 (0, 0))) ∧ Aside0 (Below w.heap.size w wq) ∧ Aside0 (impl_least.fold k ([t, u].drop j) d = some b')) (fun _ v _ => 2 - (intOf v).toNat)
   case atStart => exact ⟨0, b, Ab, cb, by omega, rfl, rfl, HRB5, HRT, HRU, HNEW, HBW, HF1⟩
   case round =>
    obtain ⟨j, d, Ad, cd, hj, rfl, rfl, HRD, HRT2, HRU2, HBOX, HBQ, HF⟩ := hrel
    have hc0 : wr.cell? ⟨w5.heap.size, 0, none⟩ = some (.slice At t.length ct) := by
     have h_ := HBOX.out
     simp [World.cell?, h_]
    have hc1 : wr.cell? ⟨w5.heap.size, 1, none⟩ = some (.slice Au u.length cu) := by
     have h_ := HBOX.out
     simp [World.cell?, h_]
    match j, hj with
    | 0, _ =>
     obtain ⟨c, hcmp, hf⟩ := Option.bind_eq_some_iff.1 (show (slices_Compare_int_int.f k t d).bind _ = some b' from HF.out)
     have HCMP := Aside0.mk hcmp
     by_cases hneg : c < 0
     ·rw [if_pos hneg] at hf
      have HF2 := Aside0.mk hf
      have b1 : decide (c < 0) = true := decide_eq_true hneg
      clear hcmp hf hneg HF
      go_wp2_with (first | ((with_reducible refine gate_callee (f := 154) rfl ?_); refine goesA (some 25) Try.func154 #[.slice At t.length ct, .slice Ad d.length cd] ?_; refine (slices_Compare_int_int.calls k At ct t Ad cd d c wr (Kd.R_reads' HRT2.out).2.2 (Kd.R_reads' HRT2.out).2.1 (Kd.R_reads' HRD.out).2.2 (Kd.R_reads' HRD.out).2.1 HCMP.out).mono ?_; rintro e w9 ⟨rfl, ⟨nd, rfl⟩⟩; refine ⟨_, rfl, ?_⟩))
      go_roundw
      case rel => exact ⟨1, t, At, ct, by omega, rfl, rfl, ⟨Kd.R_drewN HRT2.out nd⟩, ⟨Kd.R_drewN HRT2.out nd⟩, ⟨Kd.R_drewN HRU2.out nd⟩, ⟨HBOX.out⟩, ⟨pw_below_drewN HBQ.out nd⟩, HF2⟩
      case measure => simp [intOf]
     ·rw [if_neg hneg] at hf
      have HF2 := Aside0.mk hf
      have b1 : decide (c < 0) = false := decide_eq_false hneg
      clear hcmp hf hneg HF
      go_wp2_with (first | ((with_reducible refine gate_callee (f := 154) rfl ?_); refine goesA (some 25) Try.func154 #[.slice At t.length ct, .slice Ad d.length cd] ?_; refine (slices_Compare_int_int.calls k At ct t Ad cd d c wr (Kd.R_reads' HRT2.out).2.2 (Kd.R_reads' HRT2.out).2.1 (Kd.R_reads' HRD.out).2.2 (Kd.R_reads' HRD.out).2.1 HCMP.out).mono ?_; rintro e w9 ⟨rfl, ⟨nd, rfl⟩⟩; refine ⟨_, rfl, ?_⟩))
      go_roundw
      case rel => exact ⟨1, d, Ad, cd, by omega, rfl, rfl, ⟨Kd.R_drewN HRD.out nd⟩, ⟨Kd.R_drewN HRT2.out nd⟩, ⟨Kd.R_drewN HRU2.out nd⟩, ⟨HBOX.out⟩, ⟨pw_below_drewN HBQ.out nd⟩, HF2⟩
      case measure => simp [intOf]
    | 1, _ =>
     obtain ⟨c, hcmp, hf⟩ := Option.bind_eq_some_iff.1 (show (slices_Compare_int_int.f k u d).bind _ = some b' from HF.out)
     have HCMP := Aside0.mk hcmp
     by_cases hneg : c < 0
     ·rw [if_pos hneg] at hf
      have HF2 := Aside0.mk hf
      have b1 : decide (c < 0) = true := decide_eq_true hneg
      clear hcmp hf hneg HF
      go_wp2_with (first | ((with_reducible refine gate_callee (f := 154) rfl ?_); refine goesA (some 25) Try.func154 #[.slice Au u.length cu, .slice Ad d.length cd] ?_; refine (slices_Compare_int_int.calls k Au cu u Ad cd d c wr (Kd.R_reads' HRU2.out).2.2 (Kd.R_reads' HRU2.out).2.1 (Kd.R_reads' HRD.out).2.2 (Kd.R_reads' HRD.out).2.1 HCMP.out).mono ?_; rintro e w9 ⟨rfl, ⟨nd, rfl⟩⟩; refine ⟨_, rfl, ?_⟩))
      go_roundw
      case rel => exact ⟨2, u, Au, cu, by omega, rfl, rfl, ⟨Kd.R_drewN HRU2.out nd⟩, ⟨Kd.R_drewN HRT2.out nd⟩, ⟨Kd.R_drewN HRU2.out nd⟩, ⟨HBOX.out⟩, ⟨pw_below_drewN HBQ.out nd⟩, HF2⟩
      case measure => simp [intOf]
     ·rw [if_neg hneg] at hf
      have HF2 := Aside0.mk hf
      have b1 : decide (c < 0) = false := decide_eq_false hneg
      clear hcmp hf hneg HF
      go_wp2_with (first | ((with_reducible refine gate_callee (f := 154) rfl ?_); refine goesA (some 25) Try.func154 #[.slice Au u.length cu, .slice Ad d.length cd] ?_; refine (slices_Compare_int_int.calls k Au cu u Ad cd d c wr (Kd.R_reads' HRU2.out).2.2 (Kd.R_reads' HRU2.out).2.1 (Kd.R_reads' HRD.out).2.2 (Kd.R_reads' HRD.out).2.1 HCMP.out).mono ?_; rintro e w9 ⟨rfl, ⟨nd, rfl⟩⟩; refine ⟨_, rfl, ?_⟩))
      go_roundw
      case rel => exact ⟨2, d, Ad, cd, by omega, rfl, rfl, ⟨Kd.R_drewN HRD.out nd⟩, ⟨Kd.R_drewN HRT2.out nd⟩, ⟨Kd.R_drewN HRU2.out nd⟩, ⟨HBOX.out⟩, ⟨pw_below_drewN HBQ.out nd⟩, HF2⟩
      case measure => simp [intOf]
    | 2, _ =>
     have HE := Aside0.mk (show d = b' from Option.some.inj HF.out)
     clear HF
     go_wp2
     go_roundw
     case rel => exact ⟨i + 1, d, t, Ad, cd, At, ct, HLT.out, by go_num, rfl, rfl, HRD, ⟨(Kd.R_reads' HRT2.out).2.2⟩, ⟨(Kd.R_reads' HRT2.out).2.1⟩, HBQ, ⟨by rw [HE.out]; exact HREST.out⟩⟩
     case measure => simp [intOf]; have := HLT.out; omega
  ·obtain rfl : i = 4 := by omega
   have HE := Aside0.mk (show b = r from Option.some.inj HT.out)
   clear HT hlt hi
   go_wp2
   go_ret
   exact ⟨_, rfl, by rw [← HE.out]; exact HRB.out, HB.out⟩
/-! ### impl_CountClasses: function 68 -/
def impl_CountClasses.l0 : Nat → Int → List (List Int) → Int → Int → Option (Int × Bool)
 | 0, _, _, _, _ => none
 | k + 1, x6, x16, x17, x18 => if x18 < x17 then (if 0 ≤ x18 then (if x18 < (x16.length : Int) then ((impl_least.f k (rd_L2 x16 x18)).bind fun t930 => ((slices_Equal_int_int.f k (rd_L2 x16 x18) t930).bind fun t933 => (if t933 = true then (impl_CountClasses.l0 k (wrap64 (x6 + 1)) x16 x17 (wrap64 (x18 + 1))) else (impl_CountClasses.l0 k x6 x16 x17 (wrap64 (x18 + 1)))))) else (none)) else (none)) else (some (x6, true))
def impl_CountClasses.f (k : Nat) (a0 : Int) : Option (Int × Bool) := (impl_AllCostas.f k a0).bind fun bt925 => (if bt925.2 = true then (impl_CountClasses.l0 k 0 bt925.1 (bt925.1.length : Int) 0) else (some (0, false)))
theorem impl_CountClasses.mono_l : ∀ k, (∀ y0 y1 y2 y3, LeO (impl_CountClasses.l0 k y0 y1 y2 y3) (impl_CountClasses.l0 (k + 1) y0 y1 y2 y3))
 | 0 => fun _ _ _ _ r h => by simp [impl_CountClasses.l0] at h
 | k + 1 => by
  have ih0 := impl_CountClasses.mono_l k
  ·intro y0 y1 y2 y3
   unfold impl_CountClasses.l0
   repeat' (first | (with_reducible first | exact ih0 _ _ _ _ | exact impl_least.mono _ _ | exact slices_Equal_int_int.mono _ _ _ | exact LeO.refl _ | exact LeO.none _ | refine LeO.ite ?_ ?_ | refine LeO.bind ?_ (fun _ => ?_)) | exact ih0 _ _ _ _ | exact impl_least.mono _ _ | exact slices_Equal_int_int.mono _ _ _ | exact LeO.none _ | refine LeO.ite ?_ ?_ | refine LeO.bind ?_ (fun _ => ?_))
theorem impl_CountClasses.mono : ∀ a0 k, LeO (impl_CountClasses.f k a0) (impl_CountClasses.f (k + 1) a0) := by
 intro a0 k
 have ih0 := impl_CountClasses.mono_l k
 unfold impl_CountClasses.f
 repeat' (first | (with_reducible first | exact ih0 _ _ _ _ | exact impl_AllCostas.mono _ _ | exact LeO.refl _ | exact LeO.none _ | refine LeO.ite ?_ ?_ | refine LeO.bind ?_ (fun _ => ?_)) | exact ih0 _ _ _ _ | exact impl_AllCostas.mono _ _ | exact LeO.none _ | refine LeO.ite ?_ ?_ | refine LeO.bind ?_ (fun _ => ?_))
set_option maxHeartbeats 8000000 in
set_option maxRecDepth 100000 in
theorem impl_CountClasses.calls (k : Nat) (a0 : Int) (r1 : Int) (r2 : Bool) (w : World) (h : impl_CountClasses.f k a0 = some (r1, r2)) :
  Calls Try.prog 68 #[.int .i64 a0] w fun e w' => e = .returned (.tuple #[.int .i64 r1, .bool r2]) ∧ Below w.heap.size w w' := by
 have HB := Aside0.mk (Below.refl w.heap.size w)
 have H := h
 unfold impl_CountClasses.f at H
 clear h
 replace H := Option.bind_eq_some_iff.mp H
 obtain ⟨⟨t925, t926⟩, A20, H⟩ := H
 replace H : (if t926 = true then (impl_CountClasses.l0 k 0 t925 (t925.length : Int) 0) else (some (0, false))) = some (r1, r2) := H
 have A2 := Aside0.mk A20
 clear A20
 by_cases c3 : t926 = true
 ·subst c3
  have H1 : (impl_CountClasses.l0 k 0 t925 (t925.length : Int) 0) = some (r1, r2) := by rw [if_pos rfl] at H; exact H
  clear H
  have H := H1
  clear H1
  have H' := Aside0.mk H
  clear H
  go_enter Try.func68, Try.ntmps68
  go_wp2_with (first | ((with_reducible refine gate_callee (f := 64) rfl ?_); refine goesA (some 11) Try.func64 #[.int .i64 a0] ?_; (with_reducible refine (impl_AllCostas.calls k a0 t925 true _ A2.out).mono ?_); rintro e w4 ⟨v927, rfl, ho0, hb⟩; refine ⟨_, rfl, ?_⟩; have HO928 := lowS ho0 HB; replace HB := upB HB hb; (try clear hb); (try clear hb2); (try clear hk); (try clear hi); (try clear ho0); obtain ⟨Ao5, co5, eo5⟩ := Kd.S_slice HO928.out; subst eo5))
  go_loopg [6, 18] k (fun kq v6 v18 w' => ∃ (x6_1 : Int) (x18_1 : Int), v6 = .int .i64 x6_1 ∧ v18 = .int .i64 x18_1 ∧ Aside0 (impl_CountClasses.l0 kq x6_1 t925 (t925.length : Int) x18_1 = some (r1, r2)) ∧ Aside0 (kq ≤ k) ∧ Aside0 (Kd.S (Kd.slice 3 (Kd.int .i64)) 24 w' w.heap.size (fun _ => True) (.slice Ao5 t925.length co5) t925) ∧ Aside0 (Below w.heap.size w w'))
  case atStart => exact ⟨(0), (0), eqd, eqd, H', ⟨Nat.le_refl _⟩, ⟨atS HO928⟩, ⟨atB HB⟩⟩
  case round =>
   clear H'
   try clear p2
   try clear c3
   obtain ⟨x6_1, x18_1, rfl, rfl, HA, HK1, HO_16, HB⟩ := hrel
   cases gk with
   | zero => exact absurd HA.out (by simp [impl_CountClasses.l0])
   | succ k1 =>
    have H := HA.out
    clear HA
    simp only [impl_CountClasses.l0] at H
    by_cases c6 : x18_1 < (t925.length : Int)
    ·rw [if_pos c6] at H
     have c6b0 : decide (x18_1 < (t925.length : Int)) = true := decide_eq_true c6
     clear c6
     by_cases c7 : 0 ≤ x18_1
     ·rw [if_pos c7] at H
      have c7b0 : decide (0 ≤ x18_1) = true := decide_eq_true c7
      clear c7
      by_cases c8 : x18_1 < (t925.length : Int)
      ·rw [if_pos c8] at H
       have c8b0 : decide (x18_1 < (t925.length : Int)) = true := decide_eq_true c8
       clear c8
       replace H := Option.bind_eq_some_iff.mp H
       obtain ⟨t930, A90, H⟩ := H
       replace H : ((slices_Equal_int_int.f k1 (rd_L2 t925 x18_1) t930).bind fun t933 => (if t933 = true then (impl_CountClasses.l0 k1 (wrap64 (x6_1 + 1)) t925 (t925.length : Int) (wrap64 (x18_1 + 1))) else (impl_CountClasses.l0 k1 x6_1 t925 (t925.length : Int) (wrap64 (x18_1 + 1))))) = some (r1, r2) := H
       have A9 := Aside0.mk A90
       clear A90
       replace H := Option.bind_eq_some_iff.mp H
       obtain ⟨t933, A100, H⟩ := H
       replace H : (if t933 = true then (impl_CountClasses.l0 k1 (wrap64 (x6_1 + 1)) t925 (t925.length : Int) (wrap64 (x18_1 + 1))) else (impl_CountClasses.l0 k1 x6_1 t925 (t925.length : Int) (wrap64 (x18_1 + 1)))) = some (r1, r2) := H
       have A10 := Aside0.mk A100
       clear A100
       by_cases c11 : t933 = true
       ·subst c11
        have H1 : (impl_CountClasses.l0 k1 (wrap64 (x6_1 + 1)) t925 (t925.length : Int) (wrap64 (x18_1 + 1))) = some (r1, r2) := by rw [if_pos rfl] at H; exact H
        clear H
        have H := H1
        clear H1
        have H' := Aside0.mk H
        clear H
        have p929 : 0 ≤ (x18_1 : Int) := ofd
        have q929 : x18_1 < (t925.length : Int) := ofd
        obtain ⟨ad929, A929_0, c929_0, e929, hx929_0, hl929_0, hi929_0⟩ := at_L2 (Kd.S_reads' HO_16.out).2.2 x18_1 p929 q929
        cases e929
        obtain ⟨ce929, hce929, hMe929, hcc929⟩ := Kd.S_get HO_16.out [] x18_1 p929 (by first | exact q929 | exact of_decide_eq_true (by first | (with_reducible assumption) | assumption) | (have e_ := (Kd.S_reads' HO_16.out).1; omega))
        obtain ⟨ve929_0, rfl, ge929_0⟩ := hMe929
        have hv929_0 := hcc929 0 _ rfl
        rw [Nat.add_zero, show ((Kd.slice 3 (Kd.int .i64))).sz = 1 from rfl, Nat.mul_one] at hv929_0
        replace hv929_0 := Option.some.inj (hv929_0.symm.trans hx929_0)
        rw [hv929_0] at ge929_0
        have HL929_0 := Aside0.mk (show Kd.R (Kd.int .i64) 3 _ _ _ _ (rd_L2 t925 x18_1) from ge929_0)
        clear hv929_0 ge929_0
        clear hcc929 hce929
        have HR929_0 := Aside0.mk hi929_0
        have HC929_0 := Aside0.mk hl929_0
        clear hi929_0 hl929_0
        replace p929 := eq_true p929
        replace q929 := eq_true q929
        go_wp2_with (first | ((with_reducible refine gate_callee (f := 128) rfl ?_); refine goesA (some 24) Try.func128 #[.slice A929_0 (rd_L2 t925 x18_1).length c929_0] ?_; (with_reducible refine (impl_least.calls k1 _ _ (rd_L2 t925 x18_1) t930 _ ?side1 ?side2 A9.out).mono ?_); (case side1 => exact atC HR929_0); (case side2 => exact HC929_0.out); rintro e w12 ⟨v931, rfl, ho0, hb⟩; refine ⟨_, rfl, ?_⟩; have HO932 := Aside0.mk (Kd.R_lower (Kd.R_new' ho0 (ltR HL929_0)) (szB HB)); replace HO_16 := eldSR HO_16 ho0 hb; replace HL929_0 := eldRR HL929_0 ho0 hb; replace HR929_0 := upC HR929_0 hb; replace HB := upB HB hb; (try clear hb); (try clear hb2); (try clear hk); (try clear hi); (try clear ho0); obtain ⟨Ao13, co13, eo13⟩ := Kd.R_slice HO932.out; subst eo13) | ((with_reducible refine gate_callee (f := 127) rfl ?_); refine goesA (some 25) Try.func127 #[.slice A929_0 (rd_L2 t925 x18_1).length c929_0, .slice Ao13 t930.length co13] ?_; (with_reducible refine (slices_Equal_int_int.calls k1 _ _ (rd_L2 t925 x18_1) _ _ t930 true _ ?side1 ?side2 ?side3 ?side4 A10.out).mono ?_); (case side1 => exact atC HR929_0); (case side2 => exact HC929_0.out); (case side3 => exact atRC HO932); (case side4 => exact (Kd.R_reads' HO932.out).2.1); rintro e w' ⟨rfl, ⟨nd, rfl⟩⟩; refine ⟨_, rfl, ?_⟩))
        go_roundg k1
        case measure => have := HK1.out; omega
        case rel => exact ⟨(wrap64 (x6_1 + 1)), (wrap64 (x18_1 + 1)), eqd, eqd, H', ⟨by have := HK1.out; omega⟩, ⟨by (with_reducible repeat (first | apply Kd.S_alloc | apply Kd.S_drewN | apply Kd.S_drew)); exact Kd.S_mono HO_16.out (fun _ hk => trivial)⟩, ⟨atB HB⟩⟩
       ·replace c11 := Bool.eq_false_iff.mpr c11
        subst c11
        have H1 : (impl_CountClasses.l0 k1 x6_1 t925 (t925.length : Int) (wrap64 (x18_1 + 1))) = some (r1, r2) := by rw [if_neg (show ¬ (false = true) by decide)] at H; exact H
        clear H
        have H := H1
        clear H1
        have H' := Aside0.mk H
        clear H
        have p929 : 0 ≤ (x18_1 : Int) := ofd
        have q929 : x18_1 < (t925.length : Int) := ofd
        obtain ⟨ad929, A929_0, c929_0, e929, hx929_0, hl929_0, hi929_0⟩ := at_L2 (Kd.S_reads' HO_16.out).2.2 x18_1 p929 q929
        cases e929
        obtain ⟨ce929, hce929, hMe929, hcc929⟩ := Kd.S_get HO_16.out [] x18_1 p929 (by first | exact q929 | exact of_decide_eq_true (by first | (with_reducible assumption) | assumption) | (have e_ := (Kd.S_reads' HO_16.out).1; omega))
        obtain ⟨ve929_0, rfl, ge929_0⟩ := hMe929
        have hv929_0 := hcc929 0 _ rfl
        rw [Nat.add_zero, show ((Kd.slice 3 (Kd.int .i64))).sz = 1 from rfl, Nat.mul_one] at hv929_0
        replace hv929_0 := Option.some.inj (hv929_0.symm.trans hx929_0)
        rw [hv929_0] at ge929_0
        have HL929_0 := Aside0.mk (show Kd.R (Kd.int .i64) 3 _ _ _ _ (rd_L2 t925 x18_1) from ge929_0)
        clear hv929_0 ge929_0
        clear hcc929 hce929
        have HR929_0 := Aside0.mk hi929_0
        have HC929_0 := Aside0.mk hl929_0
        clear hi929_0 hl929_0
        replace p929 := eq_true p929
        replace q929 := eq_true q929
        go_wp2_with (first | ((with_reducible refine gate_callee (f := 128) rfl ?_); refine goesA (some 24) Try.func128 #[.slice A929_0 (rd_L2 t925 x18_1).length c929_0] ?_; (with_reducible refine (impl_least.calls k1 _ _ (rd_L2 t925 x18_1) t930 _ ?side1 ?side2 A9.out).mono ?_); (case side1 => exact atC HR929_0); (case side2 => exact HC929_0.out); rintro e w14 ⟨v931, rfl, ho0, hb⟩; refine ⟨_, rfl, ?_⟩; have HO932 := Aside0.mk (Kd.R_lower (Kd.R_new' ho0 (ltR HL929_0)) (szB HB)); replace HO_16 := eldSR HO_16 ho0 hb; replace HL929_0 := eldRR HL929_0 ho0 hb; replace HR929_0 := upC HR929_0 hb; replace HB := upB HB hb; (try clear hb); (try clear hb2); (try clear hk); (try clear hi); (try clear ho0); obtain ⟨Ao15, co15, eo15⟩ := Kd.R_slice HO932.out; subst eo15) | ((with_reducible refine gate_callee (f := 127) rfl ?_); refine goesA (some 25) Try.func127 #[.slice A929_0 (rd_L2 t925 x18_1).length c929_0, .slice Ao15 t930.length co15] ?_; (with_reducible refine (slices_Equal_int_int.calls k1 _ _ (rd_L2 t925 x18_1) _ _ t930 false _ ?side1 ?side2 ?side3 ?side4 A10.out).mono ?_); (case side1 => exact atC HR929_0); (case side2 => exact HC929_0.out); (case side3 => exact atRC HO932); (case side4 => exact (Kd.R_reads' HO932.out).2.1); rintro e w' ⟨rfl, ⟨nd, rfl⟩⟩; refine ⟨_, rfl, ?_⟩))
        go_roundg k1
        case measure => have := HK1.out; omega
        case rel => exact ⟨(x6_1), (wrap64 (x18_1 + 1)), eqd, eqd, H', ⟨by have := HK1.out; omega⟩, ⟨by (with_reducible repeat (first | apply Kd.S_alloc | apply Kd.S_drewN | apply Kd.S_drew)); exact Kd.S_mono HO_16.out (fun _ hk => trivial)⟩, ⟨atB HB⟩⟩
      ·rw [if_neg c8] at H
       exact absurd H (by simp)
     ·rw [if_neg c7] at H
      exact absurd H (by simp)
    ·rw [if_neg c6] at H
     have c6b0 : decide (x18_1 < (t925.length : Int)) = false := decide_eq_false c6
     clear c6
     simp only [Option.some.injEq, Prod.mk.injEq] at H
     obtain ⟨rfl, rfl⟩ := H
     go_wp2
     go_ret2
     exact ⟨eqr, atB HB⟩
 ·replace c3 := Bool.eq_false_iff.mpr c3
  subst c3
  have H1 : (some (0, false)) = some (r1, r2) := by rw [if_neg (show ¬ (false = true) by decide)] at H; exact H
  clear H
  have H := H1
  clear H1
  simp only [Option.some.injEq, Prod.mk.injEq] at H
  obtain ⟨rfl, rfl⟩ := H
  go_enter Try.func68, Try.ntmps68
  go_wp2_with (first | ((with_reducible refine gate_callee (f := 64) rfl ?_); refine goesA (some 11) Try.func64 #[.int .i64 a0] ?_; (with_reducible refine (impl_AllCostas.calls k a0 t925 false _ A2.out).mono ?_); rintro e w16 ⟨v927, rfl, ho0, hb⟩; refine ⟨_, rfl, ?_⟩; have HO928 := lowS ho0 HB; replace HB := upB HB hb; (try clear hb); (try clear hb2); (try clear hk); (try clear hi); (try clear ho0)))
  go_ret2
  exact ⟨eqr, atB HB⟩
noncomputable def impl_CountClasses.L0 (x6 : Int) (x16 : List (List Int)) (x17 : Int) (x18 : Int) : Option (Int × Bool) := lim fun k => impl_CountClasses.l0 k x6 x16 x17 x18
theorem impl_CountClasses.L0_lim (x6 : Int) (x16 : List (List Int)) (x17 : Int) (x18 : Int) : Lim (fun k => impl_CountClasses.l0 k x6 x16 x17 x18) (impl_CountClasses.L0 x6 x16 x17 x18) := Lim.of fun k => (impl_CountClasses.mono_l k) x6 x16 x17 x18
noncomputable def impl_CountClasses.F (a0 : Int) : Option (Int × Bool) := lim fun k => impl_CountClasses.f k a0
theorem impl_CountClasses.F_lim (a0 : Int) : Lim (fun k => impl_CountClasses.f k a0) (impl_CountClasses.F a0) := Lim.of fun k => impl_CountClasses.mono a0 k
theorem impl_CountClasses.L0_eq (x6 : Int) (x16 : List (List Int)) (x17 : Int) (x18 : Int) : impl_CountClasses.L0 x6 x16 x17 x18 = (if x18 < x17 then (if 0 ≤ x18 then (if x18 < (x16.length : Int) then ((impl_least.F (rd_L2 x16 x18)).bind fun t930 => ((slices_Equal_int_int.F (rd_L2 x16 x18) t930).bind fun t933 => (if t933 = true then (impl_CountClasses.L0 (wrap64 (x6 + 1)) x16 x17 (wrap64 (x18 + 1))) else (impl_CountClasses.L0 x6 x16 x17 (wrap64 (x18 + 1)))))) else (none)) else (none)) else (some (x6, true))) :=
 Lim.step (f := fun k => impl_CountClasses.l0 (k + 1) x6 x16 x17 x18) (impl_CountClasses.L0_lim x6 x16 x17 x18) (fun _ => rfl) (by
  simp only [impl_CountClasses.l0]
  repeat' (first | (with_reducible first | exact Lim.const _ | exact impl_CountClasses.L0_lim _ _ _ _ | exact impl_least.F_lim | exact slices_Equal_int_int.F_lim _ _ | refine Lim.ite ?_ ?_ | refine Lim.bind ?_ (fun _ => ?_))))
theorem impl_CountClasses.F_eq (a0 : Int) : impl_CountClasses.F a0 = ((impl_AllCostas.F a0).bind fun bt925 => (if bt925.2 = true then (impl_CountClasses.L0 0 bt925.1 (bt925.1.length : Int) 0) else (some (0, false)))) :=
 Lim.unique (impl_CountClasses.F_lim a0) (by
  unfold impl_CountClasses.f
  repeat' (first | (with_reducible first | exact Lim.const _ | exact impl_AllCostas.F_lim | exact impl_CountClasses.L0_lim _ _ _ _ | refine Lim.ite ?_ ?_ | refine Lim.bind ?_ (fun _ => ?_))))
/-! ### impl_CountCostas: function 66 -/
def impl_CountCostas.f (k : Nat) (a0 : Int) : Option (Int × Bool) := (impl_AllCostas.f k a0).bind fun bt897 => (some ((bt897.1.length : Int), bt897.2))
theorem impl_CountCostas.mono : ∀ a0 k, LeO (impl_CountCostas.f k a0) (impl_CountCostas.f (k + 1) a0) := by
 intro a0 k
 unfold impl_CountCostas.f
 repeat' (first | (with_reducible first | exact impl_AllCostas.mono _ _ | exact LeO.refl _ | exact LeO.none _ | refine LeO.ite ?_ ?_ | refine LeO.bind ?_ (fun _ => ?_)) | exact impl_AllCostas.mono _ _ | exact LeO.none _ | refine LeO.ite ?_ ?_ | refine LeO.bind ?_ (fun _ => ?_))
set_option maxHeartbeats 8000000 in
set_option maxRecDepth 100000 in
theorem impl_CountCostas.calls (k : Nat) (a0 : Int) (r1 : Int) (r2 : Bool) (w : World) (h : impl_CountCostas.f k a0 = some (r1, r2)) :
  Calls Try.prog 66 #[.int .i64 a0] w fun e w' => e = .returned (.tuple #[.int .i64 r1, .bool r2]) ∧ Below w.heap.size w w' := by
 have HB := Aside0.mk (Below.refl w.heap.size w)
 have H := h
 unfold impl_CountCostas.f at H
 clear h
 replace H := Option.bind_eq_some_iff.mp H
 obtain ⟨⟨t897, t898⟩, A20, H⟩ := H
 replace H : (some ((t897.length : Int), t898)) = some (r1, r2) := H
 have A2 := Aside0.mk A20
 clear A20
 simp only [Option.some.injEq, Prod.mk.injEq] at H
 obtain ⟨rfl, rfl⟩ := H
 go_enter Try.func66, Try.ntmps66
 go_wp2_with (first | ((with_reducible refine gate_callee (f := 64) rfl ?_); refine goesA (some 8) Try.func64 #[.int .i64 a0] ?_; (with_reducible refine (impl_AllCostas.calls k a0 t897 t898 _ A2.out).mono ?_); rintro e w3 ⟨v899, rfl, ho0, hb⟩; refine ⟨_, rfl, ?_⟩; have HO900 := lowS ho0 HB; replace HB := upB HB hb; (try clear hb); (try clear hb2); (try clear hk); (try clear hi); (try clear ho0); obtain ⟨Ao4, co4, eo4⟩ := Kd.S_slice HO900.out; subst eo4))
 go_ret2
 exact ⟨eqr, atB HB⟩
noncomputable def impl_CountCostas.F (a0 : Int) : Option (Int × Bool) := lim fun k => impl_CountCostas.f k a0
theorem impl_CountCostas.F_lim (a0 : Int) : Lim (fun k => impl_CountCostas.f k a0) (impl_CountCostas.F a0) := Lim.of fun k => impl_CountCostas.mono a0 k
theorem impl_CountCostas.F_eq (a0 : Int) : impl_CountCostas.F a0 = ((impl_AllCostas.F a0).bind fun bt897 => (some ((bt897.1.length : Int), bt897.2))) :=
 Lim.unique (impl_CountCostas.F_lim a0) (by
  unfold impl_CountCostas.f
  repeat' (first | (with_reducible first | exact Lim.const _ | exact impl_AllCostas.F_lim | refine Lim.ite ?_ ?_ | refine Lim.bind ?_ (fun _ => ?_))))
/-! ### impl_IsDots: function 58 -/
def impl_IsDots.l0 : Nat → List Int → List Int → Int → Int → Option (Bool)
 | 0, _, _, _, _ => none
 | k + 1, x0, x5, x6, x7 => if x7 < x6 then (if 0 ≤ x7 then (if x7 < (x5.length : Int) then (if (rd x5 x7) < 0 then (some false) else (if (rd x5 x7) ≥ (x0.length : Int) then (some false) else (if x7 ≤ (x0.length : Int) then ((slices_Contains_int_int.f k (x0.take (x7 : Int).toNat) (rd x5 x7)).bind fun t800 => (if t800 = true then (some false) else (impl_IsDots.l0 k x0 x5 x6 (wrap64 (x7 + 1))))) else (none)))) else (none)) else (none)) else (if (x0.length : Int) ≥ 1 then (some (decide ((x0.length : Int) ≤ 12))) else (some false))
def impl_IsDots.f (k : Nat) (l0 : List Int) : Option (Bool) := impl_IsDots.l0 k l0 l0 (l0.length : Int) 0
theorem impl_IsDots.mono_l : ∀ k, (∀ y0 y1 y2 y3, LeO (impl_IsDots.l0 k y0 y1 y2 y3) (impl_IsDots.l0 (k + 1) y0 y1 y2 y3))
 | 0 => fun _ _ _ _ r h => by simp [impl_IsDots.l0] at h
 | k + 1 => by
  have ih0 := impl_IsDots.mono_l k
  ·intro y0 y1 y2 y3
   unfold impl_IsDots.l0
   repeat' (first | (with_reducible first | exact ih0 _ _ _ _ | exact slices_Contains_int_int.mono _ _ _ | exact LeO.refl _ | exact LeO.none _ | refine LeO.ite ?_ ?_ | refine LeO.bind ?_ (fun _ => ?_)) | exact ih0 _ _ _ _ | exact slices_Contains_int_int.mono _ _ _ | exact LeO.none _ | refine LeO.ite ?_ ?_ | refine LeO.bind ?_ (fun _ => ?_))
theorem impl_IsDots.mono : ∀ a0 k, LeO (impl_IsDots.f k a0) (impl_IsDots.f (k + 1) a0) := by
 intro a0 k
 have ih0 := impl_IsDots.mono_l k
 unfold impl_IsDots.f
 repeat' (first | (with_reducible first | exact ih0 _ _ _ _ | exact LeO.refl _ | exact LeO.none _ | refine LeO.ite ?_ ?_ | refine LeO.bind ?_ (fun _ => ?_)) | exact ih0 _ _ _ _ | exact LeO.none _ | refine LeO.ite ?_ ?_ | refine LeO.bind ?_ (fun _ => ?_))
set_option maxHeartbeats 8000000 in
set_option maxRecDepth 100000 in
theorem impl_IsDots.calls (k : Nat) (A0 : Option Addr) (c0 : Nat) (l0 : List Int) (r : Bool) (w : World) (hr0 : Kd.C (Kd.int .i64) w A0 l0.length l0) (hc0 : l0.length ≤ c0) (h : impl_IsDots.f k l0 = some r) :
  Calls Try.prog 58 #[.slice A0 l0.length c0] w fun e w' => e = .returned (.bool r) ∧ Drawn0 w w' := by
 have HR0 := Aside0.mk hr0
 have HC0 := Aside0.mk hc0
 clear hr0 hc0
 have H := h
 unfold impl_IsDots.f at H
 clear h
 have H' := Aside0.mk H
 clear H
 go_enter Try.func58, Try.ntmps58
 go_wp2
 go_loopg [7] k (fun kq v7 w' => ∃ (x7_1 : Int), v7 = .int .i64 x7_1 ∧ Aside0 (impl_IsDots.l0 kq l0 l0 (l0.length : Int) x7_1 = some r) ∧ Aside0 (kq ≤ k) ∧ Drawn0 w w')
 case atStart => exact ⟨(0), eqd, H', ⟨Nat.le_refl _⟩, by repeat (first | exact Drawn0.refl _ | apply Drawn0.step)⟩
 case round =>
  clear H'
  obtain ⟨x7_1, rfl, HA, HK1, ⟨m1, rfl⟩⟩ := hrel
  cases gk with
  | zero => exact absurd HA.out (by simp [impl_IsDots.l0])
  | succ k1 =>
   have H := HA.out
   clear HA
   simp only [impl_IsDots.l0] at H
   by_cases c2 : x7_1 < (l0.length : Int)
   ·rw [if_pos c2] at H
    have c2b0 : decide (x7_1 < (l0.length : Int)) = true := decide_eq_true c2
    clear c2
    by_cases c3 : 0 ≤ x7_1
    ·rw [if_pos c3] at H
     have c3b0 : decide (0 ≤ x7_1) = true := decide_eq_true c3
     clear c3
     by_cases c4 : x7_1 < (l0.length : Int)
     ·rw [if_pos c4] at H
      have c4b0 : decide (x7_1 < (l0.length : Int)) = true := decide_eq_true c4
      clear c4
      by_cases c5 : (rd l0 x7_1) < 0
      ·rw [if_pos c5] at H
       have c5b0 : decide ((rd l0 x7_1) < 0) = true := decide_eq_true c5
       clear c5
       obtain rfl := Option.some.inj H
       have p798 : 0 ≤ (x7_1 : Int) := ofd
       have q798 : x7_1 < (l0.length : Int) := ofd
       obtain ⟨ad798, e798, hx798_0⟩ := Kd.at_int HR0.out x7_1 p798 q798
       cases e798
       replace p798 := eq_true p798
       replace q798 := eq_true q798
       go_wp2
       go_ret
       exact ⟨by first | rfl | (simp; done) | (simp [*]; done), by repeat (first | exact Drawn0.refl _ | apply Drawn0.step)⟩
      ·rw [if_neg c5] at H
       have c5b0 : decide ((rd l0 x7_1) < 0) = false := decide_eq_false c5
       clear c5
       by_cases c6 : (rd l0 x7_1) ≥ (l0.length : Int)
       ·rw [if_pos c6] at H
        have c6b0 : decide ((l0.length : Int) ≤ (rd l0 x7_1)) = true := decide_eq_true c6
        clear c6
        obtain rfl := Option.some.inj H
        have p798 : 0 ≤ (x7_1 : Int) := ofd
        have q798 : x7_1 < (l0.length : Int) := ofd
        obtain ⟨ad798, e798, hx798_0⟩ := Kd.at_int HR0.out x7_1 p798 q798
        cases e798
        replace p798 := eq_true p798
        replace q798 := eq_true q798
        go_wp2
        go_ret
        exact ⟨by first | rfl | (simp; done) | (simp [*]; done), by repeat (first | exact Drawn0.refl _ | apply Drawn0.step)⟩
       ·rw [if_neg c6] at H
        have c6b0 : decide ((l0.length : Int) ≤ (rd l0 x7_1)) = false := decide_eq_false c6
        clear c6
        have c7b0 := eq_true (of_decide_eq_true (by first | (with_reducible assumption) | assumption) : 0 ≤ x7_1)
        by_cases c8 : x7_1 ≤ (l0.length : Int)
        ·rw [if_pos c8] at H
         have c8b0 := eq_true c8
         have c8b1 : decide (x7_1 ≤ (l0.length : Int)) = true := decide_eq_true c8
         clear c8
         replace H := Option.bind_eq_some_iff.mp H
         obtain ⟨t800, A90, H⟩ := H
         replace H : (if t800 = true then (some false) else (impl_IsDots.l0 k1 l0 l0 (l0.length : Int) (wrap64 (x7_1 + 1)))) = some r := H
         have A9 := Aside0.mk A90
         clear A90
         by_cases c10 : t800 = true
         ·subst c10
          have H1 : (some false) = some r := by rw [if_pos rfl] at H; exact H
          clear H
          have H := H1
          clear H1
          obtain rfl := Option.some.inj H
          have p798 : 0 ≤ (x7_1 : Int) := ofd
          have q798 : x7_1 < (l0.length : Int) := ofd
          obtain ⟨ad798, e798, hx798_0⟩ := Kd.at_int HR0.out x7_1 p798 q798
          cases e798
          replace p798 := eq_true p798
          replace q798 := eq_true q798
          obtain ⟨i011, hi011, _, hsz11, _⟩ := info_parts info3
          obtain ⟨hcut11, hA11, hC11⟩ := print_take_of (P := Try.prog) (Value.int .i64) 0 24 3 .i64 Try.underlying24 hi011 hsz11 (some ad798) c0 l0 x7_1 (of_decide_eq_true (by first | (with_reducible assumption) | assumption)) (of_decide_eq_true (by first | (with_reducible assumption) | assumption)) HC0.out
          have HR799 := Aside0.mk (Kd.C_of_reads (h1 := fun _ => rfl) (hA11 _ (Kd.reads_of_C HR0.out)))
          have HC799 := Aside0.mk hC11
          clear hA11 hC11 hi011 hsz11
          go_wp2_with (first | (go_at_call 121; (try rw [show (Value.slice (some ad798) x7_1.toNat c0) = Value.slice (some ad798) (l0.take (x7_1 : Int).toNat).length c0 from (by rw [List.length_take]; have h_ : (x7_1 : Int) ≤ (l0.length : Int) := (by first | exact ofd | exact Int.le_of_lt ofd); rw [Nat.min_eq_left (by omega)])]); (with_reducible refine (slices_Contains_int_int.calls k1 _ _ (l0.take (x7_1 : Int).toNat) (rd l0 x7_1) true _ ?side1 ?side2 A9.out).mono ?_); (case side1 => repeat (first | exact HR799.out | (with_reducible refine Kd.C_alloc ?_ _) | (with_reducible refine Kd.C_drewN ?_ _) | (with_reducible refine Kd.C_drew ?_))); (case side2 => exact HC799.out); rintro e w' ⟨rfl, ⟨nd, rfl⟩⟩))
          go_ret
          exact ⟨by first | rfl | (simp; done) | (simp [*]; done), by repeat (first | exact Drawn0.refl _ | apply Drawn0.step)⟩
         ·replace c10 := Bool.eq_false_iff.mpr c10
          subst c10
          have H1 : (impl_IsDots.l0 k1 l0 l0 (l0.length : Int) (wrap64 (x7_1 + 1))) = some r := by rw [if_neg (show ¬ (false = true) by decide)] at H; exact H
          clear H
          have H := H1
          clear H1
          have H' := Aside0.mk H
          clear H
          have p798 : 0 ≤ (x7_1 : Int) := ofd
          have q798 : x7_1 < (l0.length : Int) := ofd
          obtain ⟨ad798, e798, hx798_0⟩ := Kd.at_int HR0.out x7_1 p798 q798
          cases e798
          replace p798 := eq_true p798
          replace q798 := eq_true q798
          obtain ⟨i012, hi012, _, hsz12, _⟩ := info_parts info3
          obtain ⟨hcut12, hA12, hC12⟩ := print_take_of (P := Try.prog) (Value.int .i64) 0 24 3 .i64 Try.underlying24 hi012 hsz12 (some ad798) c0 l0 x7_1 (of_decide_eq_true (by first | (with_reducible assumption) | assumption)) (of_decide_eq_true (by first | (with_reducible assumption) | assumption)) HC0.out
          have HR799 := Aside0.mk (Kd.C_of_reads (h1 := fun _ => rfl) (hA12 _ (Kd.reads_of_C HR0.out)))
          have HC799 := Aside0.mk hC12
          clear hA12 hC12 hi012 hsz12
          go_wp2_with (first | (go_at_call 121; (try rw [show (Value.slice (some ad798) x7_1.toNat c0) = Value.slice (some ad798) (l0.take (x7_1 : Int).toNat).length c0 from (by rw [List.length_take]; have h_ : (x7_1 : Int) ≤ (l0.length : Int) := (by first | exact ofd | exact Int.le_of_lt ofd); rw [Nat.min_eq_left (by omega)])]); (with_reducible refine (slices_Contains_int_int.calls k1 _ _ (l0.take (x7_1 : Int).toNat) (rd l0 x7_1) false _ ?side1 ?side2 A9.out).mono ?_); (case side1 => repeat (first | exact HR799.out | (with_reducible refine Kd.C_alloc ?_ _) | (with_reducible refine Kd.C_drewN ?_ _) | (with_reducible refine Kd.C_drew ?_))); (case side2 => exact HC799.out); rintro e w' ⟨rfl, ⟨nd, rfl⟩⟩))
          go_roundg k1
          case measure => have := HK1.out; omega
          case rel => exact ⟨(wrap64 (x7_1 + 1)), eqd, H', ⟨by have := HK1.out; omega⟩, by repeat (first | exact Drawn0.refl _ | apply Drawn0.step)⟩
        ·rw [if_neg c8] at H
         exact absurd H (by simp)
     ·rw [if_neg c4] at H
      exact absurd H (by simp)
    ·rw [if_neg c3] at H
     exact absurd H (by simp)
   ·rw [if_neg c2] at H
    have c2b0 : decide (x7_1 < (l0.length : Int)) = false := decide_eq_false c2
    clear c2
    by_cases c13 : (l0.length : Int) ≥ 1
    ·rw [if_pos c13] at H
     have c13b0 : decide (1 ≤ (l0.length : Int)) = true := decide_eq_true c13
     have c13b1 : decide (1 ≤ l0.length) = true := decide_eq_true (by omega)
     clear c13
     obtain rfl := Option.some.inj H
     go_wp2
     go_ret
     exact ⟨by first | rfl | (simp; done) | (simp [*]; done), by repeat (first | exact Drawn0.refl _ | apply Drawn0.step)⟩
    ·rw [if_neg c13] at H
     have c13b0 : decide (1 ≤ (l0.length : Int)) = false := decide_eq_false c13
     have c13b1 : decide (1 ≤ l0.length) = false := decide_eq_false (by omega)
     clear c13
     obtain rfl := Option.some.inj H
     go_wp2
     go_ret
     exact ⟨by first | rfl | (simp; done) | (simp [*]; done), by repeat (first | exact Drawn0.refl _ | apply Drawn0.step)⟩
noncomputable def impl_IsDots.L0 (x0 : List Int) (x5 : List Int) (x6 : Int) (x7 : Int) : Option (Bool) := lim fun k => impl_IsDots.l0 k x0 x5 x6 x7
theorem impl_IsDots.L0_lim (x0 : List Int) (x5 : List Int) (x6 : Int) (x7 : Int) : Lim (fun k => impl_IsDots.l0 k x0 x5 x6 x7) (impl_IsDots.L0 x0 x5 x6 x7) := Lim.of fun k => (impl_IsDots.mono_l k) x0 x5 x6 x7
noncomputable def impl_IsDots.F (l0 : List Int) : Option (Bool) := lim fun k => impl_IsDots.f k l0
theorem impl_IsDots.F_lim (l0 : List Int) : Lim (fun k => impl_IsDots.f k l0) (impl_IsDots.F l0) := Lim.of fun k => impl_IsDots.mono l0 k
theorem impl_IsDots.L0_eq (x0 : List Int) (x5 : List Int) (x6 : Int) (x7 : Int) : impl_IsDots.L0 x0 x5 x6 x7 = (if x7 < x6 then (if 0 ≤ x7 then (if x7 < (x5.length : Int) then (if (rd x5 x7) < 0 then (some false) else (if (rd x5 x7) ≥ (x0.length : Int) then (some false) else (if x7 ≤ (x0.length : Int) then ((slices_Contains_int_int.F (x0.take (x7 : Int).toNat) (rd x5 x7)).bind fun t800 => (if t800 = true then (some false) else (impl_IsDots.L0 x0 x5 x6 (wrap64 (x7 + 1))))) else (none)))) else (none)) else (none)) else (if (x0.length : Int) ≥ 1 then (some (decide ((x0.length : Int) ≤ 12))) else (some false))) :=
 Lim.step (f := fun k => impl_IsDots.l0 (k + 1) x0 x5 x6 x7) (impl_IsDots.L0_lim x0 x5 x6 x7) (fun _ => rfl) (by
  simp only [impl_IsDots.l0]
  repeat' (first | (with_reducible first | exact Lim.const _ | exact impl_IsDots.L0_lim _ _ _ _ | exact slices_Contains_int_int.F_lim _ _ | refine Lim.ite ?_ ?_ | refine Lim.bind ?_ (fun _ => ?_))))
theorem impl_IsDots.F_eq (l0 : List Int) : impl_IsDots.F l0 = (impl_IsDots.L0 l0 l0 (l0.length : Int) 0) :=
 Lim.unique (impl_IsDots.F_lim l0) (by
  unfold impl_IsDots.f
  repeat' (first | (with_reducible first | exact Lim.const _ | exact impl_IsDots.L0_lim _ _ _ _ | refine Lim.ite ?_ ?_ | refine Lim.bind ?_ (fun _ => ?_))))
/-! ### impl_DifferencesOf: function 60 -/
def impl_DifferencesOf.f (k : Nat) (l0 : List Int) (a1 : Int) : Option (List Int × Bool) := (impl_IsDots.f k l0).bind fun t857 => (if t857 = true then (if a1 < 1 then (some (([] : List Int), false)) else (if a1 ≥ (l0.length : Int) then (some (([] : List Int), false)) else ((impl_differences.f k l0 a1).bind fun t858 => (some (t858, true))))) else (some (([] : List Int), false)))
theorem impl_DifferencesOf.mono : ∀ a0 a1 k, LeO (impl_DifferencesOf.f k a0 a1) (impl_DifferencesOf.f (k + 1) a0 a1) := by
 intro a0 a1 k
 unfold impl_DifferencesOf.f
 repeat' (first | (with_reducible first | exact impl_IsDots.mono _ _ | exact impl_differences.mono _ _ _ | exact LeO.refl _ | exact LeO.none _ | refine LeO.ite ?_ ?_ | refine LeO.bind ?_ (fun _ => ?_)) | exact impl_IsDots.mono _ _ | exact impl_differences.mono _ _ _ | exact LeO.none _ | refine LeO.ite ?_ ?_ | refine LeO.bind ?_ (fun _ => ?_))
set_option maxHeartbeats 8000000 in
set_option maxRecDepth 100000 in
theorem impl_DifferencesOf.calls (k : Nat) (A0 : Option Addr) (c0 : Nat) (l0 : List Int) (a1 : Int) (r1 : List Int) (r2 : Bool) (w : World) (hr0 : Kd.C (Kd.int .i64) w A0 l0.length l0) (hc0 : l0.length ≤ c0) (h : impl_DifferencesOf.f k l0 a1 = some (r1, r2)) :
  Calls Try.prog 60 #[.slice A0 l0.length c0, .int .i64 a1] w fun e w' => ∃ v0_ : Value, e = .returned (.tuple #[v0_, .bool r2]) ∧ Kd.R (Kd.int .i64) 3 w' w.heap.size (fun _ => True) v0_ r1 ∧ Below w.heap.size w w' := by
 have HR0 := Aside0.mk hr0
 have HC0 := Aside0.mk hc0
 clear hr0 hc0
 have HB := Aside0.mk (Below.refl w.heap.size w)
 have H := h
 unfold impl_DifferencesOf.f at H
 clear h
 replace H := Option.bind_eq_some_iff.mp H
 obtain ⟨t857, A30, H⟩ := H
 replace H : (if t857 = true then (if a1 < 1 then (some (([] : List Int), false)) else (if a1 ≥ (l0.length : Int) then (some (([] : List Int), false)) else ((impl_differences.f k l0 a1).bind fun t858 => (some (t858, true))))) else (some (([] : List Int), false))) = some (r1, r2) := H
 have A3 := Aside0.mk A30
 clear A30
 by_cases c4 : t857 = true
 ·subst c4
  have H1 : (if a1 < 1 then (some (([] : List Int), false)) else (if a1 ≥ (l0.length : Int) then (some (([] : List Int), false)) else ((impl_differences.f k l0 a1).bind fun t858 => (some (t858, true))))) = some (r1, r2) := by rw [if_pos rfl] at H; exact H
  clear H
  have H := H1
  clear H1
  by_cases c5 : a1 < 1
  ·rw [if_pos c5] at H
   have c5b0 : decide (a1 < 1) = true := decide_eq_true c5
   clear c5
   simp only [Option.some.injEq, Prod.mk.injEq] at H
   obtain ⟨rfl, rfl⟩ := H
   go_enter Try.func60, Try.ntmps60
   go_wp2_with (first | ((with_reducible refine gate_callee (f := 58) rfl ?_); refine goesA (some 7) Try.func58 #[.slice A0 l0.length c0] ?_; (with_reducible refine (impl_IsDots.calls k _ _ l0 true _ ?side1 ?side2 A3.out).mono ?_); (case side1 => repeat (first | exact HR0.out | (with_reducible refine Kd.C_alloc ?_ _) | (with_reducible refine Kd.C_drewN ?_ _) | (with_reducible refine Kd.C_drew ?_))); (case side2 => exact HC0.out); rintro e w' ⟨rfl, ⟨nd, rfl⟩⟩; refine ⟨_, rfl, ?_⟩))
   go_ret2
   exact ⟨_, eqr, by first | exact Kd.R_nil _ _ _ _ _ | exact Kd.N_nil _ _ _ _ _ | exact Kd.V_nil _ _ _ _ _ | exact Kd.Q_nil _ _ _ _ _ | exact Kd.S_nil _ _ _ _ _, atB HB⟩
  ·rw [if_neg c5] at H
   have c5b0 : decide (a1 < 1) = false := decide_eq_false c5
   clear c5
   by_cases c6 : a1 ≥ (l0.length : Int)
   ·rw [if_pos c6] at H
    have c6b0 : decide ((l0.length : Int) ≤ a1) = true := decide_eq_true c6
    clear c6
    simp only [Option.some.injEq, Prod.mk.injEq] at H
    obtain ⟨rfl, rfl⟩ := H
    go_enter Try.func60, Try.ntmps60
    go_wp2_with (first | ((with_reducible refine gate_callee (f := 58) rfl ?_); refine goesA (some 7) Try.func58 #[.slice A0 l0.length c0] ?_; (with_reducible refine (impl_IsDots.calls k _ _ l0 true _ ?side1 ?side2 A3.out).mono ?_); (case side1 => repeat (first | exact HR0.out | (with_reducible refine Kd.C_alloc ?_ _) | (with_reducible refine Kd.C_drewN ?_ _) | (with_reducible refine Kd.C_drew ?_))); (case side2 => exact HC0.out); rintro e w' ⟨rfl, ⟨nd, rfl⟩⟩; refine ⟨_, rfl, ?_⟩))
    go_ret2
    exact ⟨_, eqr, by first | exact Kd.R_nil _ _ _ _ _ | exact Kd.N_nil _ _ _ _ _ | exact Kd.V_nil _ _ _ _ _ | exact Kd.Q_nil _ _ _ _ _ | exact Kd.S_nil _ _ _ _ _, atB HB⟩
   ·rw [if_neg c6] at H
    have c6b0 : decide ((l0.length : Int) ≤ a1) = false := decide_eq_false c6
    clear c6
    replace H := Option.bind_eq_some_iff.mp H
    obtain ⟨t858, A70, H⟩ := H
    replace H : (some (t858, true)) = some (r1, r2) := H
    have A7 := Aside0.mk A70
    clear A70
    simp only [Option.some.injEq, Prod.mk.injEq] at H
    obtain ⟨rfl, rfl⟩ := H
    go_enter Try.func60, Try.ntmps60
    go_wp2_with (first | ((with_reducible refine gate_callee (f := 58) rfl ?_); refine goesA (some 7) Try.func58 #[.slice A0 l0.length c0] ?_; (with_reducible refine (impl_IsDots.calls k _ _ l0 true _ ?side1 ?side2 A3.out).mono ?_); (case side1 => repeat (first | exact HR0.out | (with_reducible refine Kd.C_alloc ?_ _) | (with_reducible refine Kd.C_drewN ?_ _) | (with_reducible refine Kd.C_drew ?_))); (case side2 => exact HC0.out); rintro e w' ⟨rfl, ⟨nd, rfl⟩⟩; refine ⟨_, rfl, ?_⟩) | ((with_reducible refine gate_callee (f := 122) rfl ?_); refine goesA (some 21) Try.func122 #[.slice A0 l0.length c0, .int .i64 a1] ?_; (with_reducible refine (impl_differences.calls k _ _ l0 a1 t858 _ ?side1 ?side2 A7.out).mono ?_); (case side1 => repeat (first | exact HR0.out | (with_reducible refine Kd.C_alloc ?_ _) | (with_reducible refine Kd.C_drewN ?_ _) | (with_reducible refine Kd.C_drew ?_))); (case side2 => exact HC0.out); rintro e w8 ⟨v859, rfl, ho0, hb⟩; refine ⟨_, rfl, ?_⟩; have HO860 := lowR ho0 HB; replace HB := upB HB hb; (try clear hb); (try clear hb2); (try clear hk); (try clear hi); (try clear ho0)))
    go_ret2
    exact ⟨_, eqr, atR HO860, atB HB⟩
 ·replace c4 := Bool.eq_false_iff.mpr c4
  subst c4
  have H1 : (some (([] : List Int), false)) = some (r1, r2) := by rw [if_neg (show ¬ (false = true) by decide)] at H; exact H
  clear H
  have H := H1
  clear H1
  simp only [Option.some.injEq, Prod.mk.injEq] at H
  obtain ⟨rfl, rfl⟩ := H
  go_enter Try.func60, Try.ntmps60
  go_wp2_with (first | ((with_reducible refine gate_callee (f := 58) rfl ?_); refine goesA (some 7) Try.func58 #[.slice A0 l0.length c0] ?_; (with_reducible refine (impl_IsDots.calls k _ _ l0 false _ ?side1 ?side2 A3.out).mono ?_); (case side1 => repeat (first | exact HR0.out | (with_reducible refine Kd.C_alloc ?_ _) | (with_reducible refine Kd.C_drewN ?_ _) | (with_reducible refine Kd.C_drew ?_))); (case side2 => exact HC0.out); rintro e w' ⟨rfl, ⟨nd, rfl⟩⟩; refine ⟨_, rfl, ?_⟩))
  go_ret2
  exact ⟨_, eqr, by first | exact Kd.R_nil _ _ _ _ _ | exact Kd.N_nil _ _ _ _ _ | exact Kd.V_nil _ _ _ _ _ | exact Kd.Q_nil _ _ _ _ _ | exact Kd.S_nil _ _ _ _ _, atB HB⟩
noncomputable def impl_DifferencesOf.F (l0 : List Int) (a1 : Int) : Option (List Int × Bool) := lim fun k => impl_DifferencesOf.f k l0 a1
theorem impl_DifferencesOf.F_lim (l0 : List Int) (a1 : Int) : Lim (fun k => impl_DifferencesOf.f k l0 a1) (impl_DifferencesOf.F l0 a1) := Lim.of fun k => impl_DifferencesOf.mono l0 a1 k
theorem impl_DifferencesOf.F_eq (l0 : List Int) (a1 : Int) : impl_DifferencesOf.F l0 a1 = ((impl_IsDots.F l0).bind fun t857 => (if t857 = true then (if a1 < 1 then (some (([] : List Int), false)) else (if a1 ≥ (l0.length : Int) then (some (([] : List Int), false)) else ((impl_differences.F l0 a1).bind fun t858 => (some (t858, true))))) else (some (([] : List Int), false)))) :=
 Lim.unique (impl_DifferencesOf.F_lim l0 a1) (by
  unfold impl_DifferencesOf.f
  repeat' (first | (with_reducible first | exact Lim.const _ | exact impl_IsDots.F_lim _ | exact impl_differences.F_lim _ _ | refine Lim.ite ?_ ?_ | refine Lim.bind ?_ (fun _ => ?_))))
/-! ### impl_EchoAt: function 62 -/
mutual
def impl_EchoAt.j0 : Nat → List Int → Int → Int → Bool → Option (Int × Bool)
 | 0, _, _, _, _ => none
 | k + 1, x0, x1, x2, x37 => if x37 = true then (some (0, false)) else (impl_EchoAt.l0 k x0 x1 x2 0 x0 (x0.length : Int) 0)
def impl_EchoAt.l0 : Nat → List Int → Int → Int → Int → List Int → Int → Int → Option (Int × Bool)
 | 0, _, _, _, _, _, _, _ => none
 | k + 1, x0, x1, x2, x8, x38, x39, x40 => if x40 < x39 then (if 0 ≤ x40 then (if x40 < (x38.length : Int) then (if (wrap64 (x40 + x1)) ≥ 0 then (if (wrap64 (x40 + x1)) < (x0.length : Int) then (if 0 ≤ (wrap64 (x40 + x1)) then (if (rd x0 (wrap64 (x40 + x1))) = (wrap64 ((rd x38 x40) + x2)) then (impl_EchoAt.l0 k x0 x1 x2 (wrap64 (x8 + 1)) x38 x39 (wrap64 (x40 + 1))) else (impl_EchoAt.l0 k x0 x1 x2 x8 x38 x39 (wrap64 (x40 + 1)))) else (none)) else (impl_EchoAt.l0 k x0 x1 x2 x8 x38 x39 (wrap64 (x40 + 1)))) else (impl_EchoAt.l0 k x0 x1 x2 x8 x38 x39 (wrap64 (x40 + 1)))) else (none)) else (none)) else (some (x8, true))
end
def impl_EchoAt.f (k : Nat) (l0 : List Int) (a1 : Int) (a2 : Int) : Option (Int × Bool) := (impl_IsDots.f k l0).bind fun t862 => (if t862 = true then (if a1 < (-12) then (impl_EchoAt.j0 k l0 a1 a2 true) else (if a1 > 12 then (impl_EchoAt.j0 k l0 a1 a2 true) else (if a2 < (-12) then (impl_EchoAt.j0 k l0 a1 a2 true) else (if a2 > 12 then (impl_EchoAt.j0 k l0 a1 a2 true) else (if a1 = 0 then (impl_EchoAt.j0 k l0 a1 a2 (a2 == 0)) else (impl_EchoAt.j0 k l0 a1 a2 false)))))) else (impl_EchoAt.j0 k l0 a1 a2 true))
theorem impl_EchoAt.mono_l : ∀ k, (∀ y0 y1 y2 y3, LeO (impl_EchoAt.j0 k y0 y1 y2 y3) (impl_EchoAt.j0 (k + 1) y0 y1 y2 y3)) ∧ (∀ y0 y1 y2 y3 y4 y5 y6, LeO (impl_EchoAt.l0 k y0 y1 y2 y3 y4 y5 y6) (impl_EchoAt.l0 (k + 1) y0 y1 y2 y3 y4 y5 y6))
 | 0 => ⟨fun _ _ _ _ r h => by simp [impl_EchoAt.j0] at h, fun _ _ _ _ _ _ _ r h => by simp [impl_EchoAt.l0] at h⟩
 | k + 1 => by
  obtain ⟨ih0, ih1⟩ := impl_EchoAt.mono_l k
  refine ⟨?_, ?_⟩
  ·intro y0 y1 y2 y3
   unfold impl_EchoAt.j0
   repeat' (first | (with_reducible first | exact ih1 _ _ _ _ _ _ _ | exact LeO.refl _ | exact LeO.none _ | refine LeO.ite ?_ ?_ | refine LeO.bind ?_ (fun _ => ?_)) | exact ih1 _ _ _ _ _ _ _ | exact LeO.none _ | refine LeO.ite ?_ ?_ | refine LeO.bind ?_ (fun _ => ?_))
  ·intro y0 y1 y2 y3 y4 y5 y6
   unfold impl_EchoAt.l0
   repeat' (first | (with_reducible first | exact ih1 _ _ _ _ _ _ _ | exact LeO.refl _ | exact LeO.none _ | refine LeO.ite ?_ ?_ | refine LeO.bind ?_ (fun _ => ?_)) | exact ih1 _ _ _ _ _ _ _ | exact LeO.none _ | refine LeO.ite ?_ ?_ | refine LeO.bind ?_ (fun _ => ?_))
theorem impl_EchoAt.mono : ∀ a0 a1 a2 k, LeO (impl_EchoAt.f k a0 a1 a2) (impl_EchoAt.f (k + 1) a0 a1 a2) := by
 intro a0 a1 a2 k
 obtain ⟨ih0, ih1⟩ := impl_EchoAt.mono_l k
 unfold impl_EchoAt.f
 repeat' (first | (with_reducible first | exact ih0 _ _ _ _ | exact impl_IsDots.mono _ _ | exact LeO.refl _ | exact LeO.none _ | refine LeO.ite ?_ ?_ | refine LeO.bind ?_ (fun _ => ?_)) | exact ih0 _ _ _ _ | exact impl_IsDots.mono _ _ | exact LeO.none _ | refine LeO.ite ?_ ?_ | refine LeO.bind ?_ (fun _ => ?_))
set_option maxHeartbeats 8000000 in
set_option maxRecDepth 100000 in
theorem impl_EchoAt.calls (k : Nat) (A0 : Option Addr) (c0 : Nat) (l0 : List Int) (a1 : Int) (a2 : Int) (r1 : Int) (r2 : Bool) (w : World) (hr0 : Kd.C (Kd.int .i64) w A0 l0.length l0) (hc0 : l0.length ≤ c0) (h : impl_EchoAt.f k l0 a1 a2 = some (r1, r2)) :
  Calls Try.prog 62 #[.slice A0 l0.length c0, .int .i64 a1, .int .i64 a2] w fun e w' => e = .returned (.tuple #[.int .i64 r1, .bool r2]) ∧ Drawn0 w w' := by
 have HR0 := Aside0.mk hr0
 have HC0 := Aside0.mk hc0
 clear hr0 hc0
 have H := h
 unfold impl_EchoAt.f at H
 clear h
 have HC4 := Aside0.mk H
 clear H
 go_enter Try.func62, Try.ntmps62
 go_upto_region 1 with (fail)
 go_cut [37] (fun v37 wc => ∃ (kq : Nat) (x37_3 : Bool), v37 = .bool x37_3 ∧ Aside0 (impl_EchoAt.j0 kq l0 a1 a2 x37_3 = some (r1, r2)) ∧ Aside0 (kq ≤ k) ∧ Drawn0 w wc)
 case first =>
  have H := HC4.out
  clear HC4
  replace H := Option.bind_eq_some_iff.mp H
  obtain ⟨t862, A50, H⟩ := H
  replace H : (if t862 = true then (if a1 < (-12) then (impl_EchoAt.j0 k l0 a1 a2 true) else (if a1 > 12 then (impl_EchoAt.j0 k l0 a1 a2 true) else (if a2 < (-12) then (impl_EchoAt.j0 k l0 a1 a2 true) else (if a2 > 12 then (impl_EchoAt.j0 k l0 a1 a2 true) else (if a1 = 0 then (impl_EchoAt.j0 k l0 a1 a2 (a2 == 0)) else (impl_EchoAt.j0 k l0 a1 a2 false)))))) else (impl_EchoAt.j0 k l0 a1 a2 true)) = some (r1, r2) := H
  have A5 := Aside0.mk A50
  clear A50
  by_cases c6 : t862 = true
  ·subst c6
   have H1 : (if a1 < (-12) then (impl_EchoAt.j0 k l0 a1 a2 true) else (if a1 > 12 then (impl_EchoAt.j0 k l0 a1 a2 true) else (if a2 < (-12) then (impl_EchoAt.j0 k l0 a1 a2 true) else (if a2 > 12 then (impl_EchoAt.j0 k l0 a1 a2 true) else (if a1 = 0 then (impl_EchoAt.j0 k l0 a1 a2 (a2 == 0)) else (impl_EchoAt.j0 k l0 a1 a2 false)))))) = some (r1, r2) := by rw [if_pos rfl] at H; exact H
   clear H
   have H := H1
   clear H1
   by_cases c7 : a1 < (-12)
   ·rw [if_pos c7] at H
    have c7b0 : decide (a1 < (-12)) = true := decide_eq_true c7
    clear c7
    (first | rw [c7b0] | (simp only [i64_w, i32_w]; rw [c7b0]) | skip)
    have H' := Aside0.mk H
    clear H
    go_wp2_with (first | ((with_reducible refine gate_callee (f := 58) rfl ?_); refine goesA (some 12) Try.func58 #[.slice A0 l0.length c0] ?_; (with_reducible refine (impl_IsDots.calls k _ _ l0 true _ ?side1 ?side2 A5.out).mono ?_); (case side1 => repeat (first | exact HR0.out | (with_reducible refine Kd.C_alloc ?_ _) | (with_reducible refine Kd.C_drewN ?_ _) | (with_reducible refine Kd.C_drew ?_))); (case side2 => exact HC0.out); rintro e w' ⟨rfl, ⟨nd, rfl⟩⟩; refine ⟨_, rfl, ?_⟩))
    go_meet
    case rel => exact ⟨_, (true), eqd, H', ⟨leD⟩, by repeat (first | exact Drawn0.refl _ | apply Drawn0.step)⟩
   ·rw [if_neg c7] at H
    have c7b0 : decide (a1 < (-12)) = false := decide_eq_false c7
    clear c7
    (first | rw [c7b0] | (simp only [i64_w, i32_w]; rw [c7b0]) | skip)
    by_cases c8 : a1 > 12
    ·rw [if_pos c8] at H
     have c8b0 : decide (12 < a1) = true := decide_eq_true c8
     clear c8
     have H' := Aside0.mk H
     clear H
     go_wp2_with (first | ((with_reducible refine gate_callee (f := 58) rfl ?_); refine goesA (some 12) Try.func58 #[.slice A0 l0.length c0] ?_; (with_reducible refine (impl_IsDots.calls k _ _ l0 true _ ?side1 ?side2 A5.out).mono ?_); (case side1 => repeat (first | exact HR0.out | (with_reducible refine Kd.C_alloc ?_ _) | (with_reducible refine Kd.C_drewN ?_ _) | (with_reducible refine Kd.C_drew ?_))); (case side2 => exact HC0.out); rintro e w' ⟨rfl, ⟨nd, rfl⟩⟩; refine ⟨_, rfl, ?_⟩))
     go_meet
     case rel => exact ⟨_, (true), eqd, H', ⟨leD⟩, by repeat (first | exact Drawn0.refl _ | apply Drawn0.step)⟩
    ·rw [if_neg c8] at H
     have c8b0 : decide (12 < a1) = false := decide_eq_false c8
     clear c8
     by_cases c9 : a2 < (-12)
     ·rw [if_pos c9] at H
      have c9b0 : decide (a2 < (-12)) = true := decide_eq_true c9
      clear c9
      have H' := Aside0.mk H
      clear H
      go_wp2_with (first | ((with_reducible refine gate_callee (f := 58) rfl ?_); refine goesA (some 12) Try.func58 #[.slice A0 l0.length c0] ?_; (with_reducible refine (impl_IsDots.calls k _ _ l0 true _ ?side1 ?side2 A5.out).mono ?_); (case side1 => repeat (first | exact HR0.out | (with_reducible refine Kd.C_alloc ?_ _) | (with_reducible refine Kd.C_drewN ?_ _) | (with_reducible refine Kd.C_drew ?_))); (case side2 => exact HC0.out); rintro e w' ⟨rfl, ⟨nd, rfl⟩⟩; refine ⟨_, rfl, ?_⟩))
      go_meet
      case rel => exact ⟨_, (true), eqd, H', ⟨leD⟩, by repeat (first | exact Drawn0.refl _ | apply Drawn0.step)⟩
     ·rw [if_neg c9] at H
      have c9b0 : decide (a2 < (-12)) = false := decide_eq_false c9
      clear c9
      by_cases c10 : a2 > 12
      ·rw [if_pos c10] at H
       have c10b0 : decide (12 < a2) = true := decide_eq_true c10
       clear c10
       have H' := Aside0.mk H
       clear H
       go_wp2_with (first | ((with_reducible refine gate_callee (f := 58) rfl ?_); refine goesA (some 12) Try.func58 #[.slice A0 l0.length c0] ?_; (with_reducible refine (impl_IsDots.calls k _ _ l0 true _ ?side1 ?side2 A5.out).mono ?_); (case side1 => repeat (first | exact HR0.out | (with_reducible refine Kd.C_alloc ?_ _) | (with_reducible refine Kd.C_drewN ?_ _) | (with_reducible refine Kd.C_drew ?_))); (case side2 => exact HC0.out); rintro e w' ⟨rfl, ⟨nd, rfl⟩⟩; refine ⟨_, rfl, ?_⟩))
       go_meet
       case rel => exact ⟨_, (true), eqd, H', ⟨leD⟩, by repeat (first | exact Drawn0.refl _ | apply Drawn0.step)⟩
      ·rw [if_neg c10] at H
       have c10b0 : decide (12 < a2) = false := decide_eq_false c10
       clear c10
       by_cases c11 : a1 = 0
       ·rw [if_pos c11] at H
        have c11b0 : (a1 == 0) = true := beq_iff_eq.mpr c11
        have c11b1 : (a1 != 0) = false := bne_eq_false_iff_eq.mpr c11
        clear c11
        have H' := Aside0.mk H
        clear H
        go_wp2_with (first | ((with_reducible refine gate_callee (f := 58) rfl ?_); refine goesA (some 12) Try.func58 #[.slice A0 l0.length c0] ?_; (with_reducible refine (impl_IsDots.calls k _ _ l0 true _ ?side1 ?side2 A5.out).mono ?_); (case side1 => repeat (first | exact HR0.out | (with_reducible refine Kd.C_alloc ?_ _) | (with_reducible refine Kd.C_drewN ?_ _) | (with_reducible refine Kd.C_drew ?_))); (case side2 => exact HC0.out); rintro e w' ⟨rfl, ⟨nd, rfl⟩⟩; refine ⟨_, rfl, ?_⟩))
        go_meet
        case rel => exact ⟨_, ((a2 == 0)), eqd, H', ⟨leD⟩, by repeat (first | exact Drawn0.refl _ | apply Drawn0.step)⟩
       ·rw [if_neg c11] at H
        have c11b0 : (a1 == 0) = false := beq_eq_false_iff_ne.mpr c11
        have c11b1 : (a1 != 0) = true := bne_iff_ne.mpr c11
        have H' := Aside0.mk H
        clear H
        go_wp2_with (first | ((with_reducible refine gate_callee (f := 58) rfl ?_); refine goesA (some 12) Try.func58 #[.slice A0 l0.length c0] ?_; (with_reducible refine (impl_IsDots.calls k _ _ l0 true _ ?side1 ?side2 A5.out).mono ?_); (case side1 => repeat (first | exact HR0.out | (with_reducible refine Kd.C_alloc ?_ _) | (with_reducible refine Kd.C_drewN ?_ _) | (with_reducible refine Kd.C_drew ?_))); (case side2 => exact HC0.out); rintro e w' ⟨rfl, ⟨nd, rfl⟩⟩; refine ⟨_, rfl, ?_⟩))
        go_meet
        case rel => exact ⟨_, (false), eqd, H', ⟨leD⟩, by repeat (first | exact Drawn0.refl _ | apply Drawn0.step)⟩
  ·replace c6 := Bool.eq_false_iff.mpr c6
   subst c6
   have H1 : (impl_EchoAt.j0 k l0 a1 a2 true) = some (r1, r2) := by rw [if_neg (show ¬ (false = true) by decide)] at H; exact H
   clear H
   have H := H1
   clear H1
   have H' := Aside0.mk H
   clear H
   go_wp2_with (first | ((with_reducible refine gate_callee (f := 58) rfl ?_); refine goesA (some 12) Try.func58 #[.slice A0 l0.length c0] ?_; (with_reducible refine (impl_IsDots.calls k _ _ l0 false _ ?side1 ?side2 A5.out).mono ?_); (case side1 => repeat (first | exact HR0.out | (with_reducible refine Kd.C_alloc ?_ _) | (with_reducible refine Kd.C_drewN ?_ _) | (with_reducible refine Kd.C_drew ?_))); (case side2 => exact HC0.out); rintro e w' ⟨rfl, ⟨nd, rfl⟩⟩; refine ⟨_, rfl, ?_⟩))
   go_meet
   case rel => exact ⟨_, (true), eqd, H', ⟨leD⟩, by repeat (first | exact Drawn0.refl _ | apply Drawn0.step)⟩
 case rest =>
  clear HC4
  try clear c1
  try clear p2
  try clear c5
  try clear c6
  try clear c7
  try clear c7b0
  try clear c8
  try clear c8b0
  try clear c9
  try clear c9b0
  try clear c10
  try clear c10b0
  try clear c11
  try clear c11b0
  try clear c11b1
  obtain ⟨kq, x37_3, rfl, HA, HJ3, ⟨mc3, rfl⟩⟩ := hcut
  cases kq with
  | zero => exact absurd HA.out (by simp [impl_EchoAt.j0])
  | succ kj3 =>
   have H := HA.out
   clear HA
   simp only [impl_EchoAt.j0] at H
   by_cases c12 : x37_3 = true
   ·subst c12
    have H1 : (some (0, false)) = some (r1, r2) := by rw [if_pos rfl] at H; exact H
    clear H
    have H := H1
    clear H1
    simp only [Option.some.injEq, Prod.mk.injEq] at H
    obtain ⟨rfl, rfl⟩ := H
    go_wp2
    go_ret2
    exact ⟨by first | rfl | (simp; done) | (simp [*]; done), by repeat (first | exact Drawn0.refl _ | apply Drawn0.step)⟩
   ·replace c12 := Bool.eq_false_iff.mpr c12
    subst c12
    have H1 : (impl_EchoAt.l0 kj3 l0 a1 a2 0 l0 (l0.length : Int) 0) = some (r1, r2) := by rw [if_neg (show ¬ (false = true) by decide)] at H; exact H
    clear H
    have H := H1
    clear H1
    have H' := Aside0.mk H
    clear H
    go_wp2
    go_loopg [8, 40] kj3 (fun kq v8 v40 w' => ∃ (x8_2 : Int) (x40_2 : Int), v8 = .int .i64 x8_2 ∧ v40 = .int .i64 x40_2 ∧ Aside0 (impl_EchoAt.l0 kq l0 a1 a2 x8_2 l0 (l0.length : Int) x40_2 = some (r1, r2)) ∧ Aside0 (kq ≤ kj3) ∧ Drawn0 w w')
    case atStart => exact ⟨(0), (0), eqd, eqd, H', ⟨Nat.le_refl _⟩, by repeat (first | exact Drawn0.refl _ | apply Drawn0.step)⟩
    case round =>
     clear H'
     try clear c1
     try clear p2
     try clear c3
     try clear c5
     try clear c6
     try clear c7
     try clear c7b0
     try clear c8
     try clear c8b0
     try clear c9
     try clear c9b0
     try clear c10
     try clear c10b0
     try clear c11
     try clear c11b0
     try clear c11b1
     try clear c12
     try clear p2
     obtain ⟨x8_2, x40_2, rfl, rfl, HA, HK2, ⟨m2, rfl⟩⟩ := hrel
     cases gk with
     | zero => exact absurd HA.out (by simp [impl_EchoAt.l0])
     | succ k2 =>
      have H := HA.out
      clear HA
      simp only [impl_EchoAt.l0] at H
      by_cases c13 : x40_2 < (l0.length : Int)
      ·rw [if_pos c13] at H
       have c13b0 : decide (x40_2 < (l0.length : Int)) = true := decide_eq_true c13
       clear c13
       by_cases c14 : 0 ≤ x40_2
       ·rw [if_pos c14] at H
        have c14b0 : decide (0 ≤ x40_2) = true := decide_eq_true c14
        clear c14
        by_cases c15 : x40_2 < (l0.length : Int)
        ·rw [if_pos c15] at H
         have c15b0 : decide (x40_2 < (l0.length : Int)) = true := decide_eq_true c15
         clear c15
         by_cases c16 : (wrap64 (x40_2 + a1)) ≥ 0
         ·rw [if_pos c16] at H
          have c16b0 : decide (0 ≤ (wrap64 (x40_2 + a1))) = true := decide_eq_true c16
          clear c16
          by_cases c17 : (wrap64 (x40_2 + a1)) < (l0.length : Int)
          ·rw [if_pos c17] at H
           have c17b0 : decide ((wrap64 (x40_2 + a1)) < (l0.length : Int)) = true := decide_eq_true c17
           clear c17
           obtain ⟨ji18, hji18⟩ : ∃ j_ : Int, (wrap64 (x40_2 + a1)) = j_ := ⟨_, rfl⟩
           replace H : (if 0 ≤ (ji18) then (if (rd l0 (ji18)) = (wrap64 ((rd l0 x40_2) + a2)) then (impl_EchoAt.l0 k2 l0 a1 a2 (wrap64 (x8_2 + 1)) l0 (l0.length : Int) (wrap64 (x40_2 + 1))) else (impl_EchoAt.l0 k2 l0 a1 a2 x8_2 l0 (l0.length : Int) (wrap64 (x40_2 + 1)))) else (none)) = some (r1, r2) := by first | (rw [hji18] at H; exact H) | (simp only [hji18] at H ⊢; exact H)
           (try rw [hji18] at c16b0)
           (try rw [hji18] at c17b0)
           have hji18w : (IntKind.i64.wrap (x40_2 + a1)) = ji18 := (i64_w _).trans hji18
           by_cases c19 : 0 ≤ (ji18)
           ·rw [if_pos c19] at H
            have c19b0 : decide (0 ≤ (ji18)) = true := decide_eq_true c19
            clear c19
            by_cases c20 : (rd l0 (ji18)) = (wrap64 ((rd l0 x40_2) + a2))
            ·rw [if_pos c20] at H
             have c20b0 : ((rd l0 (ji18)) == (wrap64 ((rd l0 x40_2) + a2))) = true := beq_iff_eq.mpr c20
             have c20b1 : ((rd l0 (ji18)) != (wrap64 ((rd l0 x40_2) + a2))) = false := bne_eq_false_iff_eq.mpr c20
             clear c20
             have H' := Aside0.mk H
             clear H
             have p863 : 0 ≤ (x40_2 : Int) := ofd
             have q863 : x40_2 < (l0.length : Int) := ofd
             obtain ⟨ad863, e863, hx863_0⟩ := Kd.at_int HR0.out x40_2 p863 q863
             cases e863
             replace p863 := eq_true p863
             replace q863 := eq_true q863
             have p864 : 0 ≤ ((ji18) : Int) := ofd
             have q864 : (ji18) < (l0.length : Int) := ofd
             obtain ⟨ad864, e864, hx864_0⟩ := Kd.at_int HR0.out (ji18) p864 q864
             obtain rfl : ad863 = ad864 := (by injection e864)
             replace p864 := eq_true p864
             replace q864 := eq_true q864
             go_wp2
             first | go_roundg k2 | ((try subst hji18); go_roundg k2)
             case measure => have := HJ3.out; have := HK2.out; omega
             case rel => exact ⟨(wrap64 (x8_2 + 1)), (wrap64 (x40_2 + 1)), eqd, eqd, H', ⟨by have := HJ3.out; have := HK2.out; omega⟩, by repeat (first | exact Drawn0.refl _ | apply Drawn0.step)⟩
            ·rw [if_neg c20] at H
             have c20b0 : ((rd l0 (ji18)) == (wrap64 ((rd l0 x40_2) + a2))) = false := beq_eq_false_iff_ne.mpr c20
             have c20b1 : ((rd l0 (ji18)) != (wrap64 ((rd l0 x40_2) + a2))) = true := bne_iff_ne.mpr c20
             have H' := Aside0.mk H
             clear H
             have p863 : 0 ≤ (x40_2 : Int) := ofd
             have q863 : x40_2 < (l0.length : Int) := ofd
             obtain ⟨ad863, e863, hx863_0⟩ := Kd.at_int HR0.out x40_2 p863 q863
             cases e863
             replace p863 := eq_true p863
             replace q863 := eq_true q863
             have p864 : 0 ≤ ((ji18) : Int) := ofd
             have q864 : (ji18) < (l0.length : Int) := ofd
             obtain ⟨ad864, e864, hx864_0⟩ := Kd.at_int HR0.out (ji18) p864 q864
             obtain rfl : ad863 = ad864 := (by injection e864)
             replace p864 := eq_true p864
             replace q864 := eq_true q864
             go_wp2
             first | go_roundg k2 | ((try subst hji18); go_roundg k2)
             case measure => have := HJ3.out; have := HK2.out; omega
             case rel => exact ⟨(x8_2), (wrap64 (x40_2 + 1)), eqd, eqd, H', ⟨by have := HJ3.out; have := HK2.out; omega⟩, by repeat (first | exact Drawn0.refl _ | apply Drawn0.step)⟩
           ·rw [if_neg c19] at H
            exact absurd H (by simp)
          ·rw [if_neg c17] at H
           have c17b0 : decide ((wrap64 (x40_2 + a1)) < (l0.length : Int)) = false := decide_eq_false c17
           clear c17
           have H' := Aside0.mk H
           clear H
           have p863 : 0 ≤ (x40_2 : Int) := ofd
           have q863 : x40_2 < (l0.length : Int) := ofd
           obtain ⟨ad863, e863, hx863_0⟩ := Kd.at_int HR0.out x40_2 p863 q863
           cases e863
           replace p863 := eq_true p863
           replace q863 := eq_true q863
           go_wp2
           go_roundg k2
           case measure => have := HJ3.out; have := HK2.out; omega
           case rel => exact ⟨(x8_2), (wrap64 (x40_2 + 1)), eqd, eqd, H', ⟨by have := HJ3.out; have := HK2.out; omega⟩, by repeat (first | exact Drawn0.refl _ | apply Drawn0.step)⟩
         ·rw [if_neg c16] at H
          have c16b0 : decide (0 ≤ (wrap64 (x40_2 + a1))) = false := decide_eq_false c16
          clear c16
          have H' := Aside0.mk H
          clear H
          have p863 : 0 ≤ (x40_2 : Int) := ofd
          have q863 : x40_2 < (l0.length : Int) := ofd
          obtain ⟨ad863, e863, hx863_0⟩ := Kd.at_int HR0.out x40_2 p863 q863
          cases e863
          replace p863 := eq_true p863
          replace q863 := eq_true q863
          go_wp2
          go_roundg k2
          case measure => have := HJ3.out; have := HK2.out; omega
          case rel => exact ⟨(x8_2), (wrap64 (x40_2 + 1)), eqd, eqd, H', ⟨by have := HJ3.out; have := HK2.out; omega⟩, by repeat (first | exact Drawn0.refl _ | apply Drawn0.step)⟩
        ·rw [if_neg c15] at H
         exact absurd H (by simp)
       ·rw [if_neg c14] at H
        exact absurd H (by simp)
      ·rw [if_neg c13] at H
       have c13b0 : decide (x40_2 < (l0.length : Int)) = false := decide_eq_false c13
       clear c13
       simp only [Option.some.injEq, Prod.mk.injEq] at H
       obtain ⟨rfl, rfl⟩ := H
       go_wp2
       go_ret2
       exact ⟨by first | rfl | (simp; done) | (simp [*]; done), by repeat (first | exact Drawn0.refl _ | apply Drawn0.step)⟩
noncomputable def impl_EchoAt.J0 (x0 : List Int) (x1 : Int) (x2 : Int) (x37 : Bool) : Option (Int × Bool) := lim fun k => impl_EchoAt.j0 k x0 x1 x2 x37
theorem impl_EchoAt.J0_lim (x0 : List Int) (x1 : Int) (x2 : Int) (x37 : Bool) : Lim (fun k => impl_EchoAt.j0 k x0 x1 x2 x37) (impl_EchoAt.J0 x0 x1 x2 x37) := Lim.of fun k => (impl_EchoAt.mono_l k).1 x0 x1 x2 x37
noncomputable def impl_EchoAt.L0 (x0 : List Int) (x1 : Int) (x2 : Int) (x8 : Int) (x38 : List Int) (x39 : Int) (x40 : Int) : Option (Int × Bool) := lim fun k => impl_EchoAt.l0 k x0 x1 x2 x8 x38 x39 x40
theorem impl_EchoAt.L0_lim (x0 : List Int) (x1 : Int) (x2 : Int) (x8 : Int) (x38 : List Int) (x39 : Int) (x40 : Int) : Lim (fun k => impl_EchoAt.l0 k x0 x1 x2 x8 x38 x39 x40) (impl_EchoAt.L0 x0 x1 x2 x8 x38 x39 x40) := Lim.of fun k => (impl_EchoAt.mono_l k).2 x0 x1 x2 x8 x38 x39 x40
noncomputable def impl_EchoAt.F (l0 : List Int) (a1 : Int) (a2 : Int) : Option (Int × Bool) := lim fun k => impl_EchoAt.f k l0 a1 a2
theorem impl_EchoAt.F_lim (l0 : List Int) (a1 : Int) (a2 : Int) : Lim (fun k => impl_EchoAt.f k l0 a1 a2) (impl_EchoAt.F l0 a1 a2) := Lim.of fun k => impl_EchoAt.mono l0 a1 a2 k
theorem impl_EchoAt.J0_eq (x0 : List Int) (x1 : Int) (x2 : Int) (x37 : Bool) : impl_EchoAt.J0 x0 x1 x2 x37 = (if x37 = true then (some (0, false)) else (impl_EchoAt.L0 x0 x1 x2 0 x0 (x0.length : Int) 0)) :=
 Lim.step (f := fun k => impl_EchoAt.j0 (k + 1) x0 x1 x2 x37) (impl_EchoAt.J0_lim x0 x1 x2 x37) (fun _ => rfl) (by
  simp only [impl_EchoAt.j0]
  repeat' (first | (with_reducible first | exact Lim.const _ | exact impl_EchoAt.L0_lim _ _ _ _ _ _ _ | refine Lim.ite ?_ ?_ | refine Lim.bind ?_ (fun _ => ?_))))
theorem impl_EchoAt.L0_eq (x0 : List Int) (x1 : Int) (x2 : Int) (x8 : Int) (x38 : List Int) (x39 : Int) (x40 : Int) : impl_EchoAt.L0 x0 x1 x2 x8 x38 x39 x40 = (if x40 < x39 then (if 0 ≤ x40 then (if x40 < (x38.length : Int) then (if (wrap64 (x40 + x1)) ≥ 0 then (if (wrap64 (x40 + x1)) < (x0.length : Int) then (if 0 ≤ (wrap64 (x40 + x1)) then (if (rd x0 (wrap64 (x40 + x1))) = (wrap64 ((rd x38 x40) + x2)) then (impl_EchoAt.L0 x0 x1 x2 (wrap64 (x8 + 1)) x38 x39 (wrap64 (x40 + 1))) else (impl_EchoAt.L0 x0 x1 x2 x8 x38 x39 (wrap64 (x40 + 1)))) else (none)) else (impl_EchoAt.L0 x0 x1 x2 x8 x38 x39 (wrap64 (x40 + 1)))) else (impl_EchoAt.L0 x0 x1 x2 x8 x38 x39 (wrap64 (x40 + 1)))) else (none)) else (none)) else (some (x8, true))) :=
 Lim.step (f := fun k => impl_EchoAt.l0 (k + 1) x0 x1 x2 x8 x38 x39 x40) (impl_EchoAt.L0_lim x0 x1 x2 x8 x38 x39 x40) (fun _ => rfl) (by
  simp only [impl_EchoAt.l0]
  repeat' (first | (with_reducible first | exact Lim.const _ | exact impl_EchoAt.L0_lim _ _ _ _ _ _ _ | refine Lim.ite ?_ ?_ | refine Lim.bind ?_ (fun _ => ?_))))
theorem impl_EchoAt.F_eq (l0 : List Int) (a1 : Int) (a2 : Int) : impl_EchoAt.F l0 a1 a2 = ((impl_IsDots.F l0).bind fun t862 => (if t862 = true then (if a1 < (-12) then (impl_EchoAt.J0 l0 a1 a2 true) else (if a1 > 12 then (impl_EchoAt.J0 l0 a1 a2 true) else (if a2 < (-12) then (impl_EchoAt.J0 l0 a1 a2 true) else (if a2 > 12 then (impl_EchoAt.J0 l0 a1 a2 true) else (if a1 = 0 then (impl_EchoAt.J0 l0 a1 a2 (a2 == 0)) else (impl_EchoAt.J0 l0 a1 a2 false)))))) else (impl_EchoAt.J0 l0 a1 a2 true))) :=
 Lim.unique (impl_EchoAt.F_lim l0 a1 a2) (by
  unfold impl_EchoAt.f
  repeat' (first | (with_reducible first | exact Lim.const _ | exact impl_EchoAt.J0_lim _ _ _ _ | exact impl_IsDots.F_lim _ | refine Lim.ite ?_ ?_ | refine Lim.bind ?_ (fun _ => ?_))))
/-! ### impl_FirstRepeat: function 56 -/
def impl_FirstRepeat.f (k : Nat) (l0 : List Int) : Option (Int × Int × Int × Bool) := (impl_IsDots.f k l0).bind fun t846 => (if t846 = true then ((impl_repeat.f k l0).bind fun bt847 => (some (bt847.1, bt847.2.1, bt847.2.2.1, bt847.2.2.2))) else (some (0, 0, 0, false)))
theorem impl_FirstRepeat.mono : ∀ a0 k, LeO (impl_FirstRepeat.f k a0) (impl_FirstRepeat.f (k + 1) a0) := by
 intro a0 k
 unfold impl_FirstRepeat.f
 repeat' (first | (with_reducible first | exact impl_IsDots.mono _ _ | exact impl_repeat.mono _ _ | exact LeO.refl _ | exact LeO.none _ | refine LeO.ite ?_ ?_ | refine LeO.bind ?_ (fun _ => ?_)) | exact impl_IsDots.mono _ _ | exact impl_repeat.mono _ _ | exact LeO.none _ | refine LeO.ite ?_ ?_ | refine LeO.bind ?_ (fun _ => ?_))
set_option maxHeartbeats 8000000 in
set_option maxRecDepth 100000 in
theorem impl_FirstRepeat.calls (k : Nat) (A0 : Option Addr) (c0 : Nat) (l0 : List Int) (r1 : Int) (r2 : Int) (r3 : Int) (r4 : Bool) (w : World) (hr0 : Kd.C (Kd.int .i64) w A0 l0.length l0) (hc0 : l0.length ≤ c0) (h : impl_FirstRepeat.f k l0 = some (r1, r2, r3, r4)) :
  Calls Try.prog 56 #[.slice A0 l0.length c0] w fun e w' => e = .returned (.tuple #[.int .i64 r1, .int .i64 r2, .int .i64 r3, .bool r4]) ∧ Below w.heap.size w w' := by
 have HR0 := Aside0.mk hr0
 have HC0 := Aside0.mk hc0
 clear hr0 hc0
 have HB := Aside0.mk (Below.refl w.heap.size w)
 have H := h
 unfold impl_FirstRepeat.f at H
 clear h
 replace H := Option.bind_eq_some_iff.mp H
 obtain ⟨t846, A20, H⟩ := H
 replace H : (if t846 = true then ((impl_repeat.f k l0).bind fun bt847 => (some (bt847.1, bt847.2.1, bt847.2.2.1, bt847.2.2.2))) else (some (0, 0, 0, false))) = some (r1, r2, r3, r4) := H
 have A2 := Aside0.mk A20
 clear A20
 by_cases c3 : t846 = true
 ·subst c3
  have H1 : ((impl_repeat.f k l0).bind fun bt847 => (some (bt847.1, bt847.2.1, bt847.2.2.1, bt847.2.2.2))) = some (r1, r2, r3, r4) := by rw [if_pos rfl] at H; exact H
  clear H
  have H := H1
  clear H1
  replace H := Option.bind_eq_some_iff.mp H
  obtain ⟨⟨t847, t848, t849, t850⟩, A40, H⟩ := H
  replace H : (some (t847, t848, t849, t850)) = some (r1, r2, r3, r4) := H
  have A4 := Aside0.mk A40
  clear A40
  simp only [Option.some.injEq, Prod.mk.injEq] at H
  obtain ⟨rfl, rfl, rfl, rfl⟩ := H
  go_enter Try.func56, Try.ntmps56
  go_wp2_with (first | ((with_reducible refine gate_callee (f := 58) rfl ?_); refine goesA (some 7) Try.func58 #[.slice A0 l0.length c0] ?_; (with_reducible refine (impl_IsDots.calls k _ _ l0 true _ ?side1 ?side2 A2.out).mono ?_); (case side1 => repeat (first | exact HR0.out | (with_reducible refine Kd.C_alloc ?_ _) | (with_reducible refine Kd.C_drewN ?_ _) | (with_reducible refine Kd.C_drew ?_))); (case side2 => exact HC0.out); rintro e w' ⟨rfl, ⟨nd, rfl⟩⟩; refine ⟨_, rfl, ?_⟩) | ((with_reducible refine gate_callee (f := 119) rfl ?_); refine goesA (some 10) Try.func119 #[.slice A0 l0.length c0] ?_; (with_reducible refine (impl_repeat.calls k _ _ l0 t847 t848 t849 t850 _ ?side1 ?side2 A4.out).mono ?_); (case side1 => repeat (first | exact HR0.out | (with_reducible refine Kd.C_alloc ?_ _) | (with_reducible refine Kd.C_drewN ?_ _) | (with_reducible refine Kd.C_drew ?_))); (case side2 => exact HC0.out); rintro e w5 ⟨rfl, hb⟩; refine ⟨_, rfl, ?_⟩; replace HB := upB HB hb; (try clear hb); (try clear hb2); (try clear hk); (try clear hi)))
  refine bodyPost_ret (results_list (rs := [.tmp 2, .tmp 3, .tmp 4, .tmp 5]) rfl (by simp) (.tmp (.tmp (.tmp (.tmp .nil))))) rfl ?_
  exact ⟨eqr, atB HB⟩
 ·replace c3 := Bool.eq_false_iff.mpr c3
  subst c3
  have H1 : (some (0, 0, 0, false)) = some (r1, r2, r3, r4) := by rw [if_neg (show ¬ (false = true) by decide)] at H; exact H
  clear H
  have H := H1
  clear H1
  simp only [Option.some.injEq, Prod.mk.injEq] at H
  obtain ⟨rfl, rfl, rfl, rfl⟩ := H
  go_enter Try.func56, Try.ntmps56
  go_wp2_with (first | ((with_reducible refine gate_callee (f := 58) rfl ?_); refine goesA (some 7) Try.func58 #[.slice A0 l0.length c0] ?_; (with_reducible refine (impl_IsDots.calls k _ _ l0 false _ ?side1 ?side2 A2.out).mono ?_); (case side1 => repeat (first | exact HR0.out | (with_reducible refine Kd.C_alloc ?_ _) | (with_reducible refine Kd.C_drewN ?_ _) | (with_reducible refine Kd.C_drew ?_))); (case side2 => exact HC0.out); rintro e w' ⟨rfl, ⟨nd, rfl⟩⟩; refine ⟨_, rfl, ?_⟩))
  refine bodyPost_ret (results_list (rs := [.tmp 2, .tmp 3, .tmp 4, .tmp 5]) rfl (by simp) (.tmp (.tmp (.tmp (.tmp .nil))))) rfl ?_
  exact ⟨eqr, atB HB⟩
noncomputable def impl_FirstRepeat.F (l0 : List Int) : Option (Int × Int × Int × Bool) := lim fun k => impl_FirstRepeat.f k l0
theorem impl_FirstRepeat.F_lim (l0 : List Int) : Lim (fun k => impl_FirstRepeat.f k l0) (impl_FirstRepeat.F l0) := Lim.of fun k => impl_FirstRepeat.mono l0 k
theorem impl_FirstRepeat.F_eq (l0 : List Int) : impl_FirstRepeat.F l0 = ((impl_IsDots.F l0).bind fun t846 => (if t846 = true then ((impl_repeat.F l0).bind fun bt847 => (some (bt847.1, bt847.2.1, bt847.2.2.1, bt847.2.2.2))) else (some (0, 0, 0, false)))) :=
 Lim.unique (impl_FirstRepeat.F_lim l0) (by
  unfold impl_FirstRepeat.f
  repeat' (first | (with_reducible first | exact Lim.const _ | exact impl_IsDots.F_lim _ | exact impl_repeat.F_lim _ | refine Lim.ite ?_ ?_ | refine Lim.bind ?_ (fun _ => ?_))))
/-! ### impl_IsCostas: function 54 -/
def impl_IsCostas.f (k : Nat) (l0 : List Int) : Option (Bool × Bool) := (impl_IsDots.f k l0).bind fun t819 => (if t819 = true then ((impl_costas.f k l0).bind fun t820 => (some (t820, true))) else (some (false, false)))
theorem impl_IsCostas.mono : ∀ a0 k, LeO (impl_IsCostas.f k a0) (impl_IsCostas.f (k + 1) a0) := by
 intro a0 k
 unfold impl_IsCostas.f
 repeat' (first | (with_reducible first | exact impl_IsDots.mono _ _ | exact impl_costas.mono _ _ | exact LeO.refl _ | exact LeO.none _ | refine LeO.ite ?_ ?_ | refine LeO.bind ?_ (fun _ => ?_)) | exact impl_IsDots.mono _ _ | exact impl_costas.mono _ _ | exact LeO.none _ | refine LeO.ite ?_ ?_ | refine LeO.bind ?_ (fun _ => ?_))
set_option maxHeartbeats 8000000 in
set_option maxRecDepth 100000 in
theorem impl_IsCostas.calls (k : Nat) (A0 : Option Addr) (c0 : Nat) (l0 : List Int) (r1 : Bool) (r2 : Bool) (w : World) (hr0 : Kd.C (Kd.int .i64) w A0 l0.length l0) (hc0 : l0.length ≤ c0) (h : impl_IsCostas.f k l0 = some (r1, r2)) :
  Calls Try.prog 54 #[.slice A0 l0.length c0] w fun e w' => e = .returned (.tuple #[.bool r1, .bool r2]) ∧ Below w.heap.size w w' := by
 have HR0 := Aside0.mk hr0
 have HC0 := Aside0.mk hc0
 clear hr0 hc0
 have HB := Aside0.mk (Below.refl w.heap.size w)
 have H := h
 unfold impl_IsCostas.f at H
 clear h
 replace H := Option.bind_eq_some_iff.mp H
 obtain ⟨t819, A20, H⟩ := H
 replace H : (if t819 = true then ((impl_costas.f k l0).bind fun t820 => (some (t820, true))) else (some (false, false))) = some (r1, r2) := H
 have A2 := Aside0.mk A20
 clear A20
 by_cases c3 : t819 = true
 ·subst c3
  have H1 : ((impl_costas.f k l0).bind fun t820 => (some (t820, true))) = some (r1, r2) := by rw [if_pos rfl] at H; exact H
  clear H
  have H := H1
  clear H1
  replace H := Option.bind_eq_some_iff.mp H
  obtain ⟨t820, A40, H⟩ := H
  replace H : (some (t820, true)) = some (r1, r2) := H
  have A4 := Aside0.mk A40
  clear A40
  simp only [Option.some.injEq, Prod.mk.injEq] at H
  obtain ⟨rfl, rfl⟩ := H
  go_enter Try.func54, Try.ntmps54
  go_wp2_with (first | ((with_reducible refine gate_callee (f := 58) rfl ?_); refine goesA (some 5) Try.func58 #[.slice A0 l0.length c0] ?_; (with_reducible refine (impl_IsDots.calls k _ _ l0 true _ ?side1 ?side2 A2.out).mono ?_); (case side1 => repeat (first | exact HR0.out | (with_reducible refine Kd.C_alloc ?_ _) | (with_reducible refine Kd.C_drewN ?_ _) | (with_reducible refine Kd.C_drew ?_))); (case side2 => exact HC0.out); rintro e w' ⟨rfl, ⟨nd, rfl⟩⟩; refine ⟨_, rfl, ?_⟩) | ((with_reducible refine gate_callee (f := 116) rfl ?_); refine goesA (some 8) Try.func116 #[.slice A0 l0.length c0] ?_; (with_reducible refine (impl_costas.calls k _ _ l0 t820 _ ?side1 ?side2 A4.out).mono ?_); (case side1 => repeat (first | exact HR0.out | (with_reducible refine Kd.C_alloc ?_ _) | (with_reducible refine Kd.C_drewN ?_ _) | (with_reducible refine Kd.C_drew ?_))); (case side2 => exact HC0.out); rintro e w5 ⟨rfl, hb⟩; refine ⟨_, rfl, ?_⟩; replace HB := upB HB hb; (try clear hb); (try clear hb2); (try clear hk); (try clear hi)))
  go_ret2
  exact ⟨eqr, atB HB⟩
 ·replace c3 := Bool.eq_false_iff.mpr c3
  subst c3
  have H1 : (some (false, false)) = some (r1, r2) := by rw [if_neg (show ¬ (false = true) by decide)] at H; exact H
  clear H
  have H := H1
  clear H1
  simp only [Option.some.injEq, Prod.mk.injEq] at H
  obtain ⟨rfl, rfl⟩ := H
  go_enter Try.func54, Try.ntmps54
  go_wp2_with (first | ((with_reducible refine gate_callee (f := 58) rfl ?_); refine goesA (some 5) Try.func58 #[.slice A0 l0.length c0] ?_; (with_reducible refine (impl_IsDots.calls k _ _ l0 false _ ?side1 ?side2 A2.out).mono ?_); (case side1 => repeat (first | exact HR0.out | (with_reducible refine Kd.C_alloc ?_ _) | (with_reducible refine Kd.C_drewN ?_ _) | (with_reducible refine Kd.C_drew ?_))); (case side2 => exact HC0.out); rintro e w' ⟨rfl, ⟨nd, rfl⟩⟩; refine ⟨_, rfl, ?_⟩))
  go_ret2
  exact ⟨eqr, atB HB⟩
noncomputable def impl_IsCostas.F (l0 : List Int) : Option (Bool × Bool) := lim fun k => impl_IsCostas.f k l0
theorem impl_IsCostas.F_lim (l0 : List Int) : Lim (fun k => impl_IsCostas.f k l0) (impl_IsCostas.F l0) := Lim.of fun k => impl_IsCostas.mono l0 k
theorem impl_IsCostas.F_eq (l0 : List Int) : impl_IsCostas.F l0 = ((impl_IsDots.F l0).bind fun t819 => (if t819 = true then ((impl_costas.F l0).bind fun t820 => (some (t820, true))) else (some (false, false)))) :=
 Lim.unique (impl_IsCostas.F_lim l0) (by
  unfold impl_IsCostas.f
  repeat' (first | (with_reducible first | exact Lim.const _ | exact impl_IsDots.F_lim _ | exact impl_costas.F_lim _ | refine Lim.ite ?_ ?_ | refine Lim.bind ?_ (fun _ => ?_))))
/-! ### impl_LeastDots: function 73 -/
def impl_LeastDots.f (k : Nat) (l0 : List Int) : Option (List Int × Bool) := (impl_IsDots.f k l0).bind fun t979 => (if t979 = true then ((impl_least.f k l0).bind fun t980 => ((slices_Clone_int_int.f t980).bind fun t983 => (some (t983, true)))) else (some (([] : List Int), false)))
theorem impl_LeastDots.mono : ∀ a0 k, LeO (impl_LeastDots.f k a0) (impl_LeastDots.f (k + 1) a0) := by
 intro a0 k
 unfold impl_LeastDots.f
 repeat' (first | (with_reducible first | exact impl_IsDots.mono _ _ | exact impl_least.mono _ _ | exact LeO.refl _ | exact LeO.none _ | refine LeO.ite ?_ ?_ | refine LeO.bind ?_ (fun _ => ?_)) | exact impl_IsDots.mono _ _ | exact impl_least.mono _ _ | exact LeO.none _ | refine LeO.ite ?_ ?_ | refine LeO.bind ?_ (fun _ => ?_))
set_option maxHeartbeats 8000000 in
set_option maxRecDepth 100000 in
theorem impl_LeastDots.calls (k : Nat) (A0 : Option Addr) (c0 : Nat) (l0 : List Int) (r1 : List Int) (r2 : Bool) (w : World) (hr0 : Kd.C (Kd.int .i64) w A0 l0.length l0) (hc0 : l0.length ≤ c0) (h : impl_LeastDots.f k l0 = some (r1, r2)) :
  Calls Try.prog 73 #[.slice A0 l0.length c0] w fun e w' => ∃ v0_ : Value, e = .returned (.tuple #[v0_, .bool r2]) ∧ Kd.R (Kd.int .i64) 3 w' w.heap.size (fun _ => True) v0_ r1 ∧ Below w.heap.size w w' := by
 have HR0 := Aside0.mk hr0
 have HC0 := Aside0.mk hc0
 clear hr0 hc0
 have HB := Aside0.mk (Below.refl w.heap.size w)
 have H := h
 unfold impl_LeastDots.f at H
 clear h
 replace H := Option.bind_eq_some_iff.mp H
 obtain ⟨t979, A20, H⟩ := H
 replace H : (if t979 = true then ((impl_least.f k l0).bind fun t980 => ((slices_Clone_int_int.f t980).bind fun t983 => (some (t983, true)))) else (some (([] : List Int), false))) = some (r1, r2) := H
 have A2 := Aside0.mk A20
 clear A20
 by_cases c3 : t979 = true
 ·subst c3
  have H1 : ((impl_least.f k l0).bind fun t980 => ((slices_Clone_int_int.f t980).bind fun t983 => (some (t983, true)))) = some (r1, r2) := by rw [if_pos rfl] at H; exact H
  clear H
  have H := H1
  clear H1
  replace H := Option.bind_eq_some_iff.mp H
  obtain ⟨t980, A40, H⟩ := H
  replace H : ((slices_Clone_int_int.f t980).bind fun t983 => (some (t983, true))) = some (r1, r2) := H
  have A4 := Aside0.mk A40
  clear A40
  replace H := Option.bind_eq_some_iff.mp H
  obtain ⟨t983, A50, H⟩ := H
  replace H : (some (t983, true)) = some (r1, r2) := H
  have A5 := Aside0.mk A50
  clear A50
  simp only [Option.some.injEq, Prod.mk.injEq] at H
  obtain ⟨rfl, rfl⟩ := H
  go_enter Try.func73, Try.ntmps73
  go_wp2_with (first | ((with_reducible refine gate_callee (f := 58) rfl ?_); refine goesA (some 5) Try.func58 #[.slice A0 l0.length c0] ?_; (with_reducible refine (impl_IsDots.calls k _ _ l0 true _ ?side1 ?side2 A2.out).mono ?_); (case side1 => repeat (first | exact HR0.out | (with_reducible refine Kd.C_alloc ?_ _) | (with_reducible refine Kd.C_drewN ?_ _) | (with_reducible refine Kd.C_drew ?_))); (case side2 => exact HC0.out); rintro e w' ⟨rfl, ⟨nd, rfl⟩⟩; refine ⟨_, rfl, ?_⟩) | ((with_reducible refine gate_callee (f := 128) rfl ?_); refine goesA (some 8) Try.func128 #[.slice A0 l0.length c0] ?_; (with_reducible refine (impl_least.calls k _ _ l0 t980 _ ?side1 ?side2 A4.out).mono ?_); (case side1 => repeat (first | exact HR0.out | (with_reducible refine Kd.C_alloc ?_ _) | (with_reducible refine Kd.C_drewN ?_ _) | (with_reducible refine Kd.C_drew ?_))); (case side2 => exact HC0.out); rintro e w6 ⟨v981, rfl, ho0, hb⟩; refine ⟨_, rfl, ?_⟩; have HO982 := lowR ho0 HB; replace HB := upB HB hb; (try clear hb); (try clear hb2); (try clear hk); (try clear hi); (try clear ho0); obtain ⟨Ao7, co7, eo7⟩ := Kd.R_slice HO982.out; subst eo7) | ((with_reducible refine gate_callee (f := 101) rfl ?_); refine goesA (some 9) Try.func101 #[.slice Ao7 t980.length co7] ?_; (with_reducible refine (slices_Clone_int_int.calls _ _ t980 t983 _ ?side1 ?side2 A5.out).mono ?_); (case side1 => exact atRC HO982); (case side2 => exact (Kd.R_reads' HO982.out).2.1); rintro e w8 ⟨v984, rfl, ho0, hb⟩; refine ⟨_, rfl, ?_⟩; have HO985 := Aside0.mk (Kd.R_lower (Kd.R_new' ho0 (ltR HO982)) (szB HB)); replace HO982 := eldRR HO982 ho0 hb; replace HB := upB HB hb; (try clear hb); (try clear hb2); (try clear hk); (try clear hi); (try clear ho0)))
  go_ret2
  exact ⟨_, eqr, by (with_reducible repeat (first | apply Kd.R_alloc | apply Kd.R_drewN | apply Kd.R_drew)); exact Kd.R_mono HO985.out (fun _ hk => trivial), atB HB⟩
 ·replace c3 := Bool.eq_false_iff.mpr c3
  subst c3
  have H1 : (some (([] : List Int), false)) = some (r1, r2) := by rw [if_neg (show ¬ (false = true) by decide)] at H; exact H
  clear H
  have H := H1
  clear H1
  simp only [Option.some.injEq, Prod.mk.injEq] at H
  obtain ⟨rfl, rfl⟩ := H
  go_enter Try.func73, Try.ntmps73
  go_wp2_with (first | ((with_reducible refine gate_callee (f := 58) rfl ?_); refine goesA (some 5) Try.func58 #[.slice A0 l0.length c0] ?_; (with_reducible refine (impl_IsDots.calls k _ _ l0 false _ ?side1 ?side2 A2.out).mono ?_); (case side1 => repeat (first | exact HR0.out | (with_reducible refine Kd.C_alloc ?_ _) | (with_reducible refine Kd.C_drewN ?_ _) | (with_reducible refine Kd.C_drew ?_))); (case side2 => exact HC0.out); rintro e w' ⟨rfl, ⟨nd, rfl⟩⟩; refine ⟨_, rfl, ?_⟩))
  go_ret2
  exact ⟨_, eqr, by first | exact Kd.R_nil _ _ _ _ _ | exact Kd.N_nil _ _ _ _ _ | exact Kd.V_nil _ _ _ _ _ | exact Kd.Q_nil _ _ _ _ _ | exact Kd.S_nil _ _ _ _ _, atB HB⟩
noncomputable def impl_LeastDots.F (l0 : List Int) : Option (List Int × Bool) := lim fun k => impl_LeastDots.f k l0
theorem impl_LeastDots.F_lim (l0 : List Int) : Lim (fun k => impl_LeastDots.f k l0) (impl_LeastDots.F l0) := Lim.of fun k => impl_LeastDots.mono l0 k
theorem impl_LeastDots.F_eq (l0 : List Int) : impl_LeastDots.F l0 = ((impl_IsDots.F l0).bind fun t979 => (if t979 = true then ((impl_least.F l0).bind fun t980 => ((slices_Clone_int_int.f t980).bind fun t983 => (some (t983, true)))) else (some (([] : List Int), false)))) :=
 Lim.unique (impl_LeastDots.F_lim l0) (by
  unfold impl_LeastDots.f
  repeat' (first | (with_reducible first | exact Lim.const _ | exact impl_IsDots.F_lim _ | exact impl_least.F_lim | refine Lim.ite ?_ ?_ | refine Lim.bind ?_ (fun _ => ?_))))
/-! ### spec_l1Cur_among: function 109 -/
def spec_l1Cur_among.f (s0_0 : List Int) (s0_1 : Int) (s0_2 : Int) (l1 : List Int) : Option (Int × Int × Int) := (spec_l1Cur_pick.f s0_0 s0_1 s0_2 (l1.length : Int)).bind fun bt115 => (if 0 ≤ bt115.1 then (if bt115.1 < (l1.length : Int) then (some (rd l1 bt115.1, bt115.2.1, bt115.2.2)) else (none)) else (none))
set_option maxHeartbeats 8000000 in
set_option maxRecDepth 100000 in
theorem spec_l1Cur_among.calls (g : Nat) (s0_0 : List Int) (s0_1 : Int) (s0_2 : Int) (A1 : Option Addr) (c1 : Nat) (l1 : List Int) (r1 : Int) (r2 : Int) (r3 : Int) (w0 w : World) (hI : IsS68 w0 w g s0_0 s0_1 s0_2) (hB : Below w0.heap.size w0 w) (hr1 : Kd.C (Kd.int .i64) w A1 l1.length l1) (hc1 : l1.length ≤ c1) (hf1 : ∀ ad, A1 = some ad → 0 < l1.length → ad.block ≠ g) (h : spec_l1Cur_among.f s0_0 s0_1 s0_2 l1 = some (r1, r2, r3)) :
  Calls Try.prog 109 #[.pointer (some ⟨g, 0, none⟩), .slice A1 l1.length c1] w fun e w' => e = .returned (.int .i64 r1) ∧ IsS68 w0 w' g s0_0 r2 r3 ∧ Below w0.heap.size w0 w' ∧ KeepBut w w' g none := by
 have HR1 := Aside0.mk hr1
 have HC1 := Aside0.mk hc1
 clear hr1 hc1
 have HI0 := Aside0.mk hI
 have HK := Aside0.mk (KeepBut.refl w g none)
 have HL := Aside0.mk hB.size
 clear hI
 have HW0 := Aside0.mk hB.size
 have HB := Aside0.mk hB
 clear hB
 have H := h
 unfold spec_l1Cur_among.f at H
 clear h
 replace H := Option.bind_eq_some_iff.mp H
 obtain ⟨⟨t115, t116, t117⟩, A30, H⟩ := H
 replace H : (if 0 ≤ t115 then (if t115 < (l1.length : Int) then (some (rd l1 t115, t116, t117)) else (none)) else (none)) = some (r1, r2, r3) := H
 have A3 := Aside0.mk A30
 clear A30
 by_cases c4 : 0 ≤ t115
 ·rw [if_pos c4] at H
  have c4b0 : decide (0 ≤ t115) = true := decide_eq_true c4
  clear c4
  by_cases c5 : t115 < (l1.length : Int)
  ·rw [if_pos c5] at H
   have c5b0 : decide (t115 < (l1.length : Int)) = true := decide_eq_true c5
   clear c5
   simp only [Option.some.injEq, Prod.mk.injEq] at H
   obtain ⟨rfl, rfl, rfl⟩ := H
   go_enter Try.func109, Try.ntmps109
   go_wp2_with (first | ((with_reducible refine gate_callee (f := 97) rfl ?_); refine goesA (some 9) Try.func97 #[.pointer (some ⟨g, 0, none⟩), .int .i64 (l1.length : Int)] ?_; (with_reducible refine (spec_l1Cur_pick.calls g s0_0 s0_1 s0_2 (l1.length : Int) t115 t116 t117 w0 _ ?side1 ?side2 A3.out).mono ?_); (case side1 => exact IsS68.at HI0); (case side2 => exact atB HB); rintro e w6 ⟨rfl, hi, hb, hk⟩; refine ⟨_, rfl, ?_⟩; replace HK := upK HK hk; replace HB := Aside0.mk (hb); replace HI0 := Aside0.mk (hi); (try clear hb); (try clear hb2); (try clear hk); (try clear hi); have p118 : 0 ≤ (t115 : Int) := ofd; have q118 : t115 < (l1.length : Int) := ofd; obtain ⟨ad118, e118, hx118_0⟩ := Kd.at_int HR1.out t115 p118 q118; cases e118; replace hx118_0 := keep_cell HK.out hx118_0 (by first | (rw [add_block]; exact hf1 _ rfl (by omega)) | exact hf1 _ rfl (by omega) | exact hf1 ad118 rfl (by omega)); replace p118 := eq_true p118; replace q118 := eq_true q118))
   go_ret
   exact ⟨eqr, IsS68.at HI0, atB HB, atK HK⟩
  ·rw [if_neg c5] at H
   exact absurd H (by simp)
 ·rw [if_neg c4] at H
  exact absurd H (by simp)
/-! ### spec_doPrime: function 161 -/
def spec_doPrime.f (k : Nat) (a0 : Int) : Option (Bool) := (spec_l1Has.f k (([3, 5, 7, 11, 13] : List Int)) a0).bind fun t674 => (some t674)
theorem spec_doPrime.mono : ∀ a0 k, LeO (spec_doPrime.f k a0) (spec_doPrime.f (k + 1) a0) := by
 intro a0 k
 unfold spec_doPrime.f
 repeat' (first | (with_reducible first | exact spec_l1Has.mono _ _ _ | exact LeO.refl _ | exact LeO.none _ | refine LeO.ite ?_ ?_ | refine LeO.bind ?_ (fun _ => ?_)) | exact spec_l1Has.mono _ _ _ | exact LeO.none _ | refine LeO.ite ?_ ?_ | refine LeO.bind ?_ (fun _ => ?_))
set_option maxHeartbeats 8000000 in
set_option maxRecDepth 100000 in
theorem spec_doPrime.calls (k : Nat) (a0 : Int) (r : Bool) (w : World) (h : spec_doPrime.f k a0 = some r) :
  Calls Try.prog 161 #[.int .i64 a0] w fun e w' => e = .returned (.bool r) ∧ Below w.heap.size w w' := by
 have HB := Aside0.mk (Below.refl w.heap.size w)
 have H := h
 unfold spec_doPrime.f at H
 clear h
 obtain ⟨y671, hy671⟩ : ∃ y_ : List Int, y_ = (([3, 5, 7, 11, 13] : List Int)) := ⟨_, rfl⟩
 replace H : ((spec_l1Has.f k y671 a0).bind fun t674 => (some t674)) = some r := by first | (rw [hy671]; with_reducible exact H) | (have H2_ := (Option.bind_some _ _).symm.trans H; rw [hy671]; with_reducible exact H2_) | (have H2_ := (Option.bind_some _ _).symm.trans H; with_reducible exact H2_) | with_reducible exact H | (rw [hy671]; exact H) | exact H
 have Ny671 := Aside0.mk hy671
 clear hy671
 replace H := Option.bind_eq_some_iff.mp H
 obtain ⟨t674, A20, H⟩ := H
 replace H : (some t674) = some r := H
 have A2 := Aside0.mk A20
 clear A20
 obtain rfl := Option.some.inj H
 go_enter Try.func161, Try.ntmps161
 go_wp2_with (first | ((with_reducible refine gate_dst (N := 3) rfl ?_); refine Kd.R_lit (Kd.int .i64) _ 3 ?hg (N := 3) ?hd (xs := ([3, 5, 7, 11, 13] : List Int)) (inner := [.int .i64 3, .int .i64 5, .int .i64 7, .int .i64 11, .int .i64 13]) (ok := fun _ => True) (okp := fun _ => True) ?hr ?hp (fun _ hk => hk) trivial (Below.refl _ _) (Nat.le_refl _) (by simp) ?_; (case hd => rfl); (case hg => rfl); (case hr => first | (go_simp; done) | (go_simp; rfl)); (case hp => exact repsI _); intro v672 w3 ho4 hb hg_ hnew_; clear hg_ hnew_; (first | rw [← Ny671.out] at ho4 | (simp only [Int.reduceToNat] at ho4; rw [← Ny671.out] at ho4)); have HO673 := lowR ho4 HB; replace HB := upB HB hb; clear hb ho4; obtain ⟨Ao5, co5, eo5⟩ := Kd.R_slice HO673.out; subst eo5) | ((with_reducible refine gate_callee (f := 134) rfl ?_); refine goesA (some 5) Try.func134 #[.slice Ao5 y671.length co5, .int .i64 a0] ?_; (with_reducible refine (spec_l1Has.calls k _ _ y671 a0 t674 _ ?side1 ?side2 A2.out).mono ?_); (case side1 => exact atRC HO673); (case side2 => exact (Kd.R_reads' HO673.out).2.1); rintro e w' ⟨rfl, ⟨nd, rfl⟩⟩; refine ⟨_, rfl, ?_⟩))
 go_ret
 exact ⟨eqr, atB HB⟩
/-! ### spec_doPowers: function 163 -/
def spec_doPowers.l0 : Nat → Int → Int → List Int → Option (List Int)
 | 0, _, _, _ => none
 | k + 1, x0, x1, x5 => if (x5.length : Int) < (wrap64 (x0 - 1)) then (if 0 ≤ (wrap64 ((x5.length : Int) - 1)) then (if (wrap64 ((x5.length : Int) - 1)) < (x5.length : Int) then (if x0 = 0 then (none) else (if x5.length < 17592186044416 then (spec_doPowers.l0 k x0 x1 (x5 ++ [Int.tmod (wrap64 ((rd x5 (wrap64 ((x5.length : Int) - 1))) * x1)) x0])) else (none))) else (none)) else (none)) else (some x5)
def spec_doPowers.f (k : Nat) (a0 : Int) (a1 : Int) : Option (List Int) := spec_doPowers.l0 k a0 a1 (([1] : List Int))
theorem spec_doPowers.mono_l : ∀ k, (∀ y0 y1 y2, LeO (spec_doPowers.l0 k y0 y1 y2) (spec_doPowers.l0 (k + 1) y0 y1 y2))
 | 0 => fun _ _ _ r h => by simp [spec_doPowers.l0] at h
 | k + 1 => by
  have ih0 := spec_doPowers.mono_l k
  ·intro y0 y1 y2
   unfold spec_doPowers.l0
   repeat' (first | (with_reducible first | exact ih0 _ _ _ | exact LeO.refl _ | exact LeO.none _ | refine LeO.ite ?_ ?_ | refine LeO.bind ?_ (fun _ => ?_)) | exact ih0 _ _ _ | exact LeO.none _ | refine LeO.ite ?_ ?_ | refine LeO.bind ?_ (fun _ => ?_))
theorem spec_doPowers.mono : ∀ a0 a1 k, LeO (spec_doPowers.f k a0 a1) (spec_doPowers.f (k + 1) a0 a1) := by
 intro a0 a1 k
 have ih0 := spec_doPowers.mono_l k
 unfold spec_doPowers.f
 repeat' (first | (with_reducible first | exact ih0 _ _ _ | exact LeO.refl _ | exact LeO.none _ | refine LeO.ite ?_ ?_ | refine LeO.bind ?_ (fun _ => ?_)) | exact ih0 _ _ _ | exact LeO.none _ | refine LeO.ite ?_ ?_ | refine LeO.bind ?_ (fun _ => ?_))
set_option maxHeartbeats 8000000 in
set_option maxRecDepth 100000 in
theorem spec_doPowers.calls (k : Nat) (a0 : Int) (a1 : Int) (r : List Int) (w : World) (h : spec_doPowers.f k a0 a1 = some r) :
  Calls Try.prog 163 #[.int .i64 a0, .int .i64 a1] w fun e w' => ∃ v0_ : Value, e = .returned (v0_) ∧ Kd.R (Kd.int .i64) 3 w' w.heap.size (fun _ => True) v0_ r ∧ Below w.heap.size w w' := by
 have HB := Aside0.mk (Below.refl w.heap.size w)
 have H := h
 unfold spec_doPowers.f at H
 clear h
 obtain ⟨y675, hy675⟩ : ∃ y_ : List Int, y_ = (([1] : List Int)) := ⟨_, rfl⟩
 replace H : (spec_doPowers.l0 k a0 a1 y675) = some r := by first | (rw [hy675]; with_reducible exact H) | (have H2_ := (Option.bind_some _ _).symm.trans H; rw [hy675]; with_reducible exact H2_) | (have H2_ := (Option.bind_some _ _).symm.trans H; with_reducible exact H2_) | with_reducible exact H | (rw [hy675]; exact H) | exact H
 have Ny675 := Aside0.mk hy675
 clear hy675
 have H' := Aside0.mk H
 clear H
 go_enter Try.func163, Try.ntmps163
 go_wp2_with (first | ((with_reducible refine gate_dst (N := 6) rfl ?_); refine Kd.R_lit (Kd.int .i64) _ 3 ?hg (N := 6) ?hd (xs := ([1] : List Int)) (inner := [.int .i64 1]) (ok := fun _ => True) (okp := fun _ => True) ?hr ?hp (fun _ hk => hk) trivial (Below.refl _ _) (Nat.le_refl _) (by simp) ?_; (case hd => rfl); (case hg => rfl); (case hr => first | (go_simp; done) | (go_simp; rfl)); (case hp => exact repsI _); intro v676 w3 ho4 hb hg_ hnew_; clear hg_ hnew_; (first | rw [← Ny675.out] at ho4 | (simp only [Int.reduceToNat] at ho4; rw [← Ny675.out] at ho4)); have HO677 := lowR ho4 HB; replace HB := upB HB hb; clear hb ho4))
 go_loopg [5] k (fun kq v5 w' => ∃ (x5_1 : List Int), Aside0 (spec_doPowers.l0 kq a0 a1 x5_1 = some r) ∧ Aside0 (kq ≤ k) ∧ Aside0 (Kd.R (Kd.int .i64) 3 w' w.heap.size (fun _ => True) v5 x5_1) ∧ Aside0 (Below w.heap.size w w'))
 case atStart => exact ⟨(y675), H', ⟨Nat.le_refl _⟩, ⟨atR HO677⟩, ⟨atB HB⟩⟩
 case round =>
  clear H'
  try clear c1
  try clear p2
  obtain ⟨x5_1, HA, HK1, HO_5, HB⟩ := hrel
  cases gk with
  | zero => exact absurd HA.out (by simp [spec_doPowers.l0])
  | succ k1 =>
   have H := HA.out
   clear HA
   simp only [spec_doPowers.l0] at H
   by_cases c5 : (x5_1.length : Int) < (wrap64 (a0 - 1))
   ·rw [if_pos c5] at H
    have c5b0 : decide ((x5_1.length : Int) < (wrap64 (a0 - 1))) = true := decide_eq_true c5
    clear c5
    obtain ⟨ji6, hji6⟩ : ∃ j_ : Int, (wrap64 ((x5_1.length : Int) - 1)) = j_ := ⟨_, rfl⟩
    replace H : (if 0 ≤ (ji6) then (if (ji6) < (x5_1.length : Int) then (if a0 = 0 then (none) else (if x5_1.length < 17592186044416 then (spec_doPowers.l0 k1 a0 a1 (x5_1 ++ [Int.tmod (wrap64 ((rd x5_1 (ji6)) * a1)) a0])) else (none))) else (none)) else (none)) = some r := by first | (rw [hji6] at H; exact H) | (simp only [hji6] at H ⊢; exact H)
    have hji6w : (IntKind.i64.wrap ((x5_1.length : Int) - 1)) = ji6 := (i64_w _).trans hji6
    by_cases c7 : 0 ≤ (ji6)
    ·rw [if_pos c7] at H
     have c7b0 : decide (0 ≤ (ji6)) = true := decide_eq_true c7
     clear c7
     by_cases c8 : (ji6) < (x5_1.length : Int)
     ·rw [if_pos c8] at H
      have c8b0 : decide ((ji6) < (x5_1.length : Int)) = true := decide_eq_true c8
      clear c8
      by_cases c9 : a0 = 0
      ·rw [if_pos c9] at H
       exact absurd H (by simp)
      ·rw [if_neg c9] at H
       have c9b0 : (a0 == 0) = false := beq_eq_false_iff_ne.mpr c9
       have c9b1 : (a0 != 0) = true := bne_iff_ne.mpr c9
       by_cases c10 : x5_1.length < 17592186044416
       ·rw [if_pos c10] at H
        have LMc10 := Aside0.mk c10
        clear c10
        obtain ⟨y679, hy679⟩ : ∃ y_ : List Int, y_ = (x5_1 ++ [Int.tmod (wrap64 ((rd x5_1 (ji6)) * a1)) a0]) := ⟨_, rfl⟩
        replace H : (spec_doPowers.l0 k1 a0 a1 y679) = some r := by first | (rw [hy679]; with_reducible exact H) | (have H2_ := (Option.bind_some _ _).symm.trans H; rw [hy679]; with_reducible exact H2_) | (have H2_ := (Option.bind_some _ _).symm.trans H; with_reducible exact H2_) | with_reducible exact H | (rw [hy679]; exact H) | exact H
        have Ny679 := Aside0.mk hy679
        clear hy679
        have H' := Aside0.mk H
        clear H
        obtain ⟨Ao11, co11, eo11⟩ := Kd.R_slice HO_5.out
        subst eo11
        have p678 : 0 ≤ ((ji6) : Int) := ofd
        have q678 : (ji6) < (x5_1.length : Int) := ofd
        obtain ⟨ad678, e678, hx678_0⟩ := Kd.at_int (Kd.R_reads' HO_5.out).2.2 (ji6) p678 q678
        cases e678
        replace p678 := eq_true p678
        replace q678 := eq_true q678
        go_wp2_with (first | ((with_reducible refine gate_builtin (b := .append) (xs := #[.tmp 12, .tmp 23]) rfl ?_); at_builtin; refine Kd.R_append (Kd.int .i64) (w0 := w) w.heap.size rfl (.tmp 12) (.tmp 23) 24 3 (.int .i64 0) 8 rfl Try.underlying24 info3 rfl (by decide) (by omega) (.slice (some ad678) x5_1.length co11) x5_1 (Int.tmod (wrap64 ((rd x5_1 (ji6)) * a1)) a0) [.int .i64 (Int.tmod (wrap64 ((rd x5_1 (ji6)) * a1)) a0)] (fun _ => True) (fun _ => False) rfl rfl ?aP (fun _ hk => hk.elim) ?aF ?aO ?aB ?aS ?aL ?_; (case aP => exact rfl); (case aB => exact (atB HB)); (case aF => exact (fun _ _ => trivial)); (case aO => exact (atR HO_5)); (case aS => exact (szB HB)); (case aL => have := LMc10.out; omega); intro v680 w12 ho hb hg hat; rw [← Ny679.out] at ho; have HO681 := Aside0.mk (ho); replace HB := Aside0.mk (hb); clear HO_5; clear ho hb hg hat))
        first | go_roundg k1 | ((try subst hji6); go_roundg k1)
        case measure => have := HK1.out; omega
        case rel => exact ⟨(y679), H', ⟨by have := HK1.out; omega⟩, ⟨atR HO681⟩, ⟨atB HB⟩⟩
       ·rw [if_neg c10] at H
        exact absurd H (by simp)
     ·rw [if_neg c8] at H
      exact absurd H (by simp)
    ·rw [if_neg c7] at H
     exact absurd H (by simp)
   ·rw [if_neg c5] at H
    have c5b0 : decide ((x5_1.length : Int) < (wrap64 (a0 - 1))) = false := decide_eq_false c5
    clear c5
    obtain rfl := Option.some.inj H
    obtain ⟨Ao13, co13, eo13⟩ := Kd.R_slice HO_5.out
    subst eo13
    go_wp2
    go_ret
    exact ⟨_, eqr, atR HO_5, atB HB⟩
/-! ### spec_doRoot: function 162 -/
def spec_doRoot.l0 : Nat → List Int → List Int → Int → Int → Option (Bool)
 | 0, _, _, _, _ => none
 | k + 1, x5, x16, x17, x18 => if x18 < x17 then (if 0 ≤ x18 then (if x18 < (x16.length : Int) then (if x18 ≤ (x5.length : Int) then ((spec_l1Has.f k (x5.take (x18 : Int).toNat) (rd x16 x18)).bind fun t691 => (if t691 = true then (some false) else (spec_doRoot.l0 k x5 x16 x17 (wrap64 (x18 + 1))))) else (none)) else (none)) else (none)) else (some true)
def spec_doRoot.f (k : Nat) (a0 : Int) (a1 : Int) : Option (Bool) := (spec_l1In.f a1 2 (wrap64 (a0 - 1))).bind fun t682 => (if t682 = true then ((spec_doPowers.f k a0 a1).bind fun t683 => (spec_doRoot.l0 k t683 t683 (t683.length : Int) 0)) else (some false))
theorem spec_doRoot.mono_l : ∀ k, (∀ y0 y1 y2 y3, LeO (spec_doRoot.l0 k y0 y1 y2 y3) (spec_doRoot.l0 (k + 1) y0 y1 y2 y3))
 | 0 => fun _ _ _ _ r h => by simp [spec_doRoot.l0] at h
 | k + 1 => by
  have ih0 := spec_doRoot.mono_l k
  ·intro y0 y1 y2 y3
   unfold spec_doRoot.l0
   repeat' (first | (with_reducible first | exact ih0 _ _ _ _ | exact spec_l1Has.mono _ _ _ | exact LeO.refl _ | exact LeO.none _ | refine LeO.ite ?_ ?_ | refine LeO.bind ?_ (fun _ => ?_)) | exact ih0 _ _ _ _ | exact spec_l1Has.mono _ _ _ | exact LeO.none _ | refine LeO.ite ?_ ?_ | refine LeO.bind ?_ (fun _ => ?_))
theorem spec_doRoot.mono : ∀ a0 a1 k, LeO (spec_doRoot.f k a0 a1) (spec_doRoot.f (k + 1) a0 a1) := by
 intro a0 a1 k
 have ih0 := spec_doRoot.mono_l k
 unfold spec_doRoot.f
 repeat' (first | (with_reducible first | exact ih0 _ _ _ _ | exact spec_doPowers.mono _ _ _ | exact LeO.refl _ | exact LeO.none _ | refine LeO.ite ?_ ?_ | refine LeO.bind ?_ (fun _ => ?_)) | exact ih0 _ _ _ _ | exact spec_doPowers.mono _ _ _ | exact LeO.none _ | refine LeO.ite ?_ ?_ | refine LeO.bind ?_ (fun _ => ?_))
set_option maxHeartbeats 8000000 in
set_option maxRecDepth 100000 in
theorem spec_doRoot.calls (k : Nat) (a0 : Int) (a1 : Int) (r : Bool) (w : World) (h : spec_doRoot.f k a0 a1 = some r) :
  Calls Try.prog 162 #[.int .i64 a0, .int .i64 a1] w fun e w' => e = .returned (.bool r) ∧ Below w.heap.size w w' := by
 have HB := Aside0.mk (Below.refl w.heap.size w)
 have H := h
 unfold spec_doRoot.f at H
 clear h
 replace H := Option.bind_eq_some_iff.mp H
 obtain ⟨t682, A30, H⟩ := H
 replace H : (if t682 = true then ((spec_doPowers.f k a0 a1).bind fun t683 => (spec_doRoot.l0 k t683 t683 (t683.length : Int) 0)) else (some false)) = some r := H
 have A3 := Aside0.mk A30
 clear A30
 by_cases c4 : t682 = true
 ·subst c4
  have H1 : ((spec_doPowers.f k a0 a1).bind fun t683 => (spec_doRoot.l0 k t683 t683 (t683.length : Int) 0)) = some r := by rw [if_pos rfl] at H; exact H
  clear H
  have H := H1
  clear H1
  replace H := Option.bind_eq_some_iff.mp H
  obtain ⟨t683, A50, H⟩ := H
  replace H : (spec_doRoot.l0 k t683 t683 (t683.length : Int) 0) = some r := H
  have A5 := Aside0.mk A50
  clear A50
  have H' := Aside0.mk H
  clear H
  go_enter Try.func162, Try.ntmps162
  go_wp2_with (first | ((with_reducible refine gate_callee (f := 102) rfl ?_); refine goesA (some 11) Try.func102 #[.int .i64 a1, .int .i64 2, .int .i64 (wrap64 (a0 - 1))] ?_; (with_reducible refine (spec_l1In.calls a1 2 (wrap64 (a0 - 1)) true _ A3.out).mono ?_); rintro e w' ⟨rfl, ⟨nd, rfl⟩⟩; refine ⟨_, rfl, ?_⟩) | ((with_reducible refine gate_callee (f := 163) rfl ?_); refine goesA (some 15) Try.func163 #[.int .i64 a0, .int .i64 a1] ?_; (with_reducible refine (spec_doPowers.calls k a0 a1 t683 _ A5.out).mono ?_); rintro e w6 ⟨v684, rfl, ho0, hb⟩; refine ⟨_, rfl, ?_⟩; have HO685 := lowR ho0 HB; replace HB := upB HB hb; (try clear hb); (try clear hb2); (try clear hk); (try clear hi); (try clear ho0); obtain ⟨Ao7, co7, eo7⟩ := Kd.R_slice HO685.out; subst eo7))
  go_loopg [18] k (fun kq v18 w' => ∃ (x18_1 : Int), v18 = .int .i64 x18_1 ∧ Aside0 (spec_doRoot.l0 kq t683 t683 (t683.length : Int) x18_1 = some r) ∧ Aside0 (kq ≤ k) ∧ Aside0 (Kd.R (Kd.int .i64) 3 w' w.heap.size (fun _ => True) (.slice Ao7 t683.length co7) t683) ∧ Aside0 (Kd.R (Kd.int .i64) 3 w' w.heap.size (fun _ => True) (.slice Ao7 t683.length co7) t683) ∧ Aside0 (Below w.heap.size w w'))
  case atStart => exact ⟨(0), eqd, H', ⟨Nat.le_refl _⟩, ⟨atR HO685⟩, ⟨atR HO685⟩, ⟨atB HB⟩⟩
  case round =>
   clear H'
   try clear c1
   try clear p2
   try clear c4
   try clear p6
   obtain ⟨x18_1, rfl, HA, HK1, HO_5, HO_16, HB⟩ := hrel
   cases gk with
   | zero => exact absurd HA.out (by simp [spec_doRoot.l0])
   | succ k1 =>
    have H := HA.out
    clear HA
    simp only [spec_doRoot.l0] at H
    by_cases c8 : x18_1 < (t683.length : Int)
    ·rw [if_pos c8] at H
     have c8b0 : decide (x18_1 < (t683.length : Int)) = true := decide_eq_true c8
     clear c8
     by_cases c9 : 0 ≤ x18_1
     ·rw [if_pos c9] at H
      have c9b0 : decide (0 ≤ x18_1) = true := decide_eq_true c9
      clear c9
      by_cases c10 : x18_1 < (t683.length : Int)
      ·rw [if_pos c10] at H
       have c10b0 : decide (x18_1 < (t683.length : Int)) = true := decide_eq_true c10
       clear c10
       have c11b0 := eq_true (of_decide_eq_true (by first | (with_reducible assumption) | assumption) : 0 ≤ x18_1)
       by_cases c12 : x18_1 ≤ (t683.length : Int)
       ·rw [if_pos c12] at H
        have c12b0 := eq_true c12
        have c12b1 : decide (x18_1 ≤ (t683.length : Int)) = true := decide_eq_true c12
        clear c12
        obtain ⟨y687, hy687⟩ : ∃ y_ : List Int, y_ = (t683.take (x18_1 : Int).toNat) := ⟨_, rfl⟩
        replace H : ((spec_l1Has.f k1 y687 (rd t683 x18_1)).bind fun t691 => (if t691 = true then (some false) else (spec_doRoot.l0 k1 t683 t683 (t683.length : Int) (wrap64 (x18_1 + 1))))) = some r := by first | (rw [hy687]; with_reducible exact H) | (have H2_ := (Option.bind_some _ _).symm.trans H; rw [hy687]; with_reducible exact H2_) | (have H2_ := (Option.bind_some _ _).symm.trans H; with_reducible exact H2_) | with_reducible exact H | (rw [hy687]; exact H) | exact H
        have Ny687 := Aside0.mk hy687
        clear hy687
        replace H := Option.bind_eq_some_iff.mp H
        obtain ⟨t691, A130, H⟩ := H
        replace H : (if t691 = true then (some false) else (spec_doRoot.l0 k1 t683 t683 (t683.length : Int) (wrap64 (x18_1 + 1)))) = some r := H
        have A13 := Aside0.mk A130
        clear A130
        by_cases c14 : t691 = true
        ·subst c14
         have H1 : (some false) = some r := by rw [if_pos rfl] at H; exact H
         clear H
         have H := H1
         clear H1
         obtain rfl := Option.some.inj H
         have p686 : 0 ≤ (x18_1 : Int) := ofd
         have q686 : x18_1 < (t683.length : Int) := ofd
         obtain ⟨ad686, e686, hx686_0⟩ := Kd.at_int (Kd.R_reads' HO_16.out).2.2 x18_1 p686 q686
         cases e686
         replace p686 := eq_true p686
         replace q686 := eq_true q686
         have q15 : (x18_1 : Int) ≤ ((t683.length : Int) : Int) := ofd
         obtain ⟨i015, hi015, _, hsz15, _⟩ := info_parts info3
         have hroom15 : t683.length ≤ co7 := (Kd.R_reads' HO_5.out).2.1
         have hC15 : Kd.C (Kd.int .i64) _ (some ad686) t683.length t683 := (Kd.R_reads' HO_5.out).2.2
         have hcut15 := cut_to (P := Try.prog) 24 3 .i64 Try.underlying24 hi015 (some ad686) t683.length co7 x18_1 (of_decide_eq_true (by first | (with_reducible assumption) | assumption)) q15 hroom15
         have hr15 := Kd.C_take (m := (x18_1 : Int).toNat) hC15 (by omega)
         have hy15 : y687.length = (x18_1 : Int).toNat := (by rw [Ny687.out, List.length_take]; omega)
         rw [← Ny687.out] at hr15
         rw [← hy15] at hcut15
         have HR690 := Aside0.mk hr15
         have HC690 := Aside0.mk (show y687.length ≤ co7 from by omega)
         clear hr15 hC15 hroom15 hi015 hsz15
         have KY15 := Aside0.mk hy15
         clear hy15
         have KL15 := Aside0.mk (show (x18_1 : Int).toNat ≤ t683.length from by omega)
         replace q15 := eq_true q15
         go_wp2_with (first | ((with_reducible refine gate_callee (f := 134) rfl ?_); refine goesA (some 27) Try.func134 #[.slice (some ad686) y687.length co7, .int .i64 (rd t683 x18_1)] ?_; (with_reducible refine (spec_l1Has.calls k1 _ _ y687 (rd t683 x18_1) true _ ?side1 ?side2 A13.out).mono ?_); (case side1 => exact atC HR690); (case side2 => exact HC690.out); rintro e w' ⟨rfl, ⟨nd, rfl⟩⟩; refine ⟨_, rfl, ?_⟩))
         go_ret
         exact ⟨eqr, atB HB⟩
        ·replace c14 := Bool.eq_false_iff.mpr c14
         subst c14
         have H1 : (spec_doRoot.l0 k1 t683 t683 (t683.length : Int) (wrap64 (x18_1 + 1))) = some r := by rw [if_neg (show ¬ (false = true) by decide)] at H; exact H
         clear H
         have H := H1
         clear H1
         have H' := Aside0.mk H
         clear H
         have p686 : 0 ≤ (x18_1 : Int) := ofd
         have q686 : x18_1 < (t683.length : Int) := ofd
         obtain ⟨ad686, e686, hx686_0⟩ := Kd.at_int (Kd.R_reads' HO_16.out).2.2 x18_1 p686 q686
         cases e686
         replace p686 := eq_true p686
         replace q686 := eq_true q686
         have q16 : (x18_1 : Int) ≤ ((t683.length : Int) : Int) := ofd
         obtain ⟨i016, hi016, _, hsz16, _⟩ := info_parts info3
         have hroom16 : t683.length ≤ co7 := (Kd.R_reads' HO_5.out).2.1
         have hC16 : Kd.C (Kd.int .i64) _ (some ad686) t683.length t683 := (Kd.R_reads' HO_5.out).2.2
         have hcut16 := cut_to (P := Try.prog) 24 3 .i64 Try.underlying24 hi016 (some ad686) t683.length co7 x18_1 (of_decide_eq_true (by first | (with_reducible assumption) | assumption)) q16 hroom16
         have hr16 := Kd.C_take (m := (x18_1 : Int).toNat) hC16 (by omega)
         have hy16 : y687.length = (x18_1 : Int).toNat := (by rw [Ny687.out, List.length_take]; omega)
         rw [← Ny687.out] at hr16
         rw [← hy16] at hcut16
         have HR690 := Aside0.mk hr16
         have HC690 := Aside0.mk (show y687.length ≤ co7 from by omega)
         clear hr16 hC16 hroom16 hi016 hsz16
         have KY16 := Aside0.mk hy16
         clear hy16
         have KL16 := Aside0.mk (show (x18_1 : Int).toNat ≤ t683.length from by omega)
         replace q16 := eq_true q16
         go_wp2_with (first | ((with_reducible refine gate_callee (f := 134) rfl ?_); refine goesA (some 27) Try.func134 #[.slice (some ad686) y687.length co7, .int .i64 (rd t683 x18_1)] ?_; (with_reducible refine (spec_l1Has.calls k1 _ _ y687 (rd t683 x18_1) false _ ?side1 ?side2 A13.out).mono ?_); (case side1 => exact atC HR690); (case side2 => exact HC690.out); rintro e w' ⟨rfl, ⟨nd, rfl⟩⟩; refine ⟨_, rfl, ?_⟩))
         go_roundg k1
         case measure => have := HK1.out; omega
         case rel => exact ⟨(wrap64 (x18_1 + 1)), eqd, H', ⟨by have := HK1.out; omega⟩, ⟨atR HO_5⟩, ⟨atR HO_16⟩, ⟨atB HB⟩⟩
       ·rw [if_neg c12] at H
        exact absurd H (by simp)
      ·rw [if_neg c10] at H
       exact absurd H (by simp)
     ·rw [if_neg c9] at H
      exact absurd H (by simp)
    ·rw [if_neg c8] at H
     have c8b0 : decide (x18_1 < (t683.length : Int)) = false := decide_eq_false c8
     clear c8
     obtain rfl := Option.some.inj H
     go_wp2
     go_ret
     exact ⟨eqr, atB HB⟩
 ·replace c4 := Bool.eq_false_iff.mpr c4
  subst c4
  have H1 : (some false) = some r := by rw [if_neg (show ¬ (false = true) by decide)] at H; exact H
  clear H
  have H := H1
  clear H1
  obtain rfl := Option.some.inj H
  go_enter Try.func162, Try.ntmps162
  go_wp2_with (first | ((with_reducible refine gate_callee (f := 102) rfl ?_); refine goesA (some 11) Try.func102 #[.int .i64 a1, .int .i64 2, .int .i64 (wrap64 (a0 - 1))] ?_; (with_reducible refine (spec_l1In.calls a1 2 (wrap64 (a0 - 1)) false _ A3.out).mono ?_); rintro e w' ⟨rfl, ⟨nd, rfl⟩⟩; refine ⟨_, rfl, ?_⟩))
  go_ret
  exact ⟨eqr, atB HB⟩
/-! ### spec_PowersDots: function 148 -/
mutual
def spec_PowersDots.j0 : Nat → Int → Int → Bool → Option (List Int × Bool)
 | 0, _, _, _ => none
 | k + 1, x0, x1, x17 => if x17 = true then (some (([] : List Int), false)) else ((spec_doPowers.f k x0 x1).bind fun t694 => (spec_PowersDots.l0 k ([] : List Int) t694 (t694.length : Int) 0))
def spec_PowersDots.l0 : Nat → List Int → List Int → Int → Int → Option (List Int × Bool)
 | 0, _, _, _, _ => none
 | k + 1, x6, x20, x21, x22 => if x22 < x21 then (if 0 ≤ x22 then (if x22 < (x20.length : Int) then (if x6.length < 17592186044416 then (spec_PowersDots.l0 k (x6 ++ [wrap64 ((rd x20 x22) - 1)]) x20 x21 (wrap64 (x22 + 1))) else (none)) else (none)) else (none)) else (some (x6, true))
end
def spec_PowersDots.f (k : Nat) (a0 : Int) (a1 : Int) : Option (List Int × Bool) := (spec_doPrime.f k a0).bind fun t692 => (if t692 = true then ((spec_doRoot.f k a0 a1).bind fun t693 => (spec_PowersDots.j0 k a0 a1 (!t693))) else (spec_PowersDots.j0 k a0 a1 true))
theorem spec_PowersDots.mono_l : ∀ k, (∀ y0 y1 y2, LeO (spec_PowersDots.j0 k y0 y1 y2) (spec_PowersDots.j0 (k + 1) y0 y1 y2)) ∧ (∀ y0 y1 y2 y3, LeO (spec_PowersDots.l0 k y0 y1 y2 y3) (spec_PowersDots.l0 (k + 1) y0 y1 y2 y3))
 | 0 => ⟨fun _ _ _ r h => by simp [spec_PowersDots.j0] at h, fun _ _ _ _ r h => by simp [spec_PowersDots.l0] at h⟩
 | k + 1 => by
  obtain ⟨ih0, ih1⟩ := spec_PowersDots.mono_l k
  refine ⟨?_, ?_⟩
  ·intro y0 y1 y2
   unfold spec_PowersDots.j0
   repeat' (first | (with_reducible first | exact ih1 _ _ _ _ | exact spec_doPowers.mono _ _ _ | exact LeO.refl _ | exact LeO.none _ | refine LeO.ite ?_ ?_ | refine LeO.bind ?_ (fun _ => ?_)) | exact ih1 _ _ _ _ | exact spec_doPowers.mono _ _ _ | exact LeO.none _ | refine LeO.ite ?_ ?_ | refine LeO.bind ?_ (fun _ => ?_))
  ·intro y0 y1 y2 y3
   unfold spec_PowersDots.l0
   repeat' (first | (with_reducible first | exact ih1 _ _ _ _ | exact LeO.refl _ | exact LeO.none _ | refine LeO.ite ?_ ?_ | refine LeO.bind ?_ (fun _ => ?_)) | exact ih1 _ _ _ _ | exact LeO.none _ | refine LeO.ite ?_ ?_ | refine LeO.bind ?_ (fun _ => ?_))
theorem spec_PowersDots.mono : ∀ a0 a1 k, LeO (spec_PowersDots.f k a0 a1) (spec_PowersDots.f (k + 1) a0 a1) := by
 intro a0 a1 k
 obtain ⟨ih0, ih1⟩ := spec_PowersDots.mono_l k
 unfold spec_PowersDots.f
 repeat' (first | (with_reducible first | exact ih0 _ _ _ | exact spec_doPrime.mono _ _ | exact spec_doRoot.mono _ _ _ | exact LeO.refl _ | exact LeO.none _ | refine LeO.ite ?_ ?_ | refine LeO.bind ?_ (fun _ => ?_)) | exact ih0 _ _ _ | exact spec_doPrime.mono _ _ | exact spec_doRoot.mono _ _ _ | exact LeO.none _ | refine LeO.ite ?_ ?_ | refine LeO.bind ?_ (fun _ => ?_))
set_option maxHeartbeats 8000000 in
set_option maxRecDepth 100000 in
theorem spec_PowersDots.calls (k : Nat) (a0 : Int) (a1 : Int) (r1 : List Int) (r2 : Bool) (w : World) (h : spec_PowersDots.f k a0 a1 = some (r1, r2)) :
  Calls Try.prog 148 #[.int .i64 a0, .int .i64 a1] w fun e w' => ∃ v0_ : Value, e = .returned (.tuple #[v0_, .bool r2]) ∧ Kd.R (Kd.int .i64) 3 w' w.heap.size (fun _ => True) v0_ r1 ∧ Below w.heap.size w w' := by
 have HB := Aside0.mk (Below.refl w.heap.size w)
 have H := h
 unfold spec_PowersDots.f at H
 clear h
 have HC3 := Aside0.mk H
 clear H
 go_enter Try.func148, Try.ntmps148
 go_upto_region 1 with (fail)
 go_cut [17] (fun v17 wc => ∃ (kq : Nat) (x17_2 : Bool), v17 = .bool x17_2 ∧ Aside0 (spec_PowersDots.j0 kq a0 a1 x17_2 = some (r1, r2)) ∧ Aside0 (kq ≤ k) ∧ Aside0 (Below w.heap.size w wc))
 case first =>
  have H := HC3.out
  clear HC3
  replace H := Option.bind_eq_some_iff.mp H
  obtain ⟨t692, A40, H⟩ := H
  replace H : (if t692 = true then ((spec_doRoot.f k a0 a1).bind fun t693 => (spec_PowersDots.j0 k a0 a1 (!t693))) else (spec_PowersDots.j0 k a0 a1 true)) = some (r1, r2) := H
  have A4 := Aside0.mk A40
  clear A40
  by_cases c5 : t692 = true
  ·subst c5
   have H1 : ((spec_doRoot.f k a0 a1).bind fun t693 => (spec_PowersDots.j0 k a0 a1 (!t693))) = some (r1, r2) := by rw [if_pos rfl] at H; exact H
   clear H
   have H := H1
   clear H1
   replace H := Option.bind_eq_some_iff.mp H
   obtain ⟨t693, A60, H⟩ := H
   replace H : (spec_PowersDots.j0 k a0 a1 (!t693)) = some (r1, r2) := H
   have A6 := Aside0.mk A60
   clear A60
   have H' := Aside0.mk H
   clear H
   go_wp2_with (first | ((with_reducible refine gate_callee (f := 161) rfl ?_); refine goesA (some 10) Try.func161 #[.int .i64 a0] ?_; (with_reducible refine (spec_doPrime.calls k a0 true _ A4.out).mono ?_); rintro e w7 ⟨rfl, hb⟩; refine ⟨_, rfl, ?_⟩; replace HB := upB HB hb; (try clear hb); (try clear hb2); (try clear hk); (try clear hi)) | (go_at_call 162; (with_reducible refine (spec_doRoot.calls k a0 a1 t693 _ A6.out).mono ?_); rintro e w8 ⟨rfl, hb⟩; replace HB := upB HB hb; (try clear hb); (try clear hb2); (try clear hk); (try clear hi)))
   go_meet
   case rel => exact ⟨_, (!t693), eqd, H', ⟨leD⟩, ⟨atB HB⟩⟩
  ·replace c5 := Bool.eq_false_iff.mpr c5
   subst c5
   have H1 : (spec_PowersDots.j0 k a0 a1 true) = some (r1, r2) := by rw [if_neg (show ¬ (false = true) by decide)] at H; exact H
   clear H
   have H := H1
   clear H1
   have H' := Aside0.mk H
   clear H
   go_wp2_with (first | ((with_reducible refine gate_callee (f := 161) rfl ?_); refine goesA (some 10) Try.func161 #[.int .i64 a0] ?_; (with_reducible refine (spec_doPrime.calls k a0 false _ A4.out).mono ?_); rintro e w9 ⟨rfl, hb⟩; refine ⟨_, rfl, ?_⟩; replace HB := upB HB hb; (try clear hb); (try clear hb2); (try clear hk); (try clear hi)))
   go_meet
   case rel => exact ⟨_, (true), eqd, H', ⟨leD⟩, ⟨atB HB⟩⟩
 case rest =>
  clear HC3
  try clear c1
  try clear p2
  try clear c5
  obtain ⟨kq, x17_2, rfl, HA, HJ2, HB⟩ := hcut
  cases kq with
  | zero => exact absurd HA.out (by simp [spec_PowersDots.j0])
  | succ kj2 =>
   have H := HA.out
   clear HA
   simp only [spec_PowersDots.j0] at H
   by_cases c10 : x17_2 = true
   ·subst c10
    have H1 : (some (([] : List Int), false)) = some (r1, r2) := by rw [if_pos rfl] at H; exact H
    clear H
    have H := H1
    clear H1
    simp only [Option.some.injEq, Prod.mk.injEq] at H
    obtain ⟨rfl, rfl⟩ := H
    go_wp2
    go_ret2
    exact ⟨_, eqr, by first | exact Kd.R_nil _ _ _ _ _ | exact Kd.N_nil _ _ _ _ _ | exact Kd.V_nil _ _ _ _ _ | exact Kd.Q_nil _ _ _ _ _ | exact Kd.S_nil _ _ _ _ _, atB HB⟩
   ·replace c10 := Bool.eq_false_iff.mpr c10
    subst c10
    have H1 : ((spec_doPowers.f kj2 a0 a1).bind fun t694 => (spec_PowersDots.l0 kj2 ([] : List Int) t694 (t694.length : Int) 0)) = some (r1, r2) := by rw [if_neg (show ¬ (false = true) by decide)] at H; exact H
    clear H
    have H := H1
    clear H1
    replace H := Option.bind_eq_some_iff.mp H
    obtain ⟨t694, A110, H⟩ := H
    replace H : (spec_PowersDots.l0 kj2 ([] : List Int) t694 (t694.length : Int) 0) = some (r1, r2) := H
    have A11 := Aside0.mk A110
    clear A110
    have H' := Aside0.mk H
    clear H
    go_wp2_with (first | ((with_reducible refine gate_callee (f := 163) rfl ?_); refine goesA (some 20) Try.func163 #[.int .i64 a0, .int .i64 a1] ?_; (with_reducible refine (spec_doPowers.calls kj2 a0 a1 t694 _ A11.out).mono ?_); rintro e w12 ⟨v695, rfl, ho0, hb⟩; refine ⟨_, rfl, ?_⟩; have HO696 := lowR ho0 HB; replace HB := upB HB hb; (try clear hb); (try clear hb2); (try clear hk); (try clear hi); (try clear ho0); obtain ⟨Ao13, co13, eo13⟩ := Kd.R_slice HO696.out; subst eo13))
    go_loopg [6, 22] kj2 (fun kq v6 v22 w' => ∃ (x6_2 : List Int) (x22_2 : Int), v22 = .int .i64 x22_2 ∧ Aside0 (spec_PowersDots.l0 kq x6_2 t694 (t694.length : Int) x22_2 = some (r1, r2)) ∧ Aside0 (kq ≤ kj2) ∧ Aside0 (Kd.R (Kd.int .i64) 3 w' w.heap.size (fun k_ => some k_ ≠ ((.slice Ao13 t694.length co13) : Value).ownBlock) v6 x6_2) ∧ Aside0 (Kd.R (Kd.int .i64) 3 w' w.heap.size (fun k_ => some k_ ≠ (v6 : Value).ownBlock) (.slice Ao13 t694.length co13) t694) ∧ Aside0 (Below w.heap.size w w'))
    case atStart => exact ⟨(([] : List Int)), (0), eqd, H', ⟨Nat.le_refl _⟩, ⟨by first | exact Kd.R_nil _ _ _ _ _ | exact Kd.N_nil _ _ _ _ _ | exact Kd.V_nil _ _ _ _ _ | exact Kd.Q_nil _ _ _ _ _ | exact Kd.S_nil _ _ _ _ _⟩, ⟨by (with_reducible repeat (first | apply Kd.R_alloc | apply Kd.R_drewN | apply Kd.R_drew)); exact Kd.R_mono HO696.out (fun _ hk => (by simp [Value.ownBlock]))⟩, ⟨atB HB⟩⟩
    case round =>
     clear H'
     try clear c1
     try clear p2
     try clear c5
     try clear c10
     try clear p2
     obtain ⟨x6_2, x22_2, rfl, HA, HK2, HO_6, HO_20, HB⟩ := hrel
     cases gk with
     | zero => exact absurd HA.out (by simp [spec_PowersDots.l0])
     | succ k2 =>
      have H := HA.out
      clear HA
      simp only [spec_PowersDots.l0] at H
      by_cases c14 : x22_2 < (t694.length : Int)
      ·rw [if_pos c14] at H
       have c14b0 : decide (x22_2 < (t694.length : Int)) = true := decide_eq_true c14
       clear c14
       by_cases c15 : 0 ≤ x22_2
       ·rw [if_pos c15] at H
        have c15b0 : decide (0 ≤ x22_2) = true := decide_eq_true c15
        clear c15
        by_cases c16 : x22_2 < (t694.length : Int)
        ·rw [if_pos c16] at H
         have c16b0 : decide (x22_2 < (t694.length : Int)) = true := decide_eq_true c16
         clear c16
         by_cases c17 : x6_2.length < 17592186044416
         ·rw [if_pos c17] at H
          have LMc17 := Aside0.mk c17
          clear c17
          obtain ⟨y698, hy698⟩ : ∃ y_ : List Int, y_ = (x6_2 ++ [wrap64 ((rd t694 x22_2) - 1)]) := ⟨_, rfl⟩
          replace H : (spec_PowersDots.l0 k2 y698 t694 (t694.length : Int) (wrap64 (x22_2 + 1))) = some (r1, r2) := by first | (rw [hy698]; with_reducible exact H) | (have H2_ := (Option.bind_some _ _).symm.trans H; rw [hy698]; with_reducible exact H2_) | (have H2_ := (Option.bind_some _ _).symm.trans H; with_reducible exact H2_) | with_reducible exact H | (rw [hy698]; exact H) | exact H
          have Ny698 := Aside0.mk hy698
          clear hy698
          have H' := Aside0.mk H
          clear H
          have p697 : 0 ≤ (x22_2 : Int) := ofd
          have q697 : x22_2 < (t694.length : Int) := ofd
          obtain ⟨ad697, e697, hx697_0⟩ := Kd.at_int (Kd.R_reads' HO_20.out).2.2 x22_2 p697 q697
          cases e697
          replace p697 := eq_true p697
          replace q697 := eq_true q697
          go_wp2_with (first | ((with_reducible refine gate_builtin (b := .append) (xs := #[.tmp 26, .tmp 29]) rfl ?_); at_builtin; refine Kd.R_append (Kd.int .i64) (w0 := w) w.heap.size rfl (.tmp 26) (.tmp 29) 24 3 (.int .i64 0) 8 rfl Try.underlying24 info3 rfl (by decide) (by omega) u6 x6_2 (wrap64 ((rd t694 x22_2) - 1)) [.int .i64 (wrap64 ((rd t694 x22_2) - 1))] (fun k_ => some k_ ≠ (.slice (some ad697) t694.length co13 : Value).ownBlock) (fun _ => False) rfl rfl ?aP (fun _ hk => hk.elim) ?aF ?aO ?aB ?aS ?aL ?_; (case aP => exact rfl); (case aB => exact (atB HB)); (case aF => exact (fun k_ hk => Kd.fresh' (ltR HO_20) k_ hk)); (case aO => exact (atR HO_6)); (case aS => exact (szB HB)); (case aL => have := LMc17.out; omega); intro v699 w18 ho hb hg hat; rw [← Ny698.out] at ho; have HO700 := Aside0.mk (ho); replace HO_20 := Aside0.mk (Kd.R_after (ok := (fun _ => True)) (by (with_reducible repeat (first | apply Kd.R_alloc | apply Kd.R_drewN | apply Kd.R_drew)); exact Kd.R_mono HO_20.out (fun _ hk => ⟨trivial, hk⟩)) hg hat); replace HB := Aside0.mk (hb); clear HO_6; clear ho hb hg hat))
          go_roundg k2
          case measure => have := HJ2.out; have := HK2.out; omega
          case rel => exact ⟨(y698), (wrap64 (x22_2 + 1)), eqd, H', ⟨by have := HJ2.out; have := HK2.out; omega⟩, ⟨atR HO700⟩, ⟨by (with_reducible repeat (first | apply Kd.R_alloc | apply Kd.R_drewN | apply Kd.R_drew)); exact Kd.R_mono HO_20.out (fun _ hk => hk.2)⟩, ⟨atB HB⟩⟩
         ·rw [if_neg c17] at H
          exact absurd H (by simp)
        ·rw [if_neg c16] at H
         exact absurd H (by simp)
       ·rw [if_neg c15] at H
        exact absurd H (by simp)
      ·rw [if_neg c14] at H
       have c14b0 : decide (x22_2 < (t694.length : Int)) = false := decide_eq_false c14
       clear c14
       simp only [Option.some.injEq, Prod.mk.injEq] at H
       obtain ⟨rfl, rfl⟩ := H
       go_wp2
       go_ret2
       exact ⟨_, eqr, by (with_reducible repeat (first | apply Kd.R_alloc | apply Kd.R_drewN | apply Kd.R_drew)); exact Kd.R_mono HO_6.out (fun _ hk => trivial), atB HB⟩
noncomputable def spec_PowersDots.F (a0 : Int) (a1 : Int) : Option (List Int × Bool) := lim fun k => spec_PowersDots.f k a0 a1
theorem spec_PowersDots.F_lim (a0 : Int) (a1 : Int) : Lim (fun k => spec_PowersDots.f k a0 a1) (spec_PowersDots.F a0 a1) := Lim.of fun k => spec_PowersDots.mono a0 a1 k
/-! ### spec_LogsDots: function 149 -/
mutual
def spec_LogsDots.j0 : Nat → Int → Int → Int → Bool → Option (List Int × Bool)
 | 0, _, _, _, _ => none
 | k + 1, x0, x1, x2, x31 => if x31 = true then (some (([] : List Int), false)) else ((spec_doPowers.f k x0 x1).bind fun t704 => ((spec_doPowers.f k x0 x2).bind fun t707 => (spec_LogsDots.l0 k x0 t704 t707 ([] : List Int) 1)))
def spec_LogsDots.l0 : Nat → Int → List Int → List Int → List Int → Int → Option (List Int × Bool)
 | 0, _, _, _, _, _ => none
 | k + 1, x0, x8, x9, x10, x11 => if x11 ≤ (wrap64 (x0 - 2)) then (spec_LogsDots.l1 k x0 x8 x9 x10 x11 1) else (some (x10, true))
def spec_LogsDots.l1 : Nat → Int → List Int → List Int → List Int → Int → Int → Option (List Int × Bool)
 | 0, _, _, _, _, _, _ => none
 | k + 1, x0, x8, x9, x10, x11, x12 => if x12 ≤ (wrap64 (x0 - 2)) then (if 0 ≤ x11 then (if x11 < (x8.length : Int) then (if 0 ≤ x12 then (if x12 < (x9.length : Int) then (if x0 = 0 then (none) else (if (Int.tmod (wrap64 ((rd x8 x11) + (rd x9 x12))) x0) = 1 then (if x10.length < 17592186044416 then (spec_LogsDots.l1 k x0 x8 x9 (x10 ++ [wrap64 (x12 - 1)]) x11 (wrap64 (x12 + 1))) else (none)) else (spec_LogsDots.l1 k x0 x8 x9 x10 x11 (wrap64 (x12 + 1))))) else (none)) else (none)) else (none)) else (none)) else (spec_LogsDots.l0 k x0 x8 x9 x10 (wrap64 (x11 + 1)))
end
def spec_LogsDots.f (k : Nat) (a0 : Int) (a1 : Int) (a2 : Int) : Option (List Int × Bool) := (spec_doPrime.f k a0).bind fun t701 => (if t701 = true then (if a0 < 5 then (spec_LogsDots.j0 k a0 a1 a2 true) else ((spec_doRoot.f k a0 a1).bind fun t702 => (if t702 = true then ((spec_doRoot.f k a0 a2).bind fun t703 => (spec_LogsDots.j0 k a0 a1 a2 (!t703))) else (spec_LogsDots.j0 k a0 a1 a2 true)))) else (spec_LogsDots.j0 k a0 a1 a2 true))
theorem spec_LogsDots.mono_l : ∀ k, (∀ y0 y1 y2 y3, LeO (spec_LogsDots.j0 k y0 y1 y2 y3) (spec_LogsDots.j0 (k + 1) y0 y1 y2 y3)) ∧ (∀ y0 y1 y2 y3 y4, LeO (spec_LogsDots.l0 k y0 y1 y2 y3 y4) (spec_LogsDots.l0 (k + 1) y0 y1 y2 y3 y4)) ∧ (∀ y0 y1 y2 y3 y4 y5, LeO (spec_LogsDots.l1 k y0 y1 y2 y3 y4 y5) (spec_LogsDots.l1 (k + 1) y0 y1 y2 y3 y4 y5))
 | 0 => ⟨fun _ _ _ _ r h => by simp [spec_LogsDots.j0] at h, fun _ _ _ _ _ r h => by simp [spec_LogsDots.l0] at h, fun _ _ _ _ _ _ r h => by simp [spec_LogsDots.l1] at h⟩
 | k + 1 => by
  obtain ⟨ih0, ih1, ih2⟩ := spec_LogsDots.mono_l k
  refine ⟨?_, ?_, ?_⟩
  ·intro y0 y1 y2 y3
   unfold spec_LogsDots.j0
   repeat' (first | (with_reducible first | exact ih1 _ _ _ _ _ | exact spec_doPowers.mono _ _ _ | exact LeO.refl _ | exact LeO.none _ | refine LeO.ite ?_ ?_ | refine LeO.bind ?_ (fun _ => ?_)) | exact ih1 _ _ _ _ _ | exact spec_doPowers.mono _ _ _ | exact LeO.none _ | refine LeO.ite ?_ ?_ | refine LeO.bind ?_ (fun _ => ?_))
  ·intro y0 y1 y2 y3 y4
   unfold spec_LogsDots.l0
   repeat' (first | (with_reducible first | exact ih2 _ _ _ _ _ _ | exact LeO.refl _ | exact LeO.none _ | refine LeO.ite ?_ ?_ | refine LeO.bind ?_ (fun _ => ?_)) | exact ih2 _ _ _ _ _ _ | exact LeO.none _ | refine LeO.ite ?_ ?_ | refine LeO.bind ?_ (fun _ => ?_))
  ·intro y0 y1 y2 y3 y4 y5
   unfold spec_LogsDots.l1
   repeat' (first | (with_reducible first | exact ih1 _ _ _ _ _ | exact ih2 _ _ _ _ _ _ | exact LeO.refl _ | exact LeO.none _ | refine LeO.ite ?_ ?_ | refine LeO.bind ?_ (fun _ => ?_)) | exact ih1 _ _ _ _ _ | exact ih2 _ _ _ _ _ _ | exact LeO.none _ | refine LeO.ite ?_ ?_ | refine LeO.bind ?_ (fun _ => ?_))
theorem spec_LogsDots.mono : ∀ a0 a1 a2 k, LeO (spec_LogsDots.f k a0 a1 a2) (spec_LogsDots.f (k + 1) a0 a1 a2) := by
 intro a0 a1 a2 k
 obtain ⟨ih0, ih1, ih2⟩ := spec_LogsDots.mono_l k
 unfold spec_LogsDots.f
 repeat' (first | (with_reducible first | exact ih0 _ _ _ _ | exact spec_doPrime.mono _ _ | exact spec_doRoot.mono _ _ _ | exact LeO.refl _ | exact LeO.none _ | refine LeO.ite ?_ ?_ | refine LeO.bind ?_ (fun _ => ?_)) | exact ih0 _ _ _ _ | exact spec_doPrime.mono _ _ | exact spec_doRoot.mono _ _ _ | exact LeO.none _ | refine LeO.ite ?_ ?_ | refine LeO.bind ?_ (fun _ => ?_))
set_option maxHeartbeats 8000000 in
set_option maxRecDepth 100000 in
theorem spec_LogsDots.calls (k : Nat) (a0 : Int) (a1 : Int) (a2 : Int) (r1 : List Int) (r2 : Bool) (w : World) (h : spec_LogsDots.f k a0 a1 a2 = some (r1, r2)) :
  Calls Try.prog 149 #[.int .i64 a0, .int .i64 a1, .int .i64 a2] w fun e w' => ∃ v0_ : Value, e = .returned (.tuple #[v0_, .bool r2]) ∧ Kd.R (Kd.int .i64) 3 w' w.heap.size (fun _ => True) v0_ r1 ∧ Below w.heap.size w w' := by
 have HB := Aside0.mk (Below.refl w.heap.size w)
 have H := h
 unfold spec_LogsDots.f at H
 clear h
 have HC4 := Aside0.mk H
 clear H
 go_enter Try.func149, Try.ntmps149
 go_upto_region 1 with (fail)
 repeat (go_quiet (fail); go_upto_region 1 with (fail))
 go_cut [31] (fun v31 wc => ∃ (kq : Nat) (x31_3 : Bool), v31 = .bool x31_3 ∧ Aside0 (spec_LogsDots.j0 kq a0 a1 a2 x31_3 = some (r1, r2)) ∧ Aside0 (kq ≤ k) ∧ Aside0 (Below w.heap.size w wc))
 case first =>
  have H := HC4.out
  clear HC4
  replace H := Option.bind_eq_some_iff.mp H
  obtain ⟨t701, A50, H⟩ := H
  replace H : (if t701 = true then (if a0 < 5 then (spec_LogsDots.j0 k a0 a1 a2 true) else ((spec_doRoot.f k a0 a1).bind fun t702 => (if t702 = true then ((spec_doRoot.f k a0 a2).bind fun t703 => (spec_LogsDots.j0 k a0 a1 a2 (!t703))) else (spec_LogsDots.j0 k a0 a1 a2 true)))) else (spec_LogsDots.j0 k a0 a1 a2 true)) = some (r1, r2) := H
  have A5 := Aside0.mk A50
  clear A50
  by_cases c6 : t701 = true
  ·subst c6
   have H1 : (if a0 < 5 then (spec_LogsDots.j0 k a0 a1 a2 true) else ((spec_doRoot.f k a0 a1).bind fun t702 => (if t702 = true then ((spec_doRoot.f k a0 a2).bind fun t703 => (spec_LogsDots.j0 k a0 a1 a2 (!t703))) else (spec_LogsDots.j0 k a0 a1 a2 true)))) = some (r1, r2) := by rw [if_pos rfl] at H; exact H
   clear H
   have H := H1
   clear H1
   by_cases c7 : a0 < 5
   ·rw [if_pos c7] at H
    have c7b0 : decide (a0 < 5) = true := decide_eq_true c7
    clear c7
    (first | rw [c7b0] | (simp only [i64_w, i32_w]; rw [c7b0]) | skip)
    have H' := Aside0.mk H
    clear H
    go_wp2_with (first | (go_at_call 161; (with_reducible refine (spec_doPrime.calls k a0 true _ A5.out).mono ?_); rintro e w8 ⟨rfl, hb⟩; replace HB := upB HB hb; (try clear hb); (try clear hb2); (try clear hk); (try clear hi)))
    repeat (go_quiet (first | (go_at_call 161; (with_reducible refine (spec_doPrime.calls k a0 true _ A5.out).mono ?_); rintro e w8 ⟨rfl, hb⟩; replace HB := upB HB hb; (try clear hb); (try clear hb2); (try clear hk); (try clear hi))); try go_wp2_with (first | (go_at_call 161; (with_reducible refine (spec_doPrime.calls k a0 true _ A5.out).mono ?_); rintro e w8 ⟨rfl, hb⟩; replace HB := upB HB hb; (try clear hb); (try clear hb2); (try clear hk); (try clear hi))))
    go_meet
    case rel => exact ⟨_, (true), eqd, H', ⟨leD⟩, ⟨atB HB⟩⟩
   ·rw [if_neg c7] at H
    have c7b0 : decide (a0 < 5) = false := decide_eq_false c7
    clear c7
    (first | rw [c7b0] | (simp only [i64_w, i32_w]; rw [c7b0]) | skip)
    replace H := Option.bind_eq_some_iff.mp H
    obtain ⟨t702, A90, H⟩ := H
    replace H : (if t702 = true then ((spec_doRoot.f k a0 a2).bind fun t703 => (spec_LogsDots.j0 k a0 a1 a2 (!t703))) else (spec_LogsDots.j0 k a0 a1 a2 true)) = some (r1, r2) := H
    have A9 := Aside0.mk A90
    clear A90
    by_cases c10 : t702 = true
    ·subst c10
     have H1 : ((spec_doRoot.f k a0 a2).bind fun t703 => (spec_LogsDots.j0 k a0 a1 a2 (!t703))) = some (r1, r2) := by rw [if_pos rfl] at H; exact H
     clear H
     have H := H1
     clear H1
     replace H := Option.bind_eq_some_iff.mp H
     obtain ⟨t703, A110, H⟩ := H
     replace H : (spec_LogsDots.j0 k a0 a1 a2 (!t703)) = some (r1, r2) := H
     have A11 := Aside0.mk A110
     clear A110
     have H' := Aside0.mk H
     clear H
     go_wp2_with (first | (go_at_call 161; (with_reducible refine (spec_doPrime.calls k a0 true _ A5.out).mono ?_); rintro e w12 ⟨rfl, hb⟩; replace HB := upB HB hb; (try clear hb); (try clear hb2); (try clear hk); (try clear hi)) | (go_at_call 162; (with_reducible refine (spec_doRoot.calls k a0 a1 true _ A9.out).mono ?_); rintro e w13 ⟨rfl, hb⟩; replace HB := upB HB hb; (try clear hb); (try clear hb2); (try clear hk); (try clear hi)) | (go_at_call 162; (with_reducible refine (spec_doRoot.calls k a0 a2 t703 _ A11.out).mono ?_); rintro e w14 ⟨rfl, hb⟩; replace HB := upB HB hb; (try clear hb); (try clear hb2); (try clear hk); (try clear hi)))
     repeat (go_quiet (first | (go_at_call 161; (with_reducible refine (spec_doPrime.calls k a0 true _ A5.out).mono ?_); rintro e w12 ⟨rfl, hb⟩; replace HB := upB HB hb; (try clear hb); (try clear hb2); (try clear hk); (try clear hi)) | (go_at_call 162; (with_reducible refine (spec_doRoot.calls k a0 a1 true _ A9.out).mono ?_); rintro e w13 ⟨rfl, hb⟩; replace HB := upB HB hb; (try clear hb); (try clear hb2); (try clear hk); (try clear hi)) | (go_at_call 162; (with_reducible refine (spec_doRoot.calls k a0 a2 t703 _ A11.out).mono ?_); rintro e w14 ⟨rfl, hb⟩; replace HB := upB HB hb; (try clear hb); (try clear hb2); (try clear hk); (try clear hi))); try go_wp2_with (first | (go_at_call 161; (with_reducible refine (spec_doPrime.calls k a0 true _ A5.out).mono ?_); rintro e w12 ⟨rfl, hb⟩; replace HB := upB HB hb; (try clear hb); (try clear hb2); (try clear hk); (try clear hi)) | (go_at_call 162; (with_reducible refine (spec_doRoot.calls k a0 a1 true _ A9.out).mono ?_); rintro e w13 ⟨rfl, hb⟩; replace HB := upB HB hb; (try clear hb); (try clear hb2); (try clear hk); (try clear hi)) | (go_at_call 162; (with_reducible refine (spec_doRoot.calls k a0 a2 t703 _ A11.out).mono ?_); rintro e w14 ⟨rfl, hb⟩; replace HB := upB HB hb; (try clear hb); (try clear hb2); (try clear hk); (try clear hi))))
     go_meet
     case rel => exact ⟨_, (!t703), eqd, H', ⟨leD⟩, ⟨atB HB⟩⟩
    ·replace c10 := Bool.eq_false_iff.mpr c10
     subst c10
     have H1 : (spec_LogsDots.j0 k a0 a1 a2 true) = some (r1, r2) := by rw [if_neg (show ¬ (false = true) by decide)] at H; exact H
     clear H
     have H := H1
     clear H1
     have H' := Aside0.mk H
     clear H
     go_wp2_with (first | (go_at_call 161; (with_reducible refine (spec_doPrime.calls k a0 true _ A5.out).mono ?_); rintro e w15 ⟨rfl, hb⟩; replace HB := upB HB hb; (try clear hb); (try clear hb2); (try clear hk); (try clear hi)) | (go_at_call 162; (with_reducible refine (spec_doRoot.calls k a0 a1 false _ A9.out).mono ?_); rintro e w16 ⟨rfl, hb⟩; replace HB := upB HB hb; (try clear hb); (try clear hb2); (try clear hk); (try clear hi)))
     repeat (go_quiet (first | (go_at_call 161; (with_reducible refine (spec_doPrime.calls k a0 true _ A5.out).mono ?_); rintro e w15 ⟨rfl, hb⟩; replace HB := upB HB hb; (try clear hb); (try clear hb2); (try clear hk); (try clear hi)) | (go_at_call 162; (with_reducible refine (spec_doRoot.calls k a0 a1 false _ A9.out).mono ?_); rintro e w16 ⟨rfl, hb⟩; replace HB := upB HB hb; (try clear hb); (try clear hb2); (try clear hk); (try clear hi))); try go_wp2_with (first | (go_at_call 161; (with_reducible refine (spec_doPrime.calls k a0 true _ A5.out).mono ?_); rintro e w15 ⟨rfl, hb⟩; replace HB := upB HB hb; (try clear hb); (try clear hb2); (try clear hk); (try clear hi)) | (go_at_call 162; (with_reducible refine (spec_doRoot.calls k a0 a1 false _ A9.out).mono ?_); rintro e w16 ⟨rfl, hb⟩; replace HB := upB HB hb; (try clear hb); (try clear hb2); (try clear hk); (try clear hi))))
     go_meet
     case rel => exact ⟨_, (true), eqd, H', ⟨leD⟩, ⟨atB HB⟩⟩
  ·replace c6 := Bool.eq_false_iff.mpr c6
   subst c6
   have H1 : (spec_LogsDots.j0 k a0 a1 a2 true) = some (r1, r2) := by rw [if_neg (show ¬ (false = true) by decide)] at H; exact H
   clear H
   have H := H1
   clear H1
   have H' := Aside0.mk H
   clear H
   go_wp2_with (first | (go_at_call 161; (with_reducible refine (spec_doPrime.calls k a0 false _ A5.out).mono ?_); rintro e w17 ⟨rfl, hb⟩; replace HB := upB HB hb; (try clear hb); (try clear hb2); (try clear hk); (try clear hi)))
   repeat (go_quiet (first | (go_at_call 161; (with_reducible refine (spec_doPrime.calls k a0 false _ A5.out).mono ?_); rintro e w17 ⟨rfl, hb⟩; replace HB := upB HB hb; (try clear hb); (try clear hb2); (try clear hk); (try clear hi))); try go_wp2_with (first | (go_at_call 161; (with_reducible refine (spec_doPrime.calls k a0 false _ A5.out).mono ?_); rintro e w17 ⟨rfl, hb⟩; replace HB := upB HB hb; (try clear hb); (try clear hb2); (try clear hk); (try clear hi))))
   go_meet
   case rel => exact ⟨_, (true), eqd, H', ⟨leD⟩, ⟨atB HB⟩⟩
 case rest =>
  clear HC4
  try clear c1
  try clear p2
  try clear c6
  try clear c7
  try clear c7b0
  try clear c10
  try clear c14
  obtain ⟨kq, x31_3, rfl, HA, HJ3, HB⟩ := hcut
  cases kq with
  | zero => exact absurd HA.out (by simp [spec_LogsDots.j0])
  | succ kj3 =>
   have H := HA.out
   clear HA
   simp only [spec_LogsDots.j0] at H
   by_cases c18 : x31_3 = true
   ·subst c18
    have H1 : (some (([] : List Int), false)) = some (r1, r2) := by rw [if_pos rfl] at H; exact H
    clear H
    have H := H1
    clear H1
    simp only [Option.some.injEq, Prod.mk.injEq] at H
    obtain ⟨rfl, rfl⟩ := H
    go_wp2
    repeat (go_quiet (fail); try go_wp2)
    go_ret2
    exact ⟨_, eqr, by first | exact Kd.R_nil _ _ _ _ _ | exact Kd.N_nil _ _ _ _ _ | exact Kd.V_nil _ _ _ _ _ | exact Kd.Q_nil _ _ _ _ _ | exact Kd.S_nil _ _ _ _ _, atB HB⟩
   ·replace c18 := Bool.eq_false_iff.mpr c18
    subst c18
    have H1 : ((spec_doPowers.f kj3 a0 a1).bind fun t704 => ((spec_doPowers.f kj3 a0 a2).bind fun t707 => (spec_LogsDots.l0 kj3 a0 t704 t707 ([] : List Int) 1))) = some (r1, r2) := by rw [if_neg (show ¬ (false = true) by decide)] at H; exact H
    clear H
    have H := H1
    clear H1
    replace H := Option.bind_eq_some_iff.mp H
    obtain ⟨t704, A190, H⟩ := H
    replace H : ((spec_doPowers.f kj3 a0 a2).bind fun t707 => (spec_LogsDots.l0 kj3 a0 t704 t707 ([] : List Int) 1)) = some (r1, r2) := H
    have A19 := Aside0.mk A190
    clear A190
    replace H := Option.bind_eq_some_iff.mp H
    obtain ⟨t707, A200, H⟩ := H
    replace H : (spec_LogsDots.l0 kj3 a0 t704 t707 ([] : List Int) 1) = some (r1, r2) := H
    have A20 := Aside0.mk A200
    clear A200
    have H' := Aside0.mk H
    clear H
    go_wp2_with (first | (go_at_call 163; (with_reducible refine (spec_doPowers.calls kj3 a0 a1 t704 _ A19.out).mono ?_); rintro e w21 ⟨v705, rfl, ho0, hb⟩; have HO706 := lowR ho0 HB; replace HB := upB HB hb; (try clear hb); (try clear hb2); (try clear hk); (try clear hi); (try clear ho0)) | (go_at_call 163; (with_reducible refine (spec_doPowers.calls kj3 a0 a2 t707 _ A20.out).mono ?_); rintro e w22 ⟨v708, rfl, ho0, hb⟩; have HO709 := Aside0.mk (Kd.R_lower (Kd.R_new' ho0 (ltR HO706)) (szB HB)); replace HO706 := eldRR HO706 ho0 hb; replace HB := upB HB hb; (try clear hb); (try clear hb2); (try clear hk); (try clear hi); (try clear ho0)))
    repeat (go_quiet (first | (go_at_call 163; (with_reducible refine (spec_doPowers.calls kj3 a0 a1 t704 _ A19.out).mono ?_); rintro e w21 ⟨v705, rfl, ho0, hb⟩; have HO706 := lowR ho0 HB; replace HB := upB HB hb; (try clear hb); (try clear hb2); (try clear hk); (try clear hi); (try clear ho0)) | (go_at_call 163; (with_reducible refine (spec_doPowers.calls kj3 a0 a2 t707 _ A20.out).mono ?_); rintro e w22 ⟨v708, rfl, ho0, hb⟩; have HO709 := Aside0.mk (Kd.R_lower (Kd.R_new' ho0 (ltR HO706)) (szB HB)); replace HO706 := eldRR HO706 ho0 hb; replace HB := upB HB hb; (try clear hb); (try clear hb2); (try clear hk); (try clear hi); (try clear ho0))); try go_wp2_with (first | (go_at_call 163; (with_reducible refine (spec_doPowers.calls kj3 a0 a1 t704 _ A19.out).mono ?_); rintro e w21 ⟨v705, rfl, ho0, hb⟩; have HO706 := lowR ho0 HB; replace HB := upB HB hb; (try clear hb); (try clear hb2); (try clear hk); (try clear hi); (try clear ho0)) | (go_at_call 163; (with_reducible refine (spec_doPowers.calls kj3 a0 a2 t707 _ A20.out).mono ?_); rintro e w22 ⟨v708, rfl, ho0, hb⟩; have HO709 := Aside0.mk (Kd.R_lower (Kd.R_new' ho0 (ltR HO706)) (szB HB)); replace HO706 := eldRR HO706 ho0 hb; replace HB := upB HB hb; (try clear hb); (try clear hb2); (try clear hk); (try clear hi); (try clear ho0))))
    go_loopg [10, 11] kj3 (fun kq v10 v11 w' => ∃ (x10_2 : List Int) (x11_2 : Int), v11 = .int .i64 x11_2 ∧ Aside0 (spec_LogsDots.l0 kq a0 t704 t707 x10_2 x11_2 = some (r1, r2)) ∧ Aside0 (kq ≤ kj3) ∧ Aside0 (Kd.R (Kd.int .i64) 3 w' w.heap.size (fun k_ => some k_ ≠ (v708 : Value).ownBlock ∧ some k_ ≠ (v10 : Value).ownBlock) v705 t704) ∧ Aside0 (Kd.R (Kd.int .i64) 3 w' w.heap.size (fun k_ => some k_ ≠ (v705 : Value).ownBlock ∧ some k_ ≠ (v10 : Value).ownBlock) v708 t707) ∧ Aside0 (Kd.R (Kd.int .i64) 3 w' w.heap.size (fun k_ => some k_ ≠ (v705 : Value).ownBlock ∧ some k_ ≠ (v708 : Value).ownBlock) v10 x10_2) ∧ Aside0 (Below w.heap.size w w'))
    case atStart => exact ⟨(([] : List Int)), (1), eqd, H', ⟨Nat.le_refl _⟩, ⟨by (with_reducible repeat (first | apply Kd.R_alloc | apply Kd.R_drewN | apply Kd.R_drew)); exact Kd.R_mono HO706.out (fun _ hk => ⟨hk.2, (by simp [Value.ownBlock])⟩)⟩, ⟨by (with_reducible repeat (first | apply Kd.R_alloc | apply Kd.R_drewN | apply Kd.R_drew)); exact Kd.R_mono HO709.out (fun _ hk => ⟨hk.2, (by simp [Value.ownBlock])⟩)⟩, ⟨by first | exact Kd.R_nil _ _ _ _ _ | exact Kd.N_nil _ _ _ _ _ | exact Kd.V_nil _ _ _ _ _ | exact Kd.Q_nil _ _ _ _ _ | exact Kd.S_nil _ _ _ _ _⟩, ⟨atB HB⟩⟩
    case round =>
     clear H'
     try clear c1
     try clear p2
     try clear c6
     try clear c7
     try clear c7b0
     try clear c10
     try clear c14
     try clear c18
     try clear p2
     obtain ⟨x10_2, x11_2, rfl, HA, HK2, HO_8, HO_9, HO_10, HB⟩ := hrel
     cases gk with
     | zero => exact absurd HA.out (by simp [spec_LogsDots.l0])
     | succ k2 =>
      have H := HA.out
      clear HA
      simp only [spec_LogsDots.l0] at H
      by_cases c23 : x11_2 ≤ (wrap64 (a0 - 2))
      ·rw [if_pos c23] at H
       have c23b0 : decide (x11_2 ≤ (wrap64 (a0 - 2))) = true := decide_eq_true c23
       clear c23
       have H' := Aside0.mk H
       clear H
       go_wp2
       repeat (go_quiet (fail); try go_wp2)
       go_loopg [10, 12] k2 (fun kq v10 v12 w' => ∃ (x10_3 : List Int) (x12_3 : Int), v12 = .int .i64 x12_3 ∧ Aside0 (spec_LogsDots.l1 kq a0 t704 t707 x10_3 x11_2 x12_3 = some (r1, r2)) ∧ Aside0 (kq ≤ k2) ∧ Aside0 (Kd.R (Kd.int .i64) 3 w' w.heap.size (fun k_ => some k_ ≠ (v708 : Value).ownBlock ∧ some k_ ≠ (v10 : Value).ownBlock) v705 t704) ∧ Aside0 (Kd.R (Kd.int .i64) 3 w' w.heap.size (fun k_ => some k_ ≠ (v705 : Value).ownBlock ∧ some k_ ≠ (v10 : Value).ownBlock) v708 t707) ∧ Aside0 (Kd.R (Kd.int .i64) 3 w' w.heap.size (fun k_ => some k_ ≠ (v705 : Value).ownBlock ∧ some k_ ≠ (v708 : Value).ownBlock) v10 x10_3) ∧ Aside0 (Below w.heap.size w w'))
       case atStart => exact ⟨(x10_2), (1), eqd, H', ⟨Nat.le_refl _⟩, ⟨atR HO_8⟩, ⟨atR HO_9⟩, ⟨atR HO_10⟩, ⟨atB HB⟩⟩
       case round =>
        clear H'
        try clear c1
        try clear c2
        try clear p2
        try clear c6
        try clear p6
        try clear c7
        try clear c7b0
        try clear c10
        try clear c14
        try clear c18
        try clear c23
        try clear c23b0
        try clear p2
        obtain ⟨x10_3, x12_3, rfl, HA, HK3, HO_8, HO_9, HO_10, HB⟩ := hrel
        cases gk with
        | zero => exact absurd HA.out (by simp [spec_LogsDots.l1])
        | succ k3 =>
         have H := HA.out
         clear HA
         simp only [spec_LogsDots.l1] at H
         by_cases c24 : x12_3 ≤ (wrap64 (a0 - 2))
         ·rw [if_pos c24] at H
          have c24b0 : decide (x12_3 ≤ (wrap64 (a0 - 2))) = true := decide_eq_true c24
          clear c24
          by_cases c25 : 0 ≤ x11_2
          ·rw [if_pos c25] at H
           have c25b0 : decide (0 ≤ x11_2) = true := decide_eq_true c25
           clear c25
           by_cases c26 : x11_2 < (t704.length : Int)
           ·rw [if_pos c26] at H
            have c26b0 : decide (x11_2 < (t704.length : Int)) = true := decide_eq_true c26
            clear c26
            by_cases c27 : 0 ≤ x12_3
            ·rw [if_pos c27] at H
             have c27b0 : decide (0 ≤ x12_3) = true := decide_eq_true c27
             clear c27
             by_cases c28 : x12_3 < (t707.length : Int)
             ·rw [if_pos c28] at H
              have c28b0 : decide (x12_3 < (t707.length : Int)) = true := decide_eq_true c28
              clear c28
              by_cases c29 : a0 = 0
              ·rw [if_pos c29] at H
               exact absurd H (by simp)
              ·rw [if_neg c29] at H
               have c29b0 : (a0 == 0) = false := beq_eq_false_iff_ne.mpr c29
               have c29b1 : (a0 != 0) = true := bne_iff_ne.mpr c29
               by_cases c30 : (Int.tmod (wrap64 ((rd t704 x11_2) + (rd t707 x12_3))) a0) = 1
               ·rw [if_pos c30] at H
                have c30b0 : ((Int.tmod (wrap64 ((rd t704 x11_2) + (rd t707 x12_3))) a0) == 1) = true := beq_iff_eq.mpr c30
                have c30b1 : ((Int.tmod (wrap64 ((rd t704 x11_2) + (rd t707 x12_3))) a0) != 1) = false := bne_eq_false_iff_eq.mpr c30
                clear c30
                by_cases c31 : x10_3.length < 17592186044416
                ·rw [if_pos c31] at H
                 have LMc31 := Aside0.mk c31
                 clear c31
                 obtain ⟨y712, hy712⟩ : ∃ y_ : List Int, y_ = (x10_3 ++ [wrap64 (x12_3 - 1)]) := ⟨_, rfl⟩
                 replace H : (spec_LogsDots.l1 k3 a0 t704 t707 y712 x11_2 (wrap64 (x12_3 + 1))) = some (r1, r2) := by first | (rw [hy712]; with_reducible exact H) | (have H2_ := (Option.bind_some _ _).symm.trans H; rw [hy712]; with_reducible exact H2_) | (have H2_ := (Option.bind_some _ _).symm.trans H; with_reducible exact H2_) | with_reducible exact H | (rw [hy712]; exact H) | exact H
                 have Ny712 := Aside0.mk hy712
                 clear hy712
                 have H' := Aside0.mk H
                 clear H
                 obtain ⟨Ao32, co32, eo32⟩ := Kd.R_slice HO_8.out
                 subst eo32
                 have p710 : 0 ≤ (x11_2 : Int) := ofd
                 have q710 : x11_2 < (t704.length : Int) := ofd
                 obtain ⟨ad710, e710, hx710_0⟩ := Kd.at_int (Kd.R_reads' HO_8.out).2.2 x11_2 p710 q710
                 cases e710
                 replace p710 := eq_true p710
                 replace q710 := eq_true q710
                 obtain ⟨Ao33, co33, eo33⟩ := Kd.R_slice HO_9.out
                 subst eo33
                 have p711 : 0 ≤ (x12_3 : Int) := ofd
                 have q711 : x12_3 < (t707.length : Int) := ofd
                 obtain ⟨ad711, e711, hx711_0⟩ := Kd.at_int (Kd.R_reads' HO_9.out).2.2 x12_3 p711 q711
                 cases e711
                 replace p711 := eq_true p711
                 replace q711 := eq_true q711
                 go_wp2_with (first | ((with_reducible refine gate_builtin (b := .append) (xs := #[.tmp 62, .tmp 65]) rfl ?_); at_builtin; refine Kd.R_append (Kd.int .i64) (w0 := w) w.heap.size rfl (.tmp 62) (.tmp 65) 24 3 (.int .i64 0) 8 rfl Try.underlying24 info3 rfl (by decide) (by omega) u10 x10_3 (wrap64 (x12_3 - 1)) [.int .i64 (wrap64 (x12_3 - 1))] (fun k_ => some k_ ≠ (.slice (some ad710) t704.length co32 : Value).ownBlock ∧ some k_ ≠ (.slice (some ad711) t707.length co33 : Value).ownBlock) (fun _ => False) rfl rfl ?aP (fun _ hk => hk.elim) ?aF ?aO ?aB ?aS ?aL ?_; (case aP => exact rfl); (case aB => exact (atB HB)); (case aF => exact (fun k_ hk => ⟨Kd.fresh' (ltR HO_8) k_ hk, Kd.fresh' (ltR HO_9) k_ hk⟩)); (case aO => exact (atR HO_10)); (case aS => exact (szB HB)); (case aL => have := LMc31.out; omega); intro v713 w34 ho hb hg hat; rw [← Ny712.out] at ho; have HO714 := Aside0.mk (ho); replace HO_8 := Aside0.mk (Kd.R_after (ok := (fun k_ => some k_ ≠ (.slice (some ad711) t707.length co33 : Value).ownBlock)) (atR HO_8) hg hat); replace HO_9 := Aside0.mk (Kd.R_after (ok := (fun k_ => some k_ ≠ (.slice (some ad710) t704.length co32 : Value).ownBlock)) (atR HO_9) hg hat); replace HB := Aside0.mk (hb); clear HO_10; clear ho hb hg hat))
                 repeat (go_quiet (first | ((with_reducible refine gate_builtin (b := .append) (xs := #[.tmp 62, .tmp 65]) rfl ?_); at_builtin; refine Kd.R_append (Kd.int .i64) (w0 := w) w.heap.size rfl (.tmp 62) (.tmp 65) 24 3 (.int .i64 0) 8 rfl Try.underlying24 info3 rfl (by decide) (by omega) u10 x10_3 (wrap64 (x12_3 - 1)) [.int .i64 (wrap64 (x12_3 - 1))] (fun k_ => some k_ ≠ (.slice (some ad710) t704.length co32 : Value).ownBlock ∧ some k_ ≠ (.slice (some ad711) t707.length co33 : Value).ownBlock) (fun _ => False) rfl rfl ?aP (fun _ hk => hk.elim) ?aF ?aO ?aB ?aS ?aL ?_; (case aP => exact rfl); (case aB => exact (atB HB)); (case aF => exact (fun k_ hk => ⟨Kd.fresh' (ltR HO_8) k_ hk, Kd.fresh' (ltR HO_9) k_ hk⟩)); (case aO => exact (atR HO_10)); (case aS => exact (szB HB)); (case aL => have := LMc31.out; omega); intro v713 w34 ho hb hg hat; rw [← Ny712.out] at ho; have HO714 := Aside0.mk (ho); replace HO_8 := Aside0.mk (Kd.R_after (ok := (fun k_ => some k_ ≠ (.slice (some ad711) t707.length co33 : Value).ownBlock)) (atR HO_8) hg hat); replace HO_9 := Aside0.mk (Kd.R_after (ok := (fun k_ => some k_ ≠ (.slice (some ad710) t704.length co32 : Value).ownBlock)) (atR HO_9) hg hat); replace HB := Aside0.mk (hb); clear HO_10; clear ho hb hg hat)); try go_wp2_with (first | ((with_reducible refine gate_builtin (b := .append) (xs := #[.tmp 62, .tmp 65]) rfl ?_); at_builtin; refine Kd.R_append (Kd.int .i64) (w0 := w) w.heap.size rfl (.tmp 62) (.tmp 65) 24 3 (.int .i64 0) 8 rfl Try.underlying24 info3 rfl (by decide) (by omega) u10 x10_3 (wrap64 (x12_3 - 1)) [.int .i64 (wrap64 (x12_3 - 1))] (fun k_ => some k_ ≠ (.slice (some ad710) t704.length co32 : Value).ownBlock ∧ some k_ ≠ (.slice (some ad711) t707.length co33 : Value).ownBlock) (fun _ => False) rfl rfl ?aP (fun _ hk => hk.elim) ?aF ?aO ?aB ?aS ?aL ?_; (case aP => exact rfl); (case aB => exact (atB HB)); (case aF => exact (fun k_ hk => ⟨Kd.fresh' (ltR HO_8) k_ hk, Kd.fresh' (ltR HO_9) k_ hk⟩)); (case aO => exact (atR HO_10)); (case aS => exact (szB HB)); (case aL => have := LMc31.out; omega); intro v713 w34 ho hb hg hat; rw [← Ny712.out] at ho; have HO714 := Aside0.mk (ho); replace HO_8 := Aside0.mk (Kd.R_after (ok := (fun k_ => some k_ ≠ (.slice (some ad711) t707.length co33 : Value).ownBlock)) (atR HO_8) hg hat); replace HO_9 := Aside0.mk (Kd.R_after (ok := (fun k_ => some k_ ≠ (.slice (some ad710) t704.length co32 : Value).ownBlock)) (atR HO_9) hg hat); replace HB := Aside0.mk (hb); clear HO_10; clear ho hb hg hat)))
                 go_roundg k3
                 case measure => have := HJ3.out; have := HK2.out; have := HK3.out; omega
                 case rel => exact ⟨(y712), (wrap64 (x12_3 + 1)), eqd, H', ⟨by have := HJ3.out; have := HK2.out; have := HK3.out; omega⟩, ⟨atR HO_8⟩, ⟨atR HO_9⟩, ⟨atR HO714⟩, ⟨atB HB⟩⟩
                ·rw [if_neg c31] at H
                 exact absurd H (by simp)
               ·rw [if_neg c30] at H
                have c30b0 : ((Int.tmod (wrap64 ((rd t704 x11_2) + (rd t707 x12_3))) a0) == 1) = false := beq_eq_false_iff_ne.mpr c30
                have c30b1 : ((Int.tmod (wrap64 ((rd t704 x11_2) + (rd t707 x12_3))) a0) != 1) = true := bne_iff_ne.mpr c30
                have H' := Aside0.mk H
                clear H
                obtain ⟨Ao35, co35, eo35⟩ := Kd.R_slice HO_8.out
                subst eo35
                have p710 : 0 ≤ (x11_2 : Int) := ofd
                have q710 : x11_2 < (t704.length : Int) := ofd
                obtain ⟨ad710, e710, hx710_0⟩ := Kd.at_int (Kd.R_reads' HO_8.out).2.2 x11_2 p710 q710
                cases e710
                replace p710 := eq_true p710
                replace q710 := eq_true q710
                obtain ⟨Ao36, co36, eo36⟩ := Kd.R_slice HO_9.out
                subst eo36
                have p711 : 0 ≤ (x12_3 : Int) := ofd
                have q711 : x12_3 < (t707.length : Int) := ofd
                obtain ⟨ad711, e711, hx711_0⟩ := Kd.at_int (Kd.R_reads' HO_9.out).2.2 x12_3 p711 q711
                cases e711
                replace p711 := eq_true p711
                replace q711 := eq_true q711
                go_wp2
                repeat (go_quiet (fail); try go_wp2)
                go_roundg k3
                case measure => have := HJ3.out; have := HK2.out; have := HK3.out; omega
                case rel => exact ⟨(x10_3), (wrap64 (x12_3 + 1)), eqd, H', ⟨by have := HJ3.out; have := HK2.out; have := HK3.out; omega⟩, ⟨atR HO_8⟩, ⟨atR HO_9⟩, ⟨atR HO_10⟩, ⟨atB HB⟩⟩
             ·rw [if_neg c28] at H
              exact absurd H (by simp)
            ·rw [if_neg c27] at H
             exact absurd H (by simp)
           ·rw [if_neg c26] at H
            exact absurd H (by simp)
          ·rw [if_neg c25] at H
           exact absurd H (by simp)
         ·rw [if_neg c24] at H
          have c24b0 : decide (x12_3 ≤ (wrap64 (a0 - 2))) = false := decide_eq_false c24
          clear c24
          have H' := Aside0.mk H
          clear H
          go_wp2
          repeat (go_quiet (fail); try go_wp2)
          go_roundg k3
          case measure => have := HJ3.out; have := HK2.out; have := HK3.out; omega
          case rel => exact ⟨(x10_3), (wrap64 (x11_2 + 1)), eqd, H', ⟨by have := HJ3.out; have := HK2.out; have := HK3.out; omega⟩, ⟨atR HO_8⟩, ⟨atR HO_9⟩, ⟨atR HO_10⟩, ⟨atB HB⟩⟩
      ·rw [if_neg c23] at H
       have c23b0 : decide (x11_2 ≤ (wrap64 (a0 - 2))) = false := decide_eq_false c23
       clear c23
       simp only [Option.some.injEq, Prod.mk.injEq] at H
       obtain ⟨rfl, rfl⟩ := H
       go_wp2
       repeat (go_quiet (fail); try go_wp2)
       go_ret2
       exact ⟨_, eqr, by (with_reducible repeat (first | apply Kd.R_alloc | apply Kd.R_drewN | apply Kd.R_drew)); exact Kd.R_mono HO_10.out (fun _ hk => trivial), atB HB⟩
noncomputable def spec_LogsDots.F (a0 : Int) (a1 : Int) (a2 : Int) : Option (List Int × Bool) := lim fun k => spec_LogsDots.f k a0 a1 a2
theorem spec_LogsDots.F_lim (a0 : Int) (a1 : Int) (a2 : Int) : Lim (fun k => spec_LogsDots.f k a0 a1 a2) (spec_LogsDots.F a0 a1 a2) := Lim.of fun k => spec_LogsDots.mono a0 a1 a2 k
/-! ### spec_l1Cur_dotsUp: function 150 -/
def spec_l1Cur_dotsUp.l0 : Nat → Int → List Int → Int → List Int → Int → Int → Option (List Int × Int × Int)
 | 0, _, _, _, _, _, _ => none
 | k + 1, x1, x5, x6, x1000, x1001, x1002 => if x6 < x1 then ((spec_l1Cur_pick.f x1000 x1001 x1002 x6).bind fun bt715 => ((insAt.f x5 bt715.1 x6).bind fun t718 => (spec_l1Cur_dotsUp.l0 k x1 t718 (wrap64 (x6 + 1)) x1000 bt715.2.1 bt715.2.2))) else (some (x5, x1001, x1002))
def spec_l1Cur_dotsUp.f (k : Nat) (s0_0 : List Int) (s0_1 : Int) (s0_2 : Int) (a1 : Int) : Option (List Int × Int × Int) := spec_l1Cur_dotsUp.l0 k a1 ([] : List Int) 1 s0_0 s0_1 s0_2
theorem spec_l1Cur_dotsUp.mono_l : ∀ k, (∀ y0 y1 y2 y3 y4 y5, LeO (spec_l1Cur_dotsUp.l0 k y0 y1 y2 y3 y4 y5) (spec_l1Cur_dotsUp.l0 (k + 1) y0 y1 y2 y3 y4 y5))
 | 0 => fun _ _ _ _ _ _ r h => by simp [spec_l1Cur_dotsUp.l0] at h
 | k + 1 => by
  have ih0 := spec_l1Cur_dotsUp.mono_l k
  ·intro y0 y1 y2 y3 y4 y5
   unfold spec_l1Cur_dotsUp.l0
   repeat' (first | (with_reducible first | exact ih0 _ _ _ _ _ _ | exact LeO.refl _ | exact LeO.none _ | refine LeO.ite ?_ ?_ | refine LeO.bind ?_ (fun _ => ?_)) | exact ih0 _ _ _ _ _ _ | exact LeO.none _ | refine LeO.ite ?_ ?_ | refine LeO.bind ?_ (fun _ => ?_))
theorem spec_l1Cur_dotsUp.mono : ∀ a0 a1 a2 a3 k, LeO (spec_l1Cur_dotsUp.f k a0 a1 a2 a3) (spec_l1Cur_dotsUp.f (k + 1) a0 a1 a2 a3) := by
 intro a0 a1 a2 a3 k
 have ih0 := spec_l1Cur_dotsUp.mono_l k
 unfold spec_l1Cur_dotsUp.f
 repeat' (first | (with_reducible first | exact ih0 _ _ _ _ _ _ | exact LeO.refl _ | exact LeO.none _ | refine LeO.ite ?_ ?_ | refine LeO.bind ?_ (fun _ => ?_)) | exact ih0 _ _ _ _ _ _ | exact LeO.none _ | refine LeO.ite ?_ ?_ | refine LeO.bind ?_ (fun _ => ?_))
set_option maxHeartbeats 8000000 in
set_option maxRecDepth 100000 in
theorem spec_l1Cur_dotsUp.calls (k : Nat) (g : Nat) (s0_0 : List Int) (s0_1 : Int) (s0_2 : Int) (a1 : Int) (r1 : List Int) (r2 : Int) (r3 : Int) (w0 w : World) (hI : IsS68 w0 w g s0_0 s0_1 s0_2) (hB : Below w0.heap.size w0 w) (h : spec_l1Cur_dotsUp.f k s0_0 s0_1 s0_2 a1 = some (r1, r2, r3)) :
  Calls Try.prog 150 #[.pointer (some ⟨g, 0, none⟩), .int .i64 a1] w fun e w' => ∃ v0_ : Value, e = .returned (v0_) ∧ Kd.R (Kd.int .i64) 3 w' w.heap.size (fun _ => True) v0_ r1 ∧ IsS68 w0 w' g s0_0 r2 r3 ∧ Below w0.heap.size w0 w' ∧ KeepBut w w' g none := by
 have HI0 := Aside0.mk hI
 have HK := Aside0.mk (KeepBut.refl w g none)
 have HL := Aside0.mk hB.size
 clear hI
 have HW0 := Aside0.mk hB.size
 have HB := Aside0.mk hB
 clear hB
 have H := h
 unfold spec_l1Cur_dotsUp.f at H
 clear h
 have H' := Aside0.mk H
 clear H
 go_enter Try.func150, Try.ntmps150
 go_wp2
 go_loopg [5, 6] k (fun kq v5 v6 w' => ∃ (x5_1 : List Int) (x6_1 : Int) (x1001_1 : Int) (x1002_1 : Int), v6 = .int .i64 x6_1 ∧ Aside0 (spec_l1Cur_dotsUp.l0 kq a1 x5_1 x6_1 s0_0 x1001_1 x1002_1 = some (r1, r2, r3)) ∧ Aside0 (kq ≤ k) ∧ Aside0 (Kd.R (Kd.int .i64) 3 w' w.heap.size (fun _ => True) v5 x5_1) ∧ Aside0 (IsS68 w0 w' g s0_0 x1001_1 x1002_1) ∧ Aside0 (KeepBut w w' g none) ∧ Aside0 (Below w0.heap.size w0 w'))
 case atStart => exact ⟨(([] : List Int)), (1), (s0_1), (s0_2), eqd, H', ⟨Nat.le_refl _⟩, ⟨by first | exact Kd.R_nil _ _ _ _ _ | exact Kd.N_nil _ _ _ _ _ | exact Kd.V_nil _ _ _ _ _ | exact Kd.Q_nil _ _ _ _ _ | exact Kd.S_nil _ _ _ _ _⟩, ⟨IsS68.at HI0⟩, ⟨atK HK⟩, ⟨atB HB⟩⟩
 case round =>
  clear H'
  try clear c1
  try clear p2
  obtain ⟨x5_1, x6_1, x1001_1, x1002_1, rfl, HA, HK1, HO_5, HI0, HK, HB⟩ := hrel
  cases gk with
  | zero => exact absurd HA.out (by simp [spec_l1Cur_dotsUp.l0])
  | succ k1 =>
   have H := HA.out
   clear HA
   simp only [spec_l1Cur_dotsUp.l0] at H
   by_cases c3 : x6_1 < a1
   ·rw [if_pos c3] at H
    have c3b0 : decide (x6_1 < a1) = true := decide_eq_true c3
    clear c3
    replace H := Option.bind_eq_some_iff.mp H
    obtain ⟨⟨t715, t716, t717⟩, A40, H⟩ := H
    replace H : ((insAt.f x5_1 t715 x6_1).bind fun t718 => (spec_l1Cur_dotsUp.l0 k1 a1 t718 (wrap64 (x6_1 + 1)) s0_0 t716 t717)) = some (r1, r2, r3) := H
    have A4 := Aside0.mk A40
    clear A40
    replace H := Option.bind_eq_some_iff.mp H
    obtain ⟨t718, A50, H⟩ := H
    replace H : (spec_l1Cur_dotsUp.l0 k1 a1 t718 (wrap64 (x6_1 + 1)) s0_0 t716 t717) = some (r1, r2, r3) := H
    have A5 := Aside0.mk A50
    clear A50
    have H' := Aside0.mk H
    clear H
    go_wp2_with (first | ((with_reducible refine gate_callee (f := 97) rfl ?_); refine goesA (some 15) Try.func97 #[.pointer (some ⟨g, 0, none⟩), .int .i64 x6_1] ?_; (with_reducible refine (spec_l1Cur_pick.calls g s0_0 x1001_1 x1002_1 x6_1 t715 t716 t717 w0 _ ?side1 ?side2 A4.out).mono ?_); (case side1 => exact IsS68.at HI0); (case side2 => exact atB HB); rintro e w6 ⟨rfl, hi, hb, hk⟩; refine ⟨_, rfl, ?_⟩; replace HO_5 := IsS68.keepR HI0 HO_5 hk; replace HK := upK HK hk; replace HB := Aside0.mk (hb); replace HI0 := Aside0.mk (hi); (try clear hb); (try clear hb2); (try clear hk); (try clear hi); obtain ⟨Ao7, co7, eo7⟩ := Kd.R_slice HO_5.out; subst eo7))
    have hI_ := A5.out
    unfold insAt.f at hI_
    obtain ⟨i0_, i1_, i2_, hI_⟩ := insAt_parts hI_
    obtain ⟨iq_, hiq_, _, hsq_, _⟩ := info_parts info3
    have hc_ : x5_1.length ≤ co7 := by exact (Kd.R_reads' HO_5.out).2.1
    have hC0_ : Kd.C (Kd.int .i64) w6 Ao7 x5_1.length x5_1 := by repeat (first | exact (Kd.R_reads' HO_5.out).2.2 | (with_reducible refine Kd.C_alloc ?_ _) | (with_reducible refine Kd.C_drewN ?_ _) | (with_reducible refine Kd.C_drew ?_))
    obtain ⟨hcutP_, hAP_, hCP_⟩ := print_take_of (P := Try.prog) (Value.int .i64) 0 24 3 .i64 Try.underlying24 hiq_ hsq_ Ao7 co7 x5_1 t715 i0_ i1_ hc_
    obtain ⟨AD_, hcutD_, hAD_, hCD_⟩ := print_drop_of (P := Try.prog) (Value.int .i64) 0 24 3 .i64 Try.underlying24 hiq_ hsq_ Ao7 co7 x5_1 t715 i0_ i1_ hc_
    replace hCP_ := Kd.C_of_reads (h1 := fun _ => rfl) (hAP_ _ (Kd.reads_of_C hC0_))
    replace hCD_ := Kd.C_of_reads (h1 := fun _ => rfl) (hAD_ _ (Kd.reads_of_C hC0_))
    have hlP_ : (x5_1.take t715.toNat).length = t715.toNat := by rw [List.length_take]; omega
    rw [hlP_] at hCP_
    rw [List.length_drop] at hCD_
    have hbW_ : Below w6.heap.size w6 w6.drew := below_drew1 (Below.refl _ _)
    refine start_ (n := 13) (S := fun w' => True) (ds := []) #[false, false, false, false, false, false, false, false, false, false, false, false, false] (by kernel_rfl) rfl rfl trivial (fun hHeld => ?_)
    refine pure_ (i := 1) (N := some 17) (v := ?_) (a' := ?_) #[false, true, false, false, false, false, false, false, false, false, false, false, false] rfl rfl (by kernel_rfl) (fun _ _ _ h => h) (Or.inl ⟨by rfl, ?_⟩) ?_ ?_
    rotate_left
    ·intro w'
     go_simp
     with_reducible rfl
    rotate_left
    ·simp only [Act.put, List.setIfInBounds_toArray, List.set_cons_zero, List.set_cons_succ, i64_w, i32_w]
     rfl
    refine pure_ (i := 2) (N := some 18) (v := ?_) (a' := ?_) #[false, true, true, false, false, false, false, false, false, false, false, false, false] rfl rfl (by kernel_rfl) (fun _ _ _ h => h) (Or.inl ⟨by rfl, ?_⟩) ?_ ?_
    rotate_left
    ·intro w'
     go_simp
     with_reducible rfl
    rotate_left
    ·simp only [Act.put, List.setIfInBounds_toArray, List.set_cons_zero, List.set_cons_succ, i64_w, i32_w]
     rfl
    refine pure_ (i := 3) (N := some 19) (v := ?_) (a' := ?_) #[false, true, true, true, false, false, false, false, false, false, false, false, false] rfl rfl (by kernel_rfl) (fun _ _ _ h => h) (Or.inl ⟨by rfl, ?_⟩) ?_ ?_
    rotate_left
    ·intro w'
     go_simp
     with_reducible rfl
    rotate_left
    ·simp only [Act.put, List.setIfInBounds_toArray, List.set_cons_zero, List.set_cons_succ, i64_w, i32_w]
     rfl
    refine pure_ (i := 5) (N := some 21) (v := ?_) (a' := ?_) #[false, true, true, true, false, true, false, false, false, false, false, false, false] rfl rfl (by kernel_rfl) (fun _ _ _ h => h) (Or.inl ⟨by rfl, ?_⟩) ?_ ?_
    rotate_left
    ·intro w'
     go_simp
     with_reducible rfl
    rotate_left
    ·simp only [Act.put, List.setIfInBounds_toArray, List.set_cons_zero, List.set_cons_succ, i64_w, i32_w]
     rfl
    refine pure_ (i := 8) (N := some 24) (v := ?_) (a' := ?_) #[false, true, true, true, false, true, false, false, true, false, false, false, false] rfl rfl (by kernel_rfl) (fun _ _ _ h => h) (Or.inl ⟨by rfl, ?_⟩) ?_ ?_
    rotate_left
    ·intro w'
     go_simp
     with_reducible rfl
    rotate_left
    ·simp only [Act.put, List.setIfInBounds_toArray, List.set_cons_zero, List.set_cons_succ, i64_w, i32_w]
     rfl
    refine pure_ (i := 9) (N := some 25) (v := ?_) (a' := ?_) #[false, true, true, true, false, true, false, false, true, true, false, false, false] rfl rfl (by kernel_rfl) (fun _ _ _ h => h) (Or.inl ⟨by rfl, ?_⟩) ?_ ?_
    rotate_left
    ·intro w'
     go_simp
     with_reducible rfl
    rotate_left
    ·simp only [Act.put, List.setIfInBounds_toArray, List.set_cons_zero, List.set_cons_succ, i64_w, i32_w]
     rfl
    refine pure_ (i := 10) (N := some 26) (v := ?_) (a' := ?_) #[false, true, true, true, false, true, false, false, true, true, true, false, false] rfl rfl (by kernel_rfl) (fun _ _ _ h => h) (Or.inl ⟨by rfl, ?_⟩) ?_ ?_
    rotate_left
    ·intro w'
     go_simp
     with_reducible rfl
    rotate_left
    ·simp only [Act.put, List.setIfInBounds_toArray, List.set_cons_zero, List.set_cons_succ, i64_w, i32_w]
     rfl
    refine join_ (σ := Value × Value × Nat) 3 #[true, true, true, true, true, true, true, false, true, true, true, false, false] (fun s => [(16, s.1), (20, s.2.1), (22, .slice (some ⟨s.2.2, 0, none⟩) 1 1)]) (fun s w' => Kd.R (Kd.int .i64) 3 w' w6.heap.size (fun _ => True) s.2.1 ([] ++ (x5_1.take t715.toNat)) ∧ w'.heap[s.2.2]? = some (.cells #[.int .i64 x6_1] 3 (0, 0)) ∧ Below w6.heap.size w6 w') ?_ ?_
    rotate_left
    ·intro hCont
     refine two_ (i := 0) (j := 6) (Ni := some 16) (Nj := some 22) #[true, true, true, true, false, true, false, false, true, true, true, false, false] #[false, true, true, true, false, true, true, false, true, true, true, false, false] rfl rfl rfl rfl (by kernel_rfl) (by decide) (by decide) (fun K hK => ?_) (fun K hK => ?_)
     ·skip
      refine Kd.R_lit_step (Kd.int .i64) (w0 := w6) w6.heap.size 3 (by rfl) (N := 16) rfl (xs := ([] : List Int)) (inner := []) (ok := fun _ => True) (okp := fun _ => True) ?hr ?hp (fun _ hk => hk) trivial hbW_ (hbW_).size (by simp) ?_
      case hr => first | (go_simp; done) | (go_simp; rfl)
      case hp => exact Reps.none _ _
      intro vE wE hoE hbE hgE hnE
      refine hK.out _ _ trivial (fun hHeld => ?_)
      clear hK K
      refine norm_ (a' := ?_) ?_ ?_
      rotate_left
      ·show Act.put _ (some 16) _ = _
       simp only [Act.put, List.setIfInBounds_toArray, List.set_cons_zero, List.set_cons_succ, i64_w, i32_w]
       rfl
      refine two_ (i := 4) (j := 6) (Ni := some 20) (Nj := some 22) #[true, true, true, true, true, true, false, false, true, true, true, false, false] #[true, true, true, true, false, true, true, false, true, true, true, false, false] rfl rfl rfl rfl (by kernel_rfl) (by decide) (by decide) (fun K hK => ?_) (fun K hK => ?_)
      ·skip
       refine Kd.R_append_rows_step (Kd.int .i64) (w0 := w6) w6.heap.size (by rfl) (.tmp 16) (.tmp 19) 24 3 (.int .i64 0) 8 rfl Try.underlying24 info3 rfl (by decide) (by omega) vE [] (x5_1.take t715.toNat) Ao7 _ _ (fun _ => True) (fun _ => False) rfl rfl ?aO ?aR (fun _ _ h => h) (fun _ h => h.elim) (fun _ _ => trivial) ?aB ?aS ?aL ?_
       case aO => exact hoE
       case aR => exact (Kd.C_below hCP_ hbE)
       case aB => exact hbE
       case aS => exact (hbE).size
       case aL => simp only [List.length_append, List.length_cons, List.length_nil, List.length_take, List.length_drop]; omega
       intro vA wA hoA hbA hgA haA
       refine hK.out _ _ trivial (fun hHeld => ?_)
       clear hK K
       refine norm_ (a' := ?_) ?_ ?_
       rotate_left
       ·show Act.put _ (some 20) _ = _
        simp only [Act.put, List.setIfInBounds_toArray, List.set_cons_zero, List.set_cons_succ, i64_w, i32_w]
        rfl
       refine one_ (i := 6) (N := some 22) #[true, true, true, true, true, true, true, false, true, true, true, false, false] rfl rfl (by kernel_rfl) (by decide) (fun K hK => ?_)
       refine value_ (w1 := ?_) (v := ?_) (by rfl) rfl ?_ ?_
       rotate_left 2
       ·go_simp
        constructor
        ·rfl
        ·rfl
       refine hK.out _ _ trivial (fun hHeld => ?_)
       clear hK K
       refine norm_ (a' := ?_) ?_ ?_
       rotate_left
       ·show Act.put _ (some 22) _ = _
        simp only [Act.put, List.setIfInBounds_toArray, List.set_cons_zero, List.set_cons_succ, i64_w, i32_w]
        rfl
       exact norm_ (by simp only [putAll, Act.put, List.setIfInBounds_toArray, List.set_cons_zero, List.set_cons_succ]) (hCont (vE, vA, wA.heap.size) _ ⟨Kd.R_alloc hoA _, heap_alloc_new wA _, below_alloc hbA _⟩)
      ·skip
       refine value_ (w1 := ?_) (v := ?_) (by rfl) rfl ?_ ?_
       rotate_left 2
       ·go_simp
        constructor
        ·rfl
        ·rfl
       refine hK.out _ _ trivial (fun hHeld => ?_)
       clear hK K
       refine norm_ (a' := ?_) ?_ ?_
       rotate_left
       ·show Act.put _ (some 22) _ = _
        simp only [Act.put, List.setIfInBounds_toArray, List.set_cons_zero, List.set_cons_succ, i64_w, i32_w]
        rfl
       refine one_ (i := 4) (N := some 20) #[true, true, true, true, true, true, true, false, true, true, true, false, false] rfl rfl (by kernel_rfl) (by decide) (fun K hK => ?_)
       refine Kd.R_append_rows_step (Kd.int .i64) (w0 := w6) w6.heap.size (by rfl) (.tmp 16) (.tmp 19) 24 3 (.int .i64 0) 8 rfl Try.underlying24 info3 rfl (by decide) (by omega) vE [] (x5_1.take t715.toNat) Ao7 _ _ (fun _ => True) (fun _ => False) rfl rfl ?aO ?aR (fun _ _ h => h) (fun _ h => h.elim) (fun _ _ => trivial) ?aB ?aS ?aL ?_
       case aO => exact (Kd.R_alloc hoE _)
       case aR => exact (Kd.C_below hCP_ (below_alloc hbE _))
       case aB => exact (below_alloc hbE _)
       case aS => exact ((below_alloc hbE _)).size
       case aL => simp only [List.length_append, List.length_cons, List.length_nil, List.length_take, List.length_drop]; omega
       intro vA wA hoA hbA hgA haA
       have hx2_ := (hgA.block wE.heap.size (heap_lt_alloc _ _) (new_ne hoE)).trans (heap_alloc_new wE (.cells #[.int .i64 x6_1] 3))
       refine hK.out _ _ trivial (fun hHeld => ?_)
       clear hK K
       refine norm_ (a' := ?_) ?_ ?_
       rotate_left
       ·show Act.put _ (some 20) _ = _
        simp only [Act.put, List.setIfInBounds_toArray, List.set_cons_zero, List.set_cons_succ, i64_w, i32_w]
        rfl
       exact norm_ (by simp only [putAll, Act.put, List.setIfInBounds_toArray, List.set_cons_zero, List.set_cons_succ]) (hCont (vE, vA, wE.heap.size) _ ⟨hoA, hx2_, hbA⟩)
     ·skip
      refine value_ (w1 := ?_) (v := ?_) (by rfl) rfl ?_ ?_
      rotate_left 2
      ·go_simp
       constructor
       ·rfl
       ·rfl
      refine hK.out _ _ trivial (fun hHeld => ?_)
      clear hK K
      refine norm_ (a' := ?_) ?_ ?_
      rotate_left
      ·show Act.put _ (some 22) _ = _
       simp only [Act.put, List.setIfInBounds_toArray, List.set_cons_zero, List.set_cons_succ, i64_w, i32_w]
       rfl
      refine one_ (i := 0) (N := some 16) #[true, true, true, true, false, true, true, false, true, true, true, false, false] rfl rfl (by kernel_rfl) (by decide) (fun K hK => ?_)
      refine Kd.R_lit_step (Kd.int .i64) (w0 := w6) w6.heap.size 3 (by rfl) (N := 16) rfl (xs := ([] : List Int)) (inner := []) (ok := fun _ => True) (okp := fun _ => True) ?hr ?hp (fun _ hk => hk) trivial (below_alloc hbW_ (.cells #[.int .i64 x6_1] 3)) ((below_alloc hbW_ (.cells #[.int .i64 x6_1] 3))).size (by simp) ?_
      case hr => first | (go_simp; done) | (go_simp; rfl)
      case hp => exact Reps.none _ _
      intro vE wE hoE hbE hgE hnE
      have hx1_ := (hgE.block w6.drew.heap.size (heap_lt_alloc _ _) (by simp)).trans (heap_alloc_new w6.drew (.cells #[.int .i64 x6_1] 3))
      refine hK.out _ _ trivial (fun hHeld => ?_)
      clear hK K
      refine norm_ (a' := ?_) ?_ ?_
      rotate_left
      ·show Act.put _ (some 16) _ = _
       simp only [Act.put, List.setIfInBounds_toArray, List.set_cons_zero, List.set_cons_succ, i64_w, i32_w]
       rfl
      refine one_ (i := 4) (N := some 20) #[true, true, true, true, true, true, true, false, true, true, true, false, false] rfl rfl (by kernel_rfl) (by decide) (fun K hK => ?_)
      refine Kd.R_append_rows_step (Kd.int .i64) (w0 := w6) w6.heap.size (by rfl) (.tmp 16) (.tmp 19) 24 3 (.int .i64 0) 8 rfl Try.underlying24 info3 rfl (by decide) (by omega) vE [] (x5_1.take t715.toNat) Ao7 _ _ (fun _ => True) (fun _ => False) rfl rfl ?aO ?aR (fun _ _ h => h) (fun _ h => h.elim) (fun _ _ => trivial) ?aB ?aS ?aL ?_
      case aO => exact hoE
      case aR => exact (Kd.C_below hCP_ hbE)
      case aB => exact hbE
      case aS => exact (hbE).size
      case aL => simp only [List.length_append, List.length_cons, List.length_nil, List.length_take, List.length_drop]; omega
      intro vA wA hoA hbA hgA haA
      have hx2_ := (hgA.block w6.drew.heap.size (lt_of_cells hx1_) (elder_ne hnE (heap_lt_alloc _ _))).trans hx1_
      refine hK.out _ _ trivial (fun hHeld => ?_)
      clear hK K
      refine norm_ (a' := ?_) ?_ ?_
      rotate_left
      ·show Act.put _ (some 20) _ = _
       simp only [Act.put, List.setIfInBounds_toArray, List.set_cons_zero, List.set_cons_succ, i64_w, i32_w]
       rfl
      exact norm_ (by simp only [putAll, Act.put, List.setIfInBounds_toArray, List.set_cons_zero, List.set_cons_succ]) (hCont (vE, vA, w6.heap.size) _ ⟨hoA, hx2_, hbA⟩)
    rintro ⟨v16_, v20_, b_⟩ w20_ ⟨hoT_, hbx_, hbT_⟩
    have hHeld : True := trivial
    refine norm_ (a' := ?_) ?_ ?_
    rotate_left
    ·simp only [putAll, Act.put, List.setIfInBounds_toArray, List.set_cons_zero, List.set_cons_succ]
     rfl
    refine one_ (i := 7) (N := some 23) #[true, true, true, true, true, true, true, true, true, true, true, false, false] rfl rfl (by kernel_rfl) (by decide) (fun K hK => ?_)
    refine Kd.R_append_rows_step (Kd.int .i64) (w0 := w6) w6.heap.size (by rfl) (.tmp 20) (.tmp 22) 24 3 (.int .i64 0) 8 rfl Try.underlying24 info3 rfl (by decide) (by omega) v20_ ([] ++ (x5_1.take t715.toNat)) [x6_1] (some ⟨b_, 0, none⟩) 1 1 (fun _ => True) (fun _ => False) rfl rfl ?aO ?aR (fun _ _ h => h) (fun _ h => h.elim) (fun _ _ => trivial) ?aB ?aS ?aL ?_
    case aO => exact hoT_
    case aR => exact (C_box hbx_)
    case aB => exact hbT_
    case aS => exact (hbT_).size
    case aL => simp only [List.length_append, List.length_cons, List.length_nil, List.length_take, List.length_drop]; omega
    intro v23_ w23_ hoT2_ hbT2_ hgT2_ haT2_
    refine hK.out _ _ trivial (fun hHeld => ?_)
    clear hK K
    refine norm_ (a' := ?_) ?_ ?_
    rotate_left
    ·show Act.put _ (some 23) _ = _
     simp only [Act.put, List.setIfInBounds_toArray, List.set_cons_zero, List.set_cons_succ, i64_w, i32_w]
     rfl
    refine one_ (i := 11) (N := some 27) #[true, true, true, true, true, true, true, true, true, true, true, true, false] rfl rfl (by kernel_rfl) (by decide) (fun K hK => ?_)
    refine Kd.R_append_rows_step (Kd.int .i64) (w0 := w6) w6.heap.size (by rfl) (.tmp 23) (.tmp 26) 24 3 (.int .i64 0) 8 rfl Try.underlying24 info3 rfl (by decide) (by omega) v23_ ([] ++ (x5_1.take t715.toNat) ++ [x6_1]) (x5_1.drop t715.toNat) AD_ _ _ (fun _ => True) (fun _ => False) rfl rfl ?aO ?aR (fun _ _ h => h) (fun _ h => h.elim) (fun _ _ => trivial) ?aB ?aS ?aL ?_
    case aO => exact hoT2_
    case aR => exact (Kd.C_below hCD_ hbT2_)
    case aB => exact hbT2_
    case aS => exact (hbT2_).size
    case aL => simp only [List.length_append, List.length_cons, List.length_nil, List.length_take, List.length_drop]; omega
    intro v719 w8 hoZ_ hbZ_ hgZ_ haZ_
    refine hK.out _ _ trivial (fun hHeld => ?_)
    clear hK K
    refine norm_ (a' := ?_) ?_ ?_
    rotate_left
    ·show Act.put _ (some 27) _ = _
     simp only [Act.put, List.setIfInBounds_toArray, List.set_cons_zero, List.set_cons_succ, i64_w, i32_w]
     rfl
    refine pure_ (i := 12) (N := some 5) (v := ?_) (a' := ?_) #[true, true, true, true, true, true, true, true, true, true, true, true, true] rfl rfl (by kernel_rfl) (fun _ _ _ h => h) (Or.inl ⟨by rfl, ?_⟩) ?_ ?_
    rotate_left
    ·intro w'
     go_simp
     with_reducible rfl
    rotate_left
    ·simp only [Act.put, List.setIfInBounds_toArray, List.set_cons_zero, List.set_cons_succ, i64_w, i32_w]
     rfl
    refine done_ (by kernel_rfl) ?_
    have ho0 : Kd.R (Kd.int .i64) 3 w8 w6.heap.size (fun _ => True) v719 t718 := by have h_ := hoZ_; rw [List.nil_append] at h_; rw [← hI_]; exact h_
    have hb := hbZ_
    have HO720 := Aside0.mk (Kd.R_lower (Kd.R_new' ho0 (ltR HO_5)) (szK HK)); replace HO_5 := eldRR HO_5 ho0 hb; replace HI0 := IsS68.up HI0 hb; replace HK := upKB HK hb; replace HB := upB HB hb; (try clear hb); (try clear hb2); (try clear hk); (try clear hi); (try clear ho0)
    (try clear hoZ_ hbZ_ hgZ_ haZ_ hoT_ hoT2_)
    try go_wp2
    go_roundg k1
    case measure => have := HK1.out; omega
    case rel => exact ⟨(t718), (wrap64 (x6_1 + 1)), (t716), (t717), eqd, H', ⟨by have := HK1.out; omega⟩, ⟨by (with_reducible repeat (first | apply Kd.R_alloc | apply Kd.R_drewN | apply Kd.R_drew)); exact Kd.R_mono HO720.out (fun _ hk => trivial)⟩, ⟨IsS68.at HI0⟩, ⟨atK HK⟩, ⟨atB HB⟩⟩
   ·rw [if_neg c3] at H
    have c3b0 : decide (x6_1 < a1) = false := decide_eq_false c3
    clear c3
    simp only [Option.some.injEq, Prod.mk.injEq] at H
    obtain ⟨rfl, rfl, rfl⟩ := H
    go_wp2
    go_ret
    exact ⟨_, eqr, atR HO_5, IsS68.at HI0, atB HB, atK HK⟩
noncomputable def spec_l1Cur_dotsUp.L0 (x1 : Int) (x5 : List Int) (x6 : Int) (x1000 : List Int) (x1001 : Int) (x1002 : Int) : Option (List Int × Int × Int) := lim fun k => spec_l1Cur_dotsUp.l0 k x1 x5 x6 x1000 x1001 x1002
theorem spec_l1Cur_dotsUp.L0_lim (x1 : Int) (x5 : List Int) (x6 : Int) (x1000 : List Int) (x1001 : Int) (x1002 : Int) : Lim (fun k => spec_l1Cur_dotsUp.l0 k x1 x5 x6 x1000 x1001 x1002) (spec_l1Cur_dotsUp.L0 x1 x5 x6 x1000 x1001 x1002) := Lim.of fun k => (spec_l1Cur_dotsUp.mono_l k) x1 x5 x6 x1000 x1001 x1002
noncomputable def spec_l1Cur_dotsUp.F (s0_0 : List Int) (s0_1 : Int) (s0_2 : Int) (a1 : Int) : Option (List Int × Int × Int) := lim fun k => spec_l1Cur_dotsUp.f k s0_0 s0_1 s0_2 a1
theorem spec_l1Cur_dotsUp.F_lim (s0_0 : List Int) (s0_1 : Int) (s0_2 : Int) (a1 : Int) : Lim (fun k => spec_l1Cur_dotsUp.f k s0_0 s0_1 s0_2 a1) (spec_l1Cur_dotsUp.F s0_0 s0_1 s0_2 a1) := Lim.of fun k => spec_l1Cur_dotsUp.mono s0_0 s0_1 s0_2 a1 k
theorem spec_l1Cur_dotsUp.L0_eq (x1 : Int) (x5 : List Int) (x6 : Int) (x1000 : List Int) (x1001 : Int) (x1002 : Int) : spec_l1Cur_dotsUp.L0 x1 x5 x6 x1000 x1001 x1002 = (if x6 < x1 then ((spec_l1Cur_pick.f x1000 x1001 x1002 x6).bind fun bt715 => ((insAt.f x5 bt715.1 x6).bind fun t718 => (spec_l1Cur_dotsUp.L0 x1 t718 (wrap64 (x6 + 1)) x1000 bt715.2.1 bt715.2.2))) else (some (x5, x1001, x1002))) :=
 Lim.step (f := fun k => spec_l1Cur_dotsUp.l0 (k + 1) x1 x5 x6 x1000 x1001 x1002) (spec_l1Cur_dotsUp.L0_lim x1 x5 x6 x1000 x1001 x1002) (fun _ => rfl) (by
  simp only [spec_l1Cur_dotsUp.l0]
  repeat' (first | (with_reducible first | exact Lim.const _ | exact spec_l1Cur_dotsUp.L0_lim _ _ _ _ _ _ | refine Lim.ite ?_ ?_ | refine Lim.bind ?_ (fun _ => ?_))))
theorem spec_l1Cur_dotsUp.F_eq (s0_0 : List Int) (s0_1 : Int) (s0_2 : Int) (a1 : Int) : spec_l1Cur_dotsUp.F s0_0 s0_1 s0_2 a1 = (spec_l1Cur_dotsUp.L0 a1 ([] : List Int) 1 s0_0 s0_1 s0_2) :=
 Lim.unique (spec_l1Cur_dotsUp.F_lim s0_0 s0_1 s0_2 a1) (by
  unfold spec_l1Cur_dotsUp.f
  repeat' (first | (with_reducible first | exact Lim.const _ | exact spec_l1Cur_dotsUp.L0_lim _ _ _ _ _ _ | refine Lim.ite ?_ ?_ | refine Lim.bind ?_ (fun _ => ?_))))
end Go.Proofs.Ytnhnpplccfojeaa.Fn
