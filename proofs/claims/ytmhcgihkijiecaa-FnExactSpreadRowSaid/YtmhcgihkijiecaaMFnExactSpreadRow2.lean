/- The machine's side and plain lemmas for FnExactSpreadRow: texts of this session, merged by its program (part 2). -/
import Derived.Test.YtmhcgihkijiecaaMFnExactSpreadRow0
import Derived.Test.YtmhcgihkijiecaaMFnExactSpreadRow1
namespace Go.Proofs.Ytmhcgihkijiecaa.Fn
open Go.RowKit Go.Proofs.YtmhcgihkijiecaaW.PrintWords Go.Proofs.YtmhcgihkijiecaaW.PrintLast Go.Proofs.YtmhcgihkijiecaaW.PrintMore
attribute [local go_sem] max2_int min2_int max_two min_two max_three min_three max_four min_four   -- for this text's walks alone
set_option linter.unusedVariables false
set_option linter.unusedSimpArgs false

/-! ### slices_Index_int_int: function 89 -/
def slices_Index_int_int.l0 : Nat → List Int → Int → Int → Int → Option (Int)
  | 0, _, _, _, _ => none
  | k + 1, x0, x1, x7, x8 => if x8 < x7 then (if 0 ≤ x8 then (if x8 < (x0.length : Int) then (if x1 = (rd x0 x8) then (some x8) else (slices_Index_int_int.l0 k x0 x1 x7 (wrap64 (x8 + 1)))) else (none)) else (none)) else (some (-1))
def slices_Index_int_int.f (k : Nat) (l0 : List Int) (a1 : Int) : Option (Int) := slices_Index_int_int.l0 k l0 a1 (l0.length : Int) 0
theorem slices_Index_int_int.mono_l : ∀ k, (∀ y0 y1 y2 y3, LeO (slices_Index_int_int.l0 k y0 y1 y2 y3) (slices_Index_int_int.l0 (k + 1) y0 y1 y2 y3))
  | 0 => fun _ _ _ _ r h => by simp [slices_Index_int_int.l0] at h
  | k + 1 => by
    have ih0 := slices_Index_int_int.mono_l k
    · intro y0 y1 y2 y3
      unfold slices_Index_int_int.l0
      repeat' first
      | (with_reducible exact ih0 _ _ _ _)
      | (with_reducible exact LeO.refl _)
      | (with_reducible exact LeO.none _)
      | (with_reducible refine LeO.ite ?_ ?_)
      | (with_reducible refine LeO.bind ?_ (fun _ => ?_))
      | exact ih0 _ _ _ _
      | exact LeO.none _
      | refine LeO.ite ?_ ?_
      | refine LeO.bind ?_ (fun _ => ?_)
theorem slices_Index_int_int.mono : ∀ a0 a1 k, LeO (slices_Index_int_int.f k a0 a1) (slices_Index_int_int.f (k + 1) a0 a1) := by
  intro a0 a1 k
  have ih0 := slices_Index_int_int.mono_l k
  unfold slices_Index_int_int.f
  repeat' first
      | (with_reducible exact ih0 _ _ _ _)
      | (with_reducible exact LeO.refl _)
      | (with_reducible exact LeO.none _)
      | (with_reducible refine LeO.ite ?_ ?_)
      | (with_reducible refine LeO.bind ?_ (fun _ => ?_))
      | exact ih0 _ _ _ _
      | exact LeO.none _
      | refine LeO.ite ?_ ?_
      | refine LeO.bind ?_ (fun _ => ?_)
set_option maxHeartbeats 8000000 in
set_option maxRecDepth 100000 in
theorem slices_Index_int_int.calls (k : Nat) (A0 : Option Addr) (c0 : Nat) (l0 : List Int) (a1 : Int) (r : Int) (w : World) (hr0 : Kd.C (Kd.int .i64) w A0 l0.length l0) (hc0 : l0.length ≤ c0) (h : slices_Index_int_int.f k l0 a1 = some r) :
    Calls Try.prog 89 #[.slice A0 l0.length c0, .int .i64 a1] w fun e w' => e = .returned (.int .i64 r) ∧ Drawn0 w w' := by
  have HR0 := Aside0.mk hr0
  have HC0 := Aside0.mk hc0
  clear hr0 hc0
  have H : (slices_Index_int_int.l0 k l0 a1 (l0.length : Int) 0) = some r := h
  clear h
  have H' := Aside0.mk H
  clear H
  go_enter Try.func89, Try.ntmps89
  go_wp2
  go_loopg [8] k (fun kq v8 w' => ∃ (x8_1 : Int), v8 = .int .i64 x8_1 ∧ Aside0 (slices_Index_int_int.l0 kq l0 a1 (l0.length : Int) x8_1 = some r) ∧ Aside0 (kq ≤ k) ∧ Drawn0 w w')
  case atStart => exact ⟨(0), (by first | rfl | (simp; done) | (simp [*]; done)), H', ⟨Nat.le_refl _⟩, by repeat (first | exact Drawn0.refl _ | apply Drawn0.step)⟩
  case round =>
    clear H'
    try clear p2
    obtain ⟨x8_1, rfl, HA, HK1, ⟨m1, rfl⟩⟩ := hrel
    cases gk with
    | zero => exact absurd HA.out (by simp [slices_Index_int_int.l0])
    | succ k1 =>
      have H := HA.out
      clear HA
      simp only [slices_Index_int_int.l0] at H
      by_cases c3 : x8_1 < (l0.length : Int)
      · rw [if_pos c3] at H
        have c3b0 : decide (x8_1 < (l0.length : Int)) = true := decide_eq_true c3
        clear c3
        by_cases c4 : 0 ≤ x8_1
        · rw [if_pos c4] at H
          have c4b0 : decide (0 ≤ x8_1) = true := decide_eq_true c4
          clear c4
          by_cases c5 : x8_1 < (l0.length : Int)
          · rw [if_pos c5] at H
            have c5b0 : decide (x8_1 < (l0.length : Int)) = true := decide_eq_true c5
            clear c5
            by_cases c6 : a1 = (rd l0 x8_1)
            · rw [if_pos c6] at H
              have c6b0 : (a1 == (rd l0 x8_1)) = true := beq_iff_eq.mpr c6
              have c6b1 : (a1 != (rd l0 x8_1)) = false := bne_eq_false_iff_eq.mpr c6
              clear c6
              obtain rfl := Option.some.inj H
              have p384 : 0 ≤ (x8_1 : Int) := of_decide_eq_true (by first | (with_reducible assumption) | assumption)
              have q384 : x8_1 < (l0.length : Int) := of_decide_eq_true (by first | (with_reducible assumption) | assumption)
              obtain ⟨ad384, e384, hx384_0⟩ := Kd.at_int HR0.out x8_1 p384 q384
              cases e384
              replace p384 := eq_true p384
              replace q384 := eq_true q384
              go_wp2
              go_ret
              exact ⟨by first | rfl | (simp; done) | (simp [*]; done), by repeat (first | exact Drawn0.refl _ | apply Drawn0.step)⟩
            · rw [if_neg c6] at H
              have c6b0 : (a1 == (rd l0 x8_1)) = false := beq_eq_false_iff_ne.mpr c6
              have c6b1 : (a1 != (rd l0 x8_1)) = true := bne_iff_ne.mpr c6
              have H' := Aside0.mk H
              clear H
              have p384 : 0 ≤ (x8_1 : Int) := of_decide_eq_true (by first | (with_reducible assumption) | assumption)
              have q384 : x8_1 < (l0.length : Int) := of_decide_eq_true (by first | (with_reducible assumption) | assumption)
              obtain ⟨ad384, e384, hx384_0⟩ := Kd.at_int HR0.out x8_1 p384 q384
              cases e384
              replace p384 := eq_true p384
              replace q384 := eq_true q384
              go_wp2
              go_roundg k1
              case measure => have := HK1.out; omega
              case rel => exact ⟨(wrap64 (x8_1 + 1)), (by first | rfl | (simp; done) | (simp [*]; done)), H', ⟨by have := HK1.out; omega⟩, by repeat (first | exact Drawn0.refl _ | apply Drawn0.step)⟩
          · rw [if_neg c5] at H
            exact absurd H (by simp)
        · rw [if_neg c4] at H
          exact absurd H (by simp)
      · rw [if_neg c3] at H
        have c3b0 : decide (x8_1 < (l0.length : Int)) = false := decide_eq_false c3
        clear c3
        obtain rfl := Option.some.inj H
        go_wp2
        go_ret
        exact ⟨by first | rfl | (simp; done) | (simp [*]; done), by repeat (first | exact Drawn0.refl _ | apply Drawn0.step)⟩

noncomputable def slices_Index_int_int.L0 (x0 : List Int) (x1 : Int) (x7 : Int) (x8 : Int) : Option (Int) := lim fun k => slices_Index_int_int.l0 k x0 x1 x7 x8
theorem slices_Index_int_int.L0_lim (x0 : List Int) (x1 : Int) (x7 : Int) (x8 : Int) : Lim (fun k => slices_Index_int_int.l0 k x0 x1 x7 x8) (slices_Index_int_int.L0 x0 x1 x7 x8) := Lim.of fun k => (slices_Index_int_int.mono_l k) x0 x1 x7 x8
noncomputable def slices_Index_int_int.F (l0 : List Int) (a1 : Int) : Option (Int) := lim fun k => slices_Index_int_int.f k l0 a1
theorem slices_Index_int_int.F_lim (l0 : List Int) (a1 : Int) : Lim (fun k => slices_Index_int_int.f k l0 a1) (slices_Index_int_int.F l0 a1) := Lim.of fun k => slices_Index_int_int.mono l0 a1 k
theorem slices_Index_int_int.L0_eq (x0 : List Int) (x1 : Int) (x7 : Int) (x8 : Int) : slices_Index_int_int.L0 x0 x1 x7 x8 = (if x8 < x7 then (if 0 ≤ x8 then (if x8 < (x0.length : Int) then (if x1 = (rd x0 x8) then (some x8) else (slices_Index_int_int.L0 x0 x1 x7 (wrap64 (x8 + 1)))) else (none)) else (none)) else (some (-1))) :=
  Lim.step (f := fun k => (if x8 < x7 then (if 0 ≤ x8 then (if x8 < (x0.length : Int) then (if x1 = (rd x0 x8) then (some x8) else (slices_Index_int_int.l0 k x0 x1 x7 (wrap64 (x8 + 1)))) else (none)) else (none)) else (some (-1)))) (slices_Index_int_int.L0_lim x0 x1 x7 x8) (fun k => by first | rfl | rw [slices_Index_int_int.l0]) (by
    repeat' first
    | (with_reducible exact Lim.const _)
    | (with_reducible exact slices_Index_int_int.L0_lim _ _ _ _)
    | (with_reducible refine Lim.ite ?_ ?_)
    | (with_reducible refine Lim.bind ?_ (fun _ => ?_)))
theorem slices_Index_int_int.F_eq (l0 : List Int) (a1 : Int) : slices_Index_int_int.F l0 a1 = (slices_Index_int_int.L0 l0 a1 (l0.length : Int) 0) :=
  Lim.unique (slices_Index_int_int.F_lim l0 a1) (by
    unfold slices_Index_int_int.f
    repeat' first
    | (with_reducible exact Lim.const _)
    | (with_reducible exact slices_Index_int_int.L0_lim _ _ _ _)
    | (with_reducible refine Lim.ite ?_ ?_)
    | (with_reducible refine Lim.bind ?_ (fun _ => ?_)))

end Go.Proofs.Ytmhcgihkijiecaa.Fn
namespace Go.Proofs.Ytmhcgihkijiecaa.Fn
open Go.RowKit Go.Proofs.YtmhcgihkijiecaaW.PrintWords Go.Proofs.YtmhcgihkijiecaaW.PrintLast Go.Proofs.YtmhcgihkijiecaaW.PrintMore
attribute [local go_sem] max2_int min2_int max_two min_two max_three min_three max_four min_four   -- for this text's walks alone
set_option linter.unusedVariables false
set_option linter.unusedSimpArgs false

/-! ### slices_Contains_int_int: function 67 -/
def slices_Contains_int_int.f (k : Nat) (l0 : List Int) (a1 : Int) : Option (Bool) := (slices_Index_int_int.f k l0 a1).bind fun t385 => (some (decide (t385 ≥ 0)))
theorem slices_Contains_int_int.mono : ∀ a0 a1 k, LeO (slices_Contains_int_int.f k a0 a1) (slices_Contains_int_int.f (k + 1) a0 a1) := by
  intro a0 a1 k
  unfold slices_Contains_int_int.f
  repeat' first
      | (with_reducible exact slices_Index_int_int.mono _ _ _)
      | (with_reducible exact LeO.refl _)
      | (with_reducible exact LeO.none _)
      | (with_reducible refine LeO.ite ?_ ?_)
      | (with_reducible refine LeO.bind ?_ (fun _ => ?_))
      | exact slices_Index_int_int.mono _ _ _
      | exact LeO.none _
      | refine LeO.ite ?_ ?_
      | refine LeO.bind ?_ (fun _ => ?_)
set_option maxHeartbeats 8000000 in
set_option maxRecDepth 100000 in
theorem slices_Contains_int_int.calls (k : Nat) (A0 : Option Addr) (c0 : Nat) (l0 : List Int) (a1 : Int) (r : Bool) (w : World) (hr0 : Kd.C (Kd.int .i64) w A0 l0.length l0) (hc0 : l0.length ≤ c0) (h : slices_Contains_int_int.f k l0 a1 = some r) :
    Calls Try.prog 67 #[.slice A0 l0.length c0, .int .i64 a1] w fun e w' => e = .returned (.bool r) ∧ Drawn0 w w' := by
  have HR0 := Aside0.mk hr0
  have HC0 := Aside0.mk hc0
  clear hr0 hc0
  have H : ((slices_Index_int_int.f k l0 a1).bind fun t385 => (some (decide (t385 ≥ 0)))) = some r := h
  clear h
  replace H := Option.bind_eq_some_iff.mp H
  obtain ⟨t385, A30, H⟩ := H
  replace H : (some (decide (t385 ≥ 0))) = some r := H
  have A3 := Aside0.mk A30
  clear A30
  obtain rfl := Option.some.inj H
  go_enter Try.func67, Try.ntmps67
  go_wp2_with (first | ((with_reducible refine gate_callee (f := 89) rfl ?_); refine goesL_ (some 7) rfl rfl Try.func89 (by kernel_rfl) rfl #[.slice A0 l0.length c0, .int .i64 a1] rfl (by (try simp only [List.map_toArray, List.map_cons, List.map_nil]); first | done | rfl | (simp only [List.length_drop, List.length_take]; rfl)) ?_; (with_reducible refine (slices_Index_int_int.calls k _ _ l0 a1 t385 _ ?side1 ?side2 A3.out).mono ?_); (case side1 => repeat (first | exact HR0.out | (with_reducible refine Kd.C_alloc ?_ _) | (with_reducible refine Kd.C_drewN ?_ _) | (with_reducible refine Kd.C_drew ?_))); (case side2 => exact HC0.out); rintro e w' ⟨rfl, ⟨nd, rfl⟩⟩; refine ⟨_, rfl, ?_⟩))
  go_ret
  exact ⟨by first | rfl | (simp; done) | (simp [*]; done), by repeat (first | exact Drawn0.refl _ | apply Drawn0.step)⟩

noncomputable def slices_Contains_int_int.F (l0 : List Int) (a1 : Int) : Option (Bool) := lim fun k => slices_Contains_int_int.f k l0 a1
theorem slices_Contains_int_int.F_lim (l0 : List Int) (a1 : Int) : Lim (fun k => slices_Contains_int_int.f k l0 a1) (slices_Contains_int_int.F l0 a1) := Lim.of fun k => slices_Contains_int_int.mono l0 a1 k
theorem slices_Contains_int_int.F_eq (l0 : List Int) (a1 : Int) : slices_Contains_int_int.F l0 a1 = ((slices_Index_int_int.F l0 a1).bind fun t385 => (some (decide (t385 ≥ 0)))) :=
  Lim.unique (slices_Contains_int_int.F_lim l0 a1) (by
    unfold slices_Contains_int_int.f
    repeat' first
    | (with_reducible exact Lim.const _)
    | (with_reducible exact slices_Index_int_int.F_lim _ _)
    | (with_reducible refine Lim.ite ?_ ?_)
    | (with_reducible refine Lim.bind ?_ (fun _ => ?_)))

end Go.Proofs.Ytmhcgihkijiecaa.Fn
namespace Go.Proofs.Ytmhcgihkijiecaa.Fn
open Go.RowKit Go.Proofs.YtmhcgihkijiecaaW.PrintWords Go.Proofs.YtmhcgihkijiecaaW.PrintLast Go.Proofs.YtmhcgihkijiecaaW.PrintMore
attribute [local go_sem] max2_int min2_int max_two min_two max_three min_three max_four min_four   -- for this text's walks alone
set_option linter.unusedVariables false
set_option linter.unusedSimpArgs false

/-! ### impl_numbers: function 95 -/
def impl_numbers.l0 : Nat → List Int → List Int → Int → Option (List Int)
  | 0, _, _, _ => none
  | k + 1, x0, x3, x4 => if x4 ≤ 20 then ((slices_Contains_int_int.f k x0 x4).bind fun t459 => (if t459 = true then (if x3.length < 17592186044416 then (impl_numbers.l0 k x0 (x3 ++ [x4]) (wrap64 (x4 + 1))) else (none)) else (impl_numbers.l0 k x0 x3 (wrap64 (x4 + 1))))) else (some x3)
def impl_numbers.f (k : Nat) (l0 : List Int) : Option (List Int) := impl_numbers.l0 k l0 ([] : List Int) 1
theorem impl_numbers.mono_l : ∀ k, (∀ y0 y1 y2, LeO (impl_numbers.l0 k y0 y1 y2) (impl_numbers.l0 (k + 1) y0 y1 y2))
  | 0 => fun _ _ _ r h => by simp [impl_numbers.l0] at h
  | k + 1 => by
    have ih0 := impl_numbers.mono_l k
    · intro y0 y1 y2
      unfold impl_numbers.l0
      repeat' first
      | (with_reducible exact ih0 _ _ _)
      | (with_reducible exact slices_Contains_int_int.mono _ _ _)
      | (with_reducible exact LeO.refl _)
      | (with_reducible exact LeO.none _)
      | (with_reducible refine LeO.ite ?_ ?_)
      | (with_reducible refine LeO.bind ?_ (fun _ => ?_))
      | exact ih0 _ _ _
      | exact slices_Contains_int_int.mono _ _ _
      | exact LeO.none _
      | refine LeO.ite ?_ ?_
      | refine LeO.bind ?_ (fun _ => ?_)
theorem impl_numbers.mono : ∀ a0 k, LeO (impl_numbers.f k a0) (impl_numbers.f (k + 1) a0) := by
  intro a0 k
  have ih0 := impl_numbers.mono_l k
  unfold impl_numbers.f
  repeat' first
      | (with_reducible exact ih0 _ _ _)
      | (with_reducible exact slices_Contains_int_int.mono _ _ _)
      | (with_reducible exact LeO.refl _)
      | (with_reducible exact LeO.none _)
      | (with_reducible refine LeO.ite ?_ ?_)
      | (with_reducible refine LeO.bind ?_ (fun _ => ?_))
      | exact ih0 _ _ _
      | exact slices_Contains_int_int.mono _ _ _
      | exact LeO.none _
      | refine LeO.ite ?_ ?_
      | refine LeO.bind ?_ (fun _ => ?_)
set_option maxHeartbeats 8000000 in
set_option maxRecDepth 100000 in
theorem impl_numbers.calls (k : Nat) (A0 : Option Addr) (c0 : Nat) (l0 : List Int) (r : List Int) (w : World) (hr0 : Kd.C (Kd.int .i64) w A0 l0.length l0) (hc0 : l0.length ≤ c0) (h : impl_numbers.f k l0 = some r) :
    Calls Try.prog 95 #[.slice A0 l0.length c0] w fun e w' => ∃ v0_ : Value, e = .returned (v0_) ∧ Kd.R (Kd.int .i64) 3 w' w.heap.size (fun _ => True) v0_ r ∧ Below w.heap.size w w' := by
  have HR0 := Aside0.mk hr0
  have HC0 := Aside0.mk hc0
  clear hr0 hc0
  have HB := Aside0.mk (Below.refl w.heap.size w)
  have H : (impl_numbers.l0 k l0 ([] : List Int) 1) = some r := h
  clear h
  have H' := Aside0.mk H
  clear H
  go_enter Try.func95, Try.ntmps95
  go_wp2
  go_loopg [3, 4] k (fun kq v3 v4 w' => ∃ (x3_1 : List Int) (x4_1 : Int), v4 = .int .i64 x4_1 ∧ Aside0 (impl_numbers.l0 kq l0 x3_1 x4_1 = some r) ∧ Aside0 (kq ≤ k) ∧ Aside0 (Kd.R (Kd.int .i64) 3 w' w.heap.size (fun _ => True) v3 x3_1) ∧ Aside0 (Below w.heap.size w w'))
  case atStart => exact ⟨(([] : List Int)), (1), (by first | rfl | (simp; done) | (simp [*]; done)), H', ⟨Nat.le_refl _⟩, ⟨by first | exact Kd.R_nil _ _ _ _ _ | exact Kd.N_nil _ _ _ _ _ | exact Kd.V_nil _ _ _ _ _ | exact Kd.Q_nil _ _ _ _ _ | exact Kd.S_nil _ _ _ _ _⟩, ⟨by repeat (first | (with_reducible first | exact HB.out | apply below_alloc | apply pw_below_drewN | apply below_drew1) | exact HB.out)⟩⟩
  case round =>
    clear H'
    obtain ⟨x3_1, x4_1, rfl, HA, HK1, HO_3, HB⟩ := hrel
    cases gk with
    | zero => exact absurd HA.out (by simp [impl_numbers.l0])
    | succ k1 =>
      have H := HA.out
      clear HA
      simp only [impl_numbers.l0] at H
      by_cases c2 : x4_1 ≤ 20
      · rw [if_pos c2] at H
        have c2b0 : decide (x4_1 ≤ 20) = true := decide_eq_true c2
        clear c2
        replace H := Option.bind_eq_some_iff.mp H
        obtain ⟨t459, A30, H⟩ := H
        replace H : (if t459 = true then (if x3_1.length < 17592186044416 then (impl_numbers.l0 k1 l0 (x3_1 ++ [x4_1]) (wrap64 (x4_1 + 1))) else (none)) else (impl_numbers.l0 k1 l0 x3_1 (wrap64 (x4_1 + 1)))) = some r := H
        have A3 := Aside0.mk A30
        clear A30
        by_cases c4 : t459 = true
        · subst c4
          have H1 : (if x3_1.length < 17592186044416 then (impl_numbers.l0 k1 l0 (x3_1 ++ [x4_1]) (wrap64 (x4_1 + 1))) else (none)) = some r := by rw [if_pos rfl] at H; exact H
          clear H
          have H := H1
          clear H1
          by_cases c5 : x3_1.length < 17592186044416
          · rw [if_pos c5] at H
            have LMc5 := Aside0.mk c5
            clear c5
            obtain ⟨y460, hy460⟩ : ∃ y_ : List Int, y_ = (x3_1 ++ [x4_1]) := ⟨_, rfl⟩
            replace H : (impl_numbers.l0 k1 l0 y460 (wrap64 (x4_1 + 1))) = some r := by first | (rw [hy460]; with_reducible exact H) | (have H2_ := (Option.bind_some _ _).symm.trans H; rw [hy460]; with_reducible exact H2_) | (have H2_ := (Option.bind_some _ _).symm.trans H; with_reducible exact H2_) | with_reducible exact H | (rw [hy460]; exact H) | exact H
            have Ny460 := Aside0.mk hy460
            clear hy460
            have H' := Aside0.mk H
            clear H
            go_wp2_with (first | ((with_reducible refine gate_callee (f := 67) rfl ?_); refine goesL_ (some 11) rfl rfl Try.func67 (by kernel_rfl) rfl #[.slice A0 l0.length c0, .int .i64 x4_1] rfl (by (try simp only [List.map_toArray, List.map_cons, List.map_nil]); first | done | rfl | (simp only [List.length_drop, List.length_take]; rfl)) ?_; (with_reducible refine (slices_Contains_int_int.calls k1 _ _ l0 x4_1 true _ ?side1 ?side2 A3.out).mono ?_); (case side1 => repeat (first | exact (Kd.C_below HR0.out HB.out) | (with_reducible refine Kd.C_alloc ?_ _) | (with_reducible refine Kd.C_drewN ?_ _) | (with_reducible refine Kd.C_drew ?_))); (case side2 => exact HC0.out); rintro e w' ⟨rfl, ⟨nd, rfl⟩⟩; refine ⟨_, rfl, ?_⟩) | ((with_reducible refine gate_builtin (b := .append) (xs := #[.tmp 12, .tmp 14]) rfl ?_); at_builtin; refine Kd.R_append (Kd.int .i64) (w0 := w) w.heap.size rfl (.tmp 12) (.tmp 14) 25 3 (.int .i64 0) 8 rfl Try.underlying25 info3 rfl (by decide) (by omega) u3 x3_1 x4_1 [.int .i64 x4_1] (fun _ => True) (fun _ => False) rfl rfl ?aP (fun _ hk => hk.elim) ?aF ?aO ?aB ?aS ?aL ?_; (case aP => exact rfl); (case aB => exact (by repeat (first | (with_reducible first | exact HB.out | apply below_alloc | apply pw_below_drewN | apply below_drew1) | exact HB.out))); (case aF => exact (fun _ _ => trivial)); (case aO => exact (by (with_reducible repeat (first | apply Kd.R_alloc | apply Kd.R_drewN | apply Kd.R_drew)); exact HO_3.out)); (case aS => exact (below_size (by repeat (first | (with_reducible first | exact HB.out | apply below_alloc | apply pw_below_drewN | apply below_drew1) | exact HB.out)))); (case aL => have := LMc5.out; omega); intro v461 w6 ho hb hg hat; rw [← Ny460.out] at ho; have n0_ := Aside0.mk (hb); have n1_ := Aside0.mk (ho); clear HB; clear HO_3; have HB := n0_; have HO462 := n1_; clear n0_ n1_; clear ho hb hg hat))
            go_roundg k1
            case measure => have := HK1.out; omega
            case rel => exact ⟨(y460), (wrap64 (x4_1 + 1)), (by first | rfl | (simp; done) | (simp [*]; done)), H', ⟨by have := HK1.out; omega⟩, ⟨by (with_reducible repeat (first | apply Kd.R_alloc | apply Kd.R_drewN | apply Kd.R_drew)); exact HO462.out⟩, ⟨by repeat (first | (with_reducible first | exact HB.out | apply below_alloc | apply pw_below_drewN | apply below_drew1) | exact HB.out)⟩⟩
          · rw [if_neg c5] at H
            exact absurd H (by simp)
        · replace c4 := Bool.eq_false_iff.mpr c4
          subst c4
          have H1 : (impl_numbers.l0 k1 l0 x3_1 (wrap64 (x4_1 + 1))) = some r := by rw [if_neg (show ¬ (false = true) by decide)] at H; exact H
          clear H
          have H := H1
          clear H1
          have H' := Aside0.mk H
          clear H
          go_wp2_with (first | ((with_reducible refine gate_callee (f := 67) rfl ?_); refine goesL_ (some 11) rfl rfl Try.func67 (by kernel_rfl) rfl #[.slice A0 l0.length c0, .int .i64 x4_1] rfl (by (try simp only [List.map_toArray, List.map_cons, List.map_nil]); first | done | rfl | (simp only [List.length_drop, List.length_take]; rfl)) ?_; (with_reducible refine (slices_Contains_int_int.calls k1 _ _ l0 x4_1 false _ ?side1 ?side2 A3.out).mono ?_); (case side1 => repeat (first | exact (Kd.C_below HR0.out HB.out) | (with_reducible refine Kd.C_alloc ?_ _) | (with_reducible refine Kd.C_drewN ?_ _) | (with_reducible refine Kd.C_drew ?_))); (case side2 => exact HC0.out); rintro e w' ⟨rfl, ⟨nd, rfl⟩⟩; refine ⟨_, rfl, ?_⟩))
          go_roundg k1
          case measure => have := HK1.out; omega
          case rel => exact ⟨(x3_1), (wrap64 (x4_1 + 1)), (by first | rfl | (simp; done) | (simp [*]; done)), H', ⟨by have := HK1.out; omega⟩, ⟨by (with_reducible repeat (first | apply Kd.R_alloc | apply Kd.R_drewN | apply Kd.R_drew)); exact HO_3.out⟩, ⟨by repeat (first | (with_reducible first | exact HB.out | apply below_alloc | apply pw_below_drewN | apply below_drew1) | exact HB.out)⟩⟩
      · rw [if_neg c2] at H
        have c2b0 : decide (x4_1 ≤ 20) = false := decide_eq_false c2
        clear c2
        obtain rfl := Option.some.inj H
        go_wp2
        go_ret
        exact ⟨_, by first | rfl | (simp [errW_none, errW_some] <;> rfl) | (simp [*, errW_none, errW_some] <;> rfl), by (with_reducible repeat (first | apply Kd.R_alloc | apply Kd.R_drewN | apply Kd.R_drew)); exact HO_3.out, by repeat (first | (with_reducible first | exact HB.out | apply below_alloc | apply pw_below_drewN | apply below_drew1) | exact HB.out)⟩

noncomputable def impl_numbers.L0 (x0 : List Int) (x3 : List Int) (x4 : Int) : Option (List Int) := lim fun k => impl_numbers.l0 k x0 x3 x4
theorem impl_numbers.L0_lim (x0 : List Int) (x3 : List Int) (x4 : Int) : Lim (fun k => impl_numbers.l0 k x0 x3 x4) (impl_numbers.L0 x0 x3 x4) := Lim.of fun k => (impl_numbers.mono_l k) x0 x3 x4
noncomputable def impl_numbers.F (l0 : List Int) : Option (List Int) := lim fun k => impl_numbers.f k l0
theorem impl_numbers.F_lim (l0 : List Int) : Lim (fun k => impl_numbers.f k l0) (impl_numbers.F l0) := Lim.of fun k => impl_numbers.mono l0 k
theorem impl_numbers.L0_eq (x0 : List Int) (x3 : List Int) (x4 : Int) : impl_numbers.L0 x0 x3 x4 = (if x4 ≤ 20 then ((slices_Contains_int_int.F x0 x4).bind fun t459 => (if t459 = true then (if x3.length < 17592186044416 then (impl_numbers.L0 x0 (x3 ++ [x4]) (wrap64 (x4 + 1))) else (none)) else (impl_numbers.L0 x0 x3 (wrap64 (x4 + 1))))) else (some x3)) :=
  Lim.step (f := fun k => (if x4 ≤ 20 then ((slices_Contains_int_int.f k x0 x4).bind fun t459 => (if t459 = true then (if x3.length < 17592186044416 then (impl_numbers.l0 k x0 (x3 ++ [x4]) (wrap64 (x4 + 1))) else (none)) else (impl_numbers.l0 k x0 x3 (wrap64 (x4 + 1))))) else (some x3))) (impl_numbers.L0_lim x0 x3 x4) (fun k => by first | rfl | rw [impl_numbers.l0]) (by
    repeat' first
    | (with_reducible exact Lim.const _)
    | (with_reducible exact impl_numbers.L0_lim _ _ _)
    | (with_reducible exact slices_Contains_int_int.F_lim _ _)
    | (with_reducible refine Lim.ite ?_ ?_)
    | (with_reducible refine Lim.bind ?_ (fun _ => ?_)))
theorem impl_numbers.F_eq (l0 : List Int) : impl_numbers.F l0 = (impl_numbers.L0 l0 ([] : List Int) 1) :=
  Lim.unique (impl_numbers.F_lim l0) (by
    unfold impl_numbers.f
    repeat' first
    | (with_reducible exact Lim.const _)
    | (with_reducible exact impl_numbers.L0_lim _ _ _)
    | (with_reducible refine Lim.ite ?_ ?_)
    | (with_reducible refine Lim.bind ?_ (fun _ => ?_)))

end Go.Proofs.Ytmhcgihkijiecaa.Fn
namespace Go.Proofs.Ytmhcgihkijiecaa.Fn
open Go.RowKit Go.Proofs.YtmhcgihkijiecaaW.PrintWords Go.Proofs.YtmhcgihkijiecaaW.PrintLast Go.Proofs.YtmhcgihkijiecaaW.PrintMore
set_option linter.unusedVariables false
set_option linter.unusedSimpArgs false
theorem placesFrom_count (n : Int) : ∀ (l : List Int) (i : Nat), (placesFrom n i l).length = l.count n
  | [], i => by simp [placesFrom]
  | x :: l, i => by
    have ih := placesFrom_count n l (i + 1)
    by_cases h : x = n
    · subst h
      simp [placesFrom, ih]
    · simp [placesFrom, h, ih]
theorem placesOf_count (l : List Int) (n : Int) : (placesOf l n).length = l.count n := placesFrom_count n l 0
theorem pairsOk_eq (l : List Int) : pairsOk l = (List.range' 1 20).all fun k => (placesOf l (k : Nat)).length == 0 || (placesOf l (k : Nat)).length == 2 := by
  unfold pairsOk
  rw [show List.range 21 = 0 :: List.range' 1 20 from rfl, List.all_cons]
  simp only [atOf, if_true, List.length_nil, beq_self_eq_true, Bool.true_or, Bool.true_and]
  rw [Bool.eq_iff_iff, List.all_eq_true, List.all_eq_true]
  have hk : ∀ k, k ∈ List.range' 1 20 → ¬ k = 0 := fun k hk => by have := List.mem_range'_1.1 hk; omega
  exact ⟨fun H k h => by have := H k h; rw [if_neg (hk k h)] at this; exact this, fun H k h => by rw [if_neg (hk k h)]; exact H k h⟩
theorem pairsOk_count {l : List Int} (h : pairsOk l = true) (k : Nat) (h1 : 1 ≤ k) (h2 : k ≤ 20) : l.count (k : Int) = 0 ∨ l.count (k : Int) = 2 := by
  rw [pairsOk_eq, List.all_eq_true] at h
  have := h k (List.mem_range'_1.2 (by omega))
  rw [placesOf_count] at this
  simpa using this
/-- The numbers of a row, from n on, m of them looked at. -/
def numbersFrom (l : List Int) (n m : Nat) : List Int := ((List.range' n m).filter (fun k : Nat => decide ((k : Int) ∈ l))).map (fun k : Nat => (k : Int))
def numbersOf (l : List Int) : List Int := numbersFrom l 1 20
theorem numbersFrom_length (l : List Int) (n m : Nat) : (numbersFrom l n m).length ≤ m := by
  unfold numbersFrom
  have := List.length_filter_le (fun k : Nat => decide ((k : Int) ∈ l)) (List.range' n m)
  simp at this ⊢
  exact this
theorem mem_numbersOf (l : List Int) (v : Int) : v ∈ numbersOf l ↔ v ∈ l ∧ 1 ≤ v ∧ v ≤ 20 := by
  simp only [numbersOf, numbersFrom, List.mem_map, List.mem_filter, List.mem_range'_1, decide_eq_true_eq]
  constructor
  · rintro ⟨k, ⟨hi, hk⟩, rfl⟩
    exact ⟨hk, by omega, by omega⟩
  · rintro ⟨h, h1, h2⟩
    refine ⟨v.toNat, ⟨by omega, ?_⟩, by omega⟩
    rwa [Int.toNat_of_nonneg (by omega)]
theorem fitsAt_eq (l : List Int) (s : Int) (h : pairsOk l = true) : fitsAt l s = (numbersOf l).all fun v => wrap64 (rd (placesOf l v) 1 - rd (placesOf l v) 0) == wrap64 (v + s) := by
  unfold fitsAt
  rw [Bool.eq_iff_iff, List.all_eq_true, List.all_eq_true]
  constructor
  · intro H v hv
    obtain ⟨h1, h2, h3⟩ := (mem_numbersOf l v).1 hv
    obtain ⟨k, rfl⟩ : ∃ k : Nat, v = (k : Int) := ⟨v.toNat, by omega⟩
    have hk := H k (by simp; omega)
    have hz : ¬ k = 0 := by omega
    rw [atOf, if_neg hz, placesOf_count] at hk
    have h5 : 0 < l.count (k : Int) := List.count_pos_iff.2 h1
    rcases pairsOk_count h k (by omega) (by omega) with h4 | h4
    · omega
    · rw [h4] at hk
      simpa using hk
  · intro H k hk
    by_cases hz : k = 0
    · subst hz
      rfl
    · rw [atOf, if_neg hz, placesOf_count]
      by_cases h4 : l.count (k : Int) = 2
      · have h5 : (k : Int) ∈ l := List.count_pos_iff.1 (by omega)
        have := H k ((mem_numbersOf l k).2 ⟨h5, by omega, by simp at hk; omega⟩)
        rw [h4]
        simpa using this
      · rw [beq_false_of_ne h4]
        rfl
/-- A row in which each number stands twice or not at all. -/
def isPairs (l : List Int) : Bool := isRow l && pairsOk l
theorem isPairs_row {l : List Int} (h : isPairs l = true) : isRow l = true := by
  unfold isPairs at h
  exact (Bool.and_eq_true_iff.1 h).1
theorem isPairs_ok {l : List Int} (h : isPairs l = true) : pairsOk l = true := by
  unfold isPairs at h
  exact (Bool.and_eq_true_iff.1 h).2
theorem spec_roPlaces.L0_val (n : Int) : ∀ (suf pre acc : List Int), (pre ++ suf).length < 4611686018427387904 → acc.length + suf.length < 17592186044416 → spec_roPlaces.L0 n acc (pre ++ suf) ((pre ++ suf).length : Int) (pre.length : Int) = some (acc ++ placesFrom n pre.length suf)
  | [], pre, acc, h, ha => by
    rw [spec_roPlaces.L0_eq, range_end]
    simp [placesFrom]
  | x :: suf, pre, acc, h, ha => by
    have ha' : acc.length + (suf.length + 1) < 17592186044416 := by simpa using ha
    have e : (pre ++ [x]).length = pre.length + 1 := by simp
    rw [spec_roPlaces.L0_eq, range_step, rd_mid, wrap_mid h, app_mid pre x suf]
    by_cases h1 : x = n
    · rw [if_pos h1, if_pos (by omega), spec_roPlaces.L0_val n suf (pre ++ [x]) _ (by simpa using h) (by simp; omega), e]
      simp [placesFrom, h1]
    · rw [if_neg h1, spec_roPlaces.L0_val n suf (pre ++ [x]) _ (by simpa using h) (by omega), e]
      simp [placesFrom, h1]
theorem spec_roPlaces.F_val (l : List Int) (n : Int) (h : l.length < 17592186044416) : spec_roPlaces.F l n = some (placesOf l n) := by
  rw [spec_roPlaces.F_eq]
  have := spec_roPlaces.L0_val n l [] [] (by simp; omega) (by simpa using h)
  simpa [placesOf] using this
theorem spec_roPairs.L0_val (l : List Int) (hl : l.length < 17592186044416) : ∀ (m n : Nat), n + m = 21 → spec_roPairs.L0 l (n : Int) = some ((List.range' n m).all fun k => (placesOf l (k : Nat)).length == 0 || (placesOf l (k : Nat)).length == 2)
  | 0, n, h => by
    rw [spec_roPairs.L0_eq, if_neg (by omega)]
    rfl
  | m + 1, n, h => by
    have e : wrap64 ((n : Int) + 1) = ((n + 1 : Nat) : Int) := by rw [wrap_in (by omega) (by omega)]; omega
    rw [spec_roPairs.L0_eq, if_pos (by omega), spec_roPlaces.F_val l n hl]
    simp only [Option.bind_some]
    rw [e, spec_roPairs.L0_val l hl m (n + 1) (by omega), List.range'_succ, List.all_cons]
    by_cases h0 : (placesOf l n).length = 0
    · rw [if_pos (by omega), beq_iff_eq.2 h0]
      rfl
    · rw [if_neg (by omega), beq_false_of_ne h0]
      by_cases h2 : (placesOf l n).length = 2
      · rw [if_pos (by omega), beq_iff_eq.2 h2]
        rfl
      · rw [if_neg (by omega), beq_false_of_ne h2]
        rfl
theorem spec_roPairs.F_val (l : List Int) (hl : l.length < 17592186044416) : spec_roPairs.F l = some (pairsOk l) := by
  rw [spec_roPairs.F_eq, pairsOk_eq]
  exact spec_roPairs.L0_val l hl 20 1 (by omega)
theorem spec_roIs.F_val (l : List Int) (h : l.length < 17592186044416) : spec_roIs.F l = some (isPairs l) := by
  rw [spec_roIs.F_eq, spec_roGood.F_val l (by omega)]
  simp only [Option.bind_some]
  unfold isPairs
  by_cases h1 : isRow l = true
  · rw [if_pos h1, spec_roPairs.F_val l h, h1]
    rfl
  · rw [if_neg h1, Bool.eq_false_iff.2 h1]
    rfl
theorem impl_isPairs.F_val (l : List Int) (h : l.length < 4611686018427387904) : impl_isPairs.F l = some (isPairs l) := by
  rw [impl_isPairs.F_eq, impl_IsRow.F_val l h]
  simp only [Option.bind_some]
  unfold isPairs
  by_cases h1 : isRow l = true
  · rw [if_pos h1, h1]
    rfl
  · rw [if_neg h1, Bool.eq_false_iff.2 h1]
    rfl
theorem impl_fits.F_val (l : List Int) (s : Int) (h : l.length < 4611686018427387904) : impl_fits.F l s = some (isPairs l && fitsAt l s) := by
  rw [impl_fits.F_eq, impl_isPairs.F_val l h]
  simp only [Option.bind_some]
  by_cases h1 : isPairs l = true
  · rw [if_pos h1, h1]
    rfl
  · rw [if_neg h1, Bool.eq_false_iff.2 h1]
    rfl
theorem spec_l1Has.L0_val (n : Int) : ∀ (suf pre : List Int), (pre ++ suf).length < 4611686018427387904 → spec_l1Has.L0 n (pre ++ suf) ((pre ++ suf).length : Int) (pre.length : Int) = some (decide (n ∈ suf))
  | [], pre, h => by
    rw [spec_l1Has.L0_eq, range_end]
    simp
  | x :: suf, pre, h => by
    rw [spec_l1Has.L0_eq, range_step, rd_mid, wrap_mid h, app_mid pre x suf, spec_l1Has.L0_val n suf (pre ++ [x]) (by simpa using h)]
    by_cases h1 : x = n
    · rw [if_pos h1]
      simp [h1]
    · rw [if_neg h1]
      have : ¬ n = x := fun h => h1 h.symm
      simp [this]
theorem spec_l1Has.F_val (l : List Int) (n : Int) (h : l.length < 4611686018427387904) : spec_l1Has.F l n = some (decide (n ∈ l)) := by
  rw [spec_l1Has.F_eq]
  have := spec_l1Has.L0_val n l [] (by simpa using h)
  simpa using this
/-- The first place of a number, the first one counted as i; -1 where it does not stand. -/
def indexFrom (n : Int) : Nat → List Int → Int
  | _, [] => -1
  | i, x :: l => if n = x then (i : Int) else indexFrom n (i + 1) l
theorem indexFrom_mem (n : Int) : ∀ (l : List Int) (i : Nat), 0 ≤ indexFrom n i l ↔ n ∈ l
  | [], i => by simp [indexFrom]
  | x :: l, i => by
    have ih := indexFrom_mem n l (i + 1)
    by_cases h : n = x
    · simp [indexFrom, h]
    · simp [indexFrom, h, ih]
theorem slices_Index_int_int.L0_val (n : Int) : ∀ (suf pre : List Int), (pre ++ suf).length < 4611686018427387904 → slices_Index_int_int.L0 (pre ++ suf) n ((pre ++ suf).length : Int) (pre.length : Int) = some (indexFrom n pre.length suf)
  | [], pre, h => by
    rw [slices_Index_int_int.L0_eq, range_end]
    rfl
  | x :: suf, pre, h => by
    have e : (pre ++ [x]).length = pre.length + 1 := by simp
    rw [slices_Index_int_int.L0_eq, range_step, rd_mid, wrap_mid h, app_mid pre x suf, slices_Index_int_int.L0_val n suf (pre ++ [x]) (by simpa using h), e, indexFrom]
    split <;> rfl
theorem slices_Index_int_int.F_val (l : List Int) (n : Int) (h : l.length < 4611686018427387904) : slices_Index_int_int.F l n = some (indexFrom n 0 l) := by
  rw [slices_Index_int_int.F_eq]
  have := slices_Index_int_int.L0_val n l [] (by simpa using h)
  simpa using this
theorem slices_Contains_int_int.F_val (l : List Int) (n : Int) (h : l.length < 4611686018427387904) : slices_Contains_int_int.F l n = some (decide (n ∈ l)) := by
  rw [slices_Contains_int_int.F_eq, slices_Index_int_int.F_val l n h]
  simp only [Option.bind_some]
  have := indexFrom_mem n l 0
  congr 1
  rw [decide_eq_decide]
  exact this
theorem spec_roNumbers.L0_val (l : List Int) (hl : l.length < 4611686018427387904) : ∀ (m n : Nat) (acc : List Int), n + m = 21 → acc.length + m < 100 → spec_roNumbers.L0 l acc (n : Int) = some (acc ++ numbersFrom l n m)
  | 0, n, acc, h, ha => by
    rw [spec_roNumbers.L0_eq, if_neg (by omega)]
    simp [numbersFrom]
  | m + 1, n, acc, h, ha => by
    have e : wrap64 ((n : Int) + 1) = ((n + 1 : Nat) : Int) := by rw [wrap_in (by omega) (by omega)]; omega
    rw [spec_roNumbers.L0_eq, if_pos (by omega), spec_l1Has.F_val l n hl]
    simp only [Option.bind_some]
    by_cases h1 : (n : Int) ∈ l
    · rw [if_pos (by simpa using h1), if_pos (by omega), e, spec_roNumbers.L0_val l hl m (n + 1) _ (by omega) (by simp; omega)]
      simp [numbersFrom, List.range'_succ, h1]
    · rw [if_neg (by simpa using h1), e, spec_roNumbers.L0_val l hl m (n + 1) _ (by omega) (by omega)]
      simp [numbersFrom, List.range'_succ, h1]
theorem spec_roNumbers.F_val (l : List Int) (hl : l.length < 4611686018427387904) : spec_roNumbers.F l = some (numbersOf l) := by
  rw [spec_roNumbers.F_eq]
  exact spec_roNumbers.L0_val l hl 20 1 [] (by omega) (by simp)
theorem impl_numbers.L0_val (l : List Int) (hl : l.length < 4611686018427387904) : ∀ (m n : Nat) (acc : List Int), n + m = 21 → acc.length + m < 100 → impl_numbers.L0 l acc (n : Int) = some (acc ++ numbersFrom l n m)
  | 0, n, acc, h, ha => by
    rw [impl_numbers.L0_eq, if_neg (by omega)]
    simp [numbersFrom]
  | m + 1, n, acc, h, ha => by
    have e : wrap64 ((n : Int) + 1) = ((n + 1 : Nat) : Int) := by rw [wrap_in (by omega) (by omega)]; omega
    rw [impl_numbers.L0_eq, if_pos (by omega), slices_Contains_int_int.F_val l n hl]
    simp only [Option.bind_some]
    by_cases h1 : (n : Int) ∈ l
    · rw [if_pos (by simpa using h1), if_pos (by omega), e, impl_numbers.L0_val l hl m (n + 1) _ (by omega) (by simp; omega)]
      simp [numbersFrom, List.range'_succ, h1]
    · rw [if_neg (by simpa using h1), e, impl_numbers.L0_val l hl m (n + 1) _ (by omega) (by omega)]
      simp [numbersFrom, List.range'_succ, h1]
theorem impl_numbers.F_val (l : List Int) (hl : l.length < 4611686018427387904) : impl_numbers.F l = some (numbersOf l) := by
  rw [impl_numbers.F_eq]
  exact impl_numbers.L0_val l hl 20 1 [] (by omega) (by simp)
theorem spec_roFits.L0_val (l : List Int) (s : Int) (hl : l.length < 17592186044416) : ∀ (suf pre : List Int), (pre ++ suf).length < 4611686018427387904 → (∀ v ∈ suf, (placesOf l v).length = 2) → spec_roFits.L0 l s (pre ++ suf) ((pre ++ suf).length : Int) (pre.length : Int) = some (suf.all fun v => wrap64 (rd (placesOf l v) 1 - rd (placesOf l v) 0) == wrap64 (v + s))
  | [], pre, h, hv => by
    rw [spec_roFits.L0_eq, range_end]
    simp
  | x :: suf, pre, h, hv => by
    have h2 := hv x (by simp)
    rw [spec_roFits.L0_eq, range_step, rd_mid, wrap_mid h, app_mid pre x suf, spec_roPlaces.F_val l x hl]
    simp only [Option.bind_some]
    rw [if_pos (by omega), if_pos (by omega), spec_roFits.L0_val l s hl suf (pre ++ [x]) (by simpa using h) (fun v h => hv v (by simp [h])), List.all_cons]
    by_cases h1 : wrap64 (rd (placesOf l x) 1 - rd (placesOf l x) 0) = wrap64 (x + s)
    · rw [if_pos h1, beq_iff_eq.2 h1]
      rfl
    · rw [if_neg h1, beq_false_of_ne h1]
      rfl
theorem numbersOf_two {l : List Int} (h : pairsOk l = true) {v : Int} (hv : v ∈ numbersOf l) : (placesOf l v).length = 2 := by
  obtain ⟨h1, h2, h3⟩ := (mem_numbersOf l v).1 hv
  obtain ⟨k, rfl⟩ : ∃ k : Nat, v = (k : Int) := ⟨v.toNat, by omega⟩
  have h5 : 0 < l.count (k : Int) := List.count_pos_iff.2 h1
  rw [placesOf_count]
  rcases pairsOk_count h k (by omega) (by omega) with h4 | h4 <;> omega
theorem spec_roFits.F_val (l : List Int) (s : Int) (hl : l.length < 17592186044416) (h : pairsOk l = true) : spec_roFits.F l s = some (fitsAt l s) := by
  rw [spec_roFits.F_eq, spec_roNumbers.F_val l (by omega)]
  simp only [Option.bind_some]
  rw [fitsAt_eq l s h]
  have hn := numbersFrom_length l 1 20
  have := spec_roFits.L0_val l s hl (numbersOf l) [] (by simp only [List.nil_append, numbersOf]; omega) (fun v hv => numbersOf_two h hv)
  simpa using this
end Go.Proofs.Ytmhcgihkijiecaa.Fn
namespace Go.Proofs.Ytmhcgihkijiecaa.Fn
open Go.RowKit Go.Proofs.YtmhcgihkijiecaaW.PrintWords Go.Proofs.YtmhcgihkijiecaaW.PrintLast Go.Proofs.YtmhcgihkijiecaaW.PrintMore
attribute [local go_sem] max2_int min2_int max_two min_two max_three min_three max_four min_four   -- for this text's walks alone
set_option linter.unusedVariables false
set_option linter.unusedSimpArgs false

/-! ### spec_hoCommon: function 64 -/
def spec_hoCommon.l0 : Nat → List Int → List Int → Int → Int → Option (Bool)
  | 0, _, _, _, _ => none
  | k + 1, x1, x7, x8, x9 => if x9 < x8 then (if 0 ≤ x9 then (if x9 < (x7.length : Int) then (if (rd x7 x9) = 0 then (spec_hoCommon.l0 k x1 x7 x8 (wrap64 (x9 + 1))) else ((spec_l1Has.f k x1 (rd x7 x9)).bind fun t362 => (if t362 = true then (some true) else (spec_hoCommon.l0 k x1 x7 x8 (wrap64 (x9 + 1)))))) else (none)) else (none)) else (some false)
def spec_hoCommon.f (k : Nat) (l0 : List Int) (l1 : List Int) : Option (Bool) := spec_hoCommon.l0 k l1 l0 (l0.length : Int) 0
theorem spec_hoCommon.mono_l : ∀ k, (∀ y0 y1 y2 y3, LeO (spec_hoCommon.l0 k y0 y1 y2 y3) (spec_hoCommon.l0 (k + 1) y0 y1 y2 y3))
  | 0 => fun _ _ _ _ r h => by simp [spec_hoCommon.l0] at h
  | k + 1 => by
    have ih0 := spec_hoCommon.mono_l k
    · intro y0 y1 y2 y3
      unfold spec_hoCommon.l0
      repeat' first
      | (with_reducible exact ih0 _ _ _ _)
      | (with_reducible exact spec_l1Has.mono _ _ _)
      | (with_reducible exact LeO.refl _)
      | (with_reducible exact LeO.none _)
      | (with_reducible refine LeO.ite ?_ ?_)
      | (with_reducible refine LeO.bind ?_ (fun _ => ?_))
      | exact ih0 _ _ _ _
      | exact spec_l1Has.mono _ _ _
      | exact LeO.none _
      | refine LeO.ite ?_ ?_
      | refine LeO.bind ?_ (fun _ => ?_)
theorem spec_hoCommon.mono : ∀ a0 a1 k, LeO (spec_hoCommon.f k a0 a1) (spec_hoCommon.f (k + 1) a0 a1) := by
  intro a0 a1 k
  have ih0 := spec_hoCommon.mono_l k
  unfold spec_hoCommon.f
  repeat' first
      | (with_reducible exact ih0 _ _ _ _)
      | (with_reducible exact spec_l1Has.mono _ _ _)
      | (with_reducible exact LeO.refl _)
      | (with_reducible exact LeO.none _)
      | (with_reducible refine LeO.ite ?_ ?_)
      | (with_reducible refine LeO.bind ?_ (fun _ => ?_))
      | exact ih0 _ _ _ _
      | exact spec_l1Has.mono _ _ _
      | exact LeO.none _
      | refine LeO.ite ?_ ?_
      | refine LeO.bind ?_ (fun _ => ?_)
set_option maxHeartbeats 8000000 in
set_option maxRecDepth 100000 in
theorem spec_hoCommon.calls (k : Nat) (A0 : Option Addr) (c0 : Nat) (l0 : List Int) (A1 : Option Addr) (c1 : Nat) (l1 : List Int) (r : Bool) (w : World) (hr0 : Kd.C (Kd.int .i64) w A0 l0.length l0) (hc0 : l0.length ≤ c0) (hr1 : Kd.C (Kd.int .i64) w A1 l1.length l1) (hc1 : l1.length ≤ c1) (h : spec_hoCommon.f k l0 l1 = some r) :
    Calls Try.prog 64 #[.slice A0 l0.length c0, .slice A1 l1.length c1] w fun e w' => e = .returned (.bool r) ∧ Drawn0 w w' := by
  have HR0 := Aside0.mk hr0
  have HC0 := Aside0.mk hc0
  clear hr0 hc0
  have HR1 := Aside0.mk hr1
  have HC1 := Aside0.mk hc1
  clear hr1 hc1
  have H : (spec_hoCommon.l0 k l1 l0 (l0.length : Int) 0) = some r := h
  clear h
  have H' := Aside0.mk H
  clear H
  go_enter Try.func64, Try.ntmps64
  go_wp2
  go_loopg [9] k (fun kq v9 w' => ∃ (x9_1 : Int), v9 = .int .i64 x9_1 ∧ Aside0 (spec_hoCommon.l0 kq l1 l0 (l0.length : Int) x9_1 = some r) ∧ Aside0 (kq ≤ k) ∧ Drawn0 w w')
  case atStart => exact ⟨(0), (by first | rfl | (simp; done) | (simp [*]; done)), H', ⟨Nat.le_refl _⟩, by repeat (first | exact Drawn0.refl _ | apply Drawn0.step)⟩
  case round =>
    clear H'
    try clear c1
    try clear p2
    obtain ⟨x9_1, rfl, HA, HK1, ⟨m1, rfl⟩⟩ := hrel
    cases gk with
    | zero => exact absurd HA.out (by simp [spec_hoCommon.l0])
    | succ k1 =>
      have H := HA.out
      clear HA
      simp only [spec_hoCommon.l0] at H
      by_cases c3 : x9_1 < (l0.length : Int)
      · rw [if_pos c3] at H
        have c3b0 : decide (x9_1 < (l0.length : Int)) = true := decide_eq_true c3
        clear c3
        by_cases c4 : 0 ≤ x9_1
        · rw [if_pos c4] at H
          have c4b0 : decide (0 ≤ x9_1) = true := decide_eq_true c4
          clear c4
          by_cases c5 : x9_1 < (l0.length : Int)
          · rw [if_pos c5] at H
            have c5b0 : decide (x9_1 < (l0.length : Int)) = true := decide_eq_true c5
            clear c5
            by_cases c6 : (rd l0 x9_1) = 0
            · rw [if_pos c6] at H
              have c6b0 : ((rd l0 x9_1) == 0) = true := beq_iff_eq.mpr c6
              have c6b1 : ((rd l0 x9_1) != 0) = false := bne_eq_false_iff_eq.mpr c6
              clear c6
              have H' := Aside0.mk H
              clear H
              have p361 : 0 ≤ (x9_1 : Int) := of_decide_eq_true (by first | (with_reducible assumption) | assumption)
              have q361 : x9_1 < (l0.length : Int) := of_decide_eq_true (by first | (with_reducible assumption) | assumption)
              obtain ⟨ad361, e361, hx361_0⟩ := Kd.at_int HR0.out x9_1 p361 q361
              cases e361
              replace p361 := eq_true p361
              replace q361 := eq_true q361
              go_wp2
              go_roundg k1
              case measure => have := HK1.out; omega
              case rel => exact ⟨(wrap64 (x9_1 + 1)), (by first | rfl | (simp; done) | (simp [*]; done)), H', ⟨by have := HK1.out; omega⟩, by repeat (first | exact Drawn0.refl _ | apply Drawn0.step)⟩
            · rw [if_neg c6] at H
              have c6b0 : ((rd l0 x9_1) == 0) = false := beq_eq_false_iff_ne.mpr c6
              have c6b1 : ((rd l0 x9_1) != 0) = true := bne_iff_ne.mpr c6
              replace H := Option.bind_eq_some_iff.mp H
              obtain ⟨t362, A70, H⟩ := H
              replace H : (if t362 = true then (some true) else (spec_hoCommon.l0 k1 l1 l0 (l0.length : Int) (wrap64 (x9_1 + 1)))) = some r := H
              have A7 := Aside0.mk A70
              clear A70
              by_cases c8 : t362 = true
              · subst c8
                have H1 : (some true) = some r := by rw [if_pos rfl] at H; exact H
                clear H
                have H := H1
                clear H1
                obtain rfl := Option.some.inj H
                have p361 : 0 ≤ (x9_1 : Int) := of_decide_eq_true (by first | (with_reducible assumption) | assumption)
                have q361 : x9_1 < (l0.length : Int) := of_decide_eq_true (by first | (with_reducible assumption) | assumption)
                obtain ⟨ad361, e361, hx361_0⟩ := Kd.at_int HR0.out x9_1 p361 q361
                cases e361
                replace p361 := eq_true p361
                replace q361 := eq_true q361
                go_wp2_with (first | (go_at_call 88; (with_reducible refine (spec_l1Has.calls k1 _ _ l1 (rd l0 x9_1) true _ ?side1 ?side2 A7.out).mono ?_); (case side1 => repeat (first | exact HR1.out | (with_reducible refine Kd.C_alloc ?_ _) | (with_reducible refine Kd.C_drewN ?_ _) | (with_reducible refine Kd.C_drew ?_))); (case side2 => exact HC1.out); rintro e w' ⟨rfl, ⟨nd, rfl⟩⟩))
                go_ret
                exact ⟨by first | rfl | (simp; done) | (simp [*]; done), by repeat (first | exact Drawn0.refl _ | apply Drawn0.step)⟩
              · replace c8 := Bool.eq_false_iff.mpr c8
                subst c8
                have H1 : (spec_hoCommon.l0 k1 l1 l0 (l0.length : Int) (wrap64 (x9_1 + 1))) = some r := by rw [if_neg (show ¬ (false = true) by decide)] at H; exact H
                clear H
                have H := H1
                clear H1
                have H' := Aside0.mk H
                clear H
                have p361 : 0 ≤ (x9_1 : Int) := of_decide_eq_true (by first | (with_reducible assumption) | assumption)
                have q361 : x9_1 < (l0.length : Int) := of_decide_eq_true (by first | (with_reducible assumption) | assumption)
                obtain ⟨ad361, e361, hx361_0⟩ := Kd.at_int HR0.out x9_1 p361 q361
                cases e361
                replace p361 := eq_true p361
                replace q361 := eq_true q361
                go_wp2_with (first | (go_at_call 88; (with_reducible refine (spec_l1Has.calls k1 _ _ l1 (rd l0 x9_1) false _ ?side1 ?side2 A7.out).mono ?_); (case side1 => repeat (first | exact HR1.out | (with_reducible refine Kd.C_alloc ?_ _) | (with_reducible refine Kd.C_drewN ?_ _) | (with_reducible refine Kd.C_drew ?_))); (case side2 => exact HC1.out); rintro e w' ⟨rfl, ⟨nd, rfl⟩⟩))
                go_roundg k1
                case measure => have := HK1.out; omega
                case rel => exact ⟨(wrap64 (x9_1 + 1)), (by first | rfl | (simp; done) | (simp [*]; done)), H', ⟨by have := HK1.out; omega⟩, by repeat (first | exact Drawn0.refl _ | apply Drawn0.step)⟩
          · rw [if_neg c5] at H
            exact absurd H (by simp)
        · rw [if_neg c4] at H
          exact absurd H (by simp)
      · rw [if_neg c3] at H
        have c3b0 : decide (x9_1 < (l0.length : Int)) = false := decide_eq_false c3
        clear c3
        obtain rfl := Option.some.inj H
        go_wp2
        go_ret
        exact ⟨by first | rfl | (simp; done) | (simp [*]; done), by repeat (first | exact Drawn0.refl _ | apply Drawn0.step)⟩

noncomputable def spec_hoCommon.L0 (x1 : List Int) (x7 : List Int) (x8 : Int) (x9 : Int) : Option (Bool) := lim fun k => spec_hoCommon.l0 k x1 x7 x8 x9
theorem spec_hoCommon.L0_lim (x1 : List Int) (x7 : List Int) (x8 : Int) (x9 : Int) : Lim (fun k => spec_hoCommon.l0 k x1 x7 x8 x9) (spec_hoCommon.L0 x1 x7 x8 x9) := Lim.of fun k => (spec_hoCommon.mono_l k) x1 x7 x8 x9
noncomputable def spec_hoCommon.F (l0 : List Int) (l1 : List Int) : Option (Bool) := lim fun k => spec_hoCommon.f k l0 l1
theorem spec_hoCommon.F_lim (l0 : List Int) (l1 : List Int) : Lim (fun k => spec_hoCommon.f k l0 l1) (spec_hoCommon.F l0 l1) := Lim.of fun k => spec_hoCommon.mono l0 l1 k
theorem spec_hoCommon.L0_eq (x1 : List Int) (x7 : List Int) (x8 : Int) (x9 : Int) : spec_hoCommon.L0 x1 x7 x8 x9 = (if x9 < x8 then (if 0 ≤ x9 then (if x9 < (x7.length : Int) then (if (rd x7 x9) = 0 then (spec_hoCommon.L0 x1 x7 x8 (wrap64 (x9 + 1))) else ((spec_l1Has.F x1 (rd x7 x9)).bind fun t362 => (if t362 = true then (some true) else (spec_hoCommon.L0 x1 x7 x8 (wrap64 (x9 + 1)))))) else (none)) else (none)) else (some false)) :=
  Lim.step (f := fun k => (if x9 < x8 then (if 0 ≤ x9 then (if x9 < (x7.length : Int) then (if (rd x7 x9) = 0 then (spec_hoCommon.l0 k x1 x7 x8 (wrap64 (x9 + 1))) else ((spec_l1Has.f k x1 (rd x7 x9)).bind fun t362 => (if t362 = true then (some true) else (spec_hoCommon.l0 k x1 x7 x8 (wrap64 (x9 + 1)))))) else (none)) else (none)) else (some false))) (spec_hoCommon.L0_lim x1 x7 x8 x9) (fun k => by first | rfl | rw [spec_hoCommon.l0]) (by
    repeat' first
    | (with_reducible exact Lim.const _)
    | (with_reducible exact spec_hoCommon.L0_lim _ _ _ _)
    | (with_reducible exact spec_l1Has.F_lim _ _)
    | (with_reducible refine Lim.ite ?_ ?_)
    | (with_reducible refine Lim.bind ?_ (fun _ => ?_)))
theorem spec_hoCommon.F_eq (l0 : List Int) (l1 : List Int) : spec_hoCommon.F l0 l1 = (spec_hoCommon.L0 l1 l0 (l0.length : Int) 0) :=
  Lim.unique (spec_hoCommon.F_lim l0 l1) (by
    unfold spec_hoCommon.f
    repeat' first
    | (with_reducible exact Lim.const _)
    | (with_reducible exact spec_hoCommon.L0_lim _ _ _ _)
    | (with_reducible refine Lim.ite ?_ ?_)
    | (with_reducible refine Lim.bind ?_ (fun _ => ?_)))

end Go.Proofs.Ytmhcgihkijiecaa.Fn
namespace Go.Proofs.Ytmhcgihkijiecaa.Fn
open Go.RowKit Go.Proofs.YtmhcgihkijiecaaW.PrintWords Go.Proofs.YtmhcgihkijiecaaW.PrintLast Go.Proofs.YtmhcgihkijiecaaW.PrintMore
attribute [local go_sem] max2_int min2_int max_two min_two max_three min_three max_four min_four   -- for this text's walks alone
set_option linter.unusedVariables false
set_option linter.unusedSimpArgs false

/-! ### spec_hoMesh: function 65 -/
mutual
def spec_hoMesh.l0 : Nat → List Int → Int → List Int → Option (List Int × Bool)
  | 0, _, _, _ => none
  | k + 1, x1, x2, x8 => if (x8.length : Int) < (wrap64 (x2 + (x1.length : Int))) then (if x8.length < 17592186044416 then (spec_hoMesh.l0 k x1 x2 (x8 ++ [0])) else (none)) else (spec_hoMesh.l1 k x2 x8 x1 (x1.length : Int) 0)
def spec_hoMesh.l1 : Nat → Int → List Int → List Int → Int → Int → Option (List Int × Bool)
  | 0, _, _, _, _, _ => none
  | k + 1, x2, x8, x23, x24, x25 => if x25 < x24 then (if 0 ≤ x25 then (if x25 < (x23.length : Int) then (if (rd x23 x25) = 0 then (spec_hoMesh.j2 k x2 x8 x25 (rd x23 x25) x23 x24 x25 false) else (if 0 ≤ (wrap64 (x2 + x25)) then (if (wrap64 (x2 + x25)) < (x8.length : Int) then (spec_hoMesh.j2 k x2 x8 x25 (rd x23 x25) x23 x24 x25 ((rd x8 (wrap64 (x2 + x25))) != 0)) else (none)) else (none))) else (none)) else (none)) else (some (x8, true))
def spec_hoMesh.j2 : Nat → Int → List Int → Int → Int → List Int → Int → Int → Bool → Option (List Int × Bool)
  | 0, _, _, _, _, _, _, _, _ => none
  | k + 1, x2, x8, x9, x10, x23, x24, x25, x40 => if x40 = true then (some (([] : List Int), false)) else (if x10 = 0 then (spec_hoMesh.l1 k x2 x8 x23 x24 (wrap64 (x25 + 1))) else (if 0 ≤ (wrap64 (x2 + x9)) then (if (wrap64 (x2 + x9)) < (x8.length : Int) then (spec_hoMesh.l1 k x2 (x8.set ((wrap64 (x2 + x9)) : Int).toNat x10) x23 x24 (wrap64 (x25 + 1))) else (none)) else (none)))
end
def spec_hoMesh.f (k : Nat) (l0 : List Int) (l1 : List Int) (a2 : Int) : Option (List Int × Bool) := (spec_l1Own.f l0).bind fun t363 => (spec_hoMesh.l0 k l1 a2 t363)
theorem spec_hoMesh.mono_l : ∀ k, (∀ y0 y1 y2, LeO (spec_hoMesh.l0 k y0 y1 y2) (spec_hoMesh.l0 (k + 1) y0 y1 y2)) ∧ (∀ y0 y1 y2 y3 y4, LeO (spec_hoMesh.l1 k y0 y1 y2 y3 y4) (spec_hoMesh.l1 (k + 1) y0 y1 y2 y3 y4)) ∧ (∀ y0 y1 y2 y3 y4 y5 y6 y7, LeO (spec_hoMesh.j2 k y0 y1 y2 y3 y4 y5 y6 y7) (spec_hoMesh.j2 (k + 1) y0 y1 y2 y3 y4 y5 y6 y7))
  | 0 => ⟨fun _ _ _ r h => by simp [spec_hoMesh.l0] at h, fun _ _ _ _ _ r h => by simp [spec_hoMesh.l1] at h, fun _ _ _ _ _ _ _ _ r h => by simp [spec_hoMesh.j2] at h⟩
  | k + 1 => by
    obtain ⟨ih0, ih1, ih2⟩ := spec_hoMesh.mono_l k
    refine ⟨?_, ?_, ?_⟩
    · intro y0 y1 y2
      unfold spec_hoMesh.l0
      repeat' first
      | (with_reducible exact ih0 _ _ _)
      | (with_reducible exact ih1 _ _ _ _ _)
      | (with_reducible exact ih2 _ _ _ _ _ _ _ _)
      | (with_reducible exact LeO.refl _)
      | (with_reducible exact LeO.none _)
      | (with_reducible refine LeO.ite ?_ ?_)
      | (with_reducible refine LeO.bind ?_ (fun _ => ?_))
      | exact ih0 _ _ _
      | exact ih1 _ _ _ _ _
      | exact ih2 _ _ _ _ _ _ _ _
      | exact LeO.none _
      | refine LeO.ite ?_ ?_
      | refine LeO.bind ?_ (fun _ => ?_)
    · intro y0 y1 y2 y3 y4
      unfold spec_hoMesh.l1
      repeat' first
      | (with_reducible exact ih0 _ _ _)
      | (with_reducible exact ih1 _ _ _ _ _)
      | (with_reducible exact ih2 _ _ _ _ _ _ _ _)
      | (with_reducible exact LeO.refl _)
      | (with_reducible exact LeO.none _)
      | (with_reducible refine LeO.ite ?_ ?_)
      | (with_reducible refine LeO.bind ?_ (fun _ => ?_))
      | exact ih0 _ _ _
      | exact ih1 _ _ _ _ _
      | exact ih2 _ _ _ _ _ _ _ _
      | exact LeO.none _
      | refine LeO.ite ?_ ?_
      | refine LeO.bind ?_ (fun _ => ?_)
    · intro y0 y1 y2 y3 y4 y5 y6 y7
      unfold spec_hoMesh.j2
      repeat' first
      | (with_reducible exact ih0 _ _ _)
      | (with_reducible exact ih1 _ _ _ _ _)
      | (with_reducible exact ih2 _ _ _ _ _ _ _ _)
      | (with_reducible exact LeO.refl _)
      | (with_reducible exact LeO.none _)
      | (with_reducible refine LeO.ite ?_ ?_)
      | (with_reducible refine LeO.bind ?_ (fun _ => ?_))
      | exact ih0 _ _ _
      | exact ih1 _ _ _ _ _
      | exact ih2 _ _ _ _ _ _ _ _
      | exact LeO.none _
      | refine LeO.ite ?_ ?_
      | refine LeO.bind ?_ (fun _ => ?_)
theorem spec_hoMesh.mono : ∀ a0 a1 a2 k, LeO (spec_hoMesh.f k a0 a1 a2) (spec_hoMesh.f (k + 1) a0 a1 a2) := by
  intro a0 a1 a2 k
  obtain ⟨ih0, ih1, ih2⟩ := spec_hoMesh.mono_l k
  unfold spec_hoMesh.f
  repeat' first
      | (with_reducible exact ih0 _ _ _)
      | (with_reducible exact ih1 _ _ _ _ _)
      | (with_reducible exact ih2 _ _ _ _ _ _ _ _)
      | (with_reducible exact LeO.refl _)
      | (with_reducible exact LeO.none _)
      | (with_reducible refine LeO.ite ?_ ?_)
      | (with_reducible refine LeO.bind ?_ (fun _ => ?_))
      | exact ih0 _ _ _
      | exact ih1 _ _ _ _ _
      | exact ih2 _ _ _ _ _ _ _ _
      | exact LeO.none _
      | refine LeO.ite ?_ ?_
      | refine LeO.bind ?_ (fun _ => ?_)
set_option maxHeartbeats 8000000 in
set_option maxRecDepth 100000 in
theorem spec_hoMesh.calls (k : Nat) (A0 : Option Addr) (c0 : Nat) (l0 : List Int) (A1 : Option Addr) (c1 : Nat) (l1 : List Int) (a2 : Int) (r1 : List Int) (r2 : Bool) (w : World) (hr0 : Kd.C (Kd.int .i64) w A0 l0.length l0) (hc0 : l0.length ≤ c0) (hr1 : Kd.C (Kd.int .i64) w A1 l1.length l1) (hc1 : l1.length ≤ c1) (h : spec_hoMesh.f k l0 l1 a2 = some (r1, r2)) :
    Calls Try.prog 65 #[.slice A0 l0.length c0, .slice A1 l1.length c1, .int .i64 a2] w fun e w' => ∃ v0_ : Value, e = .returned (.tuple #[v0_, .bool r2]) ∧ Kd.R (Kd.int .i64) 3 w' w.heap.size (fun _ => True) v0_ r1 ∧ Below w.heap.size w w' := by
  have HR0 := Aside0.mk hr0
  have HC0 := Aside0.mk hc0
  clear hr0 hc0
  have HR1 := Aside0.mk hr1
  have HC1 := Aside0.mk hc1
  clear hr1 hc1
  have HB := Aside0.mk (Below.refl w.heap.size w)
  have H : ((spec_l1Own.f l0).bind fun t363 => (spec_hoMesh.l0 k l1 a2 t363)) = some (r1, r2) := h
  clear h
  replace H := Option.bind_eq_some_iff.mp H
  obtain ⟨t363, A40, H⟩ := H
  replace H : (spec_hoMesh.l0 k l1 a2 t363) = some (r1, r2) := H
  have A4 := Aside0.mk A40
  clear A40
  have H' := Aside0.mk H
  clear H
  go_enter Try.func65, Try.ntmps65
  go_wp2_with (first | ((with_reducible refine gate_callee (f := 50) rfl ?_); refine goesL_ (some 12) rfl rfl Try.func50 (by kernel_rfl) rfl #[.slice A0 l0.length c0] rfl (by (try simp only [List.map_toArray, List.map_cons, List.map_nil]); first | done | rfl | (simp only [List.length_drop, List.length_take]; rfl)) ?_; (with_reducible refine (spec_l1Own.calls _ _ l0 t363 _ ?side1 ?side2 A4.out).mono ?_); (case side1 => repeat (first | exact HR0.out | (with_reducible refine Kd.C_alloc ?_ _) | (with_reducible refine Kd.C_drewN ?_ _) | (with_reducible refine Kd.C_drew ?_))); (case side2 => exact HC0.out); rintro e w5 ⟨v364, rfl, ho0, hb⟩; refine ⟨_, rfl, ?_⟩; have n0_ := Aside0.mk (Kd.R_lower ho0 (below_size (by repeat (first | (with_reducible first | exact HB.out | apply below_alloc | apply pw_below_drewN | apply below_drew1) | exact HB.out)))); have n1_ := Aside0.mk (below_step (by repeat (first | (with_reducible first | exact HB.out | apply below_alloc | apply pw_below_drewN | apply below_drew1) | exact HB.out)) hb); clear HB; have HO365 := n0_; have HB := n1_; clear n0_ n1_; (try clear hb); (try clear hb2); (try clear hk); (try clear hi); (try clear ho0)))
  go_loopg [8] k (fun kq v8 w' => ∃ (x8_1 : List Int), Aside0 (spec_hoMesh.l0 kq l1 a2 x8_1 = some (r1, r2)) ∧ Aside0 (kq ≤ k) ∧ Aside0 (Kd.R (Kd.int .i64) 3 w' w.heap.size (fun _ => True) v8 x8_1) ∧ Aside0 (Below w.heap.size w w'))
  case atStart => exact ⟨(t363), H', ⟨Nat.le_refl _⟩, ⟨by (with_reducible repeat (first | apply Kd.R_alloc | apply Kd.R_drewN | apply Kd.R_drew)); exact HO365.out⟩, ⟨by repeat (first | (with_reducible first | exact HB.out | apply below_alloc | apply pw_below_drewN | apply below_drew1) | exact HB.out)⟩⟩
  case round =>
    clear H'
    try clear c1
    try clear p2
    try clear c5
    obtain ⟨x8_1, HA, HK1, HO_8, HB⟩ := hrel
    cases gk with
    | zero => exact absurd HA.out (by simp [spec_hoMesh.l0])
    | succ k1 =>
      have H := HA.out
      clear HA
      simp only [spec_hoMesh.l0] at H
      by_cases c6 : (x8_1.length : Int) < (wrap64 (a2 + (l1.length : Int)))
      · rw [if_pos c6] at H
        have c6b0 : decide ((x8_1.length : Int) < (wrap64 (a2 + (l1.length : Int)))) = true := decide_eq_true c6
        clear c6
        by_cases c7 : x8_1.length < 17592186044416
        · rw [if_pos c7] at H
          have LMc7 := Aside0.mk c7
          clear c7
          obtain ⟨y366, hy366⟩ : ∃ y_ : List Int, y_ = (x8_1 ++ [0]) := ⟨_, rfl⟩
          replace H : (spec_hoMesh.l0 k1 l1 a2 y366) = some (r1, r2) := by first | (rw [hy366]; with_reducible exact H) | (have H2_ := (Option.bind_some _ _).symm.trans H; rw [hy366]; with_reducible exact H2_) | (have H2_ := (Option.bind_some _ _).symm.trans H; with_reducible exact H2_) | with_reducible exact H | (rw [hy366]; exact H) | exact H
          have Ny366 := Aside0.mk hy366
          clear hy366
          have H' := Aside0.mk H
          clear H
          obtain ⟨Ao8, co8, eo8⟩ := Kd.R_slice HO_8.out
          subst eo8
          go_wp2_with (first | ((with_reducible refine gate_builtin (b := .append) (xs := #[.tmp 20, .tmp 21]) rfl ?_); at_builtin; refine Kd.R_append (Kd.int .i64) (w0 := w) w.heap.size rfl (.tmp 20) (.tmp 21) 25 3 (.int .i64 0) 8 rfl Try.underlying25 info3 rfl (by decide) (by omega) (.slice Ao8 x8_1.length co8) x8_1 0 [.int .i64 0] (fun _ => True) (fun _ => False) rfl rfl ?aP (fun _ hk => hk.elim) ?aF ?aO ?aB ?aS ?aL ?_; (case aP => exact rfl); (case aB => exact (by repeat (first | (with_reducible first | exact HB.out | apply below_alloc | apply pw_below_drewN | apply below_drew1) | exact HB.out))); (case aF => exact (fun _ _ => trivial)); (case aO => exact (by (with_reducible repeat (first | apply Kd.R_alloc | apply Kd.R_drewN | apply Kd.R_drew)); exact HO_8.out)); (case aS => exact (below_size (by repeat (first | (with_reducible first | exact HB.out | apply below_alloc | apply pw_below_drewN | apply below_drew1) | exact HB.out)))); (case aL => have := LMc7.out; omega); intro v367 w9 ho hb hg hat; rw [← Ny366.out] at ho; have n0_ := Aside0.mk (hb); have n1_ := Aside0.mk (ho); clear HB; clear HO_8; have HB := n0_; have HO368 := n1_; clear n0_ n1_; clear ho hb hg hat))
          go_roundg k1
          case measure => have := HK1.out; omega
          case rel => exact ⟨(y366), H', ⟨by have := HK1.out; omega⟩, ⟨by (with_reducible repeat (first | apply Kd.R_alloc | apply Kd.R_drewN | apply Kd.R_drew)); exact HO368.out⟩, ⟨by repeat (first | (with_reducible first | exact HB.out | apply below_alloc | apply pw_below_drewN | apply below_drew1) | exact HB.out)⟩⟩
        · rw [if_neg c7] at H
          exact absurd H (by simp)
      · rw [if_neg c6] at H
        have c6b0 : decide ((x8_1.length : Int) < (wrap64 (a2 + (l1.length : Int)))) = false := decide_eq_false c6
        clear c6
        have H' := Aside0.mk H
        clear H
        obtain ⟨Ao10, co10, eo10⟩ := Kd.R_slice HO_8.out
        subst eo10
        go_wp2
        go_loopg [25] k1 (fun kq v25 w' => ∃ (x8_2 : List Int) (x25_2 : Int), v25 = .int .i64 x25_2 ∧ Aside0 (spec_hoMesh.l1 kq a2 x8_2 l1 (l1.length : Int) x25_2 = some (r1, r2)) ∧ Aside0 (kq ≤ k1) ∧ Aside0 (Kd.R (Kd.int .i64) 3 w' w.heap.size (fun _ => True) (.slice Ao10 x8_1.length co10) x8_2) ∧ Aside0 (Below w.heap.size w w'))
        case atStart => exact ⟨(x8_1), (0), (by first | rfl | (simp; done) | (simp [*]; done)), H', ⟨Nat.le_refl _⟩, ⟨by (with_reducible repeat (first | apply Kd.R_alloc | apply Kd.R_drewN | apply Kd.R_drew)); exact HO_8.out⟩, ⟨by repeat (first | (with_reducible first | exact HB.out | apply below_alloc | apply pw_below_drewN | apply below_drew1) | exact HB.out)⟩⟩
        case round =>
          clear H'
          try clear c1
          try clear p2
          try clear c5
          try clear c6
          try clear c6b0
          try clear p6
          try clear c7
          try clear p2
          obtain ⟨x8_2, x25_2, rfl, HA, HK2, HO_8, HB⟩ := hrel
          have hl8_2 := (Kd.R_reads' HO_8.out).1
          rw [hl8_2] at HO_8
          (try simp only [hl8_2])
          cases gk with
          | zero => exact absurd HA.out (by simp [spec_hoMesh.l1])
          | succ k2 =>
            have H := HA.out
            clear HA
            simp only [spec_hoMesh.l1] at H
            by_cases c11 : x25_2 < (l1.length : Int)
            · rw [if_pos c11] at H
              have c11b0 : decide (x25_2 < (l1.length : Int)) = true := decide_eq_true c11
              clear c11
              by_cases c12 : 0 ≤ x25_2
              · rw [if_pos c12] at H
                have c12b0 : decide (0 ≤ x25_2) = true := decide_eq_true c12
                clear c12
                by_cases c13 : x25_2 < (l1.length : Int)
                · rw [if_pos c13] at H
                  have c13b0 : decide (x25_2 < (l1.length : Int)) = true := decide_eq_true c13
                  clear c13
                  have HC14 := Aside0.mk H
                  clear H
                  have p369 : 0 ≤ (x25_2 : Int) := of_decide_eq_true (by first | (with_reducible assumption) | assumption)
                  have q369 : x25_2 < (l1.length : Int) := of_decide_eq_true (by first | (with_reducible assumption) | assumption)
                  obtain ⟨ad369, e369, hx369_0⟩ := Kd.at_int HR1.out x25_2 p369 q369
                  cases e369
                  replace hx369_0 := (HB.out.cell (World.block_lt_of_cell? w _ hx369_0)).trans hx369_0
                  replace p369 := eq_true p369
                  replace q369 := eq_true q369
                  go_upto_region 7 with (fail)
                  go_cut [40] (fun v40 wc => ∃ (kq : Nat) (x40_13 : Bool), v40 = .bool x40_13 ∧ Aside0 (spec_hoMesh.j2 kq a2 x8_2 x25_2 (rd l1 x25_2) l1 (l1.length : Int) x25_2 x40_13 = some (r1, r2)) ∧ Aside0 (kq ≤ k2) ∧ Aside0 (Kd.R (Kd.int .i64) 3 wc w.heap.size (fun _ => True) (.slice Ao10 x8_2.length co10) x8_2) ∧ Aside0 (Below w.heap.size w wc))
                  case first =>
                    have H := HC14.out
                    clear HC14
                    by_cases c15 : (rd l1 x25_2) = 0
                    · rw [if_pos c15] at H
                      have c15b0 : ((rd l1 x25_2) == 0) = true := beq_iff_eq.mpr c15
                      have c15b1 : ((rd l1 x25_2) != 0) = false := bne_eq_false_iff_eq.mpr c15
                      clear c15
                      (first | rw [c15b0] | (simp only [i64_w, i32_w]; rw [c15b0]) | skip)
                      have H' := Aside0.mk H
                      clear H
                      go_wp2
                      go_meet
                      case rel => exact ⟨_, (false), (by first | rfl | (simp; done) | (simp [*]; done)), H', ⟨by have := HK1.out; have := HK2.out; first | omega | exact Nat.le_refl _⟩, ⟨by (try simp only [hl8_2]); (with_reducible repeat (first | apply Kd.R_alloc | apply Kd.R_drewN | apply Kd.R_drew)); exact HO_8.out⟩, ⟨by repeat (first | (with_reducible first | exact HB.out | apply below_alloc | apply pw_below_drewN | apply below_drew1) | exact HB.out)⟩⟩
                    · rw [if_neg c15] at H
                      have c15b0 : ((rd l1 x25_2) == 0) = false := beq_eq_false_iff_ne.mpr c15
                      have c15b1 : ((rd l1 x25_2) != 0) = true := bne_iff_ne.mpr c15
                      (first | rw [c15b0] | (simp only [i64_w, i32_w]; rw [c15b0]) | skip)
                      obtain ⟨ji16, hji16⟩ : ∃ j_ : Int, (wrap64 (a2 + x25_2)) = j_ := ⟨_, rfl⟩
                      replace H : (if 0 ≤ (ji16) then (if (ji16) < (x8_2.length : Int) then (spec_hoMesh.j2 k2 a2 x8_2 x25_2 (rd l1 x25_2) l1 (l1.length : Int) x25_2 ((rd x8_2 (ji16)) != 0)) else (none)) else (none)) = some (r1, r2) := by first | (rw [hji16] at H; exact H) | (simp only [hji16] at H ⊢; exact H)
                      have hji16w : (IntKind.i64.wrap (a2 + x25_2)) = ji16 := (i64_w _).trans hji16
                      by_cases c17 : 0 ≤ (ji16)
                      · rw [if_pos c17] at H
                        have c17b0 : decide (0 ≤ (ji16)) = true := decide_eq_true c17
                        clear c17
                        by_cases c18 : (ji16) < (x8_2.length : Int)
                        · rw [if_pos c18] at H
                          have c18b0 : decide ((ji16) < (x8_2.length : Int)) = true := decide_eq_true c18
                          clear c18
                          have H' := Aside0.mk H
                          clear H
                          have p370 : 0 ≤ ((ji16) : Int) := of_decide_eq_true (by first | (with_reducible assumption) | assumption)
                          have q370 : (ji16) < (x8_2.length : Int) := of_decide_eq_true (by first | (with_reducible assumption) | assumption)
                          obtain ⟨ad370, e370, hx370_0⟩ := Kd.at_int (Kd.R_reads' HO_8.out).2.2 (ji16) p370 q370
                          cases e370
                          replace p370 := eq_true p370
                          replace q370 := eq_true q370
                          go_wp2
                          go_meet
                          case rel => exact ⟨_, (((rd x8_2 (ji16)) != 0)), (by first | rfl | (simp; done) | (simp only [← hji16] <;> (first | rfl | simp)) | (simp [*]; done)), H', ⟨by have := HK1.out; have := HK2.out; first | omega | exact Nat.le_refl _⟩, ⟨by (try simp only [hl8_2]); (with_reducible repeat (first | apply Kd.R_alloc | apply Kd.R_drewN | apply Kd.R_drew)); exact HO_8.out⟩, ⟨by repeat (first | (with_reducible first | exact HB.out | apply below_alloc | apply pw_below_drewN | apply below_drew1) | exact HB.out)⟩⟩
                        · rw [if_neg c18] at H
                          exact absurd H (by simp)
                      · rw [if_neg c17] at H
                        exact absurd H (by simp)
                  case rest =>
                    clear HC14
                    try clear c1
                    try clear p2
                    try clear p3
                    try clear q3
                    try clear hx3
                    try clear c5
                    try clear c6
                    try clear c6b0
                    try clear p6
                    try clear c7
                    try clear c11
                    try clear c11b0
                    try clear c12
                    try clear c12b0
                    try clear c13
                    try clear c13b0
                    try clear c15
                    try clear c15b0
                    try clear c15b1
                    try clear c17
                    try clear c17b0
                    try clear c18
                    try clear c18b0
                    try clear hx369_0
                    try clear hx370_0
                    try clear p2
                    try clear p369
                    try clear p370
                    try clear p6
                    try clear q369
                    try clear q370
                    obtain ⟨kq, x40_13, rfl, HA, HJ13, HO_8, HB⟩ := hcut
                    cases kq with
                    | zero => exact absurd HA.out (by simp [spec_hoMesh.j2])
                    | succ kj13 =>
                      have H := HA.out
                      clear HA
                      simp only [spec_hoMesh.j2] at H
                      by_cases c19 : x40_13 = true
                      · subst c19
                        have H1 : (some (([] : List Int), false)) = some (r1, r2) := by rw [if_pos rfl] at H; exact H
                        clear H
                        have H := H1
                        clear H1
                        simp only [Option.some.injEq, Prod.mk.injEq] at H
                        obtain ⟨rfl, rfl⟩ := H
                        go_wp2
                        go_ret2
                        exact ⟨_, by first | rfl | (simp [errW_none, errW_some] <;> rfl) | (simp [*, errW_none, errW_some] <;> rfl), by first | exact Kd.R_nil _ _ _ _ _ | exact Kd.N_nil _ _ _ _ _ | exact Kd.V_nil _ _ _ _ _ | exact Kd.Q_nil _ _ _ _ _ | exact Kd.S_nil _ _ _ _ _, by repeat (first | (with_reducible first | exact HB.out | apply below_alloc | apply pw_below_drewN | apply below_drew1) | exact HB.out)⟩
                      · replace c19 := Bool.eq_false_iff.mpr c19
                        subst c19
                        have H1 : (if (rd l1 x25_2) = 0 then (spec_hoMesh.l1 kj13 a2 x8_2 l1 (l1.length : Int) (wrap64 (x25_2 + 1))) else (if 0 ≤ (wrap64 (a2 + x25_2)) then (if (wrap64 (a2 + x25_2)) < (x8_2.length : Int) then (spec_hoMesh.l1 kj13 a2 (x8_2.set ((wrap64 (a2 + x25_2)) : Int).toNat (rd l1 x25_2)) l1 (l1.length : Int) (wrap64 (x25_2 + 1))) else (none)) else (none))) = some (r1, r2) := by rw [if_neg (show ¬ (false = true) by decide)] at H; exact H
                        clear H
                        have H := H1
                        clear H1
                        by_cases c20 : (rd l1 x25_2) = 0
                        · rw [if_pos c20] at H
                          have c20b0 : ((rd l1 x25_2) == 0) = true := beq_iff_eq.mpr c20
                          have c20b1 : ((rd l1 x25_2) != 0) = false := bne_eq_false_iff_eq.mpr c20
                          clear c20
                          have H' := Aside0.mk H
                          clear H
                          go_wp2
                          (try simp only [← hl8_2])
                          go_roundg kj13
                          case measure => have := HK1.out; have := HK2.out; have := HJ13.out; omega
                          case rel => exact ⟨(x8_2), (wrap64 (x25_2 + 1)), (by first | rfl | (simp; done) | (simp [*]; done)), H', ⟨by have := HK1.out; have := HK2.out; have := HJ13.out; omega⟩, ⟨by (try simp only [hl8_2]); (with_reducible repeat (first | apply Kd.R_alloc | apply Kd.R_drewN | apply Kd.R_drew)); exact HO_8.out⟩, ⟨by repeat (first | (with_reducible first | exact HB.out | apply below_alloc | apply pw_below_drewN | apply below_drew1) | exact HB.out)⟩⟩
                        · rw [if_neg c20] at H
                          have c20b0 : ((rd l1 x25_2) == 0) = false := beq_eq_false_iff_ne.mpr c20
                          have c20b1 : ((rd l1 x25_2) != 0) = true := bne_iff_ne.mpr c20
                          obtain ⟨ji21, hji21⟩ : ∃ j_ : Int, (wrap64 (a2 + x25_2)) = j_ := ⟨_, rfl⟩
                          replace H : (if 0 ≤ (ji21) then (if (ji21) < (x8_2.length : Int) then (spec_hoMesh.l1 kj13 a2 (x8_2.set ((ji21) : Int).toNat (rd l1 x25_2)) l1 (l1.length : Int) (wrap64 (x25_2 + 1))) else (none)) else (none)) = some (r1, r2) := by first | (rw [hji21] at H; exact H) | (simp only [hji21] at H ⊢; exact H)
                          have hji21w : (IntKind.i64.wrap (a2 + x25_2)) = ji21 := (i64_w _).trans hji21
                          by_cases c22 : 0 ≤ (ji21)
                          · rw [if_pos c22] at H
                            have c22b0 : decide (0 ≤ (ji21)) = true := decide_eq_true c22
                            clear c22
                            by_cases c23 : (ji21) < (x8_2.length : Int)
                            · rw [if_pos c23] at H
                              have c23b0 : decide ((ji21) < (x8_2.length : Int)) = true := decide_eq_true c23
                              clear c23
                              obtain ⟨y371, hy371⟩ : ∃ y_ : List Int, y_ = (x8_2.set ((ji21) : Int).toNat (rd l1 x25_2)) := ⟨_, rfl⟩
                              replace H : (spec_hoMesh.l1 kj13 a2 y371 l1 (l1.length : Int) (wrap64 (x25_2 + 1))) = some (r1, r2) := by first | (rw [hy371]; with_reducible exact H) | (have H2_ := (Option.bind_some _ _).symm.trans H; rw [hy371]; with_reducible exact H2_) | (have H2_ := (Option.bind_some _ _).symm.trans H; with_reducible exact H2_) | with_reducible exact H | (rw [hy371]; exact H) | exact H
                              have Ny371 := Aside0.mk hy371
                              clear hy371
                              have H' := Aside0.mk H
                              clear H
                              have p24 : 0 ≤ ((ji21) : Int) := of_decide_eq_true (by first | (with_reducible assumption) | assumption)
                              have q24 : ((ji21) : Int) < ((x8_2.length : Int) : Int) := of_decide_eq_true (by first | (with_reducible assumption) | assumption)
                              obtain ⟨go24, co24, eo24, gb24, gl24, cl24, HG24⟩ := Kd.R_form HO_8.out (by omega)
                              (first | cases eo24 | (injection eo24 with ea_ en_ ec_; (first | subst ea_ | (injection ea_ with ea_; subst ea_)); subst ec_; clear en_))
                              have GB24 := Aside0.mk gb24
                              have GG24 := Aside0.mk HG24
                              clear gb24 gl24 HG24
                              obtain ⟨hx24_0, hf24_0⟩ := Kd.R_celln 0 HO_8.out ((ji21) : Int) p24 q24
                              replace p24 := eq_true p24
                              replace q24 := eq_true q24
                              have HP25 := Kd.R_putg HO_8.out ((ji21) : Int) (rd l1 x25_2)
                              go_wp2_with (first | ((with_reducible refine gate_store (t := 3) (p := 48) rfl ?_); refine store_event (t := 3) (p := 48) (v := ?vo_w26) (w1 := (wc.setCell ⟨go24, ((ji21) : Int).toNat, none⟩ (.int .i64 (rd l1 x25_2)))) ?hg ?ho ?hn ?hr ?_; (case ho => rfl); (case hg => rfl); (case hn => rfl); (case hr => first | (go_simp; done) | (go_simp; rfl)); intro w26 hw; have hg : wc.grownBy w26 (some go24) := (by rw [hw]; exact HP25.2); have hp_ : Kd.R (Kd.int .i64) 3 w26 w.heap.size (fun _ => True) (.slice (some ⟨go24, 0, none⟩) x8_2.length co10) y371 := (by rw [hw, Ny371.out]; exact HP25.1); clear HP25; have n0_ := Aside0.mk (hp_); have n1_ := Aside0.mk ((by rw [hw]; exact below_set (HB.out) GB24.out : Below w.heap.size w w26)); clear HO_8; clear HB; have HO_8 := n0_; have HB := n1_; clear n0_ n1_; clear hg hw hp_))
                              (try simp only [← hl8_2])
                              go_roundg kj13
                              case measure => have := HK1.out; have := HK2.out; have := HJ13.out; omega
                              case rel => exact ⟨(y371), (wrap64 (x25_2 + 1)), (by first | rfl | (simp; done) | (simp [*]; done)), H', ⟨by have := HK1.out; have := HK2.out; have := HJ13.out; omega⟩, ⟨by (try simp only [hl8_2]); (with_reducible repeat (first | apply Kd.R_alloc | apply Kd.R_drewN | apply Kd.R_drew)); exact HO_8.out⟩, ⟨by repeat (first | (with_reducible first | exact HB.out | apply below_alloc | apply pw_below_drewN | apply below_drew1) | exact HB.out)⟩⟩
                            · rw [if_neg c23] at H
                              exact absurd H (by simp)
                          · rw [if_neg c22] at H
                            exact absurd H (by simp)
                · rw [if_neg c13] at H
                  exact absurd H (by simp)
              · rw [if_neg c12] at H
                exact absurd H (by simp)
            · rw [if_neg c11] at H
              have c11b0 : decide (x25_2 < (l1.length : Int)) = false := decide_eq_false c11
              clear c11
              simp only [Option.some.injEq, Prod.mk.injEq] at H
              obtain ⟨rfl, rfl⟩ := H
              go_wp2
              go_ret2
              exact ⟨_, by first | rfl | (simp [errW_none, errW_some] <;> rfl) | (simp [*, errW_none, errW_some] <;> rfl), by (with_reducible repeat (first | apply Kd.R_alloc | apply Kd.R_drewN | apply Kd.R_drew)); exact HO_8.out, by repeat (first | (with_reducible first | exact HB.out | apply below_alloc | apply pw_below_drewN | apply below_drew1) | exact HB.out)⟩

noncomputable def spec_hoMesh.L0 (x1 : List Int) (x2 : Int) (x8 : List Int) : Option (List Int × Bool) := lim fun k => spec_hoMesh.l0 k x1 x2 x8
theorem spec_hoMesh.L0_lim (x1 : List Int) (x2 : Int) (x8 : List Int) : Lim (fun k => spec_hoMesh.l0 k x1 x2 x8) (spec_hoMesh.L0 x1 x2 x8) := Lim.of fun k => (spec_hoMesh.mono_l k).1 x1 x2 x8
noncomputable def spec_hoMesh.L1 (x2 : Int) (x8 : List Int) (x23 : List Int) (x24 : Int) (x25 : Int) : Option (List Int × Bool) := lim fun k => spec_hoMesh.l1 k x2 x8 x23 x24 x25
theorem spec_hoMesh.L1_lim (x2 : Int) (x8 : List Int) (x23 : List Int) (x24 : Int) (x25 : Int) : Lim (fun k => spec_hoMesh.l1 k x2 x8 x23 x24 x25) (spec_hoMesh.L1 x2 x8 x23 x24 x25) := Lim.of fun k => (spec_hoMesh.mono_l k).2.1 x2 x8 x23 x24 x25
noncomputable def spec_hoMesh.J2 (x2 : Int) (x8 : List Int) (x9 : Int) (x10 : Int) (x23 : List Int) (x24 : Int) (x25 : Int) (x40 : Bool) : Option (List Int × Bool) := lim fun k => spec_hoMesh.j2 k x2 x8 x9 x10 x23 x24 x25 x40
theorem spec_hoMesh.J2_lim (x2 : Int) (x8 : List Int) (x9 : Int) (x10 : Int) (x23 : List Int) (x24 : Int) (x25 : Int) (x40 : Bool) : Lim (fun k => spec_hoMesh.j2 k x2 x8 x9 x10 x23 x24 x25 x40) (spec_hoMesh.J2 x2 x8 x9 x10 x23 x24 x25 x40) := Lim.of fun k => (spec_hoMesh.mono_l k).2.2 x2 x8 x9 x10 x23 x24 x25 x40
noncomputable def spec_hoMesh.F (l0 : List Int) (l1 : List Int) (a2 : Int) : Option (List Int × Bool) := lim fun k => spec_hoMesh.f k l0 l1 a2
theorem spec_hoMesh.F_lim (l0 : List Int) (l1 : List Int) (a2 : Int) : Lim (fun k => spec_hoMesh.f k l0 l1 a2) (spec_hoMesh.F l0 l1 a2) := Lim.of fun k => spec_hoMesh.mono l0 l1 a2 k
theorem spec_hoMesh.L0_eq (x1 : List Int) (x2 : Int) (x8 : List Int) : spec_hoMesh.L0 x1 x2 x8 = (if (x8.length : Int) < (wrap64 (x2 + (x1.length : Int))) then (if x8.length < 17592186044416 then (spec_hoMesh.L0 x1 x2 (x8 ++ [0])) else (none)) else (spec_hoMesh.L1 x2 x8 x1 (x1.length : Int) 0)) :=
  Lim.step (f := fun k => (if (x8.length : Int) < (wrap64 (x2 + (x1.length : Int))) then (if x8.length < 17592186044416 then (spec_hoMesh.l0 k x1 x2 (x8 ++ [0])) else (none)) else (spec_hoMesh.l1 k x2 x8 x1 (x1.length : Int) 0))) (spec_hoMesh.L0_lim x1 x2 x8) (fun k => by first | rfl | rw [spec_hoMesh.l0]) (by
    repeat' first
    | (with_reducible exact Lim.const _)
    | (with_reducible exact spec_hoMesh.L0_lim _ _ _)
    | (with_reducible exact spec_hoMesh.L1_lim _ _ _ _ _)
    | (with_reducible refine Lim.ite ?_ ?_)
    | (with_reducible refine Lim.bind ?_ (fun _ => ?_)))
theorem spec_hoMesh.L1_eq (x2 : Int) (x8 : List Int) (x23 : List Int) (x24 : Int) (x25 : Int) : spec_hoMesh.L1 x2 x8 x23 x24 x25 = (if x25 < x24 then (if 0 ≤ x25 then (if x25 < (x23.length : Int) then (if (rd x23 x25) = 0 then (spec_hoMesh.J2 x2 x8 x25 (rd x23 x25) x23 x24 x25 false) else (if 0 ≤ (wrap64 (x2 + x25)) then (if (wrap64 (x2 + x25)) < (x8.length : Int) then (spec_hoMesh.J2 x2 x8 x25 (rd x23 x25) x23 x24 x25 ((rd x8 (wrap64 (x2 + x25))) != 0)) else (none)) else (none))) else (none)) else (none)) else (some (x8, true))) :=
  Lim.step (f := fun k => (if x25 < x24 then (if 0 ≤ x25 then (if x25 < (x23.length : Int) then (if (rd x23 x25) = 0 then (spec_hoMesh.j2 k x2 x8 x25 (rd x23 x25) x23 x24 x25 false) else (if 0 ≤ (wrap64 (x2 + x25)) then (if (wrap64 (x2 + x25)) < (x8.length : Int) then (spec_hoMesh.j2 k x2 x8 x25 (rd x23 x25) x23 x24 x25 ((rd x8 (wrap64 (x2 + x25))) != 0)) else (none)) else (none))) else (none)) else (none)) else (some (x8, true)))) (spec_hoMesh.L1_lim x2 x8 x23 x24 x25) (fun k => by first | rfl | rw [spec_hoMesh.l1]) (by
    repeat' first
    | (with_reducible exact Lim.const _)
    | (with_reducible exact spec_hoMesh.J2_lim _ _ _ _ _ _ _ _)
    | (with_reducible refine Lim.ite ?_ ?_)
    | (with_reducible refine Lim.bind ?_ (fun _ => ?_)))
theorem spec_hoMesh.J2_eq (x2 : Int) (x8 : List Int) (x9 : Int) (x10 : Int) (x23 : List Int) (x24 : Int) (x25 : Int) (x40 : Bool) : spec_hoMesh.J2 x2 x8 x9 x10 x23 x24 x25 x40 = (if x40 = true then (some (([] : List Int), false)) else (if x10 = 0 then (spec_hoMesh.L1 x2 x8 x23 x24 (wrap64 (x25 + 1))) else (if 0 ≤ (wrap64 (x2 + x9)) then (if (wrap64 (x2 + x9)) < (x8.length : Int) then (spec_hoMesh.L1 x2 (x8.set ((wrap64 (x2 + x9)) : Int).toNat x10) x23 x24 (wrap64 (x25 + 1))) else (none)) else (none)))) :=
  Lim.step (f := fun k => (if x40 = true then (some (([] : List Int), false)) else (if x10 = 0 then (spec_hoMesh.l1 k x2 x8 x23 x24 (wrap64 (x25 + 1))) else (if 0 ≤ (wrap64 (x2 + x9)) then (if (wrap64 (x2 + x9)) < (x8.length : Int) then (spec_hoMesh.l1 k x2 (x8.set ((wrap64 (x2 + x9)) : Int).toNat x10) x23 x24 (wrap64 (x25 + 1))) else (none)) else (none))))) (spec_hoMesh.J2_lim x2 x8 x9 x10 x23 x24 x25 x40) (fun k => by first | rfl | rw [spec_hoMesh.j2]) (by
    repeat' first
    | (with_reducible exact Lim.const _)
    | (with_reducible exact spec_hoMesh.L1_lim _ _ _ _ _)
    | (with_reducible refine Lim.ite ?_ ?_)
    | (with_reducible refine Lim.bind ?_ (fun _ => ?_)))
theorem spec_hoMesh.F_eq (l0 : List Int) (l1 : List Int) (a2 : Int) : spec_hoMesh.F l0 l1 a2 = ((spec_l1Own.f l0).bind fun t363 => (spec_hoMesh.L0 l1 a2 t363)) :=
  Lim.unique (spec_hoMesh.F_lim l0 l1 a2) (by
    unfold spec_hoMesh.f
    repeat' first
    | (with_reducible exact Lim.const _)
    | (with_reducible exact spec_hoMesh.L0_lim _ _ _)
    | (with_reducible refine Lim.ite ?_ ?_)
    | (with_reducible refine Lim.bind ?_ (fun _ => ?_)))

end Go.Proofs.Ytmhcgihkijiecaa.Fn
namespace Go.Proofs.Ytmhcgihkijiecaa.Fn
open Go.RowKit Go.Proofs.YtmhcgihkijiecaaW.PrintWords Go.Proofs.YtmhcgihkijiecaaW.PrintLast Go.Proofs.YtmhcgihkijiecaaW.PrintMore
attribute [local go_sem] max2_int min2_int max_two min_two max_three min_three max_four min_four   -- for this text's walks alone
set_option linter.unusedVariables false
set_option linter.unusedSimpArgs false

/-! ### spec_MeshRows: function 36 -/
def spec_MeshRows.j0 : Nat → List Int → List Int → Int → Bool → Option (List Int × Bool)
  | 0, _, _, _, _ => none
  | k + 1, x0, x1, x2, x29 => if x29 = true then (some (([] : List Int), false)) else ((spec_hoMesh.f k x0 x1 x2).bind fun bt376 => (if bt376.2 = true then ((spec_hoIf.f k bt376.1).bind fun bt380 => (some (bt380.1, bt380.2))) else (some (([] : List Int), false))))
def spec_MeshRows.f (k : Nat) (l0 : List Int) (l1 : List Int) (a2 : Int) : Option (List Int × Bool) := (spec_roIs.f k l0).bind fun t372 => (if t372 = true then ((spec_roIs.f k l1).bind fun t373 => (if t373 = true then ((spec_l1In.f a2 0 (l0.length : Int)).bind fun t374 => (if t374 = true then ((spec_hoCommon.f k l0 l1).bind fun t375 => (spec_MeshRows.j0 k l0 l1 a2 t375)) else (spec_MeshRows.j0 k l0 l1 a2 true))) else (spec_MeshRows.j0 k l0 l1 a2 true))) else (spec_MeshRows.j0 k l0 l1 a2 true))
theorem spec_MeshRows.mono_l : ∀ k, (∀ y0 y1 y2 y3, LeO (spec_MeshRows.j0 k y0 y1 y2 y3) (spec_MeshRows.j0 (k + 1) y0 y1 y2 y3))
  | 0 => fun _ _ _ _ r h => by simp [spec_MeshRows.j0] at h
  | k + 1 => by
    have ih0 := spec_MeshRows.mono_l k
    · intro y0 y1 y2 y3
      unfold spec_MeshRows.j0
      repeat' first
      | (with_reducible exact ih0 _ _ _ _)
      | (with_reducible exact spec_hoCommon.mono _ _ _)
      | (with_reducible exact spec_hoIf.mono _ _)
      | (with_reducible exact spec_hoMesh.mono _ _ _ _)
      | (with_reducible exact spec_roIs.mono _ _)
      | (with_reducible exact LeO.refl _)
      | (with_reducible exact LeO.none _)
      | (with_reducible refine LeO.ite ?_ ?_)
      | (with_reducible refine LeO.bind ?_ (fun _ => ?_))
      | exact ih0 _ _ _ _
      | exact spec_hoCommon.mono _ _ _
      | exact spec_hoIf.mono _ _
      | exact spec_hoMesh.mono _ _ _ _
      | exact spec_roIs.mono _ _
      | exact LeO.none _
      | refine LeO.ite ?_ ?_
      | refine LeO.bind ?_ (fun _ => ?_)
theorem spec_MeshRows.mono : ∀ a0 a1 a2 k, LeO (spec_MeshRows.f k a0 a1 a2) (spec_MeshRows.f (k + 1) a0 a1 a2) := by
  intro a0 a1 a2 k
  have ih0 := spec_MeshRows.mono_l k
  unfold spec_MeshRows.f
  repeat' first
      | (with_reducible exact ih0 _ _ _ _)
      | (with_reducible exact spec_hoCommon.mono _ _ _)
      | (with_reducible exact spec_hoIf.mono _ _)
      | (with_reducible exact spec_hoMesh.mono _ _ _ _)
      | (with_reducible exact spec_roIs.mono _ _)
      | (with_reducible exact LeO.refl _)
      | (with_reducible exact LeO.none _)
      | (with_reducible refine LeO.ite ?_ ?_)
      | (with_reducible refine LeO.bind ?_ (fun _ => ?_))
      | exact ih0 _ _ _ _
      | exact spec_hoCommon.mono _ _ _
      | exact spec_hoIf.mono _ _
      | exact spec_hoMesh.mono _ _ _ _
      | exact spec_roIs.mono _ _
      | exact LeO.none _
      | refine LeO.ite ?_ ?_
      | refine LeO.bind ?_ (fun _ => ?_)
set_option maxHeartbeats 8000000 in
set_option maxRecDepth 100000 in
theorem spec_MeshRows.calls (k : Nat) (A0 : Option Addr) (c0 : Nat) (l0 : List Int) (A1 : Option Addr) (c1 : Nat) (l1 : List Int) (a2 : Int) (r1 : List Int) (r2 : Bool) (w : World) (hr0 : Kd.C (Kd.int .i64) w A0 l0.length l0) (hc0 : l0.length ≤ c0) (hr1 : Kd.C (Kd.int .i64) w A1 l1.length l1) (hc1 : l1.length ≤ c1) (h : spec_MeshRows.f k l0 l1 a2 = some (r1, r2)) :
    Calls Try.prog 36 #[.slice A0 l0.length c0, .slice A1 l1.length c1, .int .i64 a2] w fun e w' => ∃ v0_ : Value, e = .returned (.tuple #[v0_, .bool r2]) ∧ Kd.R (Kd.int .i64) 3 w' w.heap.size (fun _ => True) v0_ r1 ∧ Below w.heap.size w w' := by
  have HR0 := Aside0.mk hr0
  have HC0 := Aside0.mk hc0
  clear hr0 hc0
  have HR1 := Aside0.mk hr1
  have HC1 := Aside0.mk hc1
  clear hr1 hc1
  have HB := Aside0.mk (Below.refl w.heap.size w)
  have H : ((spec_roIs.f k l0).bind fun t372 => (if t372 = true then ((spec_roIs.f k l1).bind fun t373 => (if t373 = true then ((spec_l1In.f a2 0 (l0.length : Int)).bind fun t374 => (if t374 = true then ((spec_hoCommon.f k l0 l1).bind fun t375 => (spec_MeshRows.j0 k l0 l1 a2 t375)) else (spec_MeshRows.j0 k l0 l1 a2 true))) else (spec_MeshRows.j0 k l0 l1 a2 true))) else (spec_MeshRows.j0 k l0 l1 a2 true))) = some (r1, r2) := h
  clear h
  have HC4 := Aside0.mk H
  clear H
  go_enter Try.func36, Try.ntmps36
  go_upto_region 1 with (fail)
  go_cut [29] (fun v29 wc => ∃ (kq : Nat) (x29_3 : Bool), v29 = .bool x29_3 ∧ Aside0 (spec_MeshRows.j0 kq l0 l1 a2 x29_3 = some (r1, r2)) ∧ Aside0 (kq ≤ k) ∧ Aside0 (Below w.heap.size w wc))
  case first =>
    have H := HC4.out
    clear HC4
    replace H := Option.bind_eq_some_iff.mp H
    obtain ⟨t372, A50, H⟩ := H
    replace H : (if t372 = true then ((spec_roIs.f k l1).bind fun t373 => (if t373 = true then ((spec_l1In.f a2 0 (l0.length : Int)).bind fun t374 => (if t374 = true then ((spec_hoCommon.f k l0 l1).bind fun t375 => (spec_MeshRows.j0 k l0 l1 a2 t375)) else (spec_MeshRows.j0 k l0 l1 a2 true))) else (spec_MeshRows.j0 k l0 l1 a2 true))) else (spec_MeshRows.j0 k l0 l1 a2 true)) = some (r1, r2) := H
    have A5 := Aside0.mk A50
    clear A50
    by_cases c6 : t372 = true
    · subst c6
      have H1 : ((spec_roIs.f k l1).bind fun t373 => (if t373 = true then ((spec_l1In.f a2 0 (l0.length : Int)).bind fun t374 => (if t374 = true then ((spec_hoCommon.f k l0 l1).bind fun t375 => (spec_MeshRows.j0 k l0 l1 a2 t375)) else (spec_MeshRows.j0 k l0 l1 a2 true))) else (spec_MeshRows.j0 k l0 l1 a2 true))) = some (r1, r2) := by rw [if_pos rfl] at H; exact H
      clear H
      have H := H1
      clear H1
      replace H := Option.bind_eq_some_iff.mp H
      obtain ⟨t373, A70, H⟩ := H
      replace H : (if t373 = true then ((spec_l1In.f a2 0 (l0.length : Int)).bind fun t374 => (if t374 = true then ((spec_hoCommon.f k l0 l1).bind fun t375 => (spec_MeshRows.j0 k l0 l1 a2 t375)) else (spec_MeshRows.j0 k l0 l1 a2 true))) else (spec_MeshRows.j0 k l0 l1 a2 true)) = some (r1, r2) := H
      have A7 := Aside0.mk A70
      clear A70
      by_cases c8 : t373 = true
      · subst c8
        have H1 : ((spec_l1In.f a2 0 (l0.length : Int)).bind fun t374 => (if t374 = true then ((spec_hoCommon.f k l0 l1).bind fun t375 => (spec_MeshRows.j0 k l0 l1 a2 t375)) else (spec_MeshRows.j0 k l0 l1 a2 true))) = some (r1, r2) := by rw [if_pos rfl] at H; exact H
        clear H
        have H := H1
        clear H1
        replace H := Option.bind_eq_some_iff.mp H
        obtain ⟨t374, A90, H⟩ := H
        replace H : (if t374 = true then ((spec_hoCommon.f k l0 l1).bind fun t375 => (spec_MeshRows.j0 k l0 l1 a2 t375)) else (spec_MeshRows.j0 k l0 l1 a2 true)) = some (r1, r2) := H
        have A9 := Aside0.mk A90
        clear A90
        by_cases c10 : t374 = true
        · subst c10
          have H1 : ((spec_hoCommon.f k l0 l1).bind fun t375 => (spec_MeshRows.j0 k l0 l1 a2 t375)) = some (r1, r2) := by rw [if_pos rfl] at H; exact H
          clear H
          have H := H1
          clear H1
          replace H := Option.bind_eq_some_iff.mp H
          obtain ⟨t375, A110, H⟩ := H
          replace H : (spec_MeshRows.j0 k l0 l1 a2 t375) = some (r1, r2) := H
          have A11 := Aside0.mk A110
          clear A110
          have H' := Aside0.mk H
          clear H
          go_wp2_with (first | ((with_reducible refine gate_callee (f := 60) rfl ?_); refine goesL_ (some 11) rfl rfl Try.func60 (by kernel_rfl) rfl #[.slice A0 l0.length c0] rfl (by (try simp only [List.map_toArray, List.map_cons, List.map_nil]); first | done | rfl | (simp only [List.length_drop, List.length_take]; rfl)) ?_; (with_reducible refine (spec_roIs.calls k _ _ l0 true _ ?side1 ?side2 A5.out).mono ?_); (case side1 => repeat (first | exact (Kd.C_below HR0.out HB.out) | (with_reducible refine Kd.C_alloc ?_ _) | (with_reducible refine Kd.C_drewN ?_ _) | (with_reducible refine Kd.C_drew ?_))); (case side2 => exact HC0.out); rintro e w12 ⟨rfl, hb⟩; refine ⟨_, rfl, ?_⟩; have n0_ := Aside0.mk (below_step (by repeat (first | (with_reducible first | exact HB.out | apply below_alloc | apply pw_below_drewN | apply below_drew1) | exact HB.out)) hb); clear HB; have HB := n0_; clear n0_; (try clear hb); (try clear hb2); (try clear hk); (try clear hi)) | (go_at_call 60; (with_reducible refine (spec_roIs.calls k _ _ l1 true _ ?side1 ?side2 A7.out).mono ?_); (case side1 => repeat (first | exact (Kd.C_below HR1.out HB.out) | (with_reducible refine Kd.C_alloc ?_ _) | (with_reducible refine Kd.C_drewN ?_ _) | (with_reducible refine Kd.C_drew ?_))); (case side2 => exact HC1.out); rintro e w13 ⟨rfl, hb⟩; have n0_ := Aside0.mk (below_step (by repeat (first | (with_reducible first | exact HB.out | apply below_alloc | apply pw_below_drewN | apply below_drew1) | exact HB.out)) hb); clear HB; have HB := n0_; clear n0_; (try clear hb); (try clear hb2); (try clear hk); (try clear hi)) | (go_at_call 62; (with_reducible refine (spec_l1In.calls a2 0 (l0.length : Int) true _ A9.out).mono ?_); rintro e w' ⟨rfl, ⟨nd, rfl⟩⟩) | (go_at_call 64; (with_reducible refine (spec_hoCommon.calls k _ _ l0 _ _ l1 t375 _ ?side1 ?side2 ?side3 ?side4 A11.out).mono ?_); (case side1 => repeat (first | exact (Kd.C_below HR0.out (by repeat (first | (with_reducible first | exact HB.out | apply below_alloc | apply pw_below_drewN | apply below_drew1) | exact HB.out))) | (with_reducible refine Kd.C_alloc ?_ _) | (with_reducible refine Kd.C_drewN ?_ _) | (with_reducible refine Kd.C_drew ?_))); (case side2 => exact HC0.out); (case side3 => repeat (first | exact (Kd.C_below HR1.out (by repeat (first | (with_reducible first | exact HB.out | apply below_alloc | apply pw_below_drewN | apply below_drew1) | exact HB.out))) | (with_reducible refine Kd.C_alloc ?_ _) | (with_reducible refine Kd.C_drewN ?_ _) | (with_reducible refine Kd.C_drew ?_))); (case side4 => exact HC1.out); rintro e w' ⟨rfl, ⟨nd, rfl⟩⟩))
          go_meet
          case rel => exact ⟨_, (t375), (by first | rfl | (simp; done) | (simp [*]; done)), H', ⟨by first | omega | exact Nat.le_refl _⟩, ⟨by repeat (first | (with_reducible first | exact HB.out | apply below_alloc | apply pw_below_drewN | apply below_drew1) | exact HB.out)⟩⟩
        · replace c10 := Bool.eq_false_iff.mpr c10
          subst c10
          have H1 : (spec_MeshRows.j0 k l0 l1 a2 true) = some (r1, r2) := by rw [if_neg (show ¬ (false = true) by decide)] at H; exact H
          clear H
          have H := H1
          clear H1
          have H' := Aside0.mk H
          clear H
          go_wp2_with (first | ((with_reducible refine gate_callee (f := 60) rfl ?_); refine goesL_ (some 11) rfl rfl Try.func60 (by kernel_rfl) rfl #[.slice A0 l0.length c0] rfl (by (try simp only [List.map_toArray, List.map_cons, List.map_nil]); first | done | rfl | (simp only [List.length_drop, List.length_take]; rfl)) ?_; (with_reducible refine (spec_roIs.calls k _ _ l0 true _ ?side1 ?side2 A5.out).mono ?_); (case side1 => repeat (first | exact (Kd.C_below HR0.out HB.out) | (with_reducible refine Kd.C_alloc ?_ _) | (with_reducible refine Kd.C_drewN ?_ _) | (with_reducible refine Kd.C_drew ?_))); (case side2 => exact HC0.out); rintro e w14 ⟨rfl, hb⟩; refine ⟨_, rfl, ?_⟩; have n0_ := Aside0.mk (below_step (by repeat (first | (with_reducible first | exact HB.out | apply below_alloc | apply pw_below_drewN | apply below_drew1) | exact HB.out)) hb); clear HB; have HB := n0_; clear n0_; (try clear hb); (try clear hb2); (try clear hk); (try clear hi)) | (go_at_call 60; (with_reducible refine (spec_roIs.calls k _ _ l1 true _ ?side1 ?side2 A7.out).mono ?_); (case side1 => repeat (first | exact (Kd.C_below HR1.out HB.out) | (with_reducible refine Kd.C_alloc ?_ _) | (with_reducible refine Kd.C_drewN ?_ _) | (with_reducible refine Kd.C_drew ?_))); (case side2 => exact HC1.out); rintro e w15 ⟨rfl, hb⟩; have n0_ := Aside0.mk (below_step (by repeat (first | (with_reducible first | exact HB.out | apply below_alloc | apply pw_below_drewN | apply below_drew1) | exact HB.out)) hb); clear HB; have HB := n0_; clear n0_; (try clear hb); (try clear hb2); (try clear hk); (try clear hi)) | (go_at_call 62; (with_reducible refine (spec_l1In.calls a2 0 (l0.length : Int) false _ A9.out).mono ?_); rintro e w' ⟨rfl, ⟨nd, rfl⟩⟩))
          go_meet
          case rel => exact ⟨_, (true), (by first | rfl | (simp; done) | (simp [*]; done)), H', ⟨by first | omega | exact Nat.le_refl _⟩, ⟨by repeat (first | (with_reducible first | exact HB.out | apply below_alloc | apply pw_below_drewN | apply below_drew1) | exact HB.out)⟩⟩
      · replace c8 := Bool.eq_false_iff.mpr c8
        subst c8
        have H1 : (spec_MeshRows.j0 k l0 l1 a2 true) = some (r1, r2) := by rw [if_neg (show ¬ (false = true) by decide)] at H; exact H
        clear H
        have H := H1
        clear H1
        have H' := Aside0.mk H
        clear H
        go_wp2_with (first | ((with_reducible refine gate_callee (f := 60) rfl ?_); refine goesL_ (some 11) rfl rfl Try.func60 (by kernel_rfl) rfl #[.slice A0 l0.length c0] rfl (by (try simp only [List.map_toArray, List.map_cons, List.map_nil]); first | done | rfl | (simp only [List.length_drop, List.length_take]; rfl)) ?_; (with_reducible refine (spec_roIs.calls k _ _ l0 true _ ?side1 ?side2 A5.out).mono ?_); (case side1 => repeat (first | exact (Kd.C_below HR0.out HB.out) | (with_reducible refine Kd.C_alloc ?_ _) | (with_reducible refine Kd.C_drewN ?_ _) | (with_reducible refine Kd.C_drew ?_))); (case side2 => exact HC0.out); rintro e w16 ⟨rfl, hb⟩; refine ⟨_, rfl, ?_⟩; have n0_ := Aside0.mk (below_step (by repeat (first | (with_reducible first | exact HB.out | apply below_alloc | apply pw_below_drewN | apply below_drew1) | exact HB.out)) hb); clear HB; have HB := n0_; clear n0_; (try clear hb); (try clear hb2); (try clear hk); (try clear hi)) | (go_at_call 60; (with_reducible refine (spec_roIs.calls k _ _ l1 false _ ?side1 ?side2 A7.out).mono ?_); (case side1 => repeat (first | exact (Kd.C_below HR1.out HB.out) | (with_reducible refine Kd.C_alloc ?_ _) | (with_reducible refine Kd.C_drewN ?_ _) | (with_reducible refine Kd.C_drew ?_))); (case side2 => exact HC1.out); rintro e w17 ⟨rfl, hb⟩; have n0_ := Aside0.mk (below_step (by repeat (first | (with_reducible first | exact HB.out | apply below_alloc | apply pw_below_drewN | apply below_drew1) | exact HB.out)) hb); clear HB; have HB := n0_; clear n0_; (try clear hb); (try clear hb2); (try clear hk); (try clear hi)))
        go_meet
        case rel => exact ⟨_, (true), (by first | rfl | (simp; done) | (simp [*]; done)), H', ⟨by first | omega | exact Nat.le_refl _⟩, ⟨by repeat (first | (with_reducible first | exact HB.out | apply below_alloc | apply pw_below_drewN | apply below_drew1) | exact HB.out)⟩⟩
    · replace c6 := Bool.eq_false_iff.mpr c6
      subst c6
      have H1 : (spec_MeshRows.j0 k l0 l1 a2 true) = some (r1, r2) := by rw [if_neg (show ¬ (false = true) by decide)] at H; exact H
      clear H
      have H := H1
      clear H1
      have H' := Aside0.mk H
      clear H
      go_wp2_with (first | ((with_reducible refine gate_callee (f := 60) rfl ?_); refine goesL_ (some 11) rfl rfl Try.func60 (by kernel_rfl) rfl #[.slice A0 l0.length c0] rfl (by (try simp only [List.map_toArray, List.map_cons, List.map_nil]); first | done | rfl | (simp only [List.length_drop, List.length_take]; rfl)) ?_; (with_reducible refine (spec_roIs.calls k _ _ l0 false _ ?side1 ?side2 A5.out).mono ?_); (case side1 => repeat (first | exact (Kd.C_below HR0.out HB.out) | (with_reducible refine Kd.C_alloc ?_ _) | (with_reducible refine Kd.C_drewN ?_ _) | (with_reducible refine Kd.C_drew ?_))); (case side2 => exact HC0.out); rintro e w18 ⟨rfl, hb⟩; refine ⟨_, rfl, ?_⟩; have n0_ := Aside0.mk (below_step (by repeat (first | (with_reducible first | exact HB.out | apply below_alloc | apply pw_below_drewN | apply below_drew1) | exact HB.out)) hb); clear HB; have HB := n0_; clear n0_; (try clear hb); (try clear hb2); (try clear hk); (try clear hi)))
      go_meet
      case rel => exact ⟨_, (true), (by first | rfl | (simp; done) | (simp [*]; done)), H', ⟨by first | omega | exact Nat.le_refl _⟩, ⟨by repeat (first | (with_reducible first | exact HB.out | apply below_alloc | apply pw_below_drewN | apply below_drew1) | exact HB.out)⟩⟩
  case rest =>
    clear HC4
    try clear c1
    try clear p2
    try clear c3
    try clear c6
    try clear c8
    try clear c10
    obtain ⟨kq, x29_3, rfl, HA, HJ3, HB⟩ := hcut
    cases kq with
    | zero => exact absurd HA.out (by simp [spec_MeshRows.j0])
    | succ kj3 =>
      have H := HA.out
      clear HA
      simp only [spec_MeshRows.j0] at H
      by_cases c19 : x29_3 = true
      · subst c19
        have H1 : (some (([] : List Int), false)) = some (r1, r2) := by rw [if_pos rfl] at H; exact H
        clear H
        have H := H1
        clear H1
        simp only [Option.some.injEq, Prod.mk.injEq] at H
        obtain ⟨rfl, rfl⟩ := H
        go_wp2
        go_ret2
        exact ⟨_, by first | rfl | (simp [errW_none, errW_some] <;> rfl) | (simp [*, errW_none, errW_some] <;> rfl), by first | exact Kd.R_nil _ _ _ _ _ | exact Kd.N_nil _ _ _ _ _ | exact Kd.V_nil _ _ _ _ _ | exact Kd.Q_nil _ _ _ _ _ | exact Kd.S_nil _ _ _ _ _, by repeat (first | (with_reducible first | exact HB.out | apply below_alloc | apply pw_below_drewN | apply below_drew1) | exact HB.out)⟩
      · replace c19 := Bool.eq_false_iff.mpr c19
        subst c19
        have H1 : ((spec_hoMesh.f kj3 l0 l1 a2).bind fun bt376 => (if bt376.2 = true then ((spec_hoIf.f kj3 bt376.1).bind fun bt380 => (some (bt380.1, bt380.2))) else (some (([] : List Int), false)))) = some (r1, r2) := by rw [if_neg (show ¬ (false = true) by decide)] at H; exact H
        clear H
        have H := H1
        clear H1
        replace H := Option.bind_eq_some_iff.mp H
        obtain ⟨⟨t376, t377⟩, A200, H⟩ := H
        replace H : (if t377 = true then ((spec_hoIf.f kj3 t376).bind fun bt380 => (some (bt380.1, bt380.2))) else (some (([] : List Int), false))) = some (r1, r2) := H
        have A20 := Aside0.mk A200
        clear A200
        by_cases c21 : t377 = true
        · subst c21
          have H1 : ((spec_hoIf.f kj3 t376).bind fun bt380 => (some (bt380.1, bt380.2))) = some (r1, r2) := by rw [if_pos rfl] at H; exact H
          clear H
          have H := H1
          clear H1
          replace H := Option.bind_eq_some_iff.mp H
          obtain ⟨⟨t380, t383⟩, A220, H⟩ := H
          replace H : (some (t380, t383)) = some (r1, r2) := H
          have A22 := Aside0.mk A220
          clear A220
          simp only [Option.some.injEq, Prod.mk.injEq] at H
          obtain ⟨rfl, rfl⟩ := H
          go_wp2_with (first | ((with_reducible refine gate_callee (f := 65) rfl ?_); refine goesL_ (some 34) rfl rfl Try.func65 (by kernel_rfl) rfl #[.slice A0 l0.length c0, .slice A1 l1.length c1, .int .i64 a2] rfl (by (try simp only [List.map_toArray, List.map_cons, List.map_nil]); first | done | rfl | (simp only [List.length_drop, List.length_take]; rfl)) ?_; (with_reducible refine (spec_hoMesh.calls kj3 _ _ l0 _ _ l1 a2 t376 true _ ?side1 ?side2 ?side3 ?side4 A20.out).mono ?_); (case side1 => repeat (first | exact (Kd.C_below HR0.out HB.out) | (with_reducible refine Kd.C_alloc ?_ _) | (with_reducible refine Kd.C_drewN ?_ _) | (with_reducible refine Kd.C_drew ?_))); (case side2 => exact HC0.out); (case side3 => repeat (first | exact (Kd.C_below HR1.out HB.out) | (with_reducible refine Kd.C_alloc ?_ _) | (with_reducible refine Kd.C_drewN ?_ _) | (with_reducible refine Kd.C_drew ?_))); (case side4 => exact HC1.out); rintro e w23 ⟨v378, rfl, ho0, hb⟩; refine ⟨_, rfl, ?_⟩; have n0_ := Aside0.mk (Kd.R_lower ho0 (below_size (by repeat (first | (with_reducible first | exact HB.out | apply below_alloc | apply pw_below_drewN | apply below_drew1) | exact HB.out)))); have n1_ := Aside0.mk (below_step (by repeat (first | (with_reducible first | exact HB.out | apply below_alloc | apply pw_below_drewN | apply below_drew1) | exact HB.out)) hb); clear HB; have HO379 := n0_; have HB := n1_; clear n0_ n1_; (try clear hb); (try clear hb2); (try clear hk); (try clear hi); (try clear ho0); obtain ⟨Ao24, co24, eo24⟩ := Kd.R_slice HO379.out; subst eo24) | ((with_reducible refine gate_callee (f := 49) rfl ?_); refine goesL_ (some 40) rfl rfl Try.func49 (by kernel_rfl) rfl #[.slice Ao24 t376.length co24] rfl (by (try simp only [List.map_toArray, List.map_cons, List.map_nil]); first | done | rfl | (simp only [List.length_drop, List.length_take]; rfl)) ?_; (with_reducible refine (spec_hoIf.calls kj3 (fun k_ => some k_ = (.slice Ao24 t376.length co24 : Value).ownBlock) (.slice Ao24 t376.length co24) t376 t380 t383 w _ ?side1 ?side2 A22.out).mono ?_); (case side1 => repeat (first | (with_reducible first | exact HB.out | apply below_alloc | apply pw_below_drewN | apply below_drew1) | exact HB.out)); (case side2 => exact Kd.R_tight rfl HO379.out); rintro e w25 ⟨v381, rfl, ho0, hb, hkp⟩; refine ⟨_, rfl, ?_⟩; have n0_ := Aside0.mk (Kd.R_mono (ok' := fun k_ => True) ho0 (fun k_ hk_ => trivial)); have n1_ := Aside0.mk (hb); clear HB; clear HO379; have HO382 := n0_; have HB := n1_; clear n0_ n1_; (try clear hb); (try clear hkp); (try clear ho0)))
          go_ret2
          exact ⟨_, by first | rfl | (simp [errW_none, errW_some] <;> rfl) | (simp [*, errW_none, errW_some] <;> rfl), by (with_reducible repeat (first | apply Kd.R_alloc | apply Kd.R_drewN | apply Kd.R_drew)); exact HO382.out, by repeat (first | (with_reducible first | exact HB.out | apply below_alloc | apply pw_below_drewN | apply below_drew1) | exact HB.out)⟩
        · replace c21 := Bool.eq_false_iff.mpr c21
          subst c21
          have H1 : (some (([] : List Int), false)) = some (r1, r2) := by rw [if_neg (show ¬ (false = true) by decide)] at H; exact H
          clear H
          have H := H1
          clear H1
          simp only [Option.some.injEq, Prod.mk.injEq] at H
          obtain ⟨rfl, rfl⟩ := H
          go_wp2_with (first | ((with_reducible refine gate_callee (f := 65) rfl ?_); refine goesL_ (some 34) rfl rfl Try.func65 (by kernel_rfl) rfl #[.slice A0 l0.length c0, .slice A1 l1.length c1, .int .i64 a2] rfl (by (try simp only [List.map_toArray, List.map_cons, List.map_nil]); first | done | rfl | (simp only [List.length_drop, List.length_take]; rfl)) ?_; (with_reducible refine (spec_hoMesh.calls kj3 _ _ l0 _ _ l1 a2 t376 false _ ?side1 ?side2 ?side3 ?side4 A20.out).mono ?_); (case side1 => repeat (first | exact (Kd.C_below HR0.out HB.out) | (with_reducible refine Kd.C_alloc ?_ _) | (with_reducible refine Kd.C_drewN ?_ _) | (with_reducible refine Kd.C_drew ?_))); (case side2 => exact HC0.out); (case side3 => repeat (first | exact (Kd.C_below HR1.out HB.out) | (with_reducible refine Kd.C_alloc ?_ _) | (with_reducible refine Kd.C_drewN ?_ _) | (with_reducible refine Kd.C_drew ?_))); (case side4 => exact HC1.out); rintro e w26 ⟨v378, rfl, ho0, hb⟩; refine ⟨_, rfl, ?_⟩; have n0_ := Aside0.mk (Kd.R_lower ho0 (below_size (by repeat (first | (with_reducible first | exact HB.out | apply below_alloc | apply pw_below_drewN | apply below_drew1) | exact HB.out)))); have n1_ := Aside0.mk (below_step (by repeat (first | (with_reducible first | exact HB.out | apply below_alloc | apply pw_below_drewN | apply below_drew1) | exact HB.out)) hb); clear HB; have HO379 := n0_; have HB := n1_; clear n0_ n1_; (try clear hb); (try clear hb2); (try clear hk); (try clear hi); (try clear ho0)))
          go_ret2
          exact ⟨_, by first | rfl | (simp [errW_none, errW_some] <;> rfl) | (simp [*, errW_none, errW_some] <;> rfl), by first | exact Kd.R_nil _ _ _ _ _ | exact Kd.N_nil _ _ _ _ _ | exact Kd.V_nil _ _ _ _ _ | exact Kd.Q_nil _ _ _ _ _ | exact Kd.S_nil _ _ _ _ _, by repeat (first | (with_reducible first | exact HB.out | apply below_alloc | apply pw_below_drewN | apply below_drew1) | exact HB.out)⟩

noncomputable def spec_MeshRows.J0 (x0 : List Int) (x1 : List Int) (x2 : Int) (x29 : Bool) : Option (List Int × Bool) := lim fun k => spec_MeshRows.j0 k x0 x1 x2 x29
theorem spec_MeshRows.J0_lim (x0 : List Int) (x1 : List Int) (x2 : Int) (x29 : Bool) : Lim (fun k => spec_MeshRows.j0 k x0 x1 x2 x29) (spec_MeshRows.J0 x0 x1 x2 x29) := Lim.of fun k => (spec_MeshRows.mono_l k) x0 x1 x2 x29
noncomputable def spec_MeshRows.F (l0 : List Int) (l1 : List Int) (a2 : Int) : Option (List Int × Bool) := lim fun k => spec_MeshRows.f k l0 l1 a2
theorem spec_MeshRows.F_lim (l0 : List Int) (l1 : List Int) (a2 : Int) : Lim (fun k => spec_MeshRows.f k l0 l1 a2) (spec_MeshRows.F l0 l1 a2) := Lim.of fun k => spec_MeshRows.mono l0 l1 a2 k
theorem spec_MeshRows.J0_eq (x0 : List Int) (x1 : List Int) (x2 : Int) (x29 : Bool) : spec_MeshRows.J0 x0 x1 x2 x29 = (if x29 = true then (some (([] : List Int), false)) else ((spec_hoMesh.F x0 x1 x2).bind fun bt376 => (if bt376.2 = true then ((spec_hoIf.F bt376.1).bind fun bt380 => (some (bt380.1, bt380.2))) else (some (([] : List Int), false))))) :=
  Lim.step (f := fun k => (if x29 = true then (some (([] : List Int), false)) else ((spec_hoMesh.f k x0 x1 x2).bind fun bt376 => (if bt376.2 = true then ((spec_hoIf.f k bt376.1).bind fun bt380 => (some (bt380.1, bt380.2))) else (some (([] : List Int), false)))))) (spec_MeshRows.J0_lim x0 x1 x2 x29) (fun k => by first | rfl | rw [spec_MeshRows.j0]) (by
    repeat' first
    | (with_reducible exact Lim.const _)
    | (with_reducible exact spec_hoIf.F_lim _)
    | (with_reducible exact spec_hoMesh.F_lim _ _ _)
    | (with_reducible refine Lim.ite ?_ ?_)
    | (with_reducible refine Lim.bind ?_ (fun _ => ?_)))
theorem spec_MeshRows.F_eq (l0 : List Int) (l1 : List Int) (a2 : Int) : spec_MeshRows.F l0 l1 a2 = ((spec_roIs.F l0).bind fun t372 => (if t372 = true then ((spec_roIs.F l1).bind fun t373 => (if t373 = true then ((spec_l1In.f a2 0 (l0.length : Int)).bind fun t374 => (if t374 = true then ((spec_hoCommon.F l0 l1).bind fun t375 => (spec_MeshRows.J0 l0 l1 a2 t375)) else (spec_MeshRows.J0 l0 l1 a2 true))) else (spec_MeshRows.J0 l0 l1 a2 true))) else (spec_MeshRows.J0 l0 l1 a2 true))) :=
  Lim.unique (spec_MeshRows.F_lim l0 l1 a2) (by
    unfold spec_MeshRows.f
    repeat' first
    | (with_reducible exact Lim.const _)
    | (with_reducible exact spec_MeshRows.J0_lim _ _ _ _)
    | (with_reducible exact spec_hoCommon.F_lim _ _)
    | (with_reducible exact spec_roIs.F_lim _)
    | (with_reducible refine Lim.ite ?_ ?_)
    | (with_reducible refine Lim.bind ?_ (fun _ => ?_)))

end Go.Proofs.Ytmhcgihkijiecaa.Fn
namespace Go.Proofs.Ytmhcgihkijiecaa.Fn
open Go.RowKit Go.Proofs.YtmhcgihkijiecaaW.PrintWords Go.Proofs.YtmhcgihkijiecaaW.PrintLast Go.Proofs.YtmhcgihkijiecaaW.PrintMore
attribute [local go_sem] max2_int min2_int max_two min_two max_three min_three max_four min_four   -- for this text's walks alone
set_option linter.unusedVariables false
set_option linter.unusedSimpArgs false

/-! ### impl_MeshRows: function 37 -/
mutual
def impl_MeshRows.j0 : Nat → List Int → List Int → Int → Bool → Option (List Int × Bool)
  | 0, _, _, _, _ => none
  | k + 1, x0, x1, x2, x28 => if x28 = true then (some (([] : List Int), false)) else ((slices_Clone_int_int.f x0).bind fun t388 => (impl_MeshRows.l0 k x0 x2 t388 x1 (x1.length : Int) 0))
def impl_MeshRows.l0 : Nat → List Int → Int → List Int → List Int → Int → Int → Option (List Int × Bool)
  | 0, _, _, _, _, _, _ => none
  | k + 1, x0, x2, x8, x31, x32, x33 => if x33 < x32 then (if 0 ≤ x33 then (if x33 < (x31.length : Int) then (if (rd x31 x33) > 0 then ((slices_Contains_int_int.f k x0 (rd x31 x33)).bind fun t396 => (impl_MeshRows.j2 k x0 x2 x8 x33 (rd x31 x33) x31 x32 x33 t396)) else (impl_MeshRows.j2 k x0 x2 x8 x33 (rd x31 x33) x31 x32 x33 false)) else (none)) else (none)) else ((impl_madeRow.f k x8).bind fun bt391 => (some (bt391.1, bt391.2)))
def impl_MeshRows.j2 : Nat → List Int → Int → List Int → Int → Int → List Int → Int → Int → Bool → Option (List Int × Bool)
  | 0, _, _, _, _, _, _, _, _, _ => none
  | k + 1, x0, x2, x8, x9, x10, x31, x32, x33, x38 => if x38 = true then (some (([] : List Int), false)) else (if (wrap64 (x2 + x9)) = (x8.length : Int) then (if x8.length < 17592186044416 then (impl_MeshRows.l0 k x0 x2 (x8 ++ [x10]) x31 x32 (wrap64 (x33 + 1))) else (none)) else (if x10 > 0 then (if 0 ≤ (wrap64 (x2 + x9)) then (if (wrap64 (x2 + x9)) < (x8.length : Int) then (impl_MeshRows.j3 k x0 x2 x8 x9 x10 x31 x32 x33 (decide ((rd x8 (wrap64 (x2 + x9))) > 0))) else (none)) else (none)) else (impl_MeshRows.j3 k x0 x2 x8 x9 x10 x31 x32 x33 false)))
def impl_MeshRows.j3 : Nat → List Int → Int → List Int → Int → Int → List Int → Int → Int → Bool → Option (List Int × Bool)
  | 0, _, _, _, _, _, _, _, _, _ => none
  | k + 1, x0, x2, x8, x9, x10, x31, x32, x33, x57 => if x57 = true then (some (([] : List Int), false)) else (if x10 > 0 then (if 0 ≤ (wrap64 (x2 + x9)) then (if (wrap64 (x2 + x9)) < (x8.length : Int) then (impl_MeshRows.l0 k x0 x2 (x8.set ((wrap64 (x2 + x9)) : Int).toNat x10) x31 x32 (wrap64 (x33 + 1))) else (none)) else (none)) else (impl_MeshRows.l0 k x0 x2 x8 x31 x32 (wrap64 (x33 + 1))))
end
def impl_MeshRows.f (k : Nat) (l0 : List Int) (l1 : List Int) (a2 : Int) : Option (List Int × Bool) := (impl_isPairs.f k l0).bind fun t386 => (if t386 = true then ((impl_isPairs.f k l1).bind fun t387 => (if t387 = true then (if a2 < 0 then (impl_MeshRows.j0 k l0 l1 a2 true) else (impl_MeshRows.j0 k l0 l1 a2 (decide (a2 > (l0.length : Int))))) else (impl_MeshRows.j0 k l0 l1 a2 true))) else (impl_MeshRows.j0 k l0 l1 a2 true))
theorem impl_MeshRows.mono_l : ∀ k, (∀ y0 y1 y2 y3, LeO (impl_MeshRows.j0 k y0 y1 y2 y3) (impl_MeshRows.j0 (k + 1) y0 y1 y2 y3)) ∧ (∀ y0 y1 y2 y3 y4 y5, LeO (impl_MeshRows.l0 k y0 y1 y2 y3 y4 y5) (impl_MeshRows.l0 (k + 1) y0 y1 y2 y3 y4 y5)) ∧ (∀ y0 y1 y2 y3 y4 y5 y6 y7 y8, LeO (impl_MeshRows.j2 k y0 y1 y2 y3 y4 y5 y6 y7 y8) (impl_MeshRows.j2 (k + 1) y0 y1 y2 y3 y4 y5 y6 y7 y8)) ∧ (∀ y0 y1 y2 y3 y4 y5 y6 y7 y8, LeO (impl_MeshRows.j3 k y0 y1 y2 y3 y4 y5 y6 y7 y8) (impl_MeshRows.j3 (k + 1) y0 y1 y2 y3 y4 y5 y6 y7 y8))
  | 0 => ⟨fun _ _ _ _ r h => by simp [impl_MeshRows.j0] at h, fun _ _ _ _ _ _ r h => by simp [impl_MeshRows.l0] at h, fun _ _ _ _ _ _ _ _ _ r h => by simp [impl_MeshRows.j2] at h, fun _ _ _ _ _ _ _ _ _ r h => by simp [impl_MeshRows.j3] at h⟩
  | k + 1 => by
    obtain ⟨ih0, ih1, ih2, ih3⟩ := impl_MeshRows.mono_l k
    refine ⟨?_, ?_, ?_, ?_⟩
    · intro y0 y1 y2 y3
      unfold impl_MeshRows.j0
      repeat' first
      | (with_reducible exact ih0 _ _ _ _)
      | (with_reducible exact ih1 _ _ _ _ _ _)
      | (with_reducible exact ih2 _ _ _ _ _ _ _ _ _)
      | (with_reducible exact ih3 _ _ _ _ _ _ _ _ _)
      | (with_reducible exact impl_isPairs.mono _ _)
      | (with_reducible exact impl_madeRow.mono _ _)
      | (with_reducible exact slices_Contains_int_int.mono _ _ _)
      | (with_reducible exact LeO.refl _)
      | (with_reducible exact LeO.none _)
      | (with_reducible refine LeO.ite ?_ ?_)
      | (with_reducible refine LeO.bind ?_ (fun _ => ?_))
      | exact ih0 _ _ _ _
      | exact ih1 _ _ _ _ _ _
      | exact ih2 _ _ _ _ _ _ _ _ _
      | exact ih3 _ _ _ _ _ _ _ _ _
      | exact impl_isPairs.mono _ _
      | exact impl_madeRow.mono _ _
      | exact slices_Contains_int_int.mono _ _ _
      | exact LeO.none _
      | refine LeO.ite ?_ ?_
      | refine LeO.bind ?_ (fun _ => ?_)
    · intro y0 y1 y2 y3 y4 y5
      unfold impl_MeshRows.l0
      repeat' first
      | (with_reducible exact ih0 _ _ _ _)
      | (with_reducible exact ih1 _ _ _ _ _ _)
      | (with_reducible exact ih2 _ _ _ _ _ _ _ _ _)
      | (with_reducible exact ih3 _ _ _ _ _ _ _ _ _)
      | (with_reducible exact impl_isPairs.mono _ _)
      | (with_reducible exact impl_madeRow.mono _ _)
      | (with_reducible exact slices_Contains_int_int.mono _ _ _)
      | (with_reducible exact LeO.refl _)
      | (with_reducible exact LeO.none _)
      | (with_reducible refine LeO.ite ?_ ?_)
      | (with_reducible refine LeO.bind ?_ (fun _ => ?_))
      | exact ih0 _ _ _ _
      | exact ih1 _ _ _ _ _ _
      | exact ih2 _ _ _ _ _ _ _ _ _
      | exact ih3 _ _ _ _ _ _ _ _ _
      | exact impl_isPairs.mono _ _
      | exact impl_madeRow.mono _ _
      | exact slices_Contains_int_int.mono _ _ _
      | exact LeO.none _
      | refine LeO.ite ?_ ?_
      | refine LeO.bind ?_ (fun _ => ?_)
    · intro y0 y1 y2 y3 y4 y5 y6 y7 y8
      unfold impl_MeshRows.j2
      repeat' first
      | (with_reducible exact ih0 _ _ _ _)
      | (with_reducible exact ih1 _ _ _ _ _ _)
      | (with_reducible exact ih2 _ _ _ _ _ _ _ _ _)
      | (with_reducible exact ih3 _ _ _ _ _ _ _ _ _)
      | (with_reducible exact impl_isPairs.mono _ _)
      | (with_reducible exact impl_madeRow.mono _ _)
      | (with_reducible exact slices_Contains_int_int.mono _ _ _)
      | (with_reducible exact LeO.refl _)
      | (with_reducible exact LeO.none _)
      | (with_reducible refine LeO.ite ?_ ?_)
      | (with_reducible refine LeO.bind ?_ (fun _ => ?_))
      | exact ih0 _ _ _ _
      | exact ih1 _ _ _ _ _ _
      | exact ih2 _ _ _ _ _ _ _ _ _
      | exact ih3 _ _ _ _ _ _ _ _ _
      | exact impl_isPairs.mono _ _
      | exact impl_madeRow.mono _ _
      | exact slices_Contains_int_int.mono _ _ _
      | exact LeO.none _
      | refine LeO.ite ?_ ?_
      | refine LeO.bind ?_ (fun _ => ?_)
    · intro y0 y1 y2 y3 y4 y5 y6 y7 y8
      unfold impl_MeshRows.j3
      repeat' first
      | (with_reducible exact ih0 _ _ _ _)
      | (with_reducible exact ih1 _ _ _ _ _ _)
      | (with_reducible exact ih2 _ _ _ _ _ _ _ _ _)
      | (with_reducible exact ih3 _ _ _ _ _ _ _ _ _)
      | (with_reducible exact impl_isPairs.mono _ _)
      | (with_reducible exact impl_madeRow.mono _ _)
      | (with_reducible exact slices_Contains_int_int.mono _ _ _)
      | (with_reducible exact LeO.refl _)
      | (with_reducible exact LeO.none _)
      | (with_reducible refine LeO.ite ?_ ?_)
      | (with_reducible refine LeO.bind ?_ (fun _ => ?_))
      | exact ih0 _ _ _ _
      | exact ih1 _ _ _ _ _ _
      | exact ih2 _ _ _ _ _ _ _ _ _
      | exact ih3 _ _ _ _ _ _ _ _ _
      | exact impl_isPairs.mono _ _
      | exact impl_madeRow.mono _ _
      | exact slices_Contains_int_int.mono _ _ _
      | exact LeO.none _
      | refine LeO.ite ?_ ?_
      | refine LeO.bind ?_ (fun _ => ?_)
theorem impl_MeshRows.mono : ∀ a0 a1 a2 k, LeO (impl_MeshRows.f k a0 a1 a2) (impl_MeshRows.f (k + 1) a0 a1 a2) := by
  intro a0 a1 a2 k
  obtain ⟨ih0, ih1, ih2, ih3⟩ := impl_MeshRows.mono_l k
  unfold impl_MeshRows.f
  repeat' first
      | (with_reducible exact ih0 _ _ _ _)
      | (with_reducible exact ih1 _ _ _ _ _ _)
      | (with_reducible exact ih2 _ _ _ _ _ _ _ _ _)
      | (with_reducible exact ih3 _ _ _ _ _ _ _ _ _)
      | (with_reducible exact impl_isPairs.mono _ _)
      | (with_reducible exact impl_madeRow.mono _ _)
      | (with_reducible exact slices_Contains_int_int.mono _ _ _)
      | (with_reducible exact LeO.refl _)
      | (with_reducible exact LeO.none _)
      | (with_reducible refine LeO.ite ?_ ?_)
      | (with_reducible refine LeO.bind ?_ (fun _ => ?_))
      | exact ih0 _ _ _ _
      | exact ih1 _ _ _ _ _ _
      | exact ih2 _ _ _ _ _ _ _ _ _
      | exact ih3 _ _ _ _ _ _ _ _ _
      | exact impl_isPairs.mono _ _
      | exact impl_madeRow.mono _ _
      | exact slices_Contains_int_int.mono _ _ _
      | exact LeO.none _
      | refine LeO.ite ?_ ?_
      | refine LeO.bind ?_ (fun _ => ?_)
set_option maxHeartbeats 8000000 in
set_option maxRecDepth 100000 in
theorem impl_MeshRows.calls (k : Nat) (A0 : Option Addr) (c0 : Nat) (l0 : List Int) (A1 : Option Addr) (c1 : Nat) (l1 : List Int) (a2 : Int) (r1 : List Int) (r2 : Bool) (w : World) (hr0 : Kd.C (Kd.int .i64) w A0 l0.length l0) (hc0 : l0.length ≤ c0) (hr1 : Kd.C (Kd.int .i64) w A1 l1.length l1) (hc1 : l1.length ≤ c1) (h : impl_MeshRows.f k l0 l1 a2 = some (r1, r2)) :
    Calls Try.prog 37 #[.slice A0 l0.length c0, .slice A1 l1.length c1, .int .i64 a2] w fun e w' => ∃ v0_ : Value, e = .returned (.tuple #[v0_, .bool r2]) ∧ Kd.R (Kd.int .i64) 3 w' w.heap.size (fun _ => True) v0_ r1 ∧ Below w.heap.size w w' := by
  have HR0 := Aside0.mk hr0
  have HC0 := Aside0.mk hc0
  clear hr0 hc0
  have HR1 := Aside0.mk hr1
  have HC1 := Aside0.mk hc1
  clear hr1 hc1
  have HB := Aside0.mk (Below.refl w.heap.size w)
  have H : ((impl_isPairs.f k l0).bind fun t386 => (if t386 = true then ((impl_isPairs.f k l1).bind fun t387 => (if t387 = true then (if a2 < 0 then (impl_MeshRows.j0 k l0 l1 a2 true) else (impl_MeshRows.j0 k l0 l1 a2 (decide (a2 > (l0.length : Int))))) else (impl_MeshRows.j0 k l0 l1 a2 true))) else (impl_MeshRows.j0 k l0 l1 a2 true))) = some (r1, r2) := h
  clear h
  have HC4 := Aside0.mk H
  clear H
  go_enter Try.func37, Try.ntmps37
  go_upto_region 1 with (fail)
  go_cut [28] (fun v28 wc => ∃ (kq : Nat) (x28_3 : Bool), v28 = .bool x28_3 ∧ Aside0 (impl_MeshRows.j0 kq l0 l1 a2 x28_3 = some (r1, r2)) ∧ Aside0 (kq ≤ k) ∧ Aside0 (Below w.heap.size w wc))
  case first =>
    have H := HC4.out
    clear HC4
    replace H := Option.bind_eq_some_iff.mp H
    obtain ⟨t386, A50, H⟩ := H
    replace H : (if t386 = true then ((impl_isPairs.f k l1).bind fun t387 => (if t387 = true then (if a2 < 0 then (impl_MeshRows.j0 k l0 l1 a2 true) else (impl_MeshRows.j0 k l0 l1 a2 (decide (a2 > (l0.length : Int))))) else (impl_MeshRows.j0 k l0 l1 a2 true))) else (impl_MeshRows.j0 k l0 l1 a2 true)) = some (r1, r2) := H
    have A5 := Aside0.mk A50
    clear A50
    by_cases c6 : t386 = true
    · subst c6
      have H1 : ((impl_isPairs.f k l1).bind fun t387 => (if t387 = true then (if a2 < 0 then (impl_MeshRows.j0 k l0 l1 a2 true) else (impl_MeshRows.j0 k l0 l1 a2 (decide (a2 > (l0.length : Int))))) else (impl_MeshRows.j0 k l0 l1 a2 true))) = some (r1, r2) := by rw [if_pos rfl] at H; exact H
      clear H
      have H := H1
      clear H1
      replace H := Option.bind_eq_some_iff.mp H
      obtain ⟨t387, A70, H⟩ := H
      replace H : (if t387 = true then (if a2 < 0 then (impl_MeshRows.j0 k l0 l1 a2 true) else (impl_MeshRows.j0 k l0 l1 a2 (decide (a2 > (l0.length : Int))))) else (impl_MeshRows.j0 k l0 l1 a2 true)) = some (r1, r2) := H
      have A7 := Aside0.mk A70
      clear A70
      by_cases c8 : t387 = true
      · subst c8
        have H1 : (if a2 < 0 then (impl_MeshRows.j0 k l0 l1 a2 true) else (impl_MeshRows.j0 k l0 l1 a2 (decide (a2 > (l0.length : Int))))) = some (r1, r2) := by rw [if_pos rfl] at H; exact H
        clear H
        have H := H1
        clear H1
        by_cases c9 : a2 < 0
        · rw [if_pos c9] at H
          have c9b0 : decide (a2 < 0) = true := decide_eq_true c9
          clear c9
          (first | rw [c9b0] | (simp only [i64_w, i32_w]; rw [c9b0]) | skip)
          have H' := Aside0.mk H
          clear H
          go_wp2_with (first | ((with_reducible refine gate_callee (f := 66) rfl ?_); refine goesL_ (some 12) rfl rfl Try.func66 (by kernel_rfl) rfl #[.slice A0 l0.length c0] rfl (by (try simp only [List.map_toArray, List.map_cons, List.map_nil]); first | done | rfl | (simp only [List.length_drop, List.length_take]; rfl)) ?_; (with_reducible refine (impl_isPairs.calls k _ _ l0 true _ ?side1 ?side2 A5.out).mono ?_); (case side1 => repeat (first | exact (Kd.C_below HR0.out HB.out) | (with_reducible refine Kd.C_alloc ?_ _) | (with_reducible refine Kd.C_drewN ?_ _) | (with_reducible refine Kd.C_drew ?_))); (case side2 => exact HC0.out); rintro e w10 ⟨rfl, hb⟩; refine ⟨_, rfl, ?_⟩; have n0_ := Aside0.mk (below_step (by repeat (first | (with_reducible first | exact HB.out | apply below_alloc | apply pw_below_drewN | apply below_drew1) | exact HB.out)) hb); clear HB; have HB := n0_; clear n0_; (try clear hb); (try clear hb2); (try clear hk); (try clear hi)) | (go_at_call 66; (with_reducible refine (impl_isPairs.calls k _ _ l1 true _ ?side1 ?side2 A7.out).mono ?_); (case side1 => repeat (first | exact (Kd.C_below HR1.out HB.out) | (with_reducible refine Kd.C_alloc ?_ _) | (with_reducible refine Kd.C_drewN ?_ _) | (with_reducible refine Kd.C_drew ?_))); (case side2 => exact HC1.out); rintro e w11 ⟨rfl, hb⟩; have n0_ := Aside0.mk (below_step (by repeat (first | (with_reducible first | exact HB.out | apply below_alloc | apply pw_below_drewN | apply below_drew1) | exact HB.out)) hb); clear HB; have HB := n0_; clear n0_; (try clear hb); (try clear hb2); (try clear hk); (try clear hi)))
          go_meet
          case rel => exact ⟨_, (true), (by first | rfl | (simp; done) | (simp [*]; done)), H', ⟨by first | omega | exact Nat.le_refl _⟩, ⟨by repeat (first | (with_reducible first | exact HB.out | apply below_alloc | apply pw_below_drewN | apply below_drew1) | exact HB.out)⟩⟩
        · rw [if_neg c9] at H
          have c9b0 : decide (a2 < 0) = false := decide_eq_false c9
          clear c9
          (first | rw [c9b0] | (simp only [i64_w, i32_w]; rw [c9b0]) | skip)
          have H' := Aside0.mk H
          clear H
          go_wp2_with (first | ((with_reducible refine gate_callee (f := 66) rfl ?_); refine goesL_ (some 12) rfl rfl Try.func66 (by kernel_rfl) rfl #[.slice A0 l0.length c0] rfl (by (try simp only [List.map_toArray, List.map_cons, List.map_nil]); first | done | rfl | (simp only [List.length_drop, List.length_take]; rfl)) ?_; (with_reducible refine (impl_isPairs.calls k _ _ l0 true _ ?side1 ?side2 A5.out).mono ?_); (case side1 => repeat (first | exact (Kd.C_below HR0.out HB.out) | (with_reducible refine Kd.C_alloc ?_ _) | (with_reducible refine Kd.C_drewN ?_ _) | (with_reducible refine Kd.C_drew ?_))); (case side2 => exact HC0.out); rintro e w12 ⟨rfl, hb⟩; refine ⟨_, rfl, ?_⟩; have n0_ := Aside0.mk (below_step (by repeat (first | (with_reducible first | exact HB.out | apply below_alloc | apply pw_below_drewN | apply below_drew1) | exact HB.out)) hb); clear HB; have HB := n0_; clear n0_; (try clear hb); (try clear hb2); (try clear hk); (try clear hi)) | (go_at_call 66; (with_reducible refine (impl_isPairs.calls k _ _ l1 true _ ?side1 ?side2 A7.out).mono ?_); (case side1 => repeat (first | exact (Kd.C_below HR1.out HB.out) | (with_reducible refine Kd.C_alloc ?_ _) | (with_reducible refine Kd.C_drewN ?_ _) | (with_reducible refine Kd.C_drew ?_))); (case side2 => exact HC1.out); rintro e w13 ⟨rfl, hb⟩; have n0_ := Aside0.mk (below_step (by repeat (first | (with_reducible first | exact HB.out | apply below_alloc | apply pw_below_drewN | apply below_drew1) | exact HB.out)) hb); clear HB; have HB := n0_; clear n0_; (try clear hb); (try clear hb2); (try clear hk); (try clear hi)))
          go_meet
          case rel => exact ⟨_, (decide (a2 > (l0.length : Int))), (by first | rfl | (simp; done) | (simp [*]; done)), H', ⟨by first | omega | exact Nat.le_refl _⟩, ⟨by repeat (first | (with_reducible first | exact HB.out | apply below_alloc | apply pw_below_drewN | apply below_drew1) | exact HB.out)⟩⟩
      · replace c8 := Bool.eq_false_iff.mpr c8
        subst c8
        have H1 : (impl_MeshRows.j0 k l0 l1 a2 true) = some (r1, r2) := by rw [if_neg (show ¬ (false = true) by decide)] at H; exact H
        clear H
        have H := H1
        clear H1
        have H' := Aside0.mk H
        clear H
        go_wp2_with (first | ((with_reducible refine gate_callee (f := 66) rfl ?_); refine goesL_ (some 12) rfl rfl Try.func66 (by kernel_rfl) rfl #[.slice A0 l0.length c0] rfl (by (try simp only [List.map_toArray, List.map_cons, List.map_nil]); first | done | rfl | (simp only [List.length_drop, List.length_take]; rfl)) ?_; (with_reducible refine (impl_isPairs.calls k _ _ l0 true _ ?side1 ?side2 A5.out).mono ?_); (case side1 => repeat (first | exact (Kd.C_below HR0.out HB.out) | (with_reducible refine Kd.C_alloc ?_ _) | (with_reducible refine Kd.C_drewN ?_ _) | (with_reducible refine Kd.C_drew ?_))); (case side2 => exact HC0.out); rintro e w14 ⟨rfl, hb⟩; refine ⟨_, rfl, ?_⟩; have n0_ := Aside0.mk (below_step (by repeat (first | (with_reducible first | exact HB.out | apply below_alloc | apply pw_below_drewN | apply below_drew1) | exact HB.out)) hb); clear HB; have HB := n0_; clear n0_; (try clear hb); (try clear hb2); (try clear hk); (try clear hi)) | (go_at_call 66; (with_reducible refine (impl_isPairs.calls k _ _ l1 false _ ?side1 ?side2 A7.out).mono ?_); (case side1 => repeat (first | exact (Kd.C_below HR1.out HB.out) | (with_reducible refine Kd.C_alloc ?_ _) | (with_reducible refine Kd.C_drewN ?_ _) | (with_reducible refine Kd.C_drew ?_))); (case side2 => exact HC1.out); rintro e w15 ⟨rfl, hb⟩; have n0_ := Aside0.mk (below_step (by repeat (first | (with_reducible first | exact HB.out | apply below_alloc | apply pw_below_drewN | apply below_drew1) | exact HB.out)) hb); clear HB; have HB := n0_; clear n0_; (try clear hb); (try clear hb2); (try clear hk); (try clear hi)))
        go_meet
        case rel => exact ⟨_, (true), (by first | rfl | (simp; done) | (simp [*]; done)), H', ⟨by first | omega | exact Nat.le_refl _⟩, ⟨by repeat (first | (with_reducible first | exact HB.out | apply below_alloc | apply pw_below_drewN | apply below_drew1) | exact HB.out)⟩⟩
    · replace c6 := Bool.eq_false_iff.mpr c6
      subst c6
      have H1 : (impl_MeshRows.j0 k l0 l1 a2 true) = some (r1, r2) := by rw [if_neg (show ¬ (false = true) by decide)] at H; exact H
      clear H
      have H := H1
      clear H1
      have H' := Aside0.mk H
      clear H
      go_wp2_with (first | ((with_reducible refine gate_callee (f := 66) rfl ?_); refine goesL_ (some 12) rfl rfl Try.func66 (by kernel_rfl) rfl #[.slice A0 l0.length c0] rfl (by (try simp only [List.map_toArray, List.map_cons, List.map_nil]); first | done | rfl | (simp only [List.length_drop, List.length_take]; rfl)) ?_; (with_reducible refine (impl_isPairs.calls k _ _ l0 false _ ?side1 ?side2 A5.out).mono ?_); (case side1 => repeat (first | exact (Kd.C_below HR0.out HB.out) | (with_reducible refine Kd.C_alloc ?_ _) | (with_reducible refine Kd.C_drewN ?_ _) | (with_reducible refine Kd.C_drew ?_))); (case side2 => exact HC0.out); rintro e w16 ⟨rfl, hb⟩; refine ⟨_, rfl, ?_⟩; have n0_ := Aside0.mk (below_step (by repeat (first | (with_reducible first | exact HB.out | apply below_alloc | apply pw_below_drewN | apply below_drew1) | exact HB.out)) hb); clear HB; have HB := n0_; clear n0_; (try clear hb); (try clear hb2); (try clear hk); (try clear hi)))
      go_meet
      case rel => exact ⟨_, (true), (by first | rfl | (simp; done) | (simp [*]; done)), H', ⟨by first | omega | exact Nat.le_refl _⟩, ⟨by repeat (first | (with_reducible first | exact HB.out | apply below_alloc | apply pw_below_drewN | apply below_drew1) | exact HB.out)⟩⟩
  case rest =>
    clear HC4
    try clear c1
    try clear p2
    try clear c3
    try clear c6
    try clear c8
    try clear c9
    try clear c9b0
    obtain ⟨kq, x28_3, rfl, HA, HJ3, HB⟩ := hcut
    cases kq with
    | zero => exact absurd HA.out (by simp [impl_MeshRows.j0])
    | succ kj3 =>
      have H := HA.out
      clear HA
      simp only [impl_MeshRows.j0] at H
      by_cases c17 : x28_3 = true
      · subst c17
        have H1 : (some (([] : List Int), false)) = some (r1, r2) := by rw [if_pos rfl] at H; exact H
        clear H
        have H := H1
        clear H1
        simp only [Option.some.injEq, Prod.mk.injEq] at H
        obtain ⟨rfl, rfl⟩ := H
        go_wp2
        go_ret2
        exact ⟨_, by first | rfl | (simp [errW_none, errW_some] <;> rfl) | (simp [*, errW_none, errW_some] <;> rfl), by first | exact Kd.R_nil _ _ _ _ _ | exact Kd.N_nil _ _ _ _ _ | exact Kd.V_nil _ _ _ _ _ | exact Kd.Q_nil _ _ _ _ _ | exact Kd.S_nil _ _ _ _ _, by repeat (first | (with_reducible first | exact HB.out | apply below_alloc | apply pw_below_drewN | apply below_drew1) | exact HB.out)⟩
      · replace c17 := Bool.eq_false_iff.mpr c17
        subst c17
        have H1 : ((slices_Clone_int_int.f l0).bind fun t388 => (impl_MeshRows.l0 kj3 l0 a2 t388 l1 (l1.length : Int) 0)) = some (r1, r2) := by rw [if_neg (show ¬ (false = true) by decide)] at H; exact H
        clear H
        have H := H1
        clear H1
        replace H := Option.bind_eq_some_iff.mp H
        obtain ⟨t388, A180, H⟩ := H
        replace H : (impl_MeshRows.l0 kj3 l0 a2 t388 l1 (l1.length : Int) 0) = some (r1, r2) := H
        have A18 := Aside0.mk A180
        clear A180
        have H' := Aside0.mk H
        clear H
        go_wp2_with (first | ((with_reducible refine gate_callee (f := 53) rfl ?_); refine goesL_ (some 30) rfl rfl Try.func53 (by kernel_rfl) rfl #[.slice A0 l0.length c0] rfl (by (try simp only [List.map_toArray, List.map_cons, List.map_nil]); first | done | rfl | (simp only [List.length_drop, List.length_take]; rfl)) ?_; (with_reducible refine (slices_Clone_int_int.calls _ _ l0 t388 _ ?side1 ?side2 A18.out).mono ?_); (case side1 => repeat (first | exact (Kd.C_below HR0.out HB.out) | (with_reducible refine Kd.C_alloc ?_ _) | (with_reducible refine Kd.C_drewN ?_ _) | (with_reducible refine Kd.C_drew ?_))); (case side2 => exact HC0.out); rintro e w19 ⟨v389, rfl, ho0, hb⟩; refine ⟨_, rfl, ?_⟩; have n0_ := Aside0.mk (Kd.R_lower ho0 (below_size (by repeat (first | (with_reducible first | exact HB.out | apply below_alloc | apply pw_below_drewN | apply below_drew1) | exact HB.out)))); have n1_ := Aside0.mk (below_step (by repeat (first | (with_reducible first | exact HB.out | apply below_alloc | apply pw_below_drewN | apply below_drew1) | exact HB.out)) hb); clear HB; have HO390 := n0_; have HB := n1_; clear n0_ n1_; (try clear hb); (try clear hb2); (try clear hk); (try clear hi); (try clear ho0)))
        go_loopg [8, 33] kj3 (fun kq v8 v33 w' => ∃ (x8_2 : List Int) (x33_2 : Int), v33 = .int .i64 x33_2 ∧ Aside0 (impl_MeshRows.l0 kq l0 a2 x8_2 l1 (l1.length : Int) x33_2 = some (r1, r2)) ∧ Aside0 (kq ≤ kj3) ∧ Aside0 (Kd.R (Kd.int .i64) 3 w' w.heap.size (fun _ => True) v8 x8_2) ∧ Aside0 (Below w.heap.size w w'))
        case atStart => exact ⟨(t388), (0), (by first | rfl | (simp; done) | (simp [*]; done)), H', ⟨Nat.le_refl _⟩, ⟨by (with_reducible repeat (first | apply Kd.R_alloc | apply Kd.R_drewN | apply Kd.R_drew)); exact HO390.out⟩, ⟨by repeat (first | (with_reducible first | exact HB.out | apply below_alloc | apply pw_below_drewN | apply below_drew1) | exact HB.out)⟩⟩
        case round =>
          clear H'
          try clear c1
          try clear p2
          try clear c3
          try clear c5
          try clear c6
          try clear c8
          try clear c9
          try clear c9b0
          try clear c17
          try clear p2
          obtain ⟨x8_2, x33_2, rfl, HA, HK2, HO_8, HB⟩ := hrel
          cases gk with
          | zero => exact absurd HA.out (by simp [impl_MeshRows.l0])
          | succ k2 =>
            have H := HA.out
            clear HA
            simp only [impl_MeshRows.l0] at H
            by_cases c20 : x33_2 < (l1.length : Int)
            · rw [if_pos c20] at H
              have c20b0 : decide (x33_2 < (l1.length : Int)) = true := decide_eq_true c20
              clear c20
              by_cases c21 : 0 ≤ x33_2
              · rw [if_pos c21] at H
                have c21b0 : decide (0 ≤ x33_2) = true := decide_eq_true c21
                clear c21
                by_cases c22 : x33_2 < (l1.length : Int)
                · rw [if_pos c22] at H
                  have c22b0 : decide (x33_2 < (l1.length : Int)) = true := decide_eq_true c22
                  clear c22
                  have HC23 := Aside0.mk H
                  clear H
                  have p395 : 0 ≤ (x33_2 : Int) := of_decide_eq_true (by first | (with_reducible assumption) | assumption)
                  have q395 : x33_2 < (l1.length : Int) := of_decide_eq_true (by first | (with_reducible assumption) | assumption)
                  obtain ⟨ad395, e395, hx395_0⟩ := Kd.at_int HR1.out x33_2 p395 q395
                  cases e395
                  replace hx395_0 := (HB.out.cell (World.block_lt_of_cell? w _ hx395_0)).trans hx395_0
                  replace p395 := eq_true p395
                  replace q395 := eq_true q395
                  go_upto_region 7 with (fail)
                  go_cut [38] (fun v38 wc => ∃ (kq : Nat) (x38_22 : Bool), v38 = .bool x38_22 ∧ Aside0 (impl_MeshRows.j2 kq l0 a2 x8_2 x33_2 (rd l1 x33_2) l1 (l1.length : Int) x33_2 x38_22 = some (r1, r2)) ∧ Aside0 (kq ≤ k2) ∧ Aside0 (Kd.R (Kd.int .i64) 3 wc w.heap.size (fun _ => True) u8 x8_2) ∧ Aside0 (Below w.heap.size w wc))
                  case first =>
                    have H := HC23.out
                    clear HC23
                    by_cases c24 : (rd l1 x33_2) > 0
                    · rw [if_pos c24] at H
                      have c24b0 : decide (0 < (rd l1 x33_2)) = true := decide_eq_true c24
                      clear c24
                      (first | rw [c24b0] | (simp only [i64_w, i32_w]; rw [c24b0]) | skip)
                      replace H := Option.bind_eq_some_iff.mp H
                      obtain ⟨t396, A250, H⟩ := H
                      replace H : (impl_MeshRows.j2 k2 l0 a2 x8_2 x33_2 (rd l1 x33_2) l1 (l1.length : Int) x33_2 t396) = some (r1, r2) := H
                      have A25 := Aside0.mk A250
                      clear A250
                      have H' := Aside0.mk H
                      clear H
                      go_wp2_with (first | (go_at_call 67; (with_reducible refine (slices_Contains_int_int.calls k2 _ _ l0 (rd l1 x33_2) t396 _ ?side1 ?side2 A25.out).mono ?_); (case side1 => repeat (first | exact (Kd.C_below HR0.out HB.out) | (with_reducible refine Kd.C_alloc ?_ _) | (with_reducible refine Kd.C_drewN ?_ _) | (with_reducible refine Kd.C_drew ?_))); (case side2 => exact HC0.out); rintro e w' ⟨rfl, ⟨nd, rfl⟩⟩))
                      go_meet
                      case rel => exact ⟨_, (t396), (by first | rfl | (simp; done) | (simp [*]; done)), H', ⟨by have := HJ3.out; have := HK2.out; first | omega | exact Nat.le_refl _⟩, ⟨by (with_reducible repeat (first | apply Kd.R_alloc | apply Kd.R_drewN | apply Kd.R_drew)); exact HO_8.out⟩, ⟨by repeat (first | (with_reducible first | exact HB.out | apply below_alloc | apply pw_below_drewN | apply below_drew1) | exact HB.out)⟩⟩
                    · rw [if_neg c24] at H
                      have c24b0 : decide (0 < (rd l1 x33_2)) = false := decide_eq_false c24
                      clear c24
                      (first | rw [c24b0] | (simp only [i64_w, i32_w]; rw [c24b0]) | skip)
                      have H' := Aside0.mk H
                      clear H
                      go_wp2
                      go_meet
                      case rel => exact ⟨_, (false), (by first | rfl | (simp; done) | (simp [*]; done)), H', ⟨by have := HJ3.out; have := HK2.out; first | omega | exact Nat.le_refl _⟩, ⟨by (with_reducible repeat (first | apply Kd.R_alloc | apply Kd.R_drewN | apply Kd.R_drew)); exact HO_8.out⟩, ⟨by repeat (first | (with_reducible first | exact HB.out | apply below_alloc | apply pw_below_drewN | apply below_drew1) | exact HB.out)⟩⟩
                  case rest =>
                    clear HC23
                    try clear c1
                    try clear c2
                    try clear p2
                    try clear c3
                    try clear p3
                    try clear q3
                    try clear hx3
                    try clear c5
                    try clear c6
                    try clear c8
                    try clear c9
                    try clear c9b0
                    try clear c17
                    try clear c20
                    try clear c20b0
                    try clear c21
                    try clear c21b0
                    try clear c22
                    try clear c22b0
                    try clear c24
                    try clear c24b0
                    try clear hx395_0
                    try clear p2
                    try clear p395
                    try clear q395
                    obtain ⟨kq, x38_22, rfl, HA, HJ22, HO_8, HB⟩ := hcut
                    cases kq with
                    | zero => exact absurd HA.out (by simp [impl_MeshRows.j2])
                    | succ kj22 =>
                      have H := HA.out
                      clear HA
                      simp only [impl_MeshRows.j2] at H
                      by_cases c26 : x38_22 = true
                      · subst c26
                        have H1 : (some (([] : List Int), false)) = some (r1, r2) := by rw [if_pos rfl] at H; exact H
                        clear H
                        have H := H1
                        clear H1
                        simp only [Option.some.injEq, Prod.mk.injEq] at H
                        obtain ⟨rfl, rfl⟩ := H
                        go_wp2
                        go_ret2
                        exact ⟨_, by first | rfl | (simp [errW_none, errW_some] <;> rfl) | (simp [*, errW_none, errW_some] <;> rfl), by first | exact Kd.R_nil _ _ _ _ _ | exact Kd.N_nil _ _ _ _ _ | exact Kd.V_nil _ _ _ _ _ | exact Kd.Q_nil _ _ _ _ _ | exact Kd.S_nil _ _ _ _ _, by repeat (first | (with_reducible first | exact HB.out | apply below_alloc | apply pw_below_drewN | apply below_drew1) | exact HB.out)⟩
                      · replace c26 := Bool.eq_false_iff.mpr c26
                        subst c26
                        have H1 : (if (wrap64 (a2 + x33_2)) = (x8_2.length : Int) then (if x8_2.length < 17592186044416 then (impl_MeshRows.l0 kj22 l0 a2 (x8_2 ++ [(rd l1 x33_2)]) l1 (l1.length : Int) (wrap64 (x33_2 + 1))) else (none)) else (if (rd l1 x33_2) > 0 then (if 0 ≤ (wrap64 (a2 + x33_2)) then (if (wrap64 (a2 + x33_2)) < (x8_2.length : Int) then (impl_MeshRows.j3 kj22 l0 a2 x8_2 x33_2 (rd l1 x33_2) l1 (l1.length : Int) x33_2 (decide ((rd x8_2 (wrap64 (a2 + x33_2))) > 0))) else (none)) else (none)) else (impl_MeshRows.j3 kj22 l0 a2 x8_2 x33_2 (rd l1 x33_2) l1 (l1.length : Int) x33_2 false))) = some (r1, r2) := by rw [if_neg (show ¬ (false = true) by decide)] at H; exact H
                        clear H
                        have H := H1
                        clear H1
                        by_cases c27 : (wrap64 (a2 + x33_2)) = (x8_2.length : Int)
                        · rw [if_pos c27] at H
                          have c27b0 : ((wrap64 (a2 + x33_2)) == (x8_2.length : Int)) = true := beq_iff_eq.mpr c27
                          have c27b1 : ((wrap64 (a2 + x33_2)) != (x8_2.length : Int)) = false := bne_eq_false_iff_eq.mpr c27
                          clear c27
                          by_cases c28 : x8_2.length < 17592186044416
                          · rw [if_pos c28] at H
                            have LMc28 := Aside0.mk c28
                            clear c28
                            obtain ⟨y397, hy397⟩ : ∃ y_ : List Int, y_ = (x8_2 ++ [(rd l1 x33_2)]) := ⟨_, rfl⟩
                            replace H : (impl_MeshRows.l0 kj22 l0 a2 y397 l1 (l1.length : Int) (wrap64 (x33_2 + 1))) = some (r1, r2) := by first | (rw [hy397]; with_reducible exact H) | (have H2_ := (Option.bind_some _ _).symm.trans H; rw [hy397]; with_reducible exact H2_) | (have H2_ := (Option.bind_some _ _).symm.trans H; with_reducible exact H2_) | with_reducible exact H | (rw [hy397]; exact H) | exact H
                            have Ny397 := Aside0.mk hy397
                            clear hy397
                            have H' := Aside0.mk H
                            clear H
                            obtain ⟨Ao29, co29, eo29⟩ := Kd.R_slice HO_8.out
                            subst eo29
                            go_wp2_with (first | ((with_reducible refine gate_builtin (b := .append) (xs := #[.tmp 53, .tmp 55]) rfl ?_); (try (refine gate_guard (by rfl) ?_; dsimp only)); at_builtin; refine Kd.R_append (Kd.int .i64) (w0 := w) w.heap.size rfl (.tmp 53) (.tmp 55) 25 3 (.int .i64 0) 8 rfl Try.underlying25 info3 rfl (by decide) (by omega) (.slice Ao29 x8_2.length co29) x8_2 (rd l1 x33_2) [.int .i64 (rd l1 x33_2)] (fun _ => True) (fun _ => False) rfl rfl ?aP (fun _ hk => hk.elim) ?aF ?aO ?aB ?aS ?aL ?_; (case aP => exact rfl); (case aB => exact (by repeat (first | (with_reducible first | exact HB.out | apply below_alloc | apply pw_below_drewN | apply below_drew1) | exact HB.out))); (case aF => exact (fun _ _ => trivial)); (case aO => exact (by (with_reducible repeat (first | apply Kd.R_alloc | apply Kd.R_drewN | apply Kd.R_drew)); exact HO_8.out)); (case aS => exact (below_size (by repeat (first | (with_reducible first | exact HB.out | apply below_alloc | apply pw_below_drewN | apply below_drew1) | exact HB.out)))); (case aL => have := LMc28.out; omega); intro v398 w30 ho hb hg hat; rw [← Ny397.out] at ho; have n0_ := Aside0.mk (hb); have n1_ := Aside0.mk (ho); clear HB; clear HO_8; have HB := n0_; have HO399 := n1_; clear n0_ n1_; clear ho hb hg hat))
                            go_roundg kj22
                            case measure => have := HJ3.out; have := HK2.out; have := HJ22.out; omega
                            case rel => exact ⟨(y397), (wrap64 (x33_2 + 1)), (by first | rfl | (simp; done) | (simp [*]; done)), H', ⟨by have := HJ3.out; have := HK2.out; have := HJ22.out; omega⟩, ⟨by (with_reducible repeat (first | apply Kd.R_alloc | apply Kd.R_drewN | apply Kd.R_drew)); exact HO399.out⟩, ⟨by repeat (first | (with_reducible first | exact HB.out | apply below_alloc | apply pw_below_drewN | apply below_drew1) | exact HB.out)⟩⟩
                          · rw [if_neg c28] at H
                            exact absurd H (by simp)
                        · rw [if_neg c27] at H
                          have c27b0 : ((wrap64 (a2 + x33_2)) == (x8_2.length : Int)) = false := beq_eq_false_iff_ne.mpr c27
                          have c27b1 : ((wrap64 (a2 + x33_2)) != (x8_2.length : Int)) = true := bne_iff_ne.mpr c27
                          have HC31 := Aside0.mk H
                          clear H
                          obtain ⟨Ao32, co32, eo32⟩ := Kd.R_slice HO_8.out
                          subst eo32
                          go_upto_region 11 with (fail)
                          go_cut [57] (fun v57 wc => ∃ (kq : Nat) (x57_30 : Bool), v57 = .bool x57_30 ∧ Aside0 (impl_MeshRows.j3 kq l0 a2 x8_2 x33_2 (rd l1 x33_2) l1 (l1.length : Int) x33_2 x57_30 = some (r1, r2)) ∧ Aside0 (kq ≤ kj22) ∧ Aside0 (Kd.R (Kd.int .i64) 3 wc w.heap.size (fun _ => True) (.slice Ao32 x8_2.length co32) x8_2) ∧ Aside0 (Below w.heap.size w wc))
                          case first =>
                            have H := HC31.out
                            clear HC31
                            by_cases c33 : (rd l1 x33_2) > 0
                            · rw [if_pos c33] at H
                              have c33b0 : decide (0 < (rd l1 x33_2)) = true := decide_eq_true c33
                              clear c33
                              (first | rw [c33b0] | (simp only [i64_w, i32_w]; rw [c33b0]) | skip)
                              obtain ⟨ji34, hji34⟩ : ∃ j_ : Int, (wrap64 (a2 + x33_2)) = j_ := ⟨_, rfl⟩
                              replace H : (if 0 ≤ (ji34) then (if (ji34) < (x8_2.length : Int) then (impl_MeshRows.j3 kj22 l0 a2 x8_2 x33_2 (rd l1 x33_2) l1 (l1.length : Int) x33_2 (decide ((rd x8_2 (ji34)) > 0))) else (none)) else (none)) = some (r1, r2) := by first | (rw [hji34] at H; exact H) | (simp only [hji34] at H ⊢; exact H)
                              (try rw [hji34] at c27b0)
                              (try rw [hji34] at c27b1)
                              have hji34w : (IntKind.i64.wrap (a2 + x33_2)) = ji34 := (i64_w _).trans hji34
                              by_cases c35 : 0 ≤ (ji34)
                              · rw [if_pos c35] at H
                                have c35b0 : decide (0 ≤ (ji34)) = true := decide_eq_true c35
                                clear c35
                                by_cases c36 : (ji34) < (x8_2.length : Int)
                                · rw [if_pos c36] at H
                                  have c36b0 : decide ((ji34) < (x8_2.length : Int)) = true := decide_eq_true c36
                                  clear c36
                                  have H' := Aside0.mk H
                                  clear H
                                  have p400 : 0 ≤ ((ji34) : Int) := of_decide_eq_true (by first | (with_reducible assumption) | assumption)
                                  have q400 : (ji34) < (x8_2.length : Int) := of_decide_eq_true (by first | (with_reducible assumption) | assumption)
                                  obtain ⟨ad400, e400, hx400_0⟩ := Kd.at_int (Kd.R_reads' HO_8.out).2.2 (ji34) p400 q400
                                  cases e400
                                  replace p400 := eq_true p400
                                  replace q400 := eq_true q400
                                  go_wp2
                                  go_meet
                                  case rel => exact ⟨_, (decide ((rd x8_2 (ji34)) > 0)), (by first | rfl | (simp; done) | (simp only [← hji34] <;> (first | rfl | simp)) | (simp [*]; done)), H', ⟨by have := HJ3.out; have := HK2.out; have := HJ22.out; first | omega | exact Nat.le_refl _⟩, ⟨by (with_reducible repeat (first | apply Kd.R_alloc | apply Kd.R_drewN | apply Kd.R_drew)); exact HO_8.out⟩, ⟨by repeat (first | (with_reducible first | exact HB.out | apply below_alloc | apply pw_below_drewN | apply below_drew1) | exact HB.out)⟩⟩
                                · rw [if_neg c36] at H
                                  exact absurd H (by simp)
                              · rw [if_neg c35] at H
                                exact absurd H (by simp)
                            · rw [if_neg c33] at H
                              have c33b0 : decide (0 < (rd l1 x33_2)) = false := decide_eq_false c33
                              clear c33
                              (first | rw [c33b0] | (simp only [i64_w, i32_w]; rw [c33b0]) | skip)
                              have H' := Aside0.mk H
                              clear H
                              go_wp2
                              go_meet
                              case rel => exact ⟨_, (false), (by first | rfl | (simp; done) | (simp [*]; done)), H', ⟨by have := HJ3.out; have := HK2.out; have := HJ22.out; first | omega | exact Nat.le_refl _⟩, ⟨by (with_reducible repeat (first | apply Kd.R_alloc | apply Kd.R_drewN | apply Kd.R_drew)); exact HO_8.out⟩, ⟨by repeat (first | (with_reducible first | exact HB.out | apply below_alloc | apply pw_below_drewN | apply below_drew1) | exact HB.out)⟩⟩
                          case rest =>
                            clear HC31
                            try clear c1
                            try clear c2
                            try clear p2
                            try clear c3
                            try clear p3
                            try clear q3
                            try clear hx3
                            try clear p4
                            try clear q4
                            try clear hx4
                            try clear c5
                            try clear c6
                            try clear p6
                            try clear c8
                            try clear c9
                            try clear c9b0
                            try clear c17
                            try clear c20
                            try clear c20b0
                            try clear c21
                            try clear c21b0
                            try clear c22
                            try clear c22b0
                            try clear c24
                            try clear c24b0
                            try clear c26
                            try clear c27
                            try clear c27b0
                            try clear c27b1
                            try clear c28
                            try clear c33
                            try clear c33b0
                            try clear c35
                            try clear c35b0
                            try clear c36
                            try clear c36b0
                            try clear hx395_0
                            try clear hx400_0
                            try clear p2
                            try clear p3
                            try clear p395
                            try clear p400
                            try clear q3
                            try clear q395
                            try clear q400
                            obtain ⟨kq, x57_30, rfl, HA, HJ30, HO_8, HB⟩ := hcut
                            cases kq with
                            | zero => exact absurd HA.out (by simp [impl_MeshRows.j3])
                            | succ kj30 =>
                              have H := HA.out
                              clear HA
                              simp only [impl_MeshRows.j3] at H
                              by_cases c37 : x57_30 = true
                              · subst c37
                                have H1 : (some (([] : List Int), false)) = some (r1, r2) := by rw [if_pos rfl] at H; exact H
                                clear H
                                have H := H1
                                clear H1
                                simp only [Option.some.injEq, Prod.mk.injEq] at H
                                obtain ⟨rfl, rfl⟩ := H
                                go_wp2
                                go_ret2
                                exact ⟨_, by first | rfl | (simp [errW_none, errW_some] <;> rfl) | (simp [*, errW_none, errW_some] <;> rfl), by first | exact Kd.R_nil _ _ _ _ _ | exact Kd.N_nil _ _ _ _ _ | exact Kd.V_nil _ _ _ _ _ | exact Kd.Q_nil _ _ _ _ _ | exact Kd.S_nil _ _ _ _ _, by repeat (first | (with_reducible first | exact HB.out | apply below_alloc | apply pw_below_drewN | apply below_drew1) | exact HB.out)⟩
                              · replace c37 := Bool.eq_false_iff.mpr c37
                                subst c37
                                have H1 : (if (rd l1 x33_2) > 0 then (if 0 ≤ (wrap64 (a2 + x33_2)) then (if (wrap64 (a2 + x33_2)) < (x8_2.length : Int) then (impl_MeshRows.l0 kj30 l0 a2 (x8_2.set ((wrap64 (a2 + x33_2)) : Int).toNat (rd l1 x33_2)) l1 (l1.length : Int) (wrap64 (x33_2 + 1))) else (none)) else (none)) else (impl_MeshRows.l0 kj30 l0 a2 x8_2 l1 (l1.length : Int) (wrap64 (x33_2 + 1)))) = some (r1, r2) := by rw [if_neg (show ¬ (false = true) by decide)] at H; exact H
                                clear H
                                have H := H1
                                clear H1
                                by_cases c38 : (rd l1 x33_2) > 0
                                · rw [if_pos c38] at H
                                  have c38b0 : decide (0 < (rd l1 x33_2)) = true := decide_eq_true c38
                                  clear c38
                                  obtain ⟨ji39, hji39⟩ : ∃ j_ : Int, (wrap64 (a2 + x33_2)) = j_ := ⟨_, rfl⟩
                                  replace H : (if 0 ≤ (ji39) then (if (ji39) < (x8_2.length : Int) then (impl_MeshRows.l0 kj30 l0 a2 (x8_2.set ((ji39) : Int).toNat (rd l1 x33_2)) l1 (l1.length : Int) (wrap64 (x33_2 + 1))) else (none)) else (none)) = some (r1, r2) := by first | (rw [hji39] at H; exact H) | (simp only [hji39] at H ⊢; exact H)
                                  (try rw [hji39] at c27b0)
                                  (try rw [hji39] at c27b1)
                                  have hji39w : (IntKind.i64.wrap (a2 + x33_2)) = ji39 := (i64_w _).trans hji39
                                  by_cases c40 : 0 ≤ (ji39)
                                  · rw [if_pos c40] at H
                                    have c40b0 : decide (0 ≤ (ji39)) = true := decide_eq_true c40
                                    clear c40
                                    by_cases c41 : (ji39) < (x8_2.length : Int)
                                    · rw [if_pos c41] at H
                                      have c41b0 : decide ((ji39) < (x8_2.length : Int)) = true := decide_eq_true c41
                                      clear c41
                                      obtain ⟨y401, hy401⟩ : ∃ y_ : List Int, y_ = (x8_2.set ((ji39) : Int).toNat (rd l1 x33_2)) := ⟨_, rfl⟩
                                      replace H : (impl_MeshRows.l0 kj30 l0 a2 y401 l1 (l1.length : Int) (wrap64 (x33_2 + 1))) = some (r1, r2) := by first | (rw [hy401]; with_reducible exact H) | (have H2_ := (Option.bind_some _ _).symm.trans H; rw [hy401]; with_reducible exact H2_) | (have H2_ := (Option.bind_some _ _).symm.trans H; with_reducible exact H2_) | with_reducible exact H | (rw [hy401]; exact H) | exact H
                                      have Ny401 := Aside0.mk hy401
                                      clear hy401
                                      have H' := Aside0.mk H
                                      clear H
                                      have p42 : 0 ≤ ((ji39) : Int) := of_decide_eq_true (by first | (with_reducible assumption) | assumption)
                                      have q42 : ((ji39) : Int) < ((x8_2.length : Int) : Int) := of_decide_eq_true (by first | (with_reducible assumption) | assumption)
                                      obtain ⟨go42, co42, eo42, gb42, gl42, cl42, HG42⟩ := Kd.R_form HO_8.out (by omega)
                                      (first | cases eo42 | (injection eo42 with ea_ en_ ec_; (first | subst ea_ | (injection ea_ with ea_; subst ea_)); subst ec_; clear en_))
                                      have GB42 := Aside0.mk gb42
                                      have GG42 := Aside0.mk HG42
                                      clear gb42 gl42 HG42
                                      obtain ⟨hx42_0, hf42_0⟩ := Kd.R_celln 0 HO_8.out ((ji39) : Int) p42 q42
                                      replace p42 := eq_true p42
                                      replace q42 := eq_true q42
                                      have HP43 := Kd.R_putg HO_8.out ((ji39) : Int) (rd l1 x33_2)
                                      go_wp2_with (first | ((with_reducible refine gate_store (t := 3) (p := 77) rfl ?_); refine store_event (t := 3) (p := 77) (v := ?vo_w44) (w1 := (wc.setCell ⟨go42, ((ji39) : Int).toNat, none⟩ (.int .i64 (rd l1 x33_2)))) ?hg ?ho ?hn ?hr ?_; (case ho => rfl); (case hg => rfl); (case hn => rfl); (case hr => first | (go_simp; done) | (go_simp; rfl)); intro w44 hw; have hg : wc.grownBy w44 (some go42) := (by rw [hw]; exact HP43.2); have hp_ : Kd.R (Kd.int .i64) 3 w44 w.heap.size (fun _ => True) (.slice (some ⟨go42, 0, none⟩) x8_2.length co32) y401 := (by rw [hw, Ny401.out]; exact HP43.1); clear HP43; have n0_ := Aside0.mk (hp_); have n1_ := Aside0.mk ((by rw [hw]; exact below_set (HB.out) GB42.out : Below w.heap.size w w44)); clear HO_8; clear HB; have HO_8 := n0_; have HB := n1_; clear n0_ n1_; clear hg hw hp_))
                                      go_roundg kj30
                                      case measure => have := HJ3.out; have := HK2.out; have := HJ22.out; have := HJ30.out; omega
                                      case rel => exact ⟨(y401), (wrap64 (x33_2 + 1)), (by first | rfl | (simp; done) | (simp [*]; done)), H', ⟨by have := HJ3.out; have := HK2.out; have := HJ22.out; have := HJ30.out; omega⟩, ⟨by (with_reducible repeat (first | apply Kd.R_alloc | apply Kd.R_drewN | apply Kd.R_drew)); exact HO_8.out⟩, ⟨by repeat (first | (with_reducible first | exact HB.out | apply below_alloc | apply pw_below_drewN | apply below_drew1) | exact HB.out)⟩⟩
                                    · rw [if_neg c41] at H
                                      exact absurd H (by simp)
                                  · rw [if_neg c40] at H
                                    exact absurd H (by simp)
                                · rw [if_neg c38] at H
                                  have c38b0 : decide (0 < (rd l1 x33_2)) = false := decide_eq_false c38
                                  clear c38
                                  have H' := Aside0.mk H
                                  clear H
                                  go_wp2
                                  go_roundg kj30
                                  case measure => have := HJ3.out; have := HK2.out; have := HJ22.out; have := HJ30.out; omega
                                  case rel => exact ⟨(x8_2), (wrap64 (x33_2 + 1)), (by first | rfl | (simp; done) | (simp [*]; done)), H', ⟨by have := HJ3.out; have := HK2.out; have := HJ22.out; have := HJ30.out; omega⟩, ⟨by (with_reducible repeat (first | apply Kd.R_alloc | apply Kd.R_drewN | apply Kd.R_drew)); exact HO_8.out⟩, ⟨by repeat (first | (with_reducible first | exact HB.out | apply below_alloc | apply pw_below_drewN | apply below_drew1) | exact HB.out)⟩⟩
                · rw [if_neg c22] at H
                  exact absurd H (by simp)
              · rw [if_neg c21] at H
                exact absurd H (by simp)
            · rw [if_neg c20] at H
              have c20b0 : decide (x33_2 < (l1.length : Int)) = false := decide_eq_false c20
              clear c20
              replace H := Option.bind_eq_some_iff.mp H
              obtain ⟨⟨t391, t394⟩, A450, H⟩ := H
              replace H : (some (t391, t394)) = some (r1, r2) := H
              have A45 := Aside0.mk A450
              clear A450
              simp only [Option.some.injEq, Prod.mk.injEq] at H
              obtain ⟨rfl, rfl⟩ := H
              obtain ⟨Ao46, co46, eo46⟩ := Kd.R_slice HO_8.out
              subst eo46
              go_wp2_with (first | ((with_reducible refine gate_callee (f := 52) rfl ?_); refine goesL_ (some 80) rfl rfl Try.func52 (by kernel_rfl) rfl #[.slice Ao46 x8_2.length co46] rfl (by (try simp only [List.map_toArray, List.map_cons, List.map_nil]); first | done | rfl | (simp only [List.length_drop, List.length_take]; rfl)) ?_; (with_reducible refine (impl_madeRow.calls k2 (fun k_ => some k_ = (.slice Ao46 x8_2.length co46 : Value).ownBlock) (.slice Ao46 x8_2.length co46) x8_2 t391 t394 w _ ?side1 ?side2 A45.out).mono ?_); (case side1 => repeat (first | (with_reducible first | exact HB.out | apply below_alloc | apply pw_below_drewN | apply below_drew1) | exact HB.out)); (case side2 => exact Kd.R_tight rfl HO_8.out); rintro e w47 ⟨v392, rfl, ho0, hb, hkp⟩; refine ⟨_, rfl, ?_⟩; have n0_ := Aside0.mk (Kd.R_mono (ok' := fun k_ => True) ho0 (fun k_ hk_ => trivial)); have n1_ := Aside0.mk (hb); clear HB; clear HO_8; have HO393 := n0_; have HB := n1_; clear n0_ n1_; (try clear hb); (try clear hkp); (try clear ho0)))
              go_ret2
              exact ⟨_, by first | rfl | (simp [errW_none, errW_some] <;> rfl) | (simp [*, errW_none, errW_some] <;> rfl), by (with_reducible repeat (first | apply Kd.R_alloc | apply Kd.R_drewN | apply Kd.R_drew)); exact HO393.out, by repeat (first | (with_reducible first | exact HB.out | apply below_alloc | apply pw_below_drewN | apply below_drew1) | exact HB.out)⟩

noncomputable def impl_MeshRows.J0 (x0 : List Int) (x1 : List Int) (x2 : Int) (x28 : Bool) : Option (List Int × Bool) := lim fun k => impl_MeshRows.j0 k x0 x1 x2 x28
theorem impl_MeshRows.J0_lim (x0 : List Int) (x1 : List Int) (x2 : Int) (x28 : Bool) : Lim (fun k => impl_MeshRows.j0 k x0 x1 x2 x28) (impl_MeshRows.J0 x0 x1 x2 x28) := Lim.of fun k => (impl_MeshRows.mono_l k).1 x0 x1 x2 x28
noncomputable def impl_MeshRows.L0 (x0 : List Int) (x2 : Int) (x8 : List Int) (x31 : List Int) (x32 : Int) (x33 : Int) : Option (List Int × Bool) := lim fun k => impl_MeshRows.l0 k x0 x2 x8 x31 x32 x33
theorem impl_MeshRows.L0_lim (x0 : List Int) (x2 : Int) (x8 : List Int) (x31 : List Int) (x32 : Int) (x33 : Int) : Lim (fun k => impl_MeshRows.l0 k x0 x2 x8 x31 x32 x33) (impl_MeshRows.L0 x0 x2 x8 x31 x32 x33) := Lim.of fun k => (impl_MeshRows.mono_l k).2.1 x0 x2 x8 x31 x32 x33
noncomputable def impl_MeshRows.J2 (x0 : List Int) (x2 : Int) (x8 : List Int) (x9 : Int) (x10 : Int) (x31 : List Int) (x32 : Int) (x33 : Int) (x38 : Bool) : Option (List Int × Bool) := lim fun k => impl_MeshRows.j2 k x0 x2 x8 x9 x10 x31 x32 x33 x38
theorem impl_MeshRows.J2_lim (x0 : List Int) (x2 : Int) (x8 : List Int) (x9 : Int) (x10 : Int) (x31 : List Int) (x32 : Int) (x33 : Int) (x38 : Bool) : Lim (fun k => impl_MeshRows.j2 k x0 x2 x8 x9 x10 x31 x32 x33 x38) (impl_MeshRows.J2 x0 x2 x8 x9 x10 x31 x32 x33 x38) := Lim.of fun k => (impl_MeshRows.mono_l k).2.2.1 x0 x2 x8 x9 x10 x31 x32 x33 x38
noncomputable def impl_MeshRows.J3 (x0 : List Int) (x2 : Int) (x8 : List Int) (x9 : Int) (x10 : Int) (x31 : List Int) (x32 : Int) (x33 : Int) (x57 : Bool) : Option (List Int × Bool) := lim fun k => impl_MeshRows.j3 k x0 x2 x8 x9 x10 x31 x32 x33 x57
theorem impl_MeshRows.J3_lim (x0 : List Int) (x2 : Int) (x8 : List Int) (x9 : Int) (x10 : Int) (x31 : List Int) (x32 : Int) (x33 : Int) (x57 : Bool) : Lim (fun k => impl_MeshRows.j3 k x0 x2 x8 x9 x10 x31 x32 x33 x57) (impl_MeshRows.J3 x0 x2 x8 x9 x10 x31 x32 x33 x57) := Lim.of fun k => (impl_MeshRows.mono_l k).2.2.2 x0 x2 x8 x9 x10 x31 x32 x33 x57
noncomputable def impl_MeshRows.F (l0 : List Int) (l1 : List Int) (a2 : Int) : Option (List Int × Bool) := lim fun k => impl_MeshRows.f k l0 l1 a2
theorem impl_MeshRows.F_lim (l0 : List Int) (l1 : List Int) (a2 : Int) : Lim (fun k => impl_MeshRows.f k l0 l1 a2) (impl_MeshRows.F l0 l1 a2) := Lim.of fun k => impl_MeshRows.mono l0 l1 a2 k
theorem impl_MeshRows.J0_eq (x0 : List Int) (x1 : List Int) (x2 : Int) (x28 : Bool) : impl_MeshRows.J0 x0 x1 x2 x28 = (if x28 = true then (some (([] : List Int), false)) else ((slices_Clone_int_int.f x0).bind fun t388 => (impl_MeshRows.L0 x0 x2 t388 x1 (x1.length : Int) 0))) :=
  Lim.step (f := fun k => (if x28 = true then (some (([] : List Int), false)) else ((slices_Clone_int_int.f x0).bind fun t388 => (impl_MeshRows.l0 k x0 x2 t388 x1 (x1.length : Int) 0)))) (impl_MeshRows.J0_lim x0 x1 x2 x28) (fun k => by first | rfl | rw [impl_MeshRows.j0]) (by
    repeat' first
    | (with_reducible exact Lim.const _)
    | (with_reducible exact impl_MeshRows.L0_lim _ _ _ _ _ _)
    | (with_reducible refine Lim.ite ?_ ?_)
    | (with_reducible refine Lim.bind ?_ (fun _ => ?_)))
theorem impl_MeshRows.L0_eq (x0 : List Int) (x2 : Int) (x8 : List Int) (x31 : List Int) (x32 : Int) (x33 : Int) : impl_MeshRows.L0 x0 x2 x8 x31 x32 x33 = (if x33 < x32 then (if 0 ≤ x33 then (if x33 < (x31.length : Int) then (if (rd x31 x33) > 0 then ((slices_Contains_int_int.F x0 (rd x31 x33)).bind fun t396 => (impl_MeshRows.J2 x0 x2 x8 x33 (rd x31 x33) x31 x32 x33 t396)) else (impl_MeshRows.J2 x0 x2 x8 x33 (rd x31 x33) x31 x32 x33 false)) else (none)) else (none)) else ((impl_madeRow.F x8).bind fun bt391 => (some (bt391.1, bt391.2)))) :=
  Lim.step (f := fun k => (if x33 < x32 then (if 0 ≤ x33 then (if x33 < (x31.length : Int) then (if (rd x31 x33) > 0 then ((slices_Contains_int_int.f k x0 (rd x31 x33)).bind fun t396 => (impl_MeshRows.j2 k x0 x2 x8 x33 (rd x31 x33) x31 x32 x33 t396)) else (impl_MeshRows.j2 k x0 x2 x8 x33 (rd x31 x33) x31 x32 x33 false)) else (none)) else (none)) else ((impl_madeRow.f k x8).bind fun bt391 => (some (bt391.1, bt391.2))))) (impl_MeshRows.L0_lim x0 x2 x8 x31 x32 x33) (fun k => by first | rfl | rw [impl_MeshRows.l0]) (by
    repeat' first
    | (with_reducible exact Lim.const _)
    | (with_reducible exact impl_MeshRows.J2_lim _ _ _ _ _ _ _ _ _)
    | (with_reducible exact impl_madeRow.F_lim _)
    | (with_reducible exact slices_Contains_int_int.F_lim _ _)
    | (with_reducible refine Lim.ite ?_ ?_)
    | (with_reducible refine Lim.bind ?_ (fun _ => ?_)))
theorem impl_MeshRows.J2_eq (x0 : List Int) (x2 : Int) (x8 : List Int) (x9 : Int) (x10 : Int) (x31 : List Int) (x32 : Int) (x33 : Int) (x38 : Bool) : impl_MeshRows.J2 x0 x2 x8 x9 x10 x31 x32 x33 x38 = (if x38 = true then (some (([] : List Int), false)) else (if (wrap64 (x2 + x9)) = (x8.length : Int) then (if x8.length < 17592186044416 then (impl_MeshRows.L0 x0 x2 (x8 ++ [x10]) x31 x32 (wrap64 (x33 + 1))) else (none)) else (if x10 > 0 then (if 0 ≤ (wrap64 (x2 + x9)) then (if (wrap64 (x2 + x9)) < (x8.length : Int) then (impl_MeshRows.J3 x0 x2 x8 x9 x10 x31 x32 x33 (decide ((rd x8 (wrap64 (x2 + x9))) > 0))) else (none)) else (none)) else (impl_MeshRows.J3 x0 x2 x8 x9 x10 x31 x32 x33 false)))) :=
  Lim.step (f := fun k => (if x38 = true then (some (([] : List Int), false)) else (if (wrap64 (x2 + x9)) = (x8.length : Int) then (if x8.length < 17592186044416 then (impl_MeshRows.l0 k x0 x2 (x8 ++ [x10]) x31 x32 (wrap64 (x33 + 1))) else (none)) else (if x10 > 0 then (if 0 ≤ (wrap64 (x2 + x9)) then (if (wrap64 (x2 + x9)) < (x8.length : Int) then (impl_MeshRows.j3 k x0 x2 x8 x9 x10 x31 x32 x33 (decide ((rd x8 (wrap64 (x2 + x9))) > 0))) else (none)) else (none)) else (impl_MeshRows.j3 k x0 x2 x8 x9 x10 x31 x32 x33 false))))) (impl_MeshRows.J2_lim x0 x2 x8 x9 x10 x31 x32 x33 x38) (fun k => by first | rfl | rw [impl_MeshRows.j2]) (by
    repeat' first
    | (with_reducible exact Lim.const _)
    | (with_reducible exact impl_MeshRows.J3_lim _ _ _ _ _ _ _ _ _)
    | (with_reducible exact impl_MeshRows.L0_lim _ _ _ _ _ _)
    | (with_reducible refine Lim.ite ?_ ?_)
    | (with_reducible refine Lim.bind ?_ (fun _ => ?_)))
theorem impl_MeshRows.J3_eq (x0 : List Int) (x2 : Int) (x8 : List Int) (x9 : Int) (x10 : Int) (x31 : List Int) (x32 : Int) (x33 : Int) (x57 : Bool) : impl_MeshRows.J3 x0 x2 x8 x9 x10 x31 x32 x33 x57 = (if x57 = true then (some (([] : List Int), false)) else (if x10 > 0 then (if 0 ≤ (wrap64 (x2 + x9)) then (if (wrap64 (x2 + x9)) < (x8.length : Int) then (impl_MeshRows.L0 x0 x2 (x8.set ((wrap64 (x2 + x9)) : Int).toNat x10) x31 x32 (wrap64 (x33 + 1))) else (none)) else (none)) else (impl_MeshRows.L0 x0 x2 x8 x31 x32 (wrap64 (x33 + 1))))) :=
  Lim.step (f := fun k => (if x57 = true then (some (([] : List Int), false)) else (if x10 > 0 then (if 0 ≤ (wrap64 (x2 + x9)) then (if (wrap64 (x2 + x9)) < (x8.length : Int) then (impl_MeshRows.l0 k x0 x2 (x8.set ((wrap64 (x2 + x9)) : Int).toNat x10) x31 x32 (wrap64 (x33 + 1))) else (none)) else (none)) else (impl_MeshRows.l0 k x0 x2 x8 x31 x32 (wrap64 (x33 + 1)))))) (impl_MeshRows.J3_lim x0 x2 x8 x9 x10 x31 x32 x33 x57) (fun k => by first | rfl | rw [impl_MeshRows.j3]) (by
    repeat' first
    | (with_reducible exact Lim.const _)
    | (with_reducible exact impl_MeshRows.L0_lim _ _ _ _ _ _)
    | (with_reducible refine Lim.ite ?_ ?_)
    | (with_reducible refine Lim.bind ?_ (fun _ => ?_)))
theorem impl_MeshRows.F_eq (l0 : List Int) (l1 : List Int) (a2 : Int) : impl_MeshRows.F l0 l1 a2 = ((impl_isPairs.F l0).bind fun t386 => (if t386 = true then ((impl_isPairs.F l1).bind fun t387 => (if t387 = true then (if a2 < 0 then (impl_MeshRows.J0 l0 l1 a2 true) else (impl_MeshRows.J0 l0 l1 a2 (decide (a2 > (l0.length : Int))))) else (impl_MeshRows.J0 l0 l1 a2 true))) else (impl_MeshRows.J0 l0 l1 a2 true))) :=
  Lim.unique (impl_MeshRows.F_lim l0 l1 a2) (by
    unfold impl_MeshRows.f
    repeat' first
    | (with_reducible exact Lim.const _)
    | (with_reducible exact impl_MeshRows.J0_lim _ _ _ _)
    | (with_reducible exact impl_isPairs.F_lim _)
    | (with_reducible refine Lim.ite ?_ ?_)
    | (with_reducible refine Lim.bind ?_ (fun _ => ?_)))

end Go.Proofs.Ytmhcgihkijiecaa.Fn
namespace Go.Proofs.Ytmhcgihkijiecaa.Fn
open Go.RowKit Go.Proofs.YtmhcgihkijiecaaW.PrintWords Go.Proofs.YtmhcgihkijiecaaW.PrintLast Go.Proofs.YtmhcgihkijiecaaW.PrintMore
set_option linter.unusedVariables false
set_option linter.unusedSimpArgs false
/-- The numbers a times as far apart and a times as great. -/
def spreadTail (a : Int) : List Int → List Int
  | [] => []
  | x :: t => List.replicate (a - 1).toNat 0 ++ (a * x) :: spreadTail a t
def spreadOf (a : Int) : List Int → List Int
  | [] => []
  | x :: t => a * x :: spreadTail a t
theorem spreadTail_length (a : Int) (h : 1 ≤ a) : ∀ l, (spreadTail a l).length = a.toNat * l.length
  | [] => by simp [spreadTail]
  | x :: t => by
    have ih := spreadTail_length a h t
    simp only [spreadTail, List.length_append, List.length_replicate, List.length_cons, ih]
    obtain ⟨m, rfl⟩ : ∃ m : Nat, a = (m : Int) := ⟨a.toNat, by omega⟩
    simp only [Int.toNat_natCast]
    rw [Nat.mul_succ]
    omega
/-- The place a times p lies a - 1 behind the first c places. -/
def PlaceAt (m p c : Nat) : Prop := (m : Int) * (p : Int) = ((c + (m - 1) : Nat) : Int)
theorem PlaceAt.wrap {m p c : Nat} (h : PlaceAt m p c) (hc : c ≤ 1000) (hm : m ≤ 10) : wrap64 ((m : Int) * (p : Int)) = ((c + (m - 1) : Nat) : Int) := by
  rw [show (m : Int) * (p : Int) = ((c + (m - 1) : Nat) : Int) from h]
  exact wrap_in (by omega) (by omega)
theorem PlaceAt.next {m p c : Nat} (h : PlaceAt m p c) (hm : 1 ≤ m) : PlaceAt m (p + 1) (c + (m - 1) + 1) := by
  unfold PlaceAt at h ⊢
  rw [Int.natCast_add p 1, Int.mul_add, h, Int.natCast_one, Int.mul_one]
  omega
theorem spread_set (acc : List Int) (m q : Nat) (y : Int) : (acc ++ List.replicate (m - 1 + (1 + q)) (0 : Int)).set (acc.length + (m - 1)) y = (acc ++ (List.replicate (m - 1) 0 ++ [y])) ++ List.replicate q 0 := by
  rw [List.set_append_right _ _ (by omega), Nat.add_sub_cancel_left, ← List.replicate_append_replicate, List.set_append_right _ _ (by simp), List.length_replicate, Nat.sub_self, Nat.add_comm 1, List.replicate_succ]
  simp
theorem succ_split (m n : Nat) (h : 1 ≤ m) : m * (n + 1) = (m - 1) + (1 + m * n) := by
  rw [Nat.mul_succ]
  generalize m * n = q
  omega
theorem mul_bounds {a x : Int} {n : Int} (h1 : 0 ≤ a) (h2 : a ≤ 10) (h3 : 0 ≤ x) (h4 : x ≤ n) : 0 ≤ a * x ∧ a * x ≤ 10 * n := ⟨Int.mul_nonneg h1 h3, Int.le_trans (Int.mul_le_mul_of_nonneg_right h2 h3) (Int.mul_le_mul_of_nonneg_left h4 (by omega))⟩
theorem mul_wrap {a x : Int} (h1 : 0 ≤ a) (h2 : a ≤ 10) (h3 : 0 ≤ x) (h4 : x ≤ 20) : wrap64 (a * x) = a * x := by
  have := mul_bounds h1 h2 h3 h4
  exact wrap_in (by omega) (by omega)
theorem spread_room2 (m n : Nat) (h1 : m ≤ 10) (h2 : n ≤ 40) : m * n + 1 ≤ 35184372088832 := by
  have := Nat.mul_le_mul h1 h2
  omega
theorem spread_room (m n : Nat) (h1 : m ≤ 10) (h2 : n ≤ 40) : wrap64 (wrap64 ((m : Int) * (n : Int)) + 1) = ((m * n + 1 : Nat) : Int) := by
  have := Nat.mul_le_mul h1 h2
  rw [← Int.natCast_mul]
  generalize m * n = q at this ⊢
  rw [wrap_in (n := (q : Int)) (by omega) (by omega), wrap_in (by omega) (by omega)]
  rfl
def spreadRow (l : List Int) (a : Int) : List Int × Bool := if isPairs l = true ∧ fitsAt l 0 = true ∧ 1 ≤ a ∧ a ≤ 10 then (if isRow (spreadOf a l) = true then (spreadOf a l, true) else ([], false)) else ([], false)
theorem spreadRow_no {l : List Int} {a : Int} (h : ¬ (isPairs l = true ∧ fitsAt l 0 = true ∧ 1 ≤ a ∧ a ≤ 10)) : spreadRow l a = ([], false) := if_neg h
theorem spreadRow_yes {l : List Int} {a : Int} (h1 : isPairs l = true) (h2 : fitsAt l 0 = true) (h3 : 1 ≤ a) (h4 : a ≤ 10) : spreadRow l a = if isRow (spreadOf a l) = true then (spreadOf a l, true) else ([], false) := if_pos ⟨h1, h2, h3, h4⟩
theorem spreadRow_len (l : List Int) (a : Int) : (spreadRow l a).1.length ≤ 40 := by
  unfold spreadRow
  split
  · split
    · rename_i h
      exact isRow_len h
    · simp
  · simp
theorem impl_SpreadRow.L0_val (a : Int) (h1 : 1 ≤ a) (h2 : a ≤ 10) : ∀ (suf pre acc : List Int), (pre ++ suf).length ≤ 40 → pre ≠ [] → acc.length + 10 * suf.length ≤ 1000 → (∀ x ∈ suf, 0 ≤ x ∧ x ≤ 20) → impl_SpreadRow.L0 a acc (pre ++ suf) ((pre ++ suf).length : Int) (pre.length : Int) = some (if isRow (acc ++ spreadTail a suf) = true then (acc ++ spreadTail a suf, true) else ([], false))
  | [], pre, acc, h, hp, ha, hx => by
    rw [impl_SpreadRow.L0_eq, range_end, impl_madeRow.F_val _ (by omega)]
    simp only [Option.bind_some, spreadTail, List.append_nil]
    all_goals (split <;> rfl)
  | x :: suf, pre, acc, h, hp, ha, hx => by
    have hx1 := hx x (by simp)
    have hm := mul_bounds (a := a) (x := x) (n := 20) (by omega) h2 hx1.1 hx1.2
    have hp' : 0 < pre.length := by cases pre with | nil => exact absurd rfl hp | cons _ _ => simp
    have ha' : acc.length + 10 * (suf.length + 1) ≤ 1000 := by simpa using ha
    have w1 : wrap64 (a - 1) = a - 1 := wrap_in (by omega) (by omega)
    have w2 : wrap64 (x * a) = a * x := by rw [Int.mul_comm]; exact wrap_in (by omega) (by omega)
    have e : (pre ++ [x]).length = pre.length + 1 := by simp
    rw [impl_SpreadRow.L0_eq, range_step, rd_mid, wrap_mid (pre := pre) (x := x) (suf := suf) (by omega), app_mid pre x suf, if_pos (by omega), w1, if_pos (by omega), if_pos (by omega), w2]
    simp only [Option.bind_some]
    rw [if_pos (by simp; omega), impl_SpreadRow.L0_val a h1 h2 suf (pre ++ [x]) _ (by simpa using h) (by simp) (by simp; omega) (fun y hy => hx y (by simp [hy]))]
    simp [spreadTail]
theorem impl_SpreadRow.F_val (l : List Int) (a : Int) (h : l.length < 4611686018427387904) : impl_SpreadRow.F l a = some (spreadRow l a) := by
  rw [impl_SpreadRow.F_eq, impl_fits.F_val l 0 h]
  simp only [Option.bind_some]
  by_cases hp : isPairs l = true
  · by_cases hf : fitsAt l 0 = true
    · rw [if_pos (by simp [hp, hf])]
      by_cases h1 : a < 1
      · rw [if_pos h1, impl_SpreadRow.J0_eq, if_pos rfl, spreadRow_no (by omega)]
      · rw [if_neg h1, impl_SpreadRow.J0_eq]
        by_cases h2 : a > 10
        · rw [if_pos (by simpa using h2), spreadRow_no (by omega)]
        · have hr := isPairs_row hp
          have hl := isRow_len hr
          rw [if_neg (by simpa using h2), spreadRow_yes hp hf (by omega) (by omega)]
          cases l with
          | nil =>
            rw [impl_SpreadRow.L0_eq, if_neg (by simp), impl_madeRow.F_val _ (by simp)]
            simp only [Option.bind_some, spreadOf]
            all_goals (split <;> rfl)
          | cons x t =>
            have hx1 := isRow_mem hr (x := x) (by simp)
            have hm := mul_bounds (a := a) (x := x) (n := 20) (by omega) (by omega) hx1.1 hx1.2
            have w2 : wrap64 (x * a) = a * x := by rw [Int.mul_comm]; exact wrap_in (by omega) (by omega)
            have hl' : t.length + 1 ≤ 40 := by simpa using hl
            have := impl_SpreadRow.L0_val a (by omega) (by omega) t [x] [a * x] (by simpa using hl) (by simp) (by simp; omega) (fun y hy => isRow_mem hr (by simp [hy]))
            rw [impl_SpreadRow.L0_eq, if_pos (by simp), if_pos (by omega), if_pos (by simp), if_neg (by omega), if_pos (by simp), show rd (x :: t) 0 = x from rfl, w2]
            rw [show wrap64 (0 + 1) = (([x] : List Int).length : Int) from by rw [wrap_in (by omega) (by omega)]; rfl]
            exact this
    · rw [if_neg (by simp [hf]), impl_SpreadRow.J0_eq, if_pos rfl, spreadRow_no (by simp [hf])]
  · rw [if_neg (by simp [hp]), impl_SpreadRow.J0_eq, if_pos rfl, spreadRow_no (by simp [hp])]
theorem spec_SpreadRow.L0_val (m : Nat) (h1 : 1 ≤ m) (h2 : m ≤ 10) : ∀ (suf pre acc : List Int), (pre ++ suf).length ≤ 40 → acc.length ≤ 10 * pre.length → PlaceAt m pre.length acc.length → (∀ x ∈ suf, 0 ≤ x ∧ x ≤ 20) → spec_SpreadRow.L0 (m : Int) (acc ++ List.replicate (m * suf.length) 0) (pre ++ suf) ((pre ++ suf).length : Int) (pre.length : Int) = some (if isRow (acc ++ spreadTail (m : Int) suf) = true then (acc ++ spreadTail (m : Int) suf, true) else ([], false))
  | [], pre, acc, h, ha, hq, hx => by
    have hp2 : pre.length ≤ 40 := by simpa using h
    rw [spec_SpreadRow.L0_eq, range_end, spec_hoIf.F_val _ (by simp; omega)]
    simp only [Option.bind_some, spreadTail, List.append_nil, List.length_nil, Nat.mul_zero, List.replicate_zero]
    all_goals (split <;> rfl)
  | x :: suf, pre, acc, h, ha, hq, hx => by
    have hx1 := hx x (by simp)
    have hp2 : pre.length + (suf.length + 1) ≤ 40 := by simpa using h
    have w1 := hq.wrap (by omega) h2
    have w2 := mul_wrap (a := (m : Int)) (x := x) (by omega) (by omega) hx1.1 hx1.2
    have e : (pre ++ [x]).length = pre.length + 1 := by simp
    have ei : (((acc.length + (m - 1) : Nat) : Int)).toNat = acc.length + (m - 1) := Int.toNat_natCast _
    have em : m * (x :: suf).length = (m - 1) + (1 + m * suf.length) := by rw [List.length_cons]; exact succ_split m suf.length h1
    have el : ((acc.length + (m - 1) : Nat) : Int) < ((acc ++ List.replicate (m - 1 + (1 + m * suf.length)) (0 : Int)).length : Int) := by rw [List.length_append, List.length_replicate]; generalize m * suf.length = q; omega
    have hq2 : PlaceAt m (pre ++ [x]).length (acc ++ (List.replicate (m - 1) 0 ++ [(m : Int) * x])).length := by
      have e4 : (acc ++ (List.replicate (m - 1) (0 : Int) ++ [(m : Int) * x])).length = acc.length + (m - 1) + 1 := by simp <;> omega
      rw [e, e4]
      exact hq.next h1
    have ha2 : (acc ++ (List.replicate (m - 1) 0 ++ [(m : Int) * x])).length ≤ 10 * (pre ++ [x]).length := by simp; omega
    rw [spec_SpreadRow.L0_eq, range_step, rd_mid, wrap_mid (pre := pre) (x := x) (suf := suf) (by omega), app_mid pre x suf, w1, if_pos (Int.natCast_nonneg _), em, if_pos el, ei, w2, spread_set acc m (m * suf.length) _, spec_SpreadRow.L0_val m h1 h2 suf (pre ++ [x]) _ (by simpa using h) ha2 hq2 (fun y hy => hx y (by simp [hy]))]
    have e3 : ((m : Int) - 1).toNat = m - 1 := by omega
    simp [spreadTail, e3]
theorem spec_SpreadRow.F_val (l : List Int) (a : Int) (h : l.length < 17592186044416) : spec_SpreadRow.F l a = some (spreadRow l a) := by
  rw [spec_SpreadRow.F_eq, spec_roIs.F_val l h]
  simp only [Option.bind_some]
  by_cases hp : isPairs l = true
  · rw [if_pos hp, spec_roFits.F_val l 0 h (isPairs_ok hp)]
    simp only [Option.bind_some]
    by_cases hf : fitsAt l 0 = true
    · rw [if_pos hf, spec_l1In.f_val]
      simp only [Option.bind_some]
      rw [spec_SpreadRow.J0_eq]
      by_cases h1 : 1 ≤ a ∧ a ≤ 10
      · have hr := isPairs_row hp
        have hl := isRow_len hr
        rw [if_neg (by simp [h1]), spreadRow_yes hp hf h1.1 h1.2]
        cases l with
        | nil =>
          rw [if_pos (by simp)]
          rfl
        | cons x t =>
          have hl' : t.length + 1 ≤ 40 := by simpa using hl
          have hx1 := isRow_mem hr (x := x) (by simp)
          have hm := mul_bounds (a := a) (x := x) (n := 20) (by omega) (by omega) hx1.1 hx1.2
          obtain ⟨m, rfl⟩ : ∃ m : Nat, a = (m : Int) := ⟨a.toNat, by omega⟩
          have hm1 : 1 ≤ m := by omega
          have hm2 : m ≤ 10 := by omega
          have w0 : wrap64 (((x :: t).length : Int) - 1) = (t.length : Int) := by rw [wrap_in (by simp <;> omega) (by simp; omega)]; simp
          have w1 : wrap64 (wrap64 ((m : Int) * (t.length : Int)) + 1) = ((m * t.length + 1 : Nat) : Int) := spread_room m t.length hm2 (by omega)
          have w3 : wrap64 ((m : Int) * 0) = 0 := by rw [Int.mul_zero]; exact wrap_in (by omega) (by omega)
          have w4 := mul_wrap (a := (m : Int)) (x := x) (by omega) (by omega) hx1.1 hx1.2
          have hq : PlaceAt m ([x] : List Int).length ([(m : Int) * x] : List Int).length := by
            unfold PlaceAt
            simp
            omega
          have hroom : m * t.length + 1 ≤ 35184372088832 := spread_room2 m t.length hm2 (by omega)
          have hlen : (0 : Int) < ((x :: t).length : Int) := by rw [List.length_cons]; omega
          have hlen0 : ¬ ((x :: t).length : Int) = 0 := by omega
          rw [if_neg hlen0, w0, w1, if_pos (Int.natCast_nonneg _), Int.toNat_natCast, if_pos hroom, spec_SpreadRow.L0_eq, if_pos hlen, if_pos (Int.le_refl 0), if_pos hlen, w3, if_pos (Int.le_refl 0), if_pos (by rw [List.length_replicate]; generalize m * t.length = q; omega), show rd (x :: t) 0 = x from rfl, w4, List.replicate_succ, show wrap64 (0 + 1) = (([x] : List Int).length : Int) from by rw [wrap_in (by omega) (by omega)]; rfl]
          exact spec_SpreadRow.L0_val m hm1 hm2 t [x] [(m : Int) * x] (by simpa using hl) (by simp) hq (fun y hy => isRow_mem hr (by simp [hy]))
      · rw [if_pos (by simp; omega), spreadRow_no (fun h => h1 h.2.2)]
    · rw [if_neg hf, spec_SpreadRow.J0_eq, if_pos rfl, spreadRow_no (by simp [hf])]
  · rw [if_neg hp, spec_SpreadRow.J0_eq, if_pos rfl, spreadRow_no (by simp [hp])]
/-- A number other than 0 of the first row stands in the second. -/
def commonOf (a b : List Int) : Bool := a.any fun x => decide (x ≠ 0) && decide (x ∈ b)
/-- The second row laid over the first one, from the place p on; none where two numbers meet. -/
def meshAt (acc : List Int) (p : Nat) : List Int → Option (List Int)
  | [] => some acc
  | x :: t => if p = acc.length then meshAt (acc ++ [x]) (p + 1) t else if x ≠ 0 ∧ rd acc p ≠ 0 then none else meshAt (if x ≠ 0 then acc.set p x else acc) (p + 1) t
theorem meshAt_length : ∀ (t acc : List Int) (p : Nat) (r : List Int), p ≤ acc.length → meshAt acc p t = some r → r.length ≤ acc.length + t.length
  | [], acc, p, r, hp, h => by
    simp only [meshAt, Option.some.injEq] at h
    subst h
    simp
  | x :: t, acc, p, r, hp, h => by
    rw [meshAt] at h
    split at h
    · have := meshAt_length t _ (p + 1) r (by simp; omega) h
      simp at this ⊢
      omega
    · split at h
      · cases h
      · split at h
        · have := meshAt_length t _ (p + 1) r (by simp; omega) h
          simp at this ⊢
          omega
        · have := meshAt_length t _ (p + 1) r (by omega) h
          simp at this ⊢
          omega
/-- What comes of a list that may be a row. -/
def rowOr : Option (List Int) → List Int × Bool
  | none => ([], false)
  | some r => if isRow r = true then (r, true) else ([], false)
def meshRows (a b : List Int) (p : Int) : List Int × Bool := if isPairs a = true ∧ isPairs b = true ∧ 0 ≤ p ∧ p ≤ (a.length : Int) ∧ commonOf a b = false then rowOr (meshAt a p.toNat b) else ([], false)
theorem meshRows_no {a b : List Int} {p : Int} (h : ¬ (isPairs a = true ∧ isPairs b = true ∧ 0 ≤ p ∧ p ≤ (a.length : Int) ∧ commonOf a b = false)) : meshRows a b p = ([], false) := if_neg h
theorem meshRows_yes {a b : List Int} {p : Int} (h : isPairs a = true ∧ isPairs b = true ∧ 0 ≤ p ∧ p ≤ (a.length : Int) ∧ commonOf a b = false) : meshRows a b p = rowOr (meshAt a p.toNat b) := if_pos h
theorem rowOr_len (o : Option (List Int)) : (rowOr o).1.length ≤ 40 := by
  unfold rowOr
  split
  · simp
  · split
    · rename_i h
      exact isRow_len h
    · simp
theorem meshRows_len (a b : List Int) (p : Int) : (meshRows a b p).1.length ≤ 40 := by
  unfold meshRows
  split
  · exact rowOr_len _
  · simp
theorem commonOf_comm (a b : List Int) : commonOf a b = commonOf b a := by
  unfold commonOf
  rw [Bool.eq_iff_iff, List.any_eq_true, List.any_eq_true]
  simp only [Bool.and_eq_true, decide_eq_true_eq]
  exact ⟨fun ⟨x, h1, h2, h3⟩ => ⟨x, h3, h2, h1⟩, fun ⟨x, h1, h2, h3⟩ => ⟨x, h3, h2, h1⟩⟩
theorem spec_hoCommon.L0_val (b : List Int) (hb : b.length < 4611686018427387904) : ∀ (suf pre : List Int), (pre ++ suf).length < 4611686018427387904 → spec_hoCommon.L0 b (pre ++ suf) ((pre ++ suf).length : Int) (pre.length : Int) = some (commonOf suf b)
  | [], pre, h => by
    rw [spec_hoCommon.L0_eq, range_end]
    rfl
  | x :: suf, pre, h => by
    rw [spec_hoCommon.L0_eq, range_step, rd_mid, wrap_mid h, app_mid pre x suf, spec_hoCommon.L0_val b hb suf (pre ++ [x]) (by simpa using h), spec_l1Has.F_val b x hb]
    simp only [Option.bind_some]
    unfold commonOf
    rw [List.any_cons]
    by_cases h1 : x = 0
    · rw [if_pos h1]
      simp [h1]
    · rw [if_neg h1]
      by_cases h2 : x ∈ b
      · rw [if_pos (by simpa using h2)]
        simp [h1, h2]
      · rw [if_neg (by simpa using h2)]
        simp [h1, h2]
theorem spec_hoCommon.F_val (a b : List Int) (ha : a.length < 4611686018427387904) (hb : b.length < 4611686018427387904) : spec_hoCommon.F a b = some (commonOf a b) := by
  rw [spec_hoCommon.F_eq]
  have := spec_hoCommon.L0_val b hb a [] (by simpa using ha)
  simpa using this
theorem rd_append_left (a b : List Int) (p : Nat) (h : p < a.length) : rd (a ++ b) (p : Int) = rd a p := by
  unfold rd
  simp [List.getD_eq_getElem?_getD, List.getElem?_append_left h]
theorem rd_append_zero (a : List Int) (n : Nat) : rd (a ++ List.replicate n 0) (a.length : Int) = 0 := by
  unfold rd
  rw [Int.toNat_natCast, List.getD_eq_getElem?_getD, List.getElem?_append_right (Nat.le_refl _), Nat.sub_self]
  cases n <;> simp
theorem spec_hoMesh.L1_val (p0 : Int) (hp0 : 0 ≤ p0) (hp1 : p0 ≤ 100) : ∀ (suf pre acc : List Int) (p : Nat), (pre ++ suf).length ≤ 40 → (p : Int) = p0 + pre.length → p ≤ acc.length → spec_hoMesh.L1 p0 (acc ++ List.replicate (p + suf.length - acc.length) 0) (pre ++ suf) ((pre ++ suf).length : Int) (pre.length : Int) = some ((match meshAt acc p suf with | none => ([], false) | some r => (r, true)))
  | [], pre, acc, p, h, hp, hpa => by
    have e : p + ([] : List Int).length - acc.length = 0 := by simp; omega
    rw [spec_hoMesh.L1_eq, range_end, e]
    simp [meshAt]
  | x :: suf, pre, acc, p, h, hp, hpa => by
    have h' : pre.length + (suf.length + 1) ≤ 40 := by simpa using h
    have w1 : wrap64 (p0 + (pre.length : Int)) = (p : Int) := by rw [← hp]; exact wrap_in (by omega) (by omega)
    have eq : ((pre ++ [x]).length : Int) = (pre.length : Int) + 1 := by simp
    rw [spec_hoMesh.L1_eq, range_step, rd_mid]
    simp only [spec_hoMesh.J2_eq, Bool.false_eq_true, if_false]
    rw [w1, wrap_mid (pre := pre) (x := x) (suf := suf) (by omega), app_mid pre x suf]
    have hlen : (p : Int) < ((acc ++ List.replicate (p + (x :: suf).length - acc.length) (0 : Int)).length : Int) := by simp; omega
    have hp00 : (0 : Int) ≤ (p : Int) := Int.natCast_nonneg p
    simp only [hp00, hlen, if_true, Int.toNat_natCast]
    by_cases hpe : p = acc.length
    · have em : p + (x :: suf).length - acc.length = 1 + suf.length := by simp; omega
      have em2 : p + 1 + suf.length - (acc ++ [x]).length = suf.length := by simp; omega
      have ih := spec_hoMesh.L1_val p0 hp0 hp1 suf (pre ++ [x]) (acc ++ [x]) (p + 1) (by simpa using h) (by rw [eq]; omega) (by simp; omega)
      rw [em2] at ih
      rw [em, meshAt, if_pos hpe]
      by_cases hx : x = 0
      · subst hx
        rw [if_pos rfl, if_pos rfl]
        rw [← ih, ← List.replicate_append_replicate]
        simp
      · have hz : rd (acc ++ List.replicate (1 + suf.length) 0) (p : Int) = 0 := by rw [hpe]; exact rd_append_zero _ _
        simp only [hx, hz, if_false, bne_self_eq_false, Bool.false_eq_true]
        rw [← ih, hpe, List.set_append_right _ _ (Nat.le_refl _), Nat.sub_self, Nat.add_comm 1, List.replicate_succ]
        simp
    · have hlt : p < acc.length := by omega
      rw [meshAt, if_neg hpe, rd_append_left _ _ _ hlt]
      have em : ∀ acc' : List Int, acc'.length = acc.length → p + 1 + suf.length - acc'.length = p + (x :: suf).length - acc.length := fun acc' h => by rw [h, List.length_cons]; omega
      by_cases hx : x = 0
      · have ih := spec_hoMesh.L1_val p0 hp0 hp1 suf (pre ++ [x]) acc (p + 1) (by simpa using h) (by rw [eq]; omega) (by omega)
        rw [em acc rfl] at ih
        rw [if_pos hx, if_pos hx, ih, if_neg (fun h => h.1 hx), if_neg (fun h => h hx)]
      · have ih := spec_hoMesh.L1_val p0 hp0 hp1 suf (pre ++ [x]) (acc.set p x) (p + 1) (by simpa using h) (by rw [eq]; omega) (by simp; omega)
        rw [em (acc.set p x) (by simp)] at ih
        by_cases hr : rd acc (p : Int) = 0
        · simp only [hx, hr, if_false, bne_self_eq_false, Bool.false_eq_true, ne_eq, not_true_eq_false, and_false, not_false_eq_true, if_true]
          rw [List.set_append_left _ _ hlt]
          exact ih
        · have hr2 : (rd acc (p : Int) != 0) = true := by simp [hr]
          simp only [hx, hr, hr2, if_false, if_true, ne_eq, not_false_eq_true, and_self]
theorem spec_hoMesh.L0_val (b : List Int) (p0 : Int) (hp0 : 0 ≤ p0) (hp1 : p0 ≤ 100) (hb : b.length ≤ 40) : ∀ (n : Nat) (acc : List Int), acc.length + n ≤ 1000 → n = (p0 + b.length).toNat - acc.length → spec_hoMesh.L0 b p0 acc = spec_hoMesh.L1 p0 (acc ++ List.replicate n 0) b (b.length : Int) 0
  | 0, acc, ha, hn => by
    have w1 : wrap64 (p0 + (b.length : Int)) = p0 + (b.length : Int) := wrap_in (by omega) (by omega)
    rw [spec_hoMesh.L0_eq, w1, if_neg (by omega)]
    simp
  | n + 1, acc, ha, hn => by
    have w1 : wrap64 (p0 + (b.length : Int)) = p0 + (b.length : Int) := wrap_in (by omega) (by omega)
    rw [spec_hoMesh.L0_eq, w1, if_pos (by omega), if_pos (by omega), spec_hoMesh.L0_val b p0 hp0 hp1 hb n (acc ++ [0]) (by simp; omega) (by simp; omega), List.replicate_succ]
    simp
theorem spec_hoMesh.F_val (a b : List Int) (p : Int) (h0 : 0 ≤ p) (h1 : p ≤ (a.length : Int)) (ha : a.length ≤ 40) (hb : b.length ≤ 40) : spec_hoMesh.F a b p = some ((match meshAt a p.toNat b with | none => ([], false) | some r => (r, true))) := by
  rw [spec_hoMesh.F_eq, spec_l1Own.f_val a (by omega)]
  simp only [Option.bind_some]
  rw [spec_hoMesh.L0_val b p h0 (by omega) hb (p.toNat + b.length - a.length) a (by omega) (by omega)]
  exact spec_hoMesh.L1_val p h0 (by omega) b [] a p.toNat (by simpa using hb) (by simp; omega) (by omega)
theorem spec_MeshRows.F_val (a b : List Int) (p : Int) (ha : a.length < 17592186044416) (hb : b.length < 17592186044416) : spec_MeshRows.F a b p = some (meshRows a b p) := by
  rw [spec_MeshRows.F_eq, spec_roIs.F_val a ha, spec_roIs.F_val b hb, spec_l1In.f_val]
  simp only [Option.bind_some]
  by_cases h1 : isPairs a = true
  · rw [if_pos h1]
    by_cases h2 : isPairs b = true
    · rw [if_pos h2]
      by_cases h3 : 0 ≤ p ∧ p ≤ (a.length : Int)
      · rw [if_pos (by simp [h3]), spec_hoCommon.F_val a b (by omega) (by omega)]
        simp only [Option.bind_some]
        rw [spec_MeshRows.J0_eq]
        by_cases h4 : commonOf a b = true
        · rw [if_pos h4, meshRows_no (by simp [h4])]
        · have l1 := isRow_len (isPairs_row h1)
          have l2 := isRow_len (isPairs_row h2)
          rw [if_neg h4, meshRows_yes ⟨h1, h2, h3.1, h3.2, by simpa using h4⟩, spec_hoMesh.F_val a b p h3.1 h3.2 l1 l2]
          simp only [Option.bind_some]
          cases hm : meshAt a p.toNat b with
          | none => rfl
          | some r =>
            have := meshAt_length b a p.toNat r (by omega) hm
            simp only [if_true]
            rw [spec_hoIf.F_val r (by omega)]
            rfl
      · rw [if_neg (by simp; omega), spec_MeshRows.J0_eq, if_pos rfl, meshRows_no (fun h => h3 ⟨h.2.2.1, h.2.2.2.1⟩)]
    · rw [if_neg h2, spec_MeshRows.J0_eq, if_pos rfl, meshRows_no (fun h => h2 h.2.1)]
  · rw [if_neg h1, spec_MeshRows.J0_eq, if_pos rfl, meshRows_no (fun h => h1 h.1)]
theorem impl_MeshRows.L0_val (a : List Int) (ha : a.length ≤ 40) (p0 : Int) (hp0 : 0 ≤ p0) (hp1 : p0 ≤ 100) : ∀ (suf pre acc : List Int) (p : Nat), (pre ++ suf).length ≤ 40 → acc.length + suf.length ≤ 1000 → (p : Int) = p0 + pre.length → p ≤ acc.length → (∀ x ∈ suf, 0 ≤ x) → (∀ x ∈ acc, 0 ≤ x) → impl_MeshRows.L0 a p0 acc (pre ++ suf) ((pre ++ suf).length : Int) (pre.length : Int) = some (if commonOf suf a = true then ([], false) else rowOr (meshAt acc p suf))
  | [], pre, acc, p, h, hl, hp, hpa, hs, hx => by
    rw [impl_MeshRows.L0_eq, range_end, impl_madeRow.F_val acc (by simp at hl; omega)]
    simp only [Option.bind_some, commonOf, List.any_nil, Bool.false_eq_true, if_false, meshAt]
    rfl
  | x :: suf, pre, acc, p, h, hl, hp, hpa, hs, hx => by
    have h' : pre.length + (suf.length + 1) ≤ 40 := by simpa using h
    have hx0 := hs x (by simp)
    have hl : acc.length + (suf.length + 1) ≤ 1000 := by simpa using hl
    have w1 : wrap64 (p0 + (pre.length : Int)) = (p : Int) := by rw [← hp]; exact wrap_in (by omega) (by omega)
    have eq : ((pre ++ [x]).length : Int) = (pre.length : Int) + 1 := by simp
    have hs' : ∀ y ∈ suf, 0 ≤ y := fun y hy => hs y (by simp [hy])
    have hgt : (x > 0) ↔ x ≠ 0 := by omega
    rw [impl_MeshRows.L0_eq, range_step, rd_mid, slices_Contains_int_int.F_val a x (by omega)]
    simp only [impl_MeshRows.J2_eq, impl_MeshRows.J3_eq, Option.bind_some, Bool.false_eq_true, if_false, decide_eq_true_eq]
    rw [w1, wrap_mid (pre := pre) (x := x) (suf := suf) (by omega), app_mid pre x suf]
    have ec : commonOf (x :: suf) a = ((decide (x ≠ 0) && decide (x ∈ a)) || commonOf suf a) := by unfold commonOf; rw [List.any_cons]
    rw [ec]
    by_cases hc : x ≠ 0 ∧ x ∈ a
    · rw [if_pos (hgt.2 hc.1), if_pos hc.2, if_pos (by simp [hc])]
    · have e2 : (decide (x ≠ 0) && decide (x ∈ a)) = false := by simpa using hc
      rw [e2, Bool.false_or, meshAt]
      by_cases hpe : p = acc.length
      · have ih := impl_MeshRows.L0_val a ha p0 hp0 hp1 suf (pre ++ [x]) (acc ++ [x]) (p + 1) (by simpa using h) (by simp; omega) (by rw [eq]; omega) (by simp; omega) hs' (fun y hy => by rcases List.mem_append.1 hy with h | h; exact hx y h; simp at h; omega)
        have hpe2 : (p : Int) = (acc.length : Int) := by omega
        have hal : acc.length < 17592186044416 := by omega
        by_cases hz : x = 0
        · have hz2 : ¬ x > 0 := by omega
          rw [hpe] at ih
          simp only [hz2, hpe, hal, if_true, if_false]
          exact ih
        · have hxp : x > 0 := by omega
          have hxa : ¬ x ∈ a := fun h => hc ⟨hz, h⟩
          rw [hpe] at ih
          simp only [hxp, hxa, hpe, hal, if_true, if_false]
          exact ih
      · have hlt : p < acc.length := by omega
        have hrd : 0 ≤ rd acc (p : Int) := by rw [rd_nat acc p hlt]; exact hx _ (List.getElem_mem hlt)
        have hp00 : (0 : Int) ≤ (p : Int) := Int.natCast_nonneg p
        have hpe2 : ¬ (p : Int) = (acc.length : Int) := by omega
        have hpl : (p : Int) < (acc.length : Int) := by omega
        by_cases hz : x = 0
        · have ih := impl_MeshRows.L0_val a ha p0 hp0 hp1 suf (pre ++ [x]) acc (p + 1) (by simpa using h) (by omega) (by rw [eq]; omega) (by omega) hs' hx
          have hz2 : ¬ x > 0 := by omega
          have hz3 : ¬ x ≠ 0 := fun h => h hz
          simp only [hz2, hz3, hpe, hpe2, false_and, if_false, ih]
        · have hxp : x > 0 := by omega
          have hxa : ¬ x ∈ a := fun h => hc ⟨hz, h⟩
          by_cases hr : rd acc (p : Int) = 0
          · have ih := impl_MeshRows.L0_val a ha p0 hp0 hp1 suf (pre ++ [x]) (acc.set p x) (p + 1) (by simpa using h) (by simp; omega) (by rw [eq]; omega) (by simp; omega) hs' (fun y hy => by rcases List.mem_or_eq_of_mem_set hy with h | h; exact hx y h; omega)
            have hr2 : ¬ (0 : Int) > 0 := by omega
            simp only [hxp, hxa, hpe, hpe2, hp00, hpl, hr, hr2, ne_eq, hz, not_false_eq_true, not_true_eq_false, and_false, if_true, if_false, Int.toNat_natCast, ih]
          · have hr2 : rd acc (p : Int) > 0 := by omega
            simp only [hxp, hxa, hpe, hpe2, hp00, hpl, hr, hr2, ne_eq, hz, not_false_eq_true, and_self, if_true, if_false, Int.toNat_natCast, rowOr, ite_self]
theorem impl_MeshRows.F_val (a b : List Int) (p : Int) (ha : a.length < 17592186044416) (hb : b.length < 17592186044416) : impl_MeshRows.F a b p = some (meshRows a b p) := by
  rw [impl_MeshRows.F_eq, impl_isPairs.F_val a (by omega), impl_isPairs.F_val b (by omega)]
  simp only [Option.bind_some]
  by_cases h1 : isPairs a = true
  · rw [if_pos h1]
    by_cases h2 : isPairs b = true
    · rw [if_pos h2, impl_MeshRows.J0_eq, impl_MeshRows.J0_eq]
      by_cases h3 : 0 ≤ p ∧ p ≤ (a.length : Int)
      · have l1 := isRow_len (isPairs_row h1)
        have l2 := isRow_len (isPairs_row h2)
        have := impl_MeshRows.L0_val a l1 p h3.1 (by omega) b [] a p.toNat (by simpa using l2) (by omega) (by simp; omega) (by omega) (fun x hx => (isRow_mem (isPairs_row h2) hx).1) (fun x hx => (isRow_mem (isPairs_row h1) hx).1)
        rw [if_neg (by omega), if_neg (by simp; omega), slices_Clone_int_int.f_val a (by omega)]
        simp only [Option.bind_some]
        refine Eq.trans this ?_
        rw [commonOf_comm]
        by_cases h4 : commonOf a b = true
        · rw [if_pos h4, meshRows_no (by simp [h4])]
        · rw [if_neg h4, meshRows_yes ⟨h1, h2, h3.1, h3.2, by simpa using h4⟩]
      · rw [meshRows_no (fun h => h3 ⟨h.2.2.1, h.2.2.2.1⟩)]
        by_cases h4 : p < 0
        · rw [if_pos h4, if_pos rfl]
        · rw [if_neg h4, if_pos (by simp; omega)]
    · rw [if_neg h2, impl_MeshRows.J0_eq, if_pos rfl, meshRows_no (fun h => h2 h.2.1)]
  · rw [if_neg h1, impl_MeshRows.J0_eq, if_pos rfl, meshRows_no (fun h => h1 h.1)]
end Go.Proofs.Ytmhcgihkijiecaa.Fn
namespace Go.Proofs.Ytmhcgihkijiecaa.Pure
open Go.RowKit Go.Proofs.Ytmhcgihkijiecaa.Fn Go.Proofs.YtmhcgihkijiecaaW.PrintWords Go.Proofs.YtmhcgihkijiecaaW.PrintLast Go.Proofs.YtmhcgihkijiecaaW.PrintMore
set_option linter.unusedVariables false
set_option linter.unusedSimpArgs false
theorem FnExactSpreadRow : laws_FnExactSpreadRow.Pure := by
  intro l0 a1 _ _ _ _
  refine Lim.rounds (laws_FnExactSpreadRow.F_lim l0 a1) ?_
  rw [laws_FnExactSpreadRow.F_eq]
  by_cases h0 : (l0.length : Int) > 1048576
  · rw [if_pos h0]
  have hr := spreadRow_len l0 a1
  have e0 := laws_toIntS.F_val l0 (by omega)
  have s := spec_SpreadRow.F_val l0 a1 (by omega)
  have i := impl_SpreadRow.F_val l0 a1 (by omega)
  have q := laws_eqIntS.F_same (spreadRow l0 a1).1 (by omega)
  have q0 := laws_eqIntS.F_same l0 (by omega)
  have m0 := laws_markIntS.F_val l0 1 (by omega) (by omega)
  have m := laws_markIntS.F_val (spreadRow l0 a1).1 1 (by omega) (by omega)
  have g := laws_heldIntS.F_val (spreadRow l0 a1).1.length 1 (by omega) (by omega)
  have n1 : ¬ ((1 : Int) + l0.length < 0) := by omega
  have n2 : ¬ ((1 : Int) + (spreadRow l0 a1).1.length < 0) := by omega
  rw [if_neg h0]
  simp only [e0, s, i, q, Option.bind_some, if_true, bne_self_eq_false, laws_FnExactSpreadRow.J0_eq, laws_FnExactSpreadRow.J1_eq, laws_FnExactSpreadRow.J2_eq, q0, m0, m, g, n1, n2, if_false, Bool.false_eq_true]
end Go.Proofs.Ytmhcgihkijiecaa.Pure
