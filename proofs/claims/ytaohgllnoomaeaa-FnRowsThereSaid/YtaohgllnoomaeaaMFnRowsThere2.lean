/- The machine's side and plain lemmas for FnRowsThere: texts of this session, merged by its program (part 2). -/
import Derived.Laws.Rows
import Derived.Test.YtaohgllnoomaeaaMFnRowsThere0
import Derived.Test.YtaohgllnoomaeaaMFnRowsThere1
namespace Go.Proofs.Ytaohgllnoomaeaa.Fn
open Go.RowKit Go.Proofs.YtaohgllnoomaeaaW.PrintWords Go.Proofs.YtaohgllnoomaeaaW.PrintLast Go.Proofs.YtaohgllnoomaeaaW.PrintMore
attribute [local go_sem] max2_int min2_int max_two min_two max_three min_three max_four min_four   -- for this text's walks alone
set_option linter.unusedVariables false
set_option linter.unusedSimpArgs false

/-! ### laws_jSame: function 20 -/
def laws_jSame.l0 : Nat → List Int → List Int → Int → Int → Option (Bool)
  | 0, _, _, _, _ => none
  | k + 1, x0, x1, x12, x13 => if x13 < x12 then (if 0 ≤ x13 then (if x13 < (x0.length : Int) then (if x13 < (x1.length : Int) then (if (rd x0 x13) = (rd x1 x13) then (laws_jSame.l0 k x0 x1 x12 (wrap64 (x13 + 1))) else (some false)) else (none)) else (none)) else (none)) else (some true)
def laws_jSame.f (k : Nat) (l0 : List Int) (l1 : List Int) : Option (Bool) := if (l0.length : Int) = (l1.length : Int) then (laws_jSame.l0 k l0 l1 (l0.length : Int) 0) else (some false)
theorem laws_jSame.mono_l : ∀ k, (∀ y0 y1 y2 y3, LeO (laws_jSame.l0 k y0 y1 y2 y3) (laws_jSame.l0 (k + 1) y0 y1 y2 y3))
  | 0 => fun _ _ _ _ r h => by simp [laws_jSame.l0] at h
  | k + 1 => by
    have ih0 := laws_jSame.mono_l k
    · intro y0 y1 y2 y3
      unfold laws_jSame.l0
      repeat' first
      | (with_reducible exact ih0 _ _ _ _)
      | (with_reducible exact LeO.refl _)
      | (with_reducible exact LeO.none _)
      | (with_reducible refine LeO.ite ?_ ?_)
      | (with_reducible refine LeO.bind ?_ (fun _ => ?_))
      | exact ih0 _ _ _ _
      | exact LeO.none _
      | refine LeO.ite ?_ ?_
      | refine LeO.bind ?_ (fun _ => ?_)
theorem laws_jSame.mono : ∀ a0 a1 k, LeO (laws_jSame.f k a0 a1) (laws_jSame.f (k + 1) a0 a1) := by
  intro a0 a1 k
  have ih0 := laws_jSame.mono_l k
  unfold laws_jSame.f
  repeat' first
      | (with_reducible exact ih0 _ _ _ _)
      | (with_reducible exact LeO.refl _)
      | (with_reducible exact LeO.none _)
      | (with_reducible refine LeO.ite ?_ ?_)
      | (with_reducible refine LeO.bind ?_ (fun _ => ?_))
      | exact ih0 _ _ _ _
      | exact LeO.none _
      | refine LeO.ite ?_ ?_
      | refine LeO.bind ?_ (fun _ => ?_)
set_option maxHeartbeats 8000000 in
set_option maxRecDepth 100000 in
theorem laws_jSame.calls (k : Nat) (A0 : Option Addr) (c0 : Nat) (l0 : List Int) (A1 : Option Addr) (c1 : Nat) (l1 : List Int) (r : Bool) (w : World) (hr0 : Kd.C (Kd.int .i64) w A0 l0.length l0) (hc0 : l0.length ≤ c0) (hr1 : Kd.C (Kd.int .i64) w A1 l1.length l1) (hc1 : l1.length ≤ c1) (h : laws_jSame.f k l0 l1 = some r) :
    Calls Try.prog 20 #[.slice A0 l0.length c0, .slice A1 l1.length c1] w fun e w' => e = .returned (.bool r) ∧ Drawn0 w w' := by
  have HR0 := Aside0.mk hr0
  have HC0 := Aside0.mk hc0
  clear hr0 hc0
  have HR1 := Aside0.mk hr1
  have HC1 := Aside0.mk hc1
  clear hr1 hc1
  have H : (if (l0.length : Int) = (l1.length : Int) then (laws_jSame.l0 k l0 l1 (l0.length : Int) 0) else (some false)) = some r := h
  clear h
  by_cases c3 : (l0.length : Int) = (l1.length : Int)
  · rw [if_pos c3] at H
    have c3b0 : ((l0.length : Int) == (l1.length : Int)) = true := beq_iff_eq.mpr c3
    have c3b1 : ((l0.length : Int) != (l1.length : Int)) = false := bne_eq_false_iff_eq.mpr c3
    have c3b2 : (l0.length == l1.length) = true := by first | simpa using c3 | (simp at c3 ⊢; omega)
    clear c3
    have H' := Aside0.mk H
    clear H
    go_enter Try.func20, Try.ntmps20
    go_wp2
    repeat (go_quiet (fail); try go_wp2)
    go_loopg [13] k (fun kq v13 w' => ∃ (x13_1 : Int), v13 = .int .i64 x13_1 ∧ Aside0 (laws_jSame.l0 kq l0 l1 (l0.length : Int) x13_1 = some r) ∧ Aside0 (kq ≤ k) ∧ Drawn0 w w')
    case atStart => exact ⟨(0), (by first | rfl | (simp; done) | (simp [*]; done)), H', ⟨Nat.le_refl _⟩, by repeat (first | exact Drawn0.refl _ | apply Drawn0.step)⟩
    case round =>
      clear H'
      try clear c1
      try clear c2
      try clear p2
      try clear c3
      try clear c3b0
      try clear c3b1
      try clear c3b2
      obtain ⟨x13_1, rfl, HA, HK1, ⟨m1, rfl⟩⟩ := hrel
      cases gk with
      | zero => exact absurd HA.out (by simp [laws_jSame.l0])
      | succ k1 =>
        have H := HA.out
        clear HA
        simp only [laws_jSame.l0] at H
        by_cases c4 : x13_1 < (l0.length : Int)
        · rw [if_pos c4] at H
          have c4b0 : decide (x13_1 < (l0.length : Int)) = true := decide_eq_true c4
          clear c4
          by_cases c5 : 0 ≤ x13_1
          · rw [if_pos c5] at H
            have c5b0 : decide (0 ≤ x13_1) = true := decide_eq_true c5
            clear c5
            by_cases c6 : x13_1 < (l0.length : Int)
            · rw [if_pos c6] at H
              have c6b0 : decide (x13_1 < (l0.length : Int)) = true := decide_eq_true c6
              clear c6
              by_cases c7 : x13_1 < (l1.length : Int)
              · rw [if_pos c7] at H
                have c7b0 : decide (x13_1 < (l1.length : Int)) = true := decide_eq_true c7
                clear c7
                by_cases c8 : (rd l0 x13_1) = (rd l1 x13_1)
                · rw [if_pos c8] at H
                  have c8b0 : ((rd l0 x13_1) == (rd l1 x13_1)) = true := beq_iff_eq.mpr c8
                  have c8b1 : ((rd l0 x13_1) != (rd l1 x13_1)) = false := bne_eq_false_iff_eq.mpr c8
                  clear c8
                  have H' := Aside0.mk H
                  clear H
                  have p140 : 0 ≤ (x13_1 : Int) := of_decide_eq_true (by first | (with_reducible assumption) | assumption)
                  have q140 : x13_1 < (l0.length : Int) := of_decide_eq_true (by first | (with_reducible assumption) | assumption)
                  obtain ⟨ad140, e140, hx140_0⟩ := Kd.at_int HR0.out x13_1 p140 q140
                  cases e140
                  replace p140 := eq_true p140
                  replace q140 := eq_true q140
                  have p141 : 0 ≤ (x13_1 : Int) := of_decide_eq_true (by first | (with_reducible assumption) | assumption)
                  have q141 : x13_1 < (l1.length : Int) := of_decide_eq_true (by first | (with_reducible assumption) | assumption)
                  obtain ⟨ad141, e141, hx141_0⟩ := Kd.at_int HR1.out x13_1 p141 q141
                  cases e141
                  replace p141 := eq_true p141
                  replace q141 := eq_true q141
                  go_wp2
                  repeat (go_quiet (fail); try go_wp2)
                  go_roundg k1
                  case measure => have := HK1.out; omega
                  case rel => exact ⟨(wrap64 (x13_1 + 1)), (by first | rfl | (simp; done) | (simp [*]; done)), H', ⟨by have := HK1.out; omega⟩, by repeat (first | exact Drawn0.refl _ | apply Drawn0.step)⟩
                · rw [if_neg c8] at H
                  have c8b0 : ((rd l0 x13_1) == (rd l1 x13_1)) = false := beq_eq_false_iff_ne.mpr c8
                  have c8b1 : ((rd l0 x13_1) != (rd l1 x13_1)) = true := bne_iff_ne.mpr c8
                  obtain rfl := Option.some.inj H
                  have p140 : 0 ≤ (x13_1 : Int) := of_decide_eq_true (by first | (with_reducible assumption) | assumption)
                  have q140 : x13_1 < (l0.length : Int) := of_decide_eq_true (by first | (with_reducible assumption) | assumption)
                  obtain ⟨ad140, e140, hx140_0⟩ := Kd.at_int HR0.out x13_1 p140 q140
                  cases e140
                  replace p140 := eq_true p140
                  replace q140 := eq_true q140
                  have p141 : 0 ≤ (x13_1 : Int) := of_decide_eq_true (by first | (with_reducible assumption) | assumption)
                  have q141 : x13_1 < (l1.length : Int) := of_decide_eq_true (by first | (with_reducible assumption) | assumption)
                  obtain ⟨ad141, e141, hx141_0⟩ := Kd.at_int HR1.out x13_1 p141 q141
                  cases e141
                  replace p141 := eq_true p141
                  replace q141 := eq_true q141
                  go_wp2
                  repeat (go_quiet (fail); try go_wp2)
                  go_ret
                  exact ⟨by first | rfl | (simp; done) | (simp [*]; done), by repeat (first | exact Drawn0.refl _ | apply Drawn0.step)⟩
              · rw [if_neg c7] at H
                exact absurd H (by simp)
            · rw [if_neg c6] at H
              exact absurd H (by simp)
          · rw [if_neg c5] at H
            exact absurd H (by simp)
        · rw [if_neg c4] at H
          have c4b0 : decide (x13_1 < (l0.length : Int)) = false := decide_eq_false c4
          clear c4
          obtain rfl := Option.some.inj H
          go_wp2
          repeat (go_quiet (fail); try go_wp2)
          go_ret
          exact ⟨by first | rfl | (simp; done) | (simp [*]; done), by repeat (first | exact Drawn0.refl _ | apply Drawn0.step)⟩
  · rw [if_neg c3] at H
    have c3b0 : ((l0.length : Int) == (l1.length : Int)) = false := beq_eq_false_iff_ne.mpr c3
    have c3b1 : ((l0.length : Int) != (l1.length : Int)) = true := bne_iff_ne.mpr c3
    have c3b2 : (l0.length == l1.length) = false := by first | simpa using c3 | (simp at c3 ⊢; omega)
    obtain rfl := Option.some.inj H
    go_enter Try.func20, Try.ntmps20
    go_wp2
    repeat (go_quiet (fail); try go_wp2)
    go_ret
    exact ⟨by first | rfl | (simp; done) | (simp [*]; done), by repeat (first | exact Drawn0.refl _ | apply Drawn0.step)⟩

noncomputable def laws_jSame.L0 (x0 : List Int) (x1 : List Int) (x12 : Int) (x13 : Int) : Option (Bool) := lim fun k => laws_jSame.l0 k x0 x1 x12 x13
theorem laws_jSame.L0_lim (x0 : List Int) (x1 : List Int) (x12 : Int) (x13 : Int) : Lim (fun k => laws_jSame.l0 k x0 x1 x12 x13) (laws_jSame.L0 x0 x1 x12 x13) := Lim.of fun k => (laws_jSame.mono_l k) x0 x1 x12 x13
noncomputable def laws_jSame.F (l0 : List Int) (l1 : List Int) : Option (Bool) := lim fun k => laws_jSame.f k l0 l1
theorem laws_jSame.F_lim (l0 : List Int) (l1 : List Int) : Lim (fun k => laws_jSame.f k l0 l1) (laws_jSame.F l0 l1) := Lim.of fun k => laws_jSame.mono l0 l1 k
theorem laws_jSame.L0_eq (x0 : List Int) (x1 : List Int) (x12 : Int) (x13 : Int) : laws_jSame.L0 x0 x1 x12 x13 = (if x13 < x12 then (if 0 ≤ x13 then (if x13 < (x0.length : Int) then (if x13 < (x1.length : Int) then (if (rd x0 x13) = (rd x1 x13) then (laws_jSame.L0 x0 x1 x12 (wrap64 (x13 + 1))) else (some false)) else (none)) else (none)) else (none)) else (some true)) :=
  Lim.step (f := fun k => (if x13 < x12 then (if 0 ≤ x13 then (if x13 < (x0.length : Int) then (if x13 < (x1.length : Int) then (if (rd x0 x13) = (rd x1 x13) then (laws_jSame.l0 k x0 x1 x12 (wrap64 (x13 + 1))) else (some false)) else (none)) else (none)) else (none)) else (some true))) (laws_jSame.L0_lim x0 x1 x12 x13) (fun k => by first | rfl | rw [laws_jSame.l0]) (by
    repeat' first
    | (with_reducible exact Lim.const _)
    | (with_reducible exact laws_jSame.L0_lim _ _ _ _)
    | (with_reducible refine Lim.ite ?_ ?_)
    | (with_reducible refine Lim.bind ?_ (fun _ => ?_)))
theorem laws_jSame.F_eq (l0 : List Int) (l1 : List Int) : laws_jSame.F l0 l1 = (if (l0.length : Int) = (l1.length : Int) then (laws_jSame.L0 l0 l1 (l0.length : Int) 0) else (some false)) :=
  Lim.unique (laws_jSame.F_lim l0 l1) (by
    unfold laws_jSame.f
    repeat' first
    | (with_reducible exact Lim.const _)
    | (with_reducible exact laws_jSame.L0_lim _ _ _ _)
    | (with_reducible refine Lim.ite ?_ ?_)
    | (with_reducible refine Lim.bind ?_ (fun _ => ?_)))

end Go.Proofs.Ytaohgllnoomaeaa.Fn
namespace Go.Proofs.Ytaohgllnoomaeaa.Fn
open Go.RowKit Go.Proofs.YtaohgllnoomaeaaW.PrintWords Go.Proofs.YtaohgllnoomaeaaW.PrintLast Go.Proofs.YtaohgllnoomaeaaW.PrintMore
attribute [local go_sem] max2_int min2_int max_two min_two max_three min_three max_four min_four   -- for this text's walks alone
set_option linter.unusedVariables false
set_option linter.unusedSimpArgs false

/-! ### laws_jRows: function 19 -/
def laws_jRows.l0 : Nat → List (List Int) → List (List Int) → Int → Int → Option (Bool)
  | 0, _, _, _, _ => none
  | k + 1, x0, x1, x12, x13 => if x13 < x12 then (if 0 ≤ x13 then (if x13 < (x0.length : Int) then (if x13 < (x1.length : Int) then ((laws_jSame.f k (rd_L2 x0 x13) (rd_L2 x1 x13)).bind fun t144 => (if t144 = true then (laws_jRows.l0 k x0 x1 x12 (wrap64 (x13 + 1))) else (some false))) else (none)) else (none)) else (none)) else (some true)
def laws_jRows.f (k : Nat) (l0 : List (List Int)) (l1 : List (List Int)) : Option (Bool) := if (l0.length : Int) = (l1.length : Int) then (laws_jRows.l0 k l0 l1 (l0.length : Int) 0) else (some false)
theorem laws_jRows.mono_l : ∀ k, (∀ y0 y1 y2 y3, LeO (laws_jRows.l0 k y0 y1 y2 y3) (laws_jRows.l0 (k + 1) y0 y1 y2 y3))
  | 0 => fun _ _ _ _ r h => by simp [laws_jRows.l0] at h
  | k + 1 => by
    have ih0 := laws_jRows.mono_l k
    · intro y0 y1 y2 y3
      unfold laws_jRows.l0
      repeat' first
      | (with_reducible exact ih0 _ _ _ _)
      | (with_reducible exact laws_jSame.mono _ _ _)
      | (with_reducible exact LeO.refl _)
      | (with_reducible exact LeO.none _)
      | (with_reducible refine LeO.ite ?_ ?_)
      | (with_reducible refine LeO.bind ?_ (fun _ => ?_))
      | exact ih0 _ _ _ _
      | exact laws_jSame.mono _ _ _
      | exact LeO.none _
      | refine LeO.ite ?_ ?_
      | refine LeO.bind ?_ (fun _ => ?_)
theorem laws_jRows.mono : ∀ a0 a1 k, LeO (laws_jRows.f k a0 a1) (laws_jRows.f (k + 1) a0 a1) := by
  intro a0 a1 k
  have ih0 := laws_jRows.mono_l k
  unfold laws_jRows.f
  repeat' first
      | (with_reducible exact ih0 _ _ _ _)
      | (with_reducible exact laws_jSame.mono _ _ _)
      | (with_reducible exact LeO.refl _)
      | (with_reducible exact LeO.none _)
      | (with_reducible refine LeO.ite ?_ ?_)
      | (with_reducible refine LeO.bind ?_ (fun _ => ?_))
      | exact ih0 _ _ _ _
      | exact laws_jSame.mono _ _ _
      | exact LeO.none _
      | refine LeO.ite ?_ ?_
      | refine LeO.bind ?_ (fun _ => ?_)
set_option maxHeartbeats 8000000 in
set_option maxRecDepth 100000 in
theorem laws_jRows.calls (k : Nat) (A0 : Option Addr) (c0 : Nat) (l0 : List (List Int)) (A1 : Option Addr) (c1 : Nat) (l1 : List (List Int)) (r : Bool) (w : World) (hr0 : Kd.C (Kd.slice 3 (Kd.int .i64)) w A0 l0.length l0) (hc0 : l0.length ≤ c0) (hr1 : Kd.C (Kd.slice 3 (Kd.int .i64)) w A1 l1.length l1) (hc1 : l1.length ≤ c1) (h : laws_jRows.f k l0 l1 = some r) :
    Calls Try.prog 19 #[.slice A0 l0.length c0, .slice A1 l1.length c1] w fun e w' => e = .returned (.bool r) ∧ Drawn0 w w' := by
  have HR0 := Aside0.mk hr0
  have HC0 := Aside0.mk hc0
  clear hr0 hc0
  have HR1 := Aside0.mk hr1
  have HC1 := Aside0.mk hc1
  clear hr1 hc1
  have H : (if (l0.length : Int) = (l1.length : Int) then (laws_jRows.l0 k l0 l1 (l0.length : Int) 0) else (some false)) = some r := h
  clear h
  by_cases c3 : (l0.length : Int) = (l1.length : Int)
  · rw [if_pos c3] at H
    have c3b0 : ((l0.length : Int) == (l1.length : Int)) = true := beq_iff_eq.mpr c3
    have c3b1 : ((l0.length : Int) != (l1.length : Int)) = false := bne_eq_false_iff_eq.mpr c3
    have c3b2 : (l0.length == l1.length) = true := by first | simpa using c3 | (simp at c3 ⊢; omega)
    clear c3
    have H' := Aside0.mk H
    clear H
    go_enter Try.func19, Try.ntmps19
    go_wp2
    repeat (go_quiet (fail); try go_wp2)
    go_loopg [13] k (fun kq v13 w' => ∃ (x13_1 : Int), v13 = .int .i64 x13_1 ∧ Aside0 (laws_jRows.l0 kq l0 l1 (l0.length : Int) x13_1 = some r) ∧ Aside0 (kq ≤ k) ∧ Drawn0 w w')
    case atStart => exact ⟨(0), (by first | rfl | (simp; done) | (simp [*]; done)), H', ⟨Nat.le_refl _⟩, by repeat (first | exact Drawn0.refl _ | apply Drawn0.step)⟩
    case round =>
      clear H'
      try clear c1
      try clear p2
      try clear c3
      try clear c3b0
      try clear c3b1
      try clear c3b2
      obtain ⟨x13_1, rfl, HA, HK1, ⟨m1, rfl⟩⟩ := hrel
      cases gk with
      | zero => exact absurd HA.out (by simp [laws_jRows.l0])
      | succ k1 =>
        have H := HA.out
        clear HA
        simp only [laws_jRows.l0] at H
        by_cases c4 : x13_1 < (l0.length : Int)
        · rw [if_pos c4] at H
          have c4b0 : decide (x13_1 < (l0.length : Int)) = true := decide_eq_true c4
          clear c4
          by_cases c5 : 0 ≤ x13_1
          · rw [if_pos c5] at H
            have c5b0 : decide (0 ≤ x13_1) = true := decide_eq_true c5
            clear c5
            by_cases c6 : x13_1 < (l0.length : Int)
            · rw [if_pos c6] at H
              have c6b0 : decide (x13_1 < (l0.length : Int)) = true := decide_eq_true c6
              clear c6
              by_cases c7 : x13_1 < (l1.length : Int)
              · rw [if_pos c7] at H
                have c7b0 : decide (x13_1 < (l1.length : Int)) = true := decide_eq_true c7
                clear c7
                replace H := Option.bind_eq_some_iff.mp H
                obtain ⟨t144, A80, H⟩ := H
                replace H : (if t144 = true then (laws_jRows.l0 k1 l0 l1 (l0.length : Int) (wrap64 (x13_1 + 1))) else (some false)) = some r := H
                have A8 := Aside0.mk A80
                clear A80
                by_cases c9 : t144 = true
                · subst c9
                  have H1 : (laws_jRows.l0 k1 l0 l1 (l0.length : Int) (wrap64 (x13_1 + 1))) = some r := by rw [if_pos rfl] at H; exact H
                  clear H
                  have H := H1
                  clear H1
                  have H' := Aside0.mk H
                  clear H
                  have p142 : 0 ≤ (x13_1 : Int) := of_decide_eq_true (by first | (with_reducible assumption) | assumption)
                  have q142 : x13_1 < (l0.length : Int) := of_decide_eq_true (by first | (with_reducible assumption) | assumption)
                  obtain ⟨ad142, A142_0, c142_0, e142, hx142_0, hl142_0, hi142_0⟩ := at_L2 HR0.out x13_1 p142 q142
                  cases e142
                  have HR142_0 := Aside0.mk hi142_0
                  have HC142_0 := Aside0.mk hl142_0
                  clear hi142_0 hl142_0
                  replace p142 := eq_true p142
                  replace q142 := eq_true q142
                  have p143 : 0 ≤ (x13_1 : Int) := of_decide_eq_true (by first | (with_reducible assumption) | assumption)
                  have q143 : x13_1 < (l1.length : Int) := of_decide_eq_true (by first | (with_reducible assumption) | assumption)
                  obtain ⟨ad143, A143_0, c143_0, e143, hx143_0, hl143_0, hi143_0⟩ := at_L2 HR1.out x13_1 p143 q143
                  cases e143
                  have HR143_0 := Aside0.mk hi143_0
                  have HC143_0 := Aside0.mk hl143_0
                  clear hi143_0 hl143_0
                  replace p143 := eq_true p143
                  replace q143 := eq_true q143
                  go_wp2_with (first | (go_at_call 20; (with_reducible refine (laws_jSame.calls k1 _ _ (rd_L2 l0 x13_1) _ _ (rd_L2 l1 x13_1) true _ ?side1 ?side2 ?side3 ?side4 A8.out).mono ?_); (case side1 => repeat (first | exact HR142_0.out | (with_reducible refine Kd.C_alloc ?_ _) | (with_reducible refine Kd.C_drewN ?_ _) | (with_reducible refine Kd.C_drew ?_))); (case side2 => exact HC142_0.out); (case side3 => repeat (first | exact HR143_0.out | (with_reducible refine Kd.C_alloc ?_ _) | (with_reducible refine Kd.C_drewN ?_ _) | (with_reducible refine Kd.C_drew ?_))); (case side4 => exact HC143_0.out); rintro e w' ⟨rfl, ⟨nd, rfl⟩⟩; (try first | exact ⟨rfl, _, World.drewN_drewN _ _ _⟩ | exact ⟨rfl, _, Eq.trans (World.drewN_drewN _ _ _) (congrArg (World.drewN _) (Nat.add_assoc _ _ _))⟩)))
                  repeat (go_quiet (first | (go_at_call 20; (with_reducible refine (laws_jSame.calls k1 _ _ (rd_L2 l0 x13_1) _ _ (rd_L2 l1 x13_1) true _ ?side1 ?side2 ?side3 ?side4 A8.out).mono ?_); (case side1 => repeat (first | exact HR142_0.out | (with_reducible refine Kd.C_alloc ?_ _) | (with_reducible refine Kd.C_drewN ?_ _) | (with_reducible refine Kd.C_drew ?_))); (case side2 => exact HC142_0.out); (case side3 => repeat (first | exact HR143_0.out | (with_reducible refine Kd.C_alloc ?_ _) | (with_reducible refine Kd.C_drewN ?_ _) | (with_reducible refine Kd.C_drew ?_))); (case side4 => exact HC143_0.out); rintro e w' ⟨rfl, ⟨nd, rfl⟩⟩; (try first | exact ⟨rfl, _, World.drewN_drewN _ _ _⟩ | exact ⟨rfl, _, Eq.trans (World.drewN_drewN _ _ _) (congrArg (World.drewN _) (Nat.add_assoc _ _ _))⟩))); try go_wp2_with (first | (go_at_call 20; (with_reducible refine (laws_jSame.calls k1 _ _ (rd_L2 l0 x13_1) _ _ (rd_L2 l1 x13_1) true _ ?side1 ?side2 ?side3 ?side4 A8.out).mono ?_); (case side1 => repeat (first | exact HR142_0.out | (with_reducible refine Kd.C_alloc ?_ _) | (with_reducible refine Kd.C_drewN ?_ _) | (with_reducible refine Kd.C_drew ?_))); (case side2 => exact HC142_0.out); (case side3 => repeat (first | exact HR143_0.out | (with_reducible refine Kd.C_alloc ?_ _) | (with_reducible refine Kd.C_drewN ?_ _) | (with_reducible refine Kd.C_drew ?_))); (case side4 => exact HC143_0.out); rintro e w' ⟨rfl, ⟨nd, rfl⟩⟩; (try first | exact ⟨rfl, _, World.drewN_drewN _ _ _⟩ | exact ⟨rfl, _, Eq.trans (World.drewN_drewN _ _ _) (congrArg (World.drewN _) (Nat.add_assoc _ _ _))⟩))))
                  go_roundg k1
                  case measure => have := HK1.out; omega
                  case rel => exact ⟨(wrap64 (x13_1 + 1)), (by first | rfl | (simp; done) | (simp [*]; done)), H', ⟨by have := HK1.out; omega⟩, by repeat (first | exact Drawn0.refl _ | apply Drawn0.step)⟩
                · replace c9 := Bool.eq_false_iff.mpr c9
                  subst c9
                  have H1 : (some false) = some r := by rw [if_neg (show ¬ (false = true) by decide)] at H; exact H
                  clear H
                  have H := H1
                  clear H1
                  obtain rfl := Option.some.inj H
                  have p142 : 0 ≤ (x13_1 : Int) := of_decide_eq_true (by first | (with_reducible assumption) | assumption)
                  have q142 : x13_1 < (l0.length : Int) := of_decide_eq_true (by first | (with_reducible assumption) | assumption)
                  obtain ⟨ad142, A142_0, c142_0, e142, hx142_0, hl142_0, hi142_0⟩ := at_L2 HR0.out x13_1 p142 q142
                  cases e142
                  have HR142_0 := Aside0.mk hi142_0
                  have HC142_0 := Aside0.mk hl142_0
                  clear hi142_0 hl142_0
                  replace p142 := eq_true p142
                  replace q142 := eq_true q142
                  have p143 : 0 ≤ (x13_1 : Int) := of_decide_eq_true (by first | (with_reducible assumption) | assumption)
                  have q143 : x13_1 < (l1.length : Int) := of_decide_eq_true (by first | (with_reducible assumption) | assumption)
                  obtain ⟨ad143, A143_0, c143_0, e143, hx143_0, hl143_0, hi143_0⟩ := at_L2 HR1.out x13_1 p143 q143
                  cases e143
                  have HR143_0 := Aside0.mk hi143_0
                  have HC143_0 := Aside0.mk hl143_0
                  clear hi143_0 hl143_0
                  replace p143 := eq_true p143
                  replace q143 := eq_true q143
                  go_wp2_with (first | (go_at_call 20; (with_reducible refine (laws_jSame.calls k1 _ _ (rd_L2 l0 x13_1) _ _ (rd_L2 l1 x13_1) false _ ?side1 ?side2 ?side3 ?side4 A8.out).mono ?_); (case side1 => repeat (first | exact HR142_0.out | (with_reducible refine Kd.C_alloc ?_ _) | (with_reducible refine Kd.C_drewN ?_ _) | (with_reducible refine Kd.C_drew ?_))); (case side2 => exact HC142_0.out); (case side3 => repeat (first | exact HR143_0.out | (with_reducible refine Kd.C_alloc ?_ _) | (with_reducible refine Kd.C_drewN ?_ _) | (with_reducible refine Kd.C_drew ?_))); (case side4 => exact HC143_0.out); rintro e w' ⟨rfl, ⟨nd, rfl⟩⟩; (try first | exact ⟨rfl, _, World.drewN_drewN _ _ _⟩ | exact ⟨rfl, _, Eq.trans (World.drewN_drewN _ _ _) (congrArg (World.drewN _) (Nat.add_assoc _ _ _))⟩)))
                  repeat (go_quiet (first | (go_at_call 20; (with_reducible refine (laws_jSame.calls k1 _ _ (rd_L2 l0 x13_1) _ _ (rd_L2 l1 x13_1) false _ ?side1 ?side2 ?side3 ?side4 A8.out).mono ?_); (case side1 => repeat (first | exact HR142_0.out | (with_reducible refine Kd.C_alloc ?_ _) | (with_reducible refine Kd.C_drewN ?_ _) | (with_reducible refine Kd.C_drew ?_))); (case side2 => exact HC142_0.out); (case side3 => repeat (first | exact HR143_0.out | (with_reducible refine Kd.C_alloc ?_ _) | (with_reducible refine Kd.C_drewN ?_ _) | (with_reducible refine Kd.C_drew ?_))); (case side4 => exact HC143_0.out); rintro e w' ⟨rfl, ⟨nd, rfl⟩⟩; (try first | exact ⟨rfl, _, World.drewN_drewN _ _ _⟩ | exact ⟨rfl, _, Eq.trans (World.drewN_drewN _ _ _) (congrArg (World.drewN _) (Nat.add_assoc _ _ _))⟩))); try go_wp2_with (first | (go_at_call 20; (with_reducible refine (laws_jSame.calls k1 _ _ (rd_L2 l0 x13_1) _ _ (rd_L2 l1 x13_1) false _ ?side1 ?side2 ?side3 ?side4 A8.out).mono ?_); (case side1 => repeat (first | exact HR142_0.out | (with_reducible refine Kd.C_alloc ?_ _) | (with_reducible refine Kd.C_drewN ?_ _) | (with_reducible refine Kd.C_drew ?_))); (case side2 => exact HC142_0.out); (case side3 => repeat (first | exact HR143_0.out | (with_reducible refine Kd.C_alloc ?_ _) | (with_reducible refine Kd.C_drewN ?_ _) | (with_reducible refine Kd.C_drew ?_))); (case side4 => exact HC143_0.out); rintro e w' ⟨rfl, ⟨nd, rfl⟩⟩; (try first | exact ⟨rfl, _, World.drewN_drewN _ _ _⟩ | exact ⟨rfl, _, Eq.trans (World.drewN_drewN _ _ _) (congrArg (World.drewN _) (Nat.add_assoc _ _ _))⟩))))
                  go_ret
                  exact ⟨by first | rfl | (simp; done) | (simp [*]; done), by repeat (first | exact Drawn0.refl _ | apply Drawn0.step)⟩
              · rw [if_neg c7] at H
                exact absurd H (by simp)
            · rw [if_neg c6] at H
              exact absurd H (by simp)
          · rw [if_neg c5] at H
            exact absurd H (by simp)
        · rw [if_neg c4] at H
          have c4b0 : decide (x13_1 < (l0.length : Int)) = false := decide_eq_false c4
          clear c4
          obtain rfl := Option.some.inj H
          go_wp2
          repeat (go_quiet (fail); try go_wp2)
          go_ret
          exact ⟨by first | rfl | (simp; done) | (simp [*]; done), by repeat (first | exact Drawn0.refl _ | apply Drawn0.step)⟩
  · rw [if_neg c3] at H
    have c3b0 : ((l0.length : Int) == (l1.length : Int)) = false := beq_eq_false_iff_ne.mpr c3
    have c3b1 : ((l0.length : Int) != (l1.length : Int)) = true := bne_iff_ne.mpr c3
    have c3b2 : (l0.length == l1.length) = false := by first | simpa using c3 | (simp at c3 ⊢; omega)
    obtain rfl := Option.some.inj H
    go_enter Try.func19, Try.ntmps19
    go_wp2
    repeat (go_quiet (fail); try go_wp2)
    go_ret
    exact ⟨by first | rfl | (simp; done) | (simp [*]; done), by repeat (first | exact Drawn0.refl _ | apply Drawn0.step)⟩

noncomputable def laws_jRows.L0 (x0 : List (List Int)) (x1 : List (List Int)) (x12 : Int) (x13 : Int) : Option (Bool) := lim fun k => laws_jRows.l0 k x0 x1 x12 x13
theorem laws_jRows.L0_lim (x0 : List (List Int)) (x1 : List (List Int)) (x12 : Int) (x13 : Int) : Lim (fun k => laws_jRows.l0 k x0 x1 x12 x13) (laws_jRows.L0 x0 x1 x12 x13) := Lim.of fun k => (laws_jRows.mono_l k) x0 x1 x12 x13
noncomputable def laws_jRows.F (l0 : List (List Int)) (l1 : List (List Int)) : Option (Bool) := lim fun k => laws_jRows.f k l0 l1
theorem laws_jRows.F_lim (l0 : List (List Int)) (l1 : List (List Int)) : Lim (fun k => laws_jRows.f k l0 l1) (laws_jRows.F l0 l1) := Lim.of fun k => laws_jRows.mono l0 l1 k
theorem laws_jRows.L0_eq (x0 : List (List Int)) (x1 : List (List Int)) (x12 : Int) (x13 : Int) : laws_jRows.L0 x0 x1 x12 x13 = (if x13 < x12 then (if 0 ≤ x13 then (if x13 < (x0.length : Int) then (if x13 < (x1.length : Int) then ((laws_jSame.F (rd_L2 x0 x13) (rd_L2 x1 x13)).bind fun t144 => (if t144 = true then (laws_jRows.L0 x0 x1 x12 (wrap64 (x13 + 1))) else (some false))) else (none)) else (none)) else (none)) else (some true)) :=
  Lim.step (f := fun k => (if x13 < x12 then (if 0 ≤ x13 then (if x13 < (x0.length : Int) then (if x13 < (x1.length : Int) then ((laws_jSame.f k (rd_L2 x0 x13) (rd_L2 x1 x13)).bind fun t144 => (if t144 = true then (laws_jRows.l0 k x0 x1 x12 (wrap64 (x13 + 1))) else (some false))) else (none)) else (none)) else (none)) else (some true))) (laws_jRows.L0_lim x0 x1 x12 x13) (fun k => by first | rfl | rw [laws_jRows.l0]) (by
    repeat' first
    | (with_reducible exact Lim.const _)
    | (with_reducible exact laws_jRows.L0_lim _ _ _ _)
    | (with_reducible exact laws_jSame.F_lim _ _)
    | (with_reducible refine Lim.ite ?_ ?_)
    | (with_reducible refine Lim.bind ?_ (fun _ => ?_)))
theorem laws_jRows.F_eq (l0 : List (List Int)) (l1 : List (List Int)) : laws_jRows.F l0 l1 = (if (l0.length : Int) = (l1.length : Int) then (laws_jRows.L0 l0 l1 (l0.length : Int) 0) else (some false)) :=
  Lim.unique (laws_jRows.F_lim l0 l1) (by
    unfold laws_jRows.f
    repeat' first
    | (with_reducible exact Lim.const _)
    | (with_reducible exact laws_jRows.L0_lim _ _ _ _)
    | (with_reducible refine Lim.ite ?_ ?_)
    | (with_reducible refine Lim.bind ?_ (fun _ => ?_)))

end Go.Proofs.Ytaohgllnoomaeaa.Fn
namespace Go.Proofs.Ytaohgllnoomaeaa.Fn
open Go.RowKit Go.Proofs.YtaohgllnoomaeaaW.PrintWords Go.Proofs.YtaohgllnoomaeaaW.PrintLast Go.Proofs.YtaohgllnoomaeaaW.PrintMore
attribute [local go_sem] max2_int min2_int max_two min_two max_three min_three max_four min_four   -- for this text's walks alone
set_option linter.unusedVariables false
set_option linter.unusedSimpArgs false

/-! ### laws_jLess: function 23 -/
mutual
def laws_jLess.l0 : Nat → List Int → List Int → Int → Option (Bool)
  | 0, _, _, _ => none
  | k + 1, x0, x1, x5 => if x5 < (x0.length : Int) then (laws_jLess.j1 k x0 x1 x5 (decide (x5 < (x1.length : Int)))) else (laws_jLess.j1 k x0 x1 x5 false)
def laws_jLess.j1 : Nat → List Int → List Int → Int → Bool → Option (Bool)
  | 0, _, _, _, _ => none
  | k + 1, x0, x1, x5, x15 => if x15 = true then (if 0 ≤ x5 then (if x5 < (x0.length : Int) then (if x5 < (x1.length : Int) then (if (rd x0 x5) = (rd x1 x5) then (laws_jLess.l0 k x0 x1 (wrap64 (x5 + 1))) else (some (decide ((rd x0 x5) < (rd x1 x5))))) else (none)) else (none)) else (none)) else (some (decide ((x0.length : Int) < (x1.length : Int))))
end
def laws_jLess.f (k : Nat) (l0 : List Int) (l1 : List Int) : Option (Bool) := laws_jLess.l0 k l0 l1 0
theorem laws_jLess.mono_l : ∀ k, (∀ y0 y1 y2, LeO (laws_jLess.l0 k y0 y1 y2) (laws_jLess.l0 (k + 1) y0 y1 y2)) ∧ (∀ y0 y1 y2 y3, LeO (laws_jLess.j1 k y0 y1 y2 y3) (laws_jLess.j1 (k + 1) y0 y1 y2 y3))
  | 0 => ⟨fun _ _ _ r h => by simp [laws_jLess.l0] at h, fun _ _ _ _ r h => by simp [laws_jLess.j1] at h⟩
  | k + 1 => by
    obtain ⟨ih0, ih1⟩ := laws_jLess.mono_l k
    refine ⟨?_, ?_⟩
    · intro y0 y1 y2
      unfold laws_jLess.l0
      repeat' first
      | (with_reducible exact ih0 _ _ _)
      | (with_reducible exact ih1 _ _ _ _)
      | (with_reducible exact LeO.refl _)
      | (with_reducible exact LeO.none _)
      | (with_reducible refine LeO.ite ?_ ?_)
      | (with_reducible refine LeO.bind ?_ (fun _ => ?_))
      | exact ih0 _ _ _
      | exact ih1 _ _ _ _
      | exact LeO.none _
      | refine LeO.ite ?_ ?_
      | refine LeO.bind ?_ (fun _ => ?_)
    · intro y0 y1 y2 y3
      unfold laws_jLess.j1
      repeat' first
      | (with_reducible exact ih0 _ _ _)
      | (with_reducible exact ih1 _ _ _ _)
      | (with_reducible exact LeO.refl _)
      | (with_reducible exact LeO.none _)
      | (with_reducible refine LeO.ite ?_ ?_)
      | (with_reducible refine LeO.bind ?_ (fun _ => ?_))
      | exact ih0 _ _ _
      | exact ih1 _ _ _ _
      | exact LeO.none _
      | refine LeO.ite ?_ ?_
      | refine LeO.bind ?_ (fun _ => ?_)
theorem laws_jLess.mono : ∀ a0 a1 k, LeO (laws_jLess.f k a0 a1) (laws_jLess.f (k + 1) a0 a1) := by
  intro a0 a1 k
  obtain ⟨ih0, ih1⟩ := laws_jLess.mono_l k
  unfold laws_jLess.f
  repeat' first
      | (with_reducible exact ih0 _ _ _)
      | (with_reducible exact ih1 _ _ _ _)
      | (with_reducible exact LeO.refl _)
      | (with_reducible exact LeO.none _)
      | (with_reducible refine LeO.ite ?_ ?_)
      | (with_reducible refine LeO.bind ?_ (fun _ => ?_))
      | exact ih0 _ _ _
      | exact ih1 _ _ _ _
      | exact LeO.none _
      | refine LeO.ite ?_ ?_
      | refine LeO.bind ?_ (fun _ => ?_)
set_option maxHeartbeats 8000000 in
set_option maxRecDepth 100000 in
theorem laws_jLess.calls (k : Nat) (A0 : Option Addr) (c0 : Nat) (l0 : List Int) (A1 : Option Addr) (c1 : Nat) (l1 : List Int) (r : Bool) (w : World) (hr0 : Kd.C (Kd.int .i64) w A0 l0.length l0) (hc0 : l0.length ≤ c0) (hr1 : Kd.C (Kd.int .i64) w A1 l1.length l1) (hc1 : l1.length ≤ c1) (h : laws_jLess.f k l0 l1 = some r) :
    Calls Try.prog 23 #[.slice A0 l0.length c0, .slice A1 l1.length c1] w fun e w' => e = .returned (.bool r) ∧ Drawn0 w w' := by
  have HR0 := Aside0.mk hr0
  have HC0 := Aside0.mk hc0
  clear hr0 hc0
  have HR1 := Aside0.mk hr1
  have HC1 := Aside0.mk hc1
  clear hr1 hc1
  have H : (laws_jLess.l0 k l0 l1 0) = some r := h
  clear h
  have H' := Aside0.mk H
  clear H
  go_enter Try.func23, Try.ntmps23
  go_wp2
  repeat (go_quiet (fail); try go_wp2)
  go_loopg [5] k (fun kq v5 w' => ∃ (x5_1 : Int), v5 = .int .i64 x5_1 ∧ Aside0 (laws_jLess.l0 kq l0 l1 x5_1 = some r) ∧ Aside0 (kq ≤ k) ∧ Drawn0 w w')
  case atStart => exact ⟨(0), (by first | rfl | (simp; done) | (simp [*]; done)), H', ⟨Nat.le_refl _⟩, by repeat (first | exact Drawn0.refl _ | apply Drawn0.step)⟩
  case round =>
    clear H'
    try clear c1
    try clear c2
    try clear p2
    obtain ⟨x5_1, rfl, HA, HK1, ⟨m1, rfl⟩⟩ := hrel
    cases gk with
    | zero => exact absurd HA.out (by simp [laws_jLess.l0])
    | succ k1 =>
      have H := HA.out
      clear HA
      simp only [laws_jLess.l0] at H
      have HC3 := Aside0.mk H
      clear H
      go_upto_region 2 with (fail)
      repeat (go_quiet (fail); go_upto_region 2 with (fail))
      go_cut [15] (fun v15 wc => ∃ (kq : Nat) (x15_2 : Bool), v15 = .bool x15_2 ∧ Aside0 (laws_jLess.j1 kq l0 l1 x5_1 x15_2 = some r) ∧ Aside0 (kq ≤ k1) ∧ Drawn0 w wc)
      case first =>
        have H := HC3.out
        clear HC3
        by_cases c4 : x5_1 < (l0.length : Int)
        · rw [if_pos c4] at H
          have c4b0 : decide (x5_1 < (l0.length : Int)) = true := decide_eq_true c4
          clear c4
          (first | rw [c4b0] | (simp only [i64_w, i32_w]; rw [c4b0]) | skip)
          have H' := Aside0.mk H
          clear H
          go_wp2
          repeat (go_quiet (fail); try go_wp2)
          go_meet
          case rel => exact ⟨_, (decide (x5_1 < (l1.length : Int))), (by first | rfl | (simp; done) | (simp [*]; done)), H', ⟨by have := HK1.out; first | omega | exact Nat.le_refl _⟩, by repeat (first | exact Drawn0.refl _ | apply Drawn0.step)⟩
        · rw [if_neg c4] at H
          have c4b0 : decide (x5_1 < (l0.length : Int)) = false := decide_eq_false c4
          clear c4
          (first | rw [c4b0] | (simp only [i64_w, i32_w]; rw [c4b0]) | skip)
          have H' := Aside0.mk H
          clear H
          go_wp2
          repeat (go_quiet (fail); try go_wp2)
          go_meet
          case rel => exact ⟨_, (false), (by first | rfl | (simp; done) | (simp [*]; done)), H', ⟨by have := HK1.out; first | omega | exact Nat.le_refl _⟩, by repeat (first | exact Drawn0.refl _ | apply Drawn0.step)⟩
      case rest =>
        clear HC3
        try clear c1
        try clear c2
        try clear p2
        try clear c4
        try clear c4b0
        try clear p2
        obtain ⟨kq, x15_2, rfl, HA, HJ2, ⟨mc2, rfl⟩⟩ := hcut
        cases kq with
        | zero => exact absurd HA.out (by simp [laws_jLess.j1])
        | succ kj2 =>
          have H := HA.out
          clear HA
          simp only [laws_jLess.j1] at H
          by_cases c5 : x15_2 = true
          · subst c5
            have H1 : (if 0 ≤ x5_1 then (if x5_1 < (l0.length : Int) then (if x5_1 < (l1.length : Int) then (if (rd l0 x5_1) = (rd l1 x5_1) then (laws_jLess.l0 kj2 l0 l1 (wrap64 (x5_1 + 1))) else (some (decide ((rd l0 x5_1) < (rd l1 x5_1))))) else (none)) else (none)) else (none)) = some r := by rw [if_pos rfl] at H; exact H
            clear H
            have H := H1
            clear H1
            by_cases c6 : 0 ≤ x5_1
            · rw [if_pos c6] at H
              have c6b0 : decide (0 ≤ x5_1) = true := decide_eq_true c6
              clear c6
              by_cases c7 : x5_1 < (l0.length : Int)
              · rw [if_pos c7] at H
                have c7b0 : decide (x5_1 < (l0.length : Int)) = true := decide_eq_true c7
                clear c7
                by_cases c8 : x5_1 < (l1.length : Int)
                · rw [if_pos c8] at H
                  have c8b0 : decide (x5_1 < (l1.length : Int)) = true := decide_eq_true c8
                  clear c8
                  by_cases c9 : (rd l0 x5_1) = (rd l1 x5_1)
                  · rw [if_pos c9] at H
                    have c9b0 : ((rd l0 x5_1) == (rd l1 x5_1)) = true := beq_iff_eq.mpr c9
                    have c9b1 : ((rd l0 x5_1) != (rd l1 x5_1)) = false := bne_eq_false_iff_eq.mpr c9
                    clear c9
                    have H' := Aside0.mk H
                    clear H
                    have p172 : 0 ≤ (x5_1 : Int) := of_decide_eq_true (by first | (with_reducible assumption) | assumption)
                    have q172 : x5_1 < (l0.length : Int) := of_decide_eq_true (by first | (with_reducible assumption) | assumption)
                    obtain ⟨ad172, e172, hx172_0⟩ := Kd.at_int HR0.out x5_1 p172 q172
                    cases e172
                    replace p172 := eq_true p172
                    replace q172 := eq_true q172
                    have p173 : 0 ≤ (x5_1 : Int) := of_decide_eq_true (by first | (with_reducible assumption) | assumption)
                    have q173 : x5_1 < (l1.length : Int) := of_decide_eq_true (by first | (with_reducible assumption) | assumption)
                    obtain ⟨ad173, e173, hx173_0⟩ := Kd.at_int HR1.out x5_1 p173 q173
                    cases e173
                    replace p173 := eq_true p173
                    replace q173 := eq_true q173
                    go_wp2
                    repeat (go_quiet (fail); try go_wp2)
                    go_roundg kj2
                    case measure => have := HK1.out; have := HJ2.out; omega
                    case rel => exact ⟨(wrap64 (x5_1 + 1)), (by first | rfl | (simp; done) | (simp [*]; done)), H', ⟨by have := HK1.out; have := HJ2.out; omega⟩, by repeat (first | exact Drawn0.refl _ | apply Drawn0.step)⟩
                  · rw [if_neg c9] at H
                    have c9b0 : ((rd l0 x5_1) == (rd l1 x5_1)) = false := beq_eq_false_iff_ne.mpr c9
                    have c9b1 : ((rd l0 x5_1) != (rd l1 x5_1)) = true := bne_iff_ne.mpr c9
                    obtain rfl := Option.some.inj H
                    have p172 : 0 ≤ (x5_1 : Int) := of_decide_eq_true (by first | (with_reducible assumption) | assumption)
                    have q172 : x5_1 < (l0.length : Int) := of_decide_eq_true (by first | (with_reducible assumption) | assumption)
                    obtain ⟨ad172, e172, hx172_0⟩ := Kd.at_int HR0.out x5_1 p172 q172
                    cases e172
                    replace p172 := eq_true p172
                    replace q172 := eq_true q172
                    have p173 : 0 ≤ (x5_1 : Int) := of_decide_eq_true (by first | (with_reducible assumption) | assumption)
                    have q173 : x5_1 < (l1.length : Int) := of_decide_eq_true (by first | (with_reducible assumption) | assumption)
                    obtain ⟨ad173, e173, hx173_0⟩ := Kd.at_int HR1.out x5_1 p173 q173
                    cases e173
                    replace p173 := eq_true p173
                    replace q173 := eq_true q173
                    have p174 : 0 ≤ (x5_1 : Int) := of_decide_eq_true (by first | (with_reducible assumption) | assumption)
                    have q174 : x5_1 < (l0.length : Int) := of_decide_eq_true (by first | (with_reducible assumption) | assumption)
                    obtain ⟨ad174, e174, hx174_0⟩ := Kd.at_int HR0.out x5_1 p174 q174
                    obtain rfl : ad172 = ad174 := (by injection e174)
                    replace p174 := eq_true p174
                    replace q174 := eq_true q174
                    have p175 : 0 ≤ (x5_1 : Int) := of_decide_eq_true (by first | (with_reducible assumption) | assumption)
                    have q175 : x5_1 < (l1.length : Int) := of_decide_eq_true (by first | (with_reducible assumption) | assumption)
                    obtain ⟨ad175, e175, hx175_0⟩ := Kd.at_int HR1.out x5_1 p175 q175
                    obtain rfl : ad173 = ad175 := (by injection e175)
                    replace p175 := eq_true p175
                    replace q175 := eq_true q175
                    go_wp2
                    repeat (go_quiet (fail); try go_wp2)
                    go_ret
                    exact ⟨by first | rfl | (simp; done) | (simp [*]; done), by repeat (first | exact Drawn0.refl _ | apply Drawn0.step)⟩
                · rw [if_neg c8] at H
                  exact absurd H (by simp)
              · rw [if_neg c7] at H
                exact absurd H (by simp)
            · rw [if_neg c6] at H
              exact absurd H (by simp)
          · replace c5 := Bool.eq_false_iff.mpr c5
            subst c5
            have H1 : (some (decide ((l0.length : Int) < (l1.length : Int)))) = some r := by rw [if_neg (show ¬ (false = true) by decide)] at H; exact H
            clear H
            have H := H1
            clear H1
            obtain rfl := Option.some.inj H
            go_wp2
            repeat (go_quiet (fail); try go_wp2)
            go_ret
            exact ⟨by first | rfl | (simp; done) | (simp [*]; done), by repeat (first | exact Drawn0.refl _ | apply Drawn0.step)⟩

noncomputable def laws_jLess.L0 (x0 : List Int) (x1 : List Int) (x5 : Int) : Option (Bool) := lim fun k => laws_jLess.l0 k x0 x1 x5
theorem laws_jLess.L0_lim (x0 : List Int) (x1 : List Int) (x5 : Int) : Lim (fun k => laws_jLess.l0 k x0 x1 x5) (laws_jLess.L0 x0 x1 x5) := Lim.of fun k => (laws_jLess.mono_l k).1 x0 x1 x5
noncomputable def laws_jLess.J1 (x0 : List Int) (x1 : List Int) (x5 : Int) (x15 : Bool) : Option (Bool) := lim fun k => laws_jLess.j1 k x0 x1 x5 x15
theorem laws_jLess.J1_lim (x0 : List Int) (x1 : List Int) (x5 : Int) (x15 : Bool) : Lim (fun k => laws_jLess.j1 k x0 x1 x5 x15) (laws_jLess.J1 x0 x1 x5 x15) := Lim.of fun k => (laws_jLess.mono_l k).2 x0 x1 x5 x15
noncomputable def laws_jLess.F (l0 : List Int) (l1 : List Int) : Option (Bool) := lim fun k => laws_jLess.f k l0 l1
theorem laws_jLess.F_lim (l0 : List Int) (l1 : List Int) : Lim (fun k => laws_jLess.f k l0 l1) (laws_jLess.F l0 l1) := Lim.of fun k => laws_jLess.mono l0 l1 k
theorem laws_jLess.L0_eq (x0 : List Int) (x1 : List Int) (x5 : Int) : laws_jLess.L0 x0 x1 x5 = (if x5 < (x0.length : Int) then (laws_jLess.J1 x0 x1 x5 (decide (x5 < (x1.length : Int)))) else (laws_jLess.J1 x0 x1 x5 false)) :=
  Lim.step (f := fun k => (if x5 < (x0.length : Int) then (laws_jLess.j1 k x0 x1 x5 (decide (x5 < (x1.length : Int)))) else (laws_jLess.j1 k x0 x1 x5 false))) (laws_jLess.L0_lim x0 x1 x5) (fun k => by first | rfl | rw [laws_jLess.l0]) (by
    repeat' first
    | (with_reducible exact Lim.const _)
    | (with_reducible exact laws_jLess.J1_lim _ _ _ _)
    | (with_reducible refine Lim.ite ?_ ?_)
    | (with_reducible refine Lim.bind ?_ (fun _ => ?_)))
theorem laws_jLess.J1_eq (x0 : List Int) (x1 : List Int) (x5 : Int) (x15 : Bool) : laws_jLess.J1 x0 x1 x5 x15 = (if x15 = true then (if 0 ≤ x5 then (if x5 < (x0.length : Int) then (if x5 < (x1.length : Int) then (if (rd x0 x5) = (rd x1 x5) then (laws_jLess.L0 x0 x1 (wrap64 (x5 + 1))) else (some (decide ((rd x0 x5) < (rd x1 x5))))) else (none)) else (none)) else (none)) else (some (decide ((x0.length : Int) < (x1.length : Int))))) :=
  Lim.step (f := fun k => (if x15 = true then (if 0 ≤ x5 then (if x5 < (x0.length : Int) then (if x5 < (x1.length : Int) then (if (rd x0 x5) = (rd x1 x5) then (laws_jLess.l0 k x0 x1 (wrap64 (x5 + 1))) else (some (decide ((rd x0 x5) < (rd x1 x5))))) else (none)) else (none)) else (none)) else (some (decide ((x0.length : Int) < (x1.length : Int)))))) (laws_jLess.J1_lim x0 x1 x5 x15) (fun k => by first | rfl | rw [laws_jLess.j1]) (by
    repeat' first
    | (with_reducible exact Lim.const _)
    | (with_reducible exact laws_jLess.L0_lim _ _ _)
    | (with_reducible refine Lim.ite ?_ ?_)
    | (with_reducible refine Lim.bind ?_ (fun _ => ?_)))
theorem laws_jLess.F_eq (l0 : List Int) (l1 : List Int) : laws_jLess.F l0 l1 = (laws_jLess.L0 l0 l1 0) :=
  Lim.unique (laws_jLess.F_lim l0 l1) (by
    unfold laws_jLess.f
    repeat' first
    | (with_reducible exact Lim.const _)
    | (with_reducible exact laws_jLess.L0_lim _ _ _)
    | (with_reducible refine Lim.ite ?_ ?_)
    | (with_reducible refine Lim.bind ?_ (fun _ => ?_)))

end Go.Proofs.Ytaohgllnoomaeaa.Fn
namespace Go.Proofs.Ytaohgllnoomaeaa.Fn
open Go.RowKit Go.Proofs.YtaohgllnoomaeaaW.PrintWords Go.Proofs.YtaohgllnoomaeaaW.PrintLast Go.Proofs.YtaohgllnoomaeaaW.PrintMore
attribute [local go_sem] max2_int min2_int max_two min_two max_three min_three max_four min_four   -- for this text's walks alone
set_option linter.unusedVariables false
set_option linter.unusedSimpArgs false

/-! ### laws_jIn: function 24 -/
def laws_jIn.l0 : Nat → List Int → List (List Int) → Int → Int → Option (Bool)
  | 0, _, _, _, _ => none
  | k + 1, x1, x7, x8, x9 => if x9 < x8 then (if 0 ≤ x9 then (if x9 < (x7.length : Int) then ((laws_jSame.f k (rd_L2 x7 x9) x1).bind fun t177 => (if t177 = true then (some true) else (laws_jIn.l0 k x1 x7 x8 (wrap64 (x9 + 1))))) else (none)) else (none)) else (some false)
def laws_jIn.f (k : Nat) (l0 : List (List Int)) (l1 : List Int) : Option (Bool) := laws_jIn.l0 k l1 l0 (l0.length : Int) 0
theorem laws_jIn.mono_l : ∀ k, (∀ y0 y1 y2 y3, LeO (laws_jIn.l0 k y0 y1 y2 y3) (laws_jIn.l0 (k + 1) y0 y1 y2 y3))
  | 0 => fun _ _ _ _ r h => by simp [laws_jIn.l0] at h
  | k + 1 => by
    have ih0 := laws_jIn.mono_l k
    · intro y0 y1 y2 y3
      unfold laws_jIn.l0
      repeat' first
      | (with_reducible exact ih0 _ _ _ _)
      | (with_reducible exact laws_jSame.mono _ _ _)
      | (with_reducible exact LeO.refl _)
      | (with_reducible exact LeO.none _)
      | (with_reducible refine LeO.ite ?_ ?_)
      | (with_reducible refine LeO.bind ?_ (fun _ => ?_))
      | exact ih0 _ _ _ _
      | exact laws_jSame.mono _ _ _
      | exact LeO.none _
      | refine LeO.ite ?_ ?_
      | refine LeO.bind ?_ (fun _ => ?_)
theorem laws_jIn.mono : ∀ a0 a1 k, LeO (laws_jIn.f k a0 a1) (laws_jIn.f (k + 1) a0 a1) := by
  intro a0 a1 k
  have ih0 := laws_jIn.mono_l k
  unfold laws_jIn.f
  repeat' first
      | (with_reducible exact ih0 _ _ _ _)
      | (with_reducible exact laws_jSame.mono _ _ _)
      | (with_reducible exact LeO.refl _)
      | (with_reducible exact LeO.none _)
      | (with_reducible refine LeO.ite ?_ ?_)
      | (with_reducible refine LeO.bind ?_ (fun _ => ?_))
      | exact ih0 _ _ _ _
      | exact laws_jSame.mono _ _ _
      | exact LeO.none _
      | refine LeO.ite ?_ ?_
      | refine LeO.bind ?_ (fun _ => ?_)
set_option maxHeartbeats 8000000 in
set_option maxRecDepth 100000 in
theorem laws_jIn.calls (k : Nat) (A0 : Option Addr) (c0 : Nat) (l0 : List (List Int)) (A1 : Option Addr) (c1 : Nat) (l1 : List Int) (r : Bool) (w : World) (hr0 : Kd.C (Kd.slice 3 (Kd.int .i64)) w A0 l0.length l0) (hc0 : l0.length ≤ c0) (hr1 : Kd.C (Kd.int .i64) w A1 l1.length l1) (hc1 : l1.length ≤ c1) (h : laws_jIn.f k l0 l1 = some r) :
    Calls Try.prog 24 #[.slice A0 l0.length c0, .slice A1 l1.length c1] w fun e w' => e = .returned (.bool r) ∧ Drawn0 w w' := by
  have HR0 := Aside0.mk hr0
  have HC0 := Aside0.mk hc0
  clear hr0 hc0
  have HR1 := Aside0.mk hr1
  have HC1 := Aside0.mk hc1
  clear hr1 hc1
  have H : (laws_jIn.l0 k l1 l0 (l0.length : Int) 0) = some r := h
  clear h
  have H' := Aside0.mk H
  clear H
  go_enter Try.func24, Try.ntmps24
  go_wp2
  go_loopg [9] k (fun kq v9 w' => ∃ (x9_1 : Int), v9 = .int .i64 x9_1 ∧ Aside0 (laws_jIn.l0 kq l1 l0 (l0.length : Int) x9_1 = some r) ∧ Aside0 (kq ≤ k) ∧ Drawn0 w w')
  case atStart => exact ⟨(0), (by first | rfl | (simp; done) | (simp [*]; done)), H', ⟨Nat.le_refl _⟩, by repeat (first | exact Drawn0.refl _ | apply Drawn0.step)⟩
  case round =>
    clear H'
    try clear c1
    try clear c2
    try clear p2
    obtain ⟨x9_1, rfl, HA, HK1, ⟨m1, rfl⟩⟩ := hrel
    cases gk with
    | zero => exact absurd HA.out (by simp [laws_jIn.l0])
    | succ k1 =>
      have H := HA.out
      clear HA
      simp only [laws_jIn.l0] at H
      by_cases c3 : x9_1 < (l0.length : Int)
      · rw [if_pos c3] at H
        have c3b0 : decide (x9_1 < (l0.length : Int)) = true := decide_eq_true c3
        clear c3
        by_cases c4 : 0 ≤ x9_1
        · rw [if_pos c4] at H
          have c4b0 : decide (0 ≤ x9_1) = true := decide_eq_true c4
          clear c4
          by_cases c5 : x9_1 < (l0.length : Int)
          · rw [if_pos c5] at H
            have c5b0 : decide (x9_1 < (l0.length : Int)) = true := decide_eq_true c5
            clear c5
            replace H := Option.bind_eq_some_iff.mp H
            obtain ⟨t177, A60, H⟩ := H
            replace H : (if t177 = true then (some true) else (laws_jIn.l0 k1 l1 l0 (l0.length : Int) (wrap64 (x9_1 + 1)))) = some r := H
            have A6 := Aside0.mk A60
            clear A60
            by_cases c7 : t177 = true
            · subst c7
              have H1 : (some true) = some r := by rw [if_pos rfl] at H; exact H
              clear H
              have H := H1
              clear H1
              obtain rfl := Option.some.inj H
              have p176 : 0 ≤ (x9_1 : Int) := of_decide_eq_true (by first | (with_reducible assumption) | assumption)
              have q176 : x9_1 < (l0.length : Int) := of_decide_eq_true (by first | (with_reducible assumption) | assumption)
              obtain ⟨ad176, A176_0, c176_0, e176, hx176_0, hl176_0, hi176_0⟩ := at_L2 HR0.out x9_1 p176 q176
              cases e176
              have HR176_0 := Aside0.mk hi176_0
              have HC176_0 := Aside0.mk hl176_0
              clear hi176_0 hl176_0
              replace p176 := eq_true p176
              replace q176 := eq_true q176
              go_wp2_with (first | ((with_reducible refine gate_callee (f := 20) rfl ?_); refine goesL_ (some 15) rfl rfl Try.func20 (by kernel_rfl) rfl #[.slice A176_0 (rd_L2 l0 x9_1).length c176_0, .slice A1 l1.length c1] rfl (by (try simp only [List.map_toArray, List.map_cons, List.map_nil]); first | done | rfl | (simp only [List.length_drop, List.length_take]; rfl)) ?_; (with_reducible refine (laws_jSame.calls k1 _ _ (rd_L2 l0 x9_1) _ _ l1 true _ ?side1 ?side2 ?side3 ?side4 A6.out).mono ?_); (case side1 => repeat (first | exact HR176_0.out | (with_reducible refine Kd.C_alloc ?_ _) | (with_reducible refine Kd.C_drewN ?_ _) | (with_reducible refine Kd.C_drew ?_))); (case side2 => exact HC176_0.out); (case side3 => repeat (first | exact HR1.out | (with_reducible refine Kd.C_alloc ?_ _) | (with_reducible refine Kd.C_drewN ?_ _) | (with_reducible refine Kd.C_drew ?_))); (case side4 => exact HC1.out); rintro e w' ⟨rfl, ⟨nd, rfl⟩⟩; refine ⟨_, rfl, ?_⟩))
              go_ret
              exact ⟨by first | rfl | (simp; done) | (simp [*]; done), by repeat (first | exact Drawn0.refl _ | apply Drawn0.step)⟩
            · replace c7 := Bool.eq_false_iff.mpr c7
              subst c7
              have H1 : (laws_jIn.l0 k1 l1 l0 (l0.length : Int) (wrap64 (x9_1 + 1))) = some r := by rw [if_neg (show ¬ (false = true) by decide)] at H; exact H
              clear H
              have H := H1
              clear H1
              have H' := Aside0.mk H
              clear H
              have p176 : 0 ≤ (x9_1 : Int) := of_decide_eq_true (by first | (with_reducible assumption) | assumption)
              have q176 : x9_1 < (l0.length : Int) := of_decide_eq_true (by first | (with_reducible assumption) | assumption)
              obtain ⟨ad176, A176_0, c176_0, e176, hx176_0, hl176_0, hi176_0⟩ := at_L2 HR0.out x9_1 p176 q176
              cases e176
              have HR176_0 := Aside0.mk hi176_0
              have HC176_0 := Aside0.mk hl176_0
              clear hi176_0 hl176_0
              replace p176 := eq_true p176
              replace q176 := eq_true q176
              go_wp2_with (first | ((with_reducible refine gate_callee (f := 20) rfl ?_); refine goesL_ (some 15) rfl rfl Try.func20 (by kernel_rfl) rfl #[.slice A176_0 (rd_L2 l0 x9_1).length c176_0, .slice A1 l1.length c1] rfl (by (try simp only [List.map_toArray, List.map_cons, List.map_nil]); first | done | rfl | (simp only [List.length_drop, List.length_take]; rfl)) ?_; (with_reducible refine (laws_jSame.calls k1 _ _ (rd_L2 l0 x9_1) _ _ l1 false _ ?side1 ?side2 ?side3 ?side4 A6.out).mono ?_); (case side1 => repeat (first | exact HR176_0.out | (with_reducible refine Kd.C_alloc ?_ _) | (with_reducible refine Kd.C_drewN ?_ _) | (with_reducible refine Kd.C_drew ?_))); (case side2 => exact HC176_0.out); (case side3 => repeat (first | exact HR1.out | (with_reducible refine Kd.C_alloc ?_ _) | (with_reducible refine Kd.C_drewN ?_ _) | (with_reducible refine Kd.C_drew ?_))); (case side4 => exact HC1.out); rintro e w' ⟨rfl, ⟨nd, rfl⟩⟩; refine ⟨_, rfl, ?_⟩))
              go_roundg k1
              case measure => have := HK1.out; omega
              case rel => exact ⟨(wrap64 (x9_1 + 1)), (by first | rfl | (simp; done) | (simp [*]; done)), H', ⟨by have := HK1.out; omega⟩, by repeat (first | exact Drawn0.refl _ | apply Drawn0.step)⟩
          · rw [if_neg c5] at H
            exact absurd H (by simp)
        · rw [if_neg c4] at H
          exact absurd H (by simp)
      · rw [if_neg c3] at H
        have c3b0 : decide (x9_1 < (l0.length : Int)) = false := decide_eq_false c3
        clear c3
        obtain rfl := Option.some.inj H
        go_wp2
        go_ret
        exact ⟨by first | rfl | (simp; done) | (simp [*]; done), by repeat (first | exact Drawn0.refl _ | apply Drawn0.step)⟩

noncomputable def laws_jIn.L0 (x1 : List Int) (x7 : List (List Int)) (x8 : Int) (x9 : Int) : Option (Bool) := lim fun k => laws_jIn.l0 k x1 x7 x8 x9
theorem laws_jIn.L0_lim (x1 : List Int) (x7 : List (List Int)) (x8 : Int) (x9 : Int) : Lim (fun k => laws_jIn.l0 k x1 x7 x8 x9) (laws_jIn.L0 x1 x7 x8 x9) := Lim.of fun k => (laws_jIn.mono_l k) x1 x7 x8 x9
noncomputable def laws_jIn.F (l0 : List (List Int)) (l1 : List Int) : Option (Bool) := lim fun k => laws_jIn.f k l0 l1
theorem laws_jIn.F_lim (l0 : List (List Int)) (l1 : List Int) : Lim (fun k => laws_jIn.f k l0 l1) (laws_jIn.F l0 l1) := Lim.of fun k => laws_jIn.mono l0 l1 k
theorem laws_jIn.L0_eq (x1 : List Int) (x7 : List (List Int)) (x8 : Int) (x9 : Int) : laws_jIn.L0 x1 x7 x8 x9 = (if x9 < x8 then (if 0 ≤ x9 then (if x9 < (x7.length : Int) then ((laws_jSame.F (rd_L2 x7 x9) x1).bind fun t177 => (if t177 = true then (some true) else (laws_jIn.L0 x1 x7 x8 (wrap64 (x9 + 1))))) else (none)) else (none)) else (some false)) :=
  Lim.step (f := fun k => (if x9 < x8 then (if 0 ≤ x9 then (if x9 < (x7.length : Int) then ((laws_jSame.f k (rd_L2 x7 x9) x1).bind fun t177 => (if t177 = true then (some true) else (laws_jIn.l0 k x1 x7 x8 (wrap64 (x9 + 1))))) else (none)) else (none)) else (some false))) (laws_jIn.L0_lim x1 x7 x8 x9) (fun k => by first | rfl | rw [laws_jIn.l0]) (by
    repeat' first
    | (with_reducible exact Lim.const _)
    | (with_reducible exact laws_jIn.L0_lim _ _ _ _)
    | (with_reducible exact laws_jSame.F_lim _ _)
    | (with_reducible refine Lim.ite ?_ ?_)
    | (with_reducible refine Lim.bind ?_ (fun _ => ?_)))
theorem laws_jIn.F_eq (l0 : List (List Int)) (l1 : List Int) : laws_jIn.F l0 l1 = (laws_jIn.L0 l1 l0 (l0.length : Int) 0) :=
  Lim.unique (laws_jIn.F_lim l0 l1) (by
    unfold laws_jIn.f
    repeat' first
    | (with_reducible exact Lim.const _)
    | (with_reducible exact laws_jIn.L0_lim _ _ _ _)
    | (with_reducible refine Lim.ite ?_ ?_)
    | (with_reducible refine Lim.bind ?_ (fun _ => ?_)))

end Go.Proofs.Ytaohgllnoomaeaa.Fn
namespace Go.Proofs.Ytaohgllnoomaeaa.Fn
open Go.RowKit Go.Proofs.YtaohgllnoomaeaaW.PrintWords Go.Proofs.YtaohgllnoomaeaaW.PrintLast Go.Proofs.YtaohgllnoomaeaaW.PrintMore
attribute [local go_sem] max2_int min2_int max_two min_two max_three min_three max_four min_four   -- for this text's walks alone
set_option linter.unusedVariables false
set_option linter.unusedSimpArgs false

/-! ### laws_jBack: function 25 -/
def laws_jBack.l0 : Nat → List Int → List Int → Int → Option (List Int)
  | 0, _, _, _ => none
  | k + 1, x0, x3, x4 => if x4 ≥ 0 then (if 0 ≤ x4 then (if x4 < (x0.length : Int) then (if x3.length < 17592186044416 then (laws_jBack.l0 k x0 (x3 ++ [rd x0 x4]) (wrap64 (x4 - 1))) else (none)) else (none)) else (none)) else (some x3)
def laws_jBack.f (k : Nat) (l0 : List Int) : Option (List Int) := laws_jBack.l0 k l0 ([] : List Int) (wrap64 ((l0.length : Int) - 1))
theorem laws_jBack.mono_l : ∀ k, (∀ y0 y1 y2, LeO (laws_jBack.l0 k y0 y1 y2) (laws_jBack.l0 (k + 1) y0 y1 y2))
  | 0 => fun _ _ _ r h => by simp [laws_jBack.l0] at h
  | k + 1 => by
    have ih0 := laws_jBack.mono_l k
    · intro y0 y1 y2
      unfold laws_jBack.l0
      repeat' first
      | (with_reducible exact ih0 _ _ _)
      | (with_reducible exact LeO.refl _)
      | (with_reducible exact LeO.none _)
      | (with_reducible refine LeO.ite ?_ ?_)
      | (with_reducible refine LeO.bind ?_ (fun _ => ?_))
      | exact ih0 _ _ _
      | exact LeO.none _
      | refine LeO.ite ?_ ?_
      | refine LeO.bind ?_ (fun _ => ?_)
theorem laws_jBack.mono : ∀ a0 k, LeO (laws_jBack.f k a0) (laws_jBack.f (k + 1) a0) := by
  intro a0 k
  have ih0 := laws_jBack.mono_l k
  unfold laws_jBack.f
  repeat' first
      | (with_reducible exact ih0 _ _ _)
      | (with_reducible exact LeO.refl _)
      | (with_reducible exact LeO.none _)
      | (with_reducible refine LeO.ite ?_ ?_)
      | (with_reducible refine LeO.bind ?_ (fun _ => ?_))
      | exact ih0 _ _ _
      | exact LeO.none _
      | refine LeO.ite ?_ ?_
      | refine LeO.bind ?_ (fun _ => ?_)
set_option maxHeartbeats 8000000 in
set_option maxRecDepth 100000 in
theorem laws_jBack.calls (k : Nat) (A0 : Option Addr) (c0 : Nat) (l0 : List Int) (r : List Int) (w : World) (hr0 : Kd.C (Kd.int .i64) w A0 l0.length l0) (hc0 : l0.length ≤ c0) (h : laws_jBack.f k l0 = some r) :
    Calls Try.prog 25 #[.slice A0 l0.length c0] w fun e w' => ∃ v0_ : Value, e = .returned (v0_) ∧ Kd.R (Kd.int .i64) 3 w' w.heap.size (fun _ => True) v0_ r ∧ Below w.heap.size w w' := by
  have HR0 := Aside0.mk hr0
  have HC0 := Aside0.mk hc0
  clear hr0 hc0
  have HB := Aside0.mk (Below.refl w.heap.size w)
  have H : (laws_jBack.l0 k l0 ([] : List Int) (wrap64 ((l0.length : Int) - 1))) = some r := h
  clear h
  have H' := Aside0.mk H
  clear H
  go_enter Try.func25, Try.ntmps25
  go_wp2
  go_loopg [3, 4] k (fun kq v3 v4 w' => ∃ (x3_1 : List Int) (x4_1 : Int), v4 = .int .i64 x4_1 ∧ Aside0 (laws_jBack.l0 kq l0 x3_1 x4_1 = some r) ∧ Aside0 (kq ≤ k) ∧ Aside0 (Kd.R (Kd.int .i64) 3 w' w.heap.size (fun _ => True) v3 x3_1) ∧ Aside0 (Below w.heap.size w w'))
  case atStart => exact ⟨(([] : List Int)), (wrap64 ((l0.length : Int) - 1)), (by first | rfl | (simp; done) | (simp [*]; done)), H', ⟨Nat.le_refl _⟩, ⟨by first | exact Kd.R_nil _ _ _ _ _ | exact Kd.N_nil _ _ _ _ _ | exact Kd.V_nil _ _ _ _ _ | exact Kd.Q_nil _ _ _ _ _ | exact Kd.S_nil _ _ _ _ _⟩, ⟨by repeat (first | (with_reducible first | exact HB.out | apply below_alloc | apply pw_below_drewN | apply below_drew1) | exact HB.out)⟩⟩
  case round =>
    clear H'
    obtain ⟨x3_1, x4_1, rfl, HA, HK1, HO_3, HB⟩ := hrel
    cases gk with
    | zero => exact absurd HA.out (by simp [laws_jBack.l0])
    | succ k1 =>
      have H := HA.out
      clear HA
      simp only [laws_jBack.l0] at H
      by_cases c2 : x4_1 ≥ 0
      · rw [if_pos c2] at H
        have c2b0 : decide (0 ≤ x4_1) = true := decide_eq_true c2
        clear c2
        by_cases c3 : 0 ≤ x4_1
        · rw [if_pos c3] at H
          have c3b0 : decide (0 ≤ x4_1) = true := decide_eq_true c3
          clear c3
          by_cases c4 : x4_1 < (l0.length : Int)
          · rw [if_pos c4] at H
            have c4b0 : decide (x4_1 < (l0.length : Int)) = true := decide_eq_true c4
            clear c4
            by_cases c5 : x3_1.length < 17592186044416
            · rw [if_pos c5] at H
              have LMc5 := Aside0.mk c5
              clear c5
              obtain ⟨y179, hy179⟩ : ∃ y_ : List Int, y_ = (x3_1 ++ [rd l0 x4_1]) := ⟨_, rfl⟩
              replace H : (laws_jBack.l0 k1 l0 y179 (wrap64 (x4_1 - 1))) = some r := by first | (rw [hy179]; with_reducible exact H) | (have H2_ := (Option.bind_some _ _).symm.trans H; rw [hy179]; with_reducible exact H2_) | (have H2_ := (Option.bind_some _ _).symm.trans H; with_reducible exact H2_) | with_reducible exact H | (rw [hy179]; exact H) | exact H
              have Ny179 := Aside0.mk hy179
              clear hy179
              have H' := Aside0.mk H
              clear H
              have p178 : 0 ≤ (x4_1 : Int) := of_decide_eq_true (by first | (with_reducible assumption) | assumption)
              have q178 : x4_1 < (l0.length : Int) := of_decide_eq_true (by first | (with_reducible assumption) | assumption)
              obtain ⟨ad178, e178, hx178_0⟩ := Kd.at_int HR0.out x4_1 p178 q178
              cases e178
              replace hx178_0 := (HB.out.cell (World.block_lt_of_cell? w _ hx178_0)).trans hx178_0
              replace p178 := eq_true p178
              replace q178 := eq_true q178
              go_wp2_with (first | ((with_reducible refine gate_builtin (b := .append) (xs := #[.tmp 12, .tmp 17]) rfl ?_); at_builtin; refine Kd.R_append (Kd.int .i64) (w0 := w) w.heap.size rfl (.tmp 12) (.tmp 17) 31 3 (.int .i64 0) 8 rfl Try.underlying31 info3 rfl (by decide) (by omega) u3 x3_1 (rd l0 x4_1) [.int .i64 (rd l0 x4_1)] (fun _ => True) (fun _ => False) rfl rfl ?aP (fun _ hk => hk.elim) ?aF ?aO ?aB ?aS ?aL ?_; (case aP => exact rfl); (case aB => exact (by repeat (first | (with_reducible first | exact HB.out | apply below_alloc | apply pw_below_drewN | apply below_drew1) | exact HB.out))); (case aF => exact (fun _ _ => trivial)); (case aO => exact (by (with_reducible repeat (first | apply Kd.R_alloc | apply Kd.R_drewN | apply Kd.R_drew)); exact HO_3.out)); (case aS => exact (below_size (by repeat (first | (with_reducible first | exact HB.out | apply below_alloc | apply pw_below_drewN | apply below_drew1) | exact HB.out)))); (case aL => have := LMc5.out; omega); intro v180 w6 ho hb hg hat; rw [← Ny179.out] at ho; have n0_ := Aside0.mk (hb); have n1_ := Aside0.mk (ho); clear HB; clear HO_3; have HB := n0_; have HO181 := n1_; clear n0_ n1_; clear ho hb hg hat))
              go_roundg k1
              case measure => have := HK1.out; omega
              case rel => exact ⟨(y179), (wrap64 (x4_1 - 1)), (by first | rfl | (simp; done) | (simp [*]; done)), H', ⟨by have := HK1.out; omega⟩, ⟨by (with_reducible repeat (first | apply Kd.R_alloc | apply Kd.R_drewN | apply Kd.R_drew)); exact HO181.out⟩, ⟨by repeat (first | (with_reducible first | exact HB.out | apply below_alloc | apply pw_below_drewN | apply below_drew1) | exact HB.out)⟩⟩
            · rw [if_neg c5] at H
              exact absurd H (by simp)
          · rw [if_neg c4] at H
            exact absurd H (by simp)
        · rw [if_neg c3] at H
          exact absurd H (by simp)
      · rw [if_neg c2] at H
        have c2b0 : decide (0 ≤ x4_1) = false := decide_eq_false c2
        clear c2
        obtain rfl := Option.some.inj H
        go_wp2
        go_ret
        exact ⟨_, by first | rfl | (simp [errW_none, errW_some] <;> rfl) | (simp [*, errW_none, errW_some] <;> rfl), by (with_reducible repeat (first | apply Kd.R_alloc | apply Kd.R_drewN | apply Kd.R_drew)); exact HO_3.out, by repeat (first | (with_reducible first | exact HB.out | apply below_alloc | apply pw_below_drewN | apply below_drew1) | exact HB.out)⟩

noncomputable def laws_jBack.L0 (x0 : List Int) (x3 : List Int) (x4 : Int) : Option (List Int) := lim fun k => laws_jBack.l0 k x0 x3 x4
theorem laws_jBack.L0_lim (x0 : List Int) (x3 : List Int) (x4 : Int) : Lim (fun k => laws_jBack.l0 k x0 x3 x4) (laws_jBack.L0 x0 x3 x4) := Lim.of fun k => (laws_jBack.mono_l k) x0 x3 x4
noncomputable def laws_jBack.F (l0 : List Int) : Option (List Int) := lim fun k => laws_jBack.f k l0
theorem laws_jBack.F_lim (l0 : List Int) : Lim (fun k => laws_jBack.f k l0) (laws_jBack.F l0) := Lim.of fun k => laws_jBack.mono l0 k
theorem laws_jBack.L0_eq (x0 : List Int) (x3 : List Int) (x4 : Int) : laws_jBack.L0 x0 x3 x4 = (if x4 ≥ 0 then (if 0 ≤ x4 then (if x4 < (x0.length : Int) then (if x3.length < 17592186044416 then (laws_jBack.L0 x0 (x3 ++ [rd x0 x4]) (wrap64 (x4 - 1))) else (none)) else (none)) else (none)) else (some x3)) :=
  Lim.step (f := fun k => (if x4 ≥ 0 then (if 0 ≤ x4 then (if x4 < (x0.length : Int) then (if x3.length < 17592186044416 then (laws_jBack.l0 k x0 (x3 ++ [rd x0 x4]) (wrap64 (x4 - 1))) else (none)) else (none)) else (none)) else (some x3))) (laws_jBack.L0_lim x0 x3 x4) (fun k => by first | rfl | rw [laws_jBack.l0]) (by
    repeat' first
    | (with_reducible exact Lim.const _)
    | (with_reducible exact laws_jBack.L0_lim _ _ _)
    | (with_reducible refine Lim.ite ?_ ?_)
    | (with_reducible refine Lim.bind ?_ (fun _ => ?_)))
theorem laws_jBack.F_eq (l0 : List Int) : laws_jBack.F l0 = (laws_jBack.L0 l0 ([] : List Int) (wrap64 ((l0.length : Int) - 1))) :=
  Lim.unique (laws_jBack.F_lim l0) (by
    unfold laws_jBack.f
    repeat' first
    | (with_reducible exact Lim.const _)
    | (with_reducible exact laws_jBack.L0_lim _ _ _)
    | (with_reducible refine Lim.ite ?_ ?_)
    | (with_reducible refine Lim.bind ?_ (fun _ => ?_)))

end Go.Proofs.Ytaohgllnoomaeaa.Fn
namespace Go.Proofs.Ytaohgllnoomaeaa.Fn
open Go.RowKit Go.Proofs.YtaohgllnoomaeaaW.PrintWords Go.Proofs.YtaohgllnoomaeaaW.PrintLast Go.Proofs.YtaohgllnoomaeaaW.PrintMore
attribute [local go_sem] max2_int min2_int max_two min_two max_three min_three max_four min_four   -- for this text's walks alone
set_option linter.unusedVariables false
set_option linter.unusedSimpArgs false

/-! ### spec_l1Cur_among: function 191 -/
def spec_l1Cur_among.f (s0_0 : List Int) (s0_1 : Int) (s0_2 : Int) (l1 : List Int) : Option (Int × Int × Int) := (spec_l1Cur_pick.f s0_0 s0_1 s0_2 (l1.length : Int)).bind fun bt108 => (if 0 ≤ bt108.1 then (if bt108.1 < (l1.length : Int) then (some (rd l1 bt108.1, bt108.2.1, bt108.2.2)) else (none)) else (none))
set_option maxHeartbeats 8000000 in
set_option maxRecDepth 100000 in
theorem spec_l1Cur_among.calls (g : Nat) (s0_0 : List Int) (s0_1 : Int) (s0_2 : Int) (A1 : Option Addr) (c1 : Nat) (l1 : List Int) (r1 : Int) (r2 : Int) (r3 : Int) (w0 w : World) (hI : IsS108 w0 w g s0_0 s0_1 s0_2) (hB : Below w0.heap.size w0 w) (hr1 : Kd.C (Kd.int .i64) w A1 l1.length l1) (hc1 : l1.length ≤ c1) (hf1 : ∀ ad, A1 = some ad → 0 < l1.length → ad.block ≠ g) (h : spec_l1Cur_among.f s0_0 s0_1 s0_2 l1 = some (r1, r2, r3)) :
    Calls Try.prog 191 #[.pointer (some ⟨g, 0, none⟩), .slice A1 l1.length c1] w fun e w' => e = .returned (.int .i64 r1) ∧ IsS108 w0 w' g s0_0 r2 r3 ∧ Below w0.heap.size w0 w' ∧ KeepBut w w' g none := by
  have HR1 := Aside0.mk hr1
  have HC1 := Aside0.mk hc1
  clear hr1 hc1
  have HI0 := Aside0.mk hI
  have HK := Aside0.mk (KeepBut.refl w g none)
  have HL := Aside0.mk hB.size
  clear hI
  have HW0 := Aside0.mk hB.size
  have HB := Aside0.mk hB
  clear hB
  have H : ((spec_l1Cur_pick.f s0_0 s0_1 s0_2 (l1.length : Int)).bind fun bt108 => (if 0 ≤ bt108.1 then (if bt108.1 < (l1.length : Int) then (some (rd l1 bt108.1, bt108.2.1, bt108.2.2)) else (none)) else (none))) = some (r1, r2, r3) := h
  clear h
  replace H := Option.bind_eq_some_iff.mp H
  obtain ⟨⟨t108, t109, t110⟩, A30, H⟩ := H
  replace H : (if 0 ≤ t108 then (if t108 < (l1.length : Int) then (some (rd l1 t108, t109, t110)) else (none)) else (none)) = some (r1, r2, r3) := H
  have A3 := Aside0.mk A30
  clear A30
  by_cases c4 : 0 ≤ t108
  · rw [if_pos c4] at H
    have c4b0 : decide (0 ≤ t108) = true := decide_eq_true c4
    clear c4
    by_cases c5 : t108 < (l1.length : Int)
    · rw [if_pos c5] at H
      have c5b0 : decide (t108 < (l1.length : Int)) = true := decide_eq_true c5
      clear c5
      simp only [Option.some.injEq, Prod.mk.injEq] at H
      obtain ⟨rfl, rfl, rfl⟩ := H
      go_enter Try.func191, Try.ntmps191
      go_wp2_with (first | ((with_reducible refine gate_callee (f := 171) rfl ?_); refine goesL_ (some 9) rfl rfl Try.func171 (by kernel_rfl) rfl #[.pointer (some ⟨g, 0, none⟩), .int .i64 (l1.length : Int)] rfl (by (try simp only [List.map_toArray, List.map_cons, List.map_nil]); first | done | rfl | (simp only [List.length_drop, List.length_take]; rfl)) ?_; (with_reducible refine (spec_l1Cur_pick.calls g s0_0 s0_1 s0_2 (l1.length : Int) t108 t109 t110 w0 _ ?side1 ?side2 A3.out).mono ?_); (case side1 => repeat (first | (with_reducible first | exact HI0.out | apply IsS108.alloc | apply IsS108.drewN | apply IsS108.drew | apply IsS108.set_1 | apply IsS108.set_2) | exact HI0.out)); (case side2 => repeat (first | (with_reducible first | exact HB.out | apply below_alloc | apply pw_below_drewN | apply below_drew1 | refine below_set ?_ (IsS108.ge HI0.out)) | exact HB.out)); rintro e w6 ⟨rfl, hi, hb, hk⟩; refine ⟨_, rfl, ?_⟩; have n0_ := Aside0.mk (KeepBut.trans (by repeat (first | (with_reducible first | exact HK.out | apply KeepBut.set_ | apply keep_drewN | apply keep_drew | apply keep_alloc) | exact HK.out)) hk (.inl rfl)); have n1_ := Aside0.mk (hb); have n2_ := Aside0.mk (hi); clear HK; clear HB; clear HI0; have HK := n0_; have HB := n1_; have HI0 := n2_; clear n0_ n1_ n2_; (try clear hb); (try clear hb2); (try clear hk); (try clear hi); have p111 : 0 ≤ (t108 : Int) := of_decide_eq_true (by first | (with_reducible assumption) | assumption); have q111 : t108 < (l1.length : Int) := of_decide_eq_true (by first | (with_reducible assumption) | assumption); obtain ⟨ad111, e111, hx111_0⟩ := Kd.at_int HR1.out t108 p111 q111; cases e111; replace hx111_0 := keep_cell HK.out hx111_0 (by first | (rw [add_block]; exact hf1 _ rfl (by omega)) | exact hf1 _ rfl (by omega) | exact hf1 ad111 rfl (by omega)); replace p111 := eq_true p111; replace q111 := eq_true q111))
      go_ret
      exact ⟨by first | rfl | (simp [errW_none, errW_some] <;> rfl) | (simp [*, errW_none, errW_some] <;> rfl), by repeat (first | (with_reducible first | exact HI0.out | apply IsS108.alloc | apply IsS108.drewN | apply IsS108.drew | apply IsS108.set_1 | apply IsS108.set_2) | exact HI0.out), by repeat (first | (with_reducible first | exact HB.out | apply below_alloc | apply pw_below_drewN | apply below_drew1 | refine below_set ?_ (IsS108.ge HI0.out)) | exact HB.out), by repeat (first | (with_reducible first | exact HK.out | apply KeepBut.set_ | apply keep_drewN | apply keep_drew | apply keep_alloc) | exact HK.out)⟩
    · rw [if_neg c5] at H
      exact absurd H (by simp)
  · rw [if_neg c4] at H
    exact absurd H (by simp)


end Go.Proofs.Ytaohgllnoomaeaa.Fn
namespace Go.Proofs.Ytaohgllnoomaeaa.Fn
open Go.RowKit Go.Proofs.YtaohgllnoomaeaaW.PrintWords Go.Proofs.YtaohgllnoomaeaaW.PrintLast Go.Proofs.YtaohgllnoomaeaaW.PrintMore
attribute [local go_sem] max2_int min2_int max_two min_two max_three min_three max_four min_four   -- for this text's walks alone
set_option linter.unusedVariables false
set_option linter.unusedSimpArgs false

/-! ### spec_l1Cur_sought: function 204 -/
def spec_l1Cur_sought.f (s0_0 : List Int) (s0_1 : Int) (s0_2 : Int) : Option (Int × Int × Int) := (spec_l1Cur_among.f s0_0 s0_1 s0_2 (([1, 2, 3, 4, 5, 6, 7, 8, 4, 5, 0, 10, (-1)] : List Int))).bind fun bt251 => (some (bt251.1, bt251.2.1, bt251.2.2))
set_option maxHeartbeats 8000000 in
set_option maxRecDepth 100000 in
theorem spec_l1Cur_sought.calls (g : Nat) (s0_0 : List Int) (s0_1 : Int) (s0_2 : Int) (r1 : Int) (r2 : Int) (r3 : Int) (w0 w : World) (hI : IsS108 w0 w g s0_0 s0_1 s0_2) (hB : Below w0.heap.size w0 w) (h : spec_l1Cur_sought.f s0_0 s0_1 s0_2 = some (r1, r2, r3)) :
    Calls Try.prog 204 #[.pointer (some ⟨g, 0, none⟩)] w fun e w' => e = .returned (.int .i64 r1) ∧ IsS108 w0 w' g s0_0 r2 r3 ∧ Below w0.heap.size w0 w' ∧ KeepBut w w' g none := by
  have HI0 := Aside0.mk hI
  have HK := Aside0.mk (KeepBut.refl w g none)
  have HL := Aside0.mk hB.size
  clear hI
  have HW0 := Aside0.mk hB.size
  have HB := Aside0.mk hB
  clear hB
  have H : ((spec_l1Cur_among.f s0_0 s0_1 s0_2 (([1, 2, 3, 4, 5, 6, 7, 8, 4, 5, 0, 10, (-1)] : List Int))).bind fun bt251 => (some (bt251.1, bt251.2.1, bt251.2.2))) = some (r1, r2, r3) := h
  clear h
  obtain ⟨y248, hy248⟩ : ∃ y_ : List Int, y_ = (([1, 2, 3, 4, 5, 6, 7, 8, 4, 5, 0, 10, (-1)] : List Int)) := ⟨_, rfl⟩
  replace H : ((spec_l1Cur_among.f s0_0 s0_1 s0_2 y248).bind fun bt251 => (some (bt251.1, bt251.2.1, bt251.2.2))) = some (r1, r2, r3) := by first | (rw [hy248]; with_reducible exact H) | (have H2_ := (Option.bind_some _ _).symm.trans H; rw [hy248]; with_reducible exact H2_) | (have H2_ := (Option.bind_some _ _).symm.trans H; with_reducible exact H2_) | with_reducible exact H | (rw [hy248]; exact H) | exact H
  have Ny248 := Aside0.mk hy248
  clear hy248
  replace H := Option.bind_eq_some_iff.mp H
  obtain ⟨⟨t251, t252, t253⟩, A20, H⟩ := H
  replace H : (some (t251, t252, t253)) = some (r1, r2, r3) := H
  have A2 := Aside0.mk A20
  clear A20
  simp only [Option.some.injEq, Prod.mk.injEq] at H
  obtain ⟨rfl, rfl, rfl⟩ := H
  go_enter Try.func204, Try.ntmps204
  go_wp2_with (first | ((with_reducible refine gate_dst (N := 4) rfl ?_); refine Kd.R_lit (Kd.int .i64) _ 3 ?hg (N := 4) ?hd (xs := ([1, 2, 3, 4, 5, 6, 7, 8, 4, 5, 0, 10, (-1)] : List Int)) (inner := [.int .i64 1, .int .i64 2, .int .i64 3, .int .i64 4, .int .i64 5, .int .i64 6, .int .i64 7, .int .i64 8, .int .i64 4, .int .i64 5, .int .i64 0, .int .i64 10, .int .i64 (-1)]) (ok := fun _ => True) (okp := fun _ => True) ?hr ?hp (fun _ hk => hk) trivial (Below.refl _ _) (Nat.le_refl _) (by simp) ?_; (case hd => rfl); (case hg => rfl); (case hr => first | (go_simp; done) | (go_simp; rfl)); (case hp => exact (Reps.one (show Kd.M (Kd.int .i64) _ _ _ 1 [.int .i64 1] from rfl) (Reps.one (show Kd.M (Kd.int .i64) _ _ _ 2 [.int .i64 2] from rfl) (Reps.one (show Kd.M (Kd.int .i64) _ _ _ 3 [.int .i64 3] from rfl) (Reps.one (show Kd.M (Kd.int .i64) _ _ _ 4 [.int .i64 4] from rfl) (Reps.one (show Kd.M (Kd.int .i64) _ _ _ 5 [.int .i64 5] from rfl) (Reps.one (show Kd.M (Kd.int .i64) _ _ _ 6 [.int .i64 6] from rfl) (Reps.one (show Kd.M (Kd.int .i64) _ _ _ 7 [.int .i64 7] from rfl) (Reps.one (show Kd.M (Kd.int .i64) _ _ _ 8 [.int .i64 8] from rfl) (Reps.one (show Kd.M (Kd.int .i64) _ _ _ 4 [.int .i64 4] from rfl) (Reps.one (show Kd.M (Kd.int .i64) _ _ _ 5 [.int .i64 5] from rfl) (Reps.one (show Kd.M (Kd.int .i64) _ _ _ 0 [.int .i64 0] from rfl) (Reps.one (show Kd.M (Kd.int .i64) _ _ _ 10 [.int .i64 10] from rfl) (Reps.one (show Kd.M (Kd.int .i64) _ _ _ (-1) [.int .i64 (-1)] from rfl) (Reps.none _ _))))))))))))))); intro v249 w3 ho4 hb hg_ hnew_; clear hg_ hnew_; (first | rw [← Ny248.out] at ho4 | (simp only [Int.reduceToNat] at ho4; rw [← Ny248.out] at ho4)); have n0_ := Aside0.mk (Kd.R_lower ho4 (keep_size (w := w) (g := g) (row := none) (by repeat (first | (with_reducible first | exact HK.out | apply KeepBut.set_ | apply keep_drewN | apply keep_drew | apply keep_alloc) | exact HK.out)))); have n1_ := Aside0.mk (IsS108.below (by repeat (first | (with_reducible first | exact HI0.out | apply IsS108.alloc | apply IsS108.drewN | apply IsS108.drew | apply IsS108.set_1 | apply IsS108.set_2) | exact HI0.out)) hb); have n2_ := Aside0.mk (KeepBut.trans (by repeat (first | (with_reducible first | exact HK.out | apply KeepBut.set_ | apply keep_drewN | apply keep_drew | apply keep_alloc) | exact HK.out)) (KeepBut.of_below hb g none) (.inl rfl)); have n3_ := Aside0.mk (below_step (by repeat (first | (with_reducible first | exact HB.out | apply below_alloc | apply pw_below_drewN | apply below_drew1 | refine below_set ?_ (IsS108.ge HI0.out)) | exact HB.out)) hb); clear HI0; clear HK; clear HB; have HO250 := n0_; have HI0 := n1_; have HK := n2_; have HB := n3_; clear n0_ n1_ n2_ n3_; clear hb ho4; obtain ⟨Ao5, co5, eo5⟩ := Kd.R_slice HO250.out; subst eo5) | ((with_reducible refine gate_callee (f := 191) rfl ?_); refine goesL_ (some 5) rfl rfl Try.func191 (by kernel_rfl) rfl #[.pointer (some ⟨g, 0, none⟩), .slice Ao5 y248.length co5] rfl (by (try simp only [List.map_toArray, List.map_cons, List.map_nil]); first | done | rfl | (simp only [List.length_drop, List.length_take]; rfl)) ?_; (with_reducible refine (spec_l1Cur_among.calls g s0_0 s0_1 s0_2 _ _ y248 t251 t252 t253 w0 _ ?side1 ?side2 ?side3 ?side4 ?side5 A2.out).mono ?_); (case side1 => repeat (first | (with_reducible first | exact HI0.out | apply IsS108.alloc | apply IsS108.drewN | apply IsS108.drew | apply IsS108.set_1 | apply IsS108.set_2) | exact HI0.out)); (case side2 => repeat (first | (with_reducible first | exact HB.out | apply below_alloc | apply pw_below_drewN | apply below_drew1 | refine below_set ?_ (IsS108.ge HI0.out)) | exact HB.out)); (case side3 => repeat (first | exact (Kd.R_reads' HO250.out).2.2 | (with_reducible refine Kd.C_alloc ?_ _) | (with_reducible refine Kd.C_drewN ?_ _) | (with_reducible refine Kd.C_drew ?_))); (case side4 => exact (Kd.R_reads' HO250.out).2.1); (case side5 => exact far_slice (IsS108.own_ne HI0.out HO250.out (by decide))); rintro e w6 ⟨rfl, hi, hb, hk⟩; refine ⟨_, rfl, ?_⟩; have n0_ := Aside0.mk (Kd.R_mono (Kd.R_keep (IsS108.apart (show IsS108 w0 _ g s0_0 s0_1 s0_2 from by repeat (first | (with_reducible first | exact HI0.out | apply IsS108.alloc | apply IsS108.drewN | apply IsS108.drew | apply IsS108.set_1 | apply IsS108.set_2) | exact HI0.out)) (by (with_reducible repeat (first | apply Kd.R_alloc | apply Kd.R_drewN | apply Kd.R_drew)); exact HO250.out) (by decide)) hk (fun _ h => h.2)) (fun _ h => h.1)); have n1_ := Aside0.mk (KeepBut.trans (by repeat (first | (with_reducible first | exact HK.out | apply KeepBut.set_ | apply keep_drewN | apply keep_drew | apply keep_alloc) | exact HK.out)) hk (.inl rfl)); have n2_ := Aside0.mk (hb); have n3_ := Aside0.mk (hi); clear HO250; clear HK; clear HB; clear HI0; have HO250 := n0_; have HK := n1_; have HB := n2_; have HI0 := n3_; clear n0_ n1_ n2_ n3_; (try clear hb); (try clear hb2); (try clear hk); (try clear hi)))
  go_ret
  exact ⟨by first | rfl | (simp [errW_none, errW_some] <;> rfl) | (simp [*, errW_none, errW_some] <;> rfl), by repeat (first | (with_reducible first | exact HI0.out | apply IsS108.alloc | apply IsS108.drewN | apply IsS108.drew | apply IsS108.set_1 | apply IsS108.set_2) | exact HI0.out), by repeat (first | (with_reducible first | exact HB.out | apply below_alloc | apply pw_below_drewN | apply below_drew1 | refine below_set ?_ (IsS108.ge HI0.out)) | exact HB.out), by repeat (first | (with_reducible first | exact HK.out | apply KeepBut.set_ | apply keep_drewN | apply keep_drew | apply keep_alloc) | exact HK.out)⟩


end Go.Proofs.Ytaohgllnoomaeaa.Fn
namespace Go.Proofs.Ytaohgllnoomaeaa.Fn
open Go.RowKit Go.Proofs.YtaohgllnoomaeaaW.PrintWords Go.Proofs.YtaohgllnoomaeaaW.PrintLast Go.Proofs.YtaohgllnoomaeaaW.PrintMore
attribute [local go_sem] max2_int min2_int max_two min_two max_three min_three max_four min_four   -- for this text's walks alone
set_option linter.unusedVariables false
set_option linter.unusedSimpArgs false

/-! ### spec_DrawCountSkolem: function 159 -/
def spec_DrawCountSkolem.f (l0 : List Int) : Option (Int) := (spec_l1Cur_sought.f l0 0 0).bind fun bt255 => (some bt255.1)
set_option maxHeartbeats 8000000 in
set_option maxRecDepth 100000 in
theorem spec_DrawCountSkolem.calls (A0 : Option Addr) (c0 : Nat) (l0 : List Int) (r : Int) (w : World) (hr0 : Kd.C (Kd.int .u8) w A0 l0.length l0) (hc0 : l0.length ≤ c0) (h : spec_DrawCountSkolem.f l0 = some r) :
    Calls Try.prog 159 #[.slice A0 l0.length c0] w fun e w' => e = .returned (.int .i64 r) ∧ Below w.heap.size w w' := by
  have hu108 := Try.underlying108
  have HR0 := Aside0.mk hr0
  have HC0 := Aside0.mk hc0
  clear hr0 hc0
  have HB := Aside0.mk (Below.refl w.heap.size w)
  have H : ((spec_l1Cur_sought.f l0 0 0).bind fun bt255 => (some bt255.1)) = some r := h
  clear h
  replace H := Option.bind_eq_some_iff.mp H
  obtain ⟨⟨t255, t256, t257⟩, A20, H⟩ := H
  replace H : (some t255) = some r := H
  have A2 := Aside0.mk A20
  clear A20
  obtain rfl := Option.some.inj H
  go_enter Try.func159, Try.ntmps159
  go_wp2_with (first | ((with_reducible refine gate_dst (N := 6) rfl ?_); refine box_event ?hg (N := 6) ?hd (cs := #[.slice A0 l0.length c0, .int .i64 0, .int .u64 0]) (t := 108) ?hr ?_; (case hd => rfl); (case hg => rfl); (case hr => first | (go_simp; done) | (go_simp; rfl)); intro gb254 hg w3 hbox hb; have n0_ := Aside0.mk (below_step (by repeat (first | (with_reducible first | exact HB.out | apply below_alloc | apply pw_below_drewN | apply below_drew1) | exact HB.out)) hb); have n1_ := Aside0.mk ((⟨_, _, hbox, (by rw [hg]; exact (below_size (by repeat (first | (with_reducible first | exact HB.out | apply below_alloc | apply pw_below_drewN | apply below_drew1) | exact HB.out))) : w.heap.size ≤ gb254), HR0.out⟩ : IsS108 w w3 gb254 l0 0 0)); clear HB; have HB := n0_; have HI254 := n1_; clear n0_ n1_; clear hb hbox hg) | ((with_reducible refine gate_callee (f := 204) rfl ?_); refine goesL_ (some 8) rfl rfl Try.func204 (by kernel_rfl) rfl #[.pointer (some ⟨gb254, 0, none⟩)] rfl (by (try simp only [List.map_toArray, List.map_cons, List.map_nil]); first | done | rfl | (simp only [List.length_drop, List.length_take]; rfl)) ?_; (with_reducible refine (spec_l1Cur_sought.calls gb254 l0 0 0 t255 t256 t257 w _ ?side1 ?side2 A2.out).mono ?_); (case side1 => repeat (first | (with_reducible first | exact HI254.out | apply IsS108.alloc | apply IsS108.drewN | apply IsS108.drew | apply IsS108.set_1 | apply IsS108.set_2) | exact HI254.out)); (case side2 => repeat (first | (with_reducible first | exact HB.out | apply below_alloc | apply pw_below_drewN | apply below_drew1 | refine below_set ?_ (IsS108.ge HI254.out)) | exact HB.out)); rintro e w4 ⟨rfl, hi, hb, hk⟩; refine ⟨_, rfl, ?_⟩; have n0_ := Aside0.mk (hb); have n1_ := Aside0.mk (hi); clear HB; clear HI254; have HB := n0_; have HI254 := n1_; clear n0_ n1_; (try clear hb); (try clear hb2); (try clear hk); (try clear hi)))
  go_ret
  exact ⟨by first | rfl | (simp [errW_none, errW_some] <;> rfl) | (simp [*, errW_none, errW_some] <;> rfl), by repeat (first | (with_reducible first | exact HB.out | apply below_alloc | apply pw_below_drewN | apply below_drew1 | refine below_set ?_ (IsS108.ge HI254.out)) | exact HB.out)⟩


end Go.Proofs.Ytaohgllnoomaeaa.Fn
namespace Go.Proofs.Ytaohgllnoomaeaa.Fn
open Go.RowKit Go.Proofs.YtaohgllnoomaeaaW.PrintWords Go.Proofs.YtaohgllnoomaeaaW.PrintLast Go.Proofs.YtaohgllnoomaeaaW.PrintMore
attribute [local go_sem] max2_int min2_int max_two min_two max_three min_three max_four min_four   -- for this text's walks alone
set_option linter.unusedVariables false
set_option linter.unusedSimpArgs false

/-! ### spec_DrawAllSkolem: function 28 -/
def spec_DrawAllSkolem.f (l0 : List Int) : Option (Int) := (spec_DrawCountSkolem.f l0).bind fun t258 => (some t258)
set_option maxHeartbeats 8000000 in
set_option maxRecDepth 100000 in
theorem spec_DrawAllSkolem.calls (A0 : Option Addr) (c0 : Nat) (l0 : List Int) (r : Int) (w : World) (hr0 : Kd.C (Kd.int .u8) w A0 l0.length l0) (hc0 : l0.length ≤ c0) (h : spec_DrawAllSkolem.f l0 = some r) :
    Calls Try.prog 28 #[.slice A0 l0.length c0] w fun e w' => e = .returned (.int .i64 r) ∧ Below w.heap.size w w' := by
  have HR0 := Aside0.mk hr0
  have HC0 := Aside0.mk hc0
  clear hr0 hc0
  have HB := Aside0.mk (Below.refl w.heap.size w)
  have H : ((spec_DrawCountSkolem.f l0).bind fun t258 => (some t258)) = some r := h
  clear h
  replace H := Option.bind_eq_some_iff.mp H
  obtain ⟨t258, A20, H⟩ := H
  replace H : (some t258) = some r := H
  have A2 := Aside0.mk A20
  clear A20
  obtain rfl := Option.some.inj H
  go_enter Try.func28, Try.ntmps28
  go_wp2_with (first | ((with_reducible refine gate_callee (f := 159) rfl ?_); refine goesL_ (some 4) rfl rfl Try.func159 (by kernel_rfl) rfl #[.slice A0 l0.length c0] rfl (by (try simp only [List.map_toArray, List.map_cons, List.map_nil]); first | done | rfl | (simp only [List.length_drop, List.length_take]; rfl)) ?_; (with_reducible refine (spec_DrawCountSkolem.calls _ _ l0 t258 _ ?side1 ?side2 A2.out).mono ?_); (case side1 => repeat (first | exact HR0.out | (with_reducible refine Kd.C_alloc ?_ _) | (with_reducible refine Kd.C_drewN ?_ _) | (with_reducible refine Kd.C_drew ?_))); (case side2 => exact HC0.out); rintro e w3 ⟨rfl, hb⟩; refine ⟨_, rfl, ?_⟩; have n0_ := Aside0.mk (below_step (by repeat (first | (with_reducible first | exact HB.out | apply below_alloc | apply pw_below_drewN | apply below_drew1) | exact HB.out)) hb); clear HB; have HB := n0_; clear n0_; (try clear hb); (try clear hb2); (try clear hk); (try clear hi)))
  go_ret
  exact ⟨by first | rfl | (simp [errW_none, errW_some] <;> rfl) | (simp [*, errW_none, errW_some] <;> rfl), by repeat (first | (with_reducible first | exact HB.out | apply below_alloc | apply pw_below_drewN | apply below_drew1) | exact HB.out)⟩


end Go.Proofs.Ytaohgllnoomaeaa.Fn
namespace Go.Proofs.Ytaohgllnoomaeaa.Fn
open Go.RowKit Go.Proofs.YtaohgllnoomaeaaW.PrintWords Go.Proofs.YtaohgllnoomaeaaW.PrintLast Go.Proofs.YtaohgllnoomaeaaW.PrintMore
attribute [local go_sem] max2_int min2_int max_two min_two max_three min_three max_four min_four   -- for this text's walks alone
set_option linter.unusedVariables false
set_option linter.unusedSimpArgs false

/-! ### spec_l1In: function 192 -/
def spec_l1In.f (a0 : Int) (a1 : Int) (a2 : Int) : Option (Bool) := if a0 ≥ a1 then (some (decide (a0 ≤ a2))) else (some false)
set_option maxHeartbeats 8000000 in
set_option maxRecDepth 100000 in
theorem spec_l1In.calls (a0 : Int) (a1 : Int) (a2 : Int) (r : Bool) (w : World) (h : spec_l1In.f a0 a1 a2 = some r) :
    Calls Try.prog 192 #[.int .i64 a0, .int .i64 a1, .int .i64 a2] w fun e w' => e = .returned (.bool r) ∧ Drawn0 w w' := by
  have H : (if a0 ≥ a1 then (some (decide (a0 ≤ a2))) else (some false)) = some r := h
  clear h
  by_cases c4 : a0 ≥ a1
  · rw [if_pos c4] at H
    have c4b0 : decide (a1 ≤ a0) = true := decide_eq_true c4
    clear c4
    obtain rfl := Option.some.inj H
    go_enter Try.func192, Try.ntmps192
    go_wp2
    go_ret
    exact ⟨by first | rfl | (simp; done) | (simp [*]; done), by repeat (first | exact Drawn0.refl _ | apply Drawn0.step)⟩
  · rw [if_neg c4] at H
    have c4b0 : decide (a1 ≤ a0) = false := decide_eq_false c4
    clear c4
    obtain rfl := Option.some.inj H
    go_enter Try.func192, Try.ntmps192
    go_wp2
    go_ret
    exact ⟨by first | rfl | (simp; done) | (simp [*]; done), by repeat (first | exact Drawn0.refl _ | apply Drawn0.step)⟩


end Go.Proofs.Ytaohgllnoomaeaa.Fn
namespace Go.Proofs.Ytaohgllnoomaeaa.Fn
open Go.RowKit Go.Proofs.YtaohgllnoomaeaaW.PrintWords Go.Proofs.YtaohgllnoomaeaaW.PrintLast Go.Proofs.YtaohgllnoomaeaaW.PrintMore
attribute [local go_sem] max2_int min2_int max_two min_two max_three min_three max_four min_four   -- for this text's walks alone
set_option linter.unusedVariables false
set_option linter.unusedSimpArgs false

/-! ### spec_seSought: function 162 -/
def spec_seSought.f (a0 : Int) : Option (Bool) := (spec_l1In.f a0 1 9).bind fun t130 => (some t130)
set_option maxHeartbeats 8000000 in
set_option maxRecDepth 100000 in
theorem spec_seSought.calls (a0 : Int) (r : Bool) (w : World) (h : spec_seSought.f a0 = some r) :
    Calls Try.prog 162 #[.int .i64 a0] w fun e w' => e = .returned (.bool r) ∧ Drawn0 w w' := by
  have H : ((spec_l1In.f a0 1 9).bind fun t130 => (some t130)) = some r := h
  clear h
  replace H := Option.bind_eq_some_iff.mp H
  obtain ⟨t130, A20, H⟩ := H
  replace H : (some t130) = some r := H
  have A2 := Aside0.mk A20
  clear A20
  obtain rfl := Option.some.inj H
  go_enter Try.func162, Try.ntmps162
  go_wp2_with (first | ((with_reducible refine gate_callee (f := 192) rfl ?_); refine goesL_ (some 4) rfl rfl Try.func192 (by kernel_rfl) rfl #[.int .i64 a0, .int .i64 1, .int .i64 9] rfl (by (try simp only [List.map_toArray, List.map_cons, List.map_nil]); first | done | rfl | (simp only [List.length_drop, List.length_take]; rfl)) ?_; (with_reducible refine (spec_l1In.calls a0 1 9 t130 _ A2.out).mono ?_); rintro e w' ⟨rfl, ⟨nd, rfl⟩⟩; refine ⟨_, rfl, ?_⟩))
  go_ret
  exact ⟨by first | rfl | (simp; done) | (simp [*]; done), by repeat (first | exact Drawn0.refl _ | apply Drawn0.step)⟩


end Go.Proofs.Ytaohgllnoomaeaa.Fn
namespace Go.Proofs.Ytaohgllnoomaeaa.Fn
open Go.RowKit Go.Proofs.YtaohgllnoomaeaaW.PrintWords Go.Proofs.YtaohgllnoomaeaaW.PrintLast Go.Proofs.YtaohgllnoomaeaaW.PrintMore
attribute [local go_sem] max2_int min2_int max_two min_two max_three min_three max_four min_four   -- for this text's walks alone
set_option linter.unusedVariables false
set_option linter.unusedSimpArgs false

/-! ### spec_seAll: function 221 (given) -/
/-! ### the reference's search from its beginning -/
def SeRet (from_ to_ shift hole most : Int) (p : Nat) (s' : SeSt) (w : World) (e : Ending) (w' : World) : Prop := ∃ (gS gr : Nat), e = .returned (.pointer (some ⟨gS, 0, none⟩)) ∧ w.heap.size ≤ gS ∧ w.heap.size ≤ gr ∧ gS ≠ gr ∧ SeI w.heap.size gS gr from_ to_ shift hole most (List.replicate p 0) 0 s' w' ∧ Below w.heap.size w w'
set_option maxHeartbeats 8000000 in
set_option maxRecDepth 100000 in
theorem seAll_hole (from_ to_ shift hole most : Int) (p : Nat) (s' : SeSt) (w : World) (hfr : 1 ≤ from_ ∧ from_ ≤ 20) (hto : 0 ≤ to_ ∧ to_ ≤ 40) (hs : 0 ≤ shift ∧ shift ≤ 1) (hft : from_ ≤ to_) (hh : 0 ≤ hole) (hp : (p : Int) = 2 * (to_ - from_ + 1) + 1) (h : seF from_ to_ shift hole most (p + 1) (0, []) (List.replicate p 0) 0 = some s') :
    Calls Try.prog 221 #[.int .i64 from_, .int .i64 to_, .int .i64 shift, .int .i64 hole, .int .i64 most] w (SeRet from_ to_ shift hole most p s' w) := by
  have HPL := Aside0.mk (show p ≤ 100 by omega)
  have HP := Aside0.mk (show p ≤ 1000 by omega)
  have HF := Aside0.mk (show (1 ≤ from_ ∧ from_ ≤ 20) ∧ (0 ≤ to_ ∧ to_ ≤ 40) ∧ (0 ≤ shift ∧ shift ≤ 1) ∧ 0 < p from ⟨hfr, hto, hs, by omega⟩)
  have H := Aside0.mk h
  have HW := Aside0.mk (show wrap64 (wrap64 (2 * wrap64 (wrap64 (to_ - from_) + 1)) + 1) = (p : Int) by rw [wrap_in (n := to_ - from_) (by omega) (by omega), wrap_in (n := to_ - from_ + 1) (by omega) (by omega), wrap_in (n := 2 * (to_ - from_ + 1)) (by omega) (by omega), wrap_in (by omega) (by omega)]; omega)
  have b1 : decide (0 ≤ hole) = true := decide_eq_true hh
  clear h hs hft hp hh hfr hto
  go_enter Try.func221, Try.ntmps221
  go_wp2_with (first | ((with_reducible refine gate_dst (N := 23) rfl ?_); refine IB_make_event (N := 23) (x := .tmp 22) (y := .tmp 22) (n := p) ?hg ?hd ?ho ?hx ?hy HP.out ?_; (case hg => rfl); (case hd => rfl); (case ho => rfl); (case hx => exact congrArg (Value.int .i64) HW.out); (case hy => exact congrArg (Value.int .i64) HW.out); intro gr hgr w1 hI1 hB1; have HGR := Aside0.mk hgr; have HI1 := Aside0.mk hI1; have HB1 := Aside0.mk hB1; clear hgr hI1 hB1) | ((with_reducible refine gate_dst (N := 30) rfl ?_); refine box_event ?hg (N := 30) ?hd (cs := #[.slice (some ⟨gr, 0, none⟩) p p, .int .i64 from_, .int .i64 to_, .int .i64 shift, .int .i64 hole, .int .i64 0, .int .i64 most, .int .i64 0, .slice none 0 0]) (t := 96) ?hr ?_; (case hd => rfl); (case hg => rfl); (case hr => first | (go_simp; done) | (go_simp; rfl)); intro gS hg w2 hbox hb; have BK := Aside0.mk hbox; have HB2 := Aside0.mk hb; have GS := Aside0.mk hg; clear hg hbox hb) | ((with_reducible refine gate_callee (f := 254) rfl ?_); have HSI := Aside0.mk (show SeI w.heap.size gS gr from_ to_ shift hole most (List.replicate p 0) 0 (0, []) w2 from ⟨⟨_, by rw [List.length_replicate]; exact BK.out, Kd.S_nil _ _ _ _ _⟩, IB_below HI1.out HB2.out⟩); have HBB := Aside0.mk (show Below w.heap.size w w2 from HB1.out.trans (HB2.out.mono HB1.out.size)); have HNE := Aside0.mk (show gS ≠ gr from fun e => by have h1 := blk_lt HI1.out; have h2 := GS.out; omega); have HG1 := Aside0.mk (show w.heap.size ≤ gS by have h1 := HB1.out.size; have h2 := GS.out; omega); have HG2 := Aside0.mk (show w.heap.size ≤ gr by have h2 := HGR.out; omega); have HCALL := Aside0.mk (look_call HF.out.1 HF.out.2.1 HF.out.2.2.1 HNE.out HG1.out HG2.out (p + 1) (0, []) s' (List.replicate p 0) 0 w2 HBB.out.size (by rw [List.length_replicate]; exact HF.out.2.2.2) (by rw [List.length_replicate]; have := HPL.out; omega) (by decide) HSI.out H.out); refine goesL_ (some 32) rfl rfl Try.func254 (by kernel_rfl) rfl #[.pointer (some ⟨gS, 0, none⟩)] rfl (by (try simp only [List.map_toArray, List.map_cons, List.map_nil]); first | done | rfl) ?_; refine HCALL.out.mono ?_; rintro e w3 ⟨rfl, hI3, hB3⟩; refine ⟨_, rfl, ?_⟩; have HI3 := Aside0.mk hI3; have HB3 := Aside0.mk hB3; clear hI3 hB3 HCALL))
  go_ret
  exact ⟨gS, gr, rfl, HG1.out, HG2.out, HNE.out, HI3.out, HBB.out.trans HB3.out⟩
set_option maxHeartbeats 8000000 in
set_option maxRecDepth 100000 in
theorem seAll_none (from_ to_ shift hole most : Int) (p : Nat) (s' : SeSt) (w : World) (hfr : 1 ≤ from_ ∧ from_ ≤ 20) (hto : 0 ≤ to_ ∧ to_ ≤ 40) (hs : 0 ≤ shift ∧ shift ≤ 1) (hft : from_ ≤ to_) (hh : hole < 0) (hp : (p : Int) = 2 * (to_ - from_ + 1)) (h : seF from_ to_ shift hole most (p + 1) (0, []) (List.replicate p 0) 0 = some s') :
    Calls Try.prog 221 #[.int .i64 from_, .int .i64 to_, .int .i64 shift, .int .i64 hole, .int .i64 most] w (SeRet from_ to_ shift hole most p s' w) := by
  have HPL := Aside0.mk (show p ≤ 100 by omega)
  have HP := Aside0.mk (show p ≤ 1000 by omega)
  have HF := Aside0.mk (show (1 ≤ from_ ∧ from_ ≤ 20) ∧ (0 ≤ to_ ∧ to_ ≤ 40) ∧ (0 ≤ shift ∧ shift ≤ 1) ∧ 0 < p from ⟨hfr, hto, hs, by omega⟩)
  have H := Aside0.mk h
  have HW := Aside0.mk (show wrap64 (2 * wrap64 (wrap64 (to_ - from_) + 1)) = (p : Int) by rw [wrap_in (n := to_ - from_) (by omega) (by omega), wrap_in (n := to_ - from_ + 1) (by omega) (by omega), wrap_in (by omega) (by omega)]; omega)
  have b1 : decide (0 ≤ hole) = false := decide_eq_false (by omega)
  clear h hs hft hp hh hfr hto
  go_enter Try.func221, Try.ntmps221
  go_wp2_with (first | ((with_reducible refine gate_dst (N := 23) rfl ?_); refine IB_make_event (N := 23) (x := .tmp 22) (y := .tmp 22) (n := p) ?hg ?hd ?ho ?hx ?hy HP.out ?_; (case hg => rfl); (case hd => rfl); (case ho => rfl); (case hx => exact congrArg (Value.int .i64) HW.out); (case hy => exact congrArg (Value.int .i64) HW.out); intro gr hgr w1 hI1 hB1; have HGR := Aside0.mk hgr; have HI1 := Aside0.mk hI1; have HB1 := Aside0.mk hB1; clear hgr hI1 hB1) | ((with_reducible refine gate_dst (N := 30) rfl ?_); refine box_event ?hg (N := 30) ?hd (cs := #[.slice (some ⟨gr, 0, none⟩) p p, .int .i64 from_, .int .i64 to_, .int .i64 shift, .int .i64 hole, .int .i64 0, .int .i64 most, .int .i64 0, .slice none 0 0]) (t := 96) ?hr ?_; (case hd => rfl); (case hg => rfl); (case hr => first | (go_simp; done) | (go_simp; rfl)); intro gS hg w2 hbox hb; have BK := Aside0.mk hbox; have HB2 := Aside0.mk hb; have GS := Aside0.mk hg; clear hg hbox hb) | ((with_reducible refine gate_callee (f := 254) rfl ?_); have HSI := Aside0.mk (show SeI w.heap.size gS gr from_ to_ shift hole most (List.replicate p 0) 0 (0, []) w2 from ⟨⟨_, by rw [List.length_replicate]; exact BK.out, Kd.S_nil _ _ _ _ _⟩, IB_below HI1.out HB2.out⟩); have HBB := Aside0.mk (show Below w.heap.size w w2 from HB1.out.trans (HB2.out.mono HB1.out.size)); have HNE := Aside0.mk (show gS ≠ gr from fun e => by have h1 := blk_lt HI1.out; have h2 := GS.out; omega); have HG1 := Aside0.mk (show w.heap.size ≤ gS by have h1 := HB1.out.size; have h2 := GS.out; omega); have HG2 := Aside0.mk (show w.heap.size ≤ gr by have h2 := HGR.out; omega); have HCALL := Aside0.mk (look_call HF.out.1 HF.out.2.1 HF.out.2.2.1 HNE.out HG1.out HG2.out (p + 1) (0, []) s' (List.replicate p 0) 0 w2 HBB.out.size (by rw [List.length_replicate]; exact HF.out.2.2.2) (by rw [List.length_replicate]; have := HPL.out; omega) (by decide) HSI.out H.out); refine goesL_ (some 32) rfl rfl Try.func254 (by kernel_rfl) rfl #[.pointer (some ⟨gS, 0, none⟩)] rfl (by (try simp only [List.map_toArray, List.map_cons, List.map_nil]); first | done | rfl) ?_; refine HCALL.out.mono ?_; rintro e w3 ⟨rfl, hI3, hB3⟩; refine ⟨_, rfl, ?_⟩; have HI3 := Aside0.mk hI3; have HB3 := Aside0.mk hB3; clear hI3 hB3 HCALL))
  go_ret
  exact ⟨gS, gr, rfl, HG1.out, HG2.out, HNE.out, HI3.out, HBB.out.trans HB3.out⟩
/-- The list that a search keeps. -/
def spec_seAll.f (a0 a1 a2 a3 a4 : Int) : Option (List (List Int)) := if (1 ≤ a0 ∧ a0 ≤ 20) ∧ (0 ≤ a1 ∧ a1 ≤ 40) ∧ (0 ≤ a2 ∧ a2 ≤ 1) ∧ a0 ≤ a1 then (if 0 ≤ a3 then (seF a0 a1 a2 a3 a4 (2 * (a1 - a0 + 1).toNat + 1 + 1) (0, []) (List.replicate (2 * (a1 - a0 + 1).toNat + 1) 0) 0).map (·.2) else (seF a0 a1 a2 a3 a4 (2 * (a1 - a0 + 1).toNat + 1) (0, []) (List.replicate (2 * (a1 - a0 + 1).toNat) 0) 0).map (·.2)) else none
theorem spec_seAll.calls (a0 a1 a2 a3 a4 : Int) (r1 : List (List Int)) (w : World) (h : spec_seAll.f a0 a1 a2 a3 a4 = some r1) :
    Calls Try.prog 221 #[.int .i64 a0, .int .i64 a1, .int .i64 a2, .int .i64 a3, .int .i64 a4] w fun e w' => ∃ v0_ : Value, (∃ gS, e = .returned (.pointer (some ⟨gS, 0, none⟩)) ∧ w'.cell? ⟨gS, 8, none⟩ = some v0_) ∧ Kd.S (Kd.slice 3 (Kd.int .i64)) 31 w' w.heap.size (fun _ => True) v0_ r1 ∧ Below w.heap.size w w' := by
  unfold spec_seAll.f at h
  split at h
  case isFalse => cases h
  rename_i hn
  have key : ∃ p s', r1 = s'.2 ∧ Calls Try.prog 221 #[.int .i64 a0, .int .i64 a1, .int .i64 a2, .int .i64 a3, .int .i64 a4] w (SeRet a0 a1 a2 a3 a4 p s' w) := by
    split at h
    · obtain ⟨s', hrun, rfl⟩ := Option.map_eq_some_iff.1 h
      exact ⟨_, s', rfl, seAll_hole a0 a1 a2 a3 a4 _ s' w hn.1 hn.2.1 hn.2.2.1 hn.2.2.2 (by omega) (by omega) hrun⟩
    · obtain ⟨s', hrun, rfl⟩ := Option.map_eq_some_iff.1 h
      exact ⟨_, s', rfl, seAll_none a0 a1 a2 a3 a4 _ s' w hn.1 hn.2.1 hn.2.2.1 hn.2.2.2 (by omega) (by omega) hrun⟩
  obtain ⟨p, s', rfl, hc⟩ := key
  refine hc.mono ?_
  rintro e w' ⟨gS, gr, rfl, hgS, hgr, hne, hI, hB⟩
  obtain ⟨⟨v, ho, hS⟩, hrow⟩ := hI
  have hc8 := blk_cell ho 8
  simp only [List.getElem?_toArray, List.getElem?_cons_zero, List.getElem?_cons_succ] at hc8
  exact ⟨v, ⟨gS, rfl, hc8⟩, Kd.S_mono hS (fun _ _ => trivial), hB⟩


end Go.Proofs.Ytaohgllnoomaeaa.Fn
namespace Go.Proofs.Ytaohgllnoomaeaa.Fn
open Go.RowKit Go.Proofs.YtaohgllnoomaeaaW.PrintWords Go.Proofs.YtaohgllnoomaeaaW.PrintLast Go.Proofs.YtaohgllnoomaeaaW.PrintMore
attribute [local go_sem] max2_int min2_int max_two min_two max_three min_three max_four min_four   -- for this text's walks alone
set_option linter.unusedVariables false
set_option linter.unusedSimpArgs false

/-! ### spec_seSkolem: function 163 (given) -/
/-- What the search of seSkolem comes to: how many, and the first of them. -/
def seSkolemRun (n : Nat) (most : Int) : Option SeSt := seF 1 n 0 (-1) most (2 * n + 1) (0, []) (List.replicate (2 * n) 0) 0
set_option maxHeartbeats 8000000 in
set_option maxRecDepth 100000 in
theorem seSkolem_call (n : Nat) (most : Int) (s' : SeSt) (w : World) (hn : 1 ≤ n ∧ n ≤ 20) (h : seSkolemRun n most = some s') :
    Calls Try.prog 163 #[.int .i64 (n : Int), .int .i64 most] w (SeRet 1 n 0 (-1) most (2 * n) s' w) := by
  have hw1 := wrap_in (n := 2 * (n : Int)) (by omega) (by omega)
  have hw2 := wrap_in (n := 2 * (n : Int) - 1) (by omega) (by omega)
  have HALL := Aside0.mk (seAll_none 1 n 0 (-1) most (2 * n) s' w (by omega) (by omega) (by omega) (by omega) (by omega) (by omega) h)
  clear h hn
  go_enter Try.func163, Try.ntmps163
  go_wp2_with (first | ((with_reducible refine gate_callee (f := 221) rfl ?_); refine goesL_ (some 7) rfl rfl Try.func221 (by kernel_rfl) rfl #[.int .i64 1, .int .i64 (n : Int), .int .i64 0, .int .i64 (-1), .int .i64 most] rfl (by (try simp only [List.map_toArray, List.map_cons, List.map_nil]); first | done | rfl) ?_; refine HALL.out.mono ?_; rintro e w2 ⟨gS, gr, rfl, hgS, hgr, hne, hI2, hB2⟩; refine ⟨_, rfl, ?_⟩; have HGS := Aside0.mk hgS; have HGR := Aside0.mk hgr; have HNE := Aside0.mk hne; have HI2 := Aside0.mk hI2; have HB2 := Aside0.mk hB2; clear hgS hgr hne hI2 hB2))
  go_ret
  exact ⟨gS, gr, rfl, HGS.out, HGR.out, HNE.out, HI2.out, HB2.out⟩
/-- The list that a search keeps. -/
def spec_seSkolem.f (a0 : Int) (a1 : Int) : Option (List (List Int)) := if 1 ≤ a0 ∧ a0 ≤ 20 then (seSkolemRun a0.toNat a1).map (·.2) else none
theorem spec_seSkolem.calls (a0 a1 : Int) (r1 : List (List Int)) (w : World) (h : spec_seSkolem.f a0 a1 = some r1) :
    Calls Try.prog 163 #[.int .i64 a0, .int .i64 a1] w fun e w' => ∃ v0_ : Value, (∃ gS, e = .returned (.pointer (some ⟨gS, 0, none⟩)) ∧ w'.cell? ⟨gS, 8, none⟩ = some v0_) ∧ Kd.S (Kd.slice 3 (Kd.int .i64)) 31 w' w.heap.size (fun _ => True) v0_ r1 ∧ Below w.heap.size w w' := by
  unfold spec_seSkolem.f at h
  split at h
  case isFalse => cases h
  rename_i hn
  obtain ⟨s', hrun, rfl⟩ := Option.map_eq_some_iff.1 h
  have hc := seSkolem_call a0.toNat a1 s' w (by omega) hrun
  rw [show ((a0.toNat : Nat) : Int) = a0 from by omega] at hc
  refine hc.mono ?_
  rintro e w' ⟨gS, gr, rfl, hgS, hgr, hne, hI, hB⟩
  obtain ⟨⟨v, ho, hS⟩, hrow⟩ := hI
  have hc8 := blk_cell ho 8
  simp only [List.getElem?_toArray, List.getElem?_cons_zero, List.getElem?_cons_succ] at hc8
  exact ⟨v, ⟨gS, rfl, hc8⟩, Kd.S_mono hS (fun _ _ => trivial), hB⟩


end Go.Proofs.Ytaohgllnoomaeaa.Fn
namespace Go.Proofs.Ytaohgllnoomaeaa.Fn
open Go.RowKit Go.Proofs.YtaohgllnoomaeaaW.PrintWords Go.Proofs.YtaohgllnoomaeaaW.PrintLast Go.Proofs.YtaohgllnoomaeaaW.PrintMore
attribute [local go_sem] max2_int min2_int max_two min_two max_three min_three max_four min_four   -- for this text's walks alone
set_option linter.unusedVariables false
set_option linter.unusedSimpArgs false

/-! ### spec_CountSkolem: function 31 (given) -/
def spec_CountSkolem.f (a0 : Int) : Option (Int × Bool) := if (1 ≤ a0 ∧ a0 ≤ 9) then (seSkolemRun a0.toNat 0).bind fun s => some ((s.1 : Int), true) else some (0, false)
theorem CountSkolem_ask (a0 : Int) : spec_seSought.f a0 = some (decide (1 ≤ a0 ∧ a0 ≤ 9)) := by
  unfold spec_seSought.f spec_l1In.f
  by_cases h1 : a0 ≥ 1 <;> by_cases h2 : a0 ≤ 9 <;> simp [h1, h2] <;> omega
set_option maxHeartbeats 8000000 in
set_option maxRecDepth 100000 in
theorem spec_CountSkolem.calls (a0 : Int) (r1 : Int) (r2 : Bool) (w : World) (h : spec_CountSkolem.f a0 = some (r1, r2)) :
    Calls Try.prog 31 #[.int .i64 a0] w fun e w' => e = .returned (.tuple #[.int .i64 r1, .bool r2]) ∧ Below w.heap.size w w' := by
  by_cases hs : (1 ≤ a0 ∧ a0 ≤ 9)
  · rw [spec_CountSkolem.f, if_pos hs] at h
    obtain ⟨s', hrun, h⟩ := Option.bind_eq_some_iff.1 h
    obtain ⟨rfl, rfl⟩ := Prod.mk.inj (Option.some.inj h)
    have HS := Aside0.mk (show spec_seSought.f a0 = some true from by rw [CountSkolem_ask, decide_eq_true hs])
    have HNI := Aside0.mk (show ((a0.toNat : Nat) : Int) = a0 from by omega)
    have hall := fun w1 : World => seSkolem_call a0.toNat 0 s' w1 (by omega) hrun
    rw [HNI.out] at hall
    have HALL := Aside0.mk hall
    clear h hrun hs hall
    go_enter Try.func31, Try.ntmps31
    go_wp2_with (first | ((with_reducible refine gate_callee (f := 162) rfl ?_); refine goesL_ (some 5) rfl rfl Try.func162 (by kernel_rfl) rfl #[.int .i64 a0] rfl (by (try simp only [List.map_toArray, List.map_cons, List.map_nil]); first | done | rfl) ?_; refine (spec_seSought.calls a0 true _ HS.out).mono ?_; rintro e w0 ⟨rfl, hd⟩; refine ⟨_, rfl, ?_⟩; have HB0 := Aside0.mk hd.below; clear hd) | ((with_reducible refine gate_callee (f := 163) rfl ?_); refine goesL_ (some 8) rfl rfl Try.func163 (by kernel_rfl) rfl #[.int .i64 a0, .int .i64 0] rfl (by (try simp only [List.map_toArray, List.map_cons, List.map_nil]); first | done | rfl) ?_; refine (HALL.out w0).mono ?_; rintro e w2 ⟨gS, gr, rfl, hgS, hgr, hne, hI2, hB2⟩; refine ⟨_, rfl, ?_⟩; have HGS := Aside0.mk hgS; have HGR := Aside0.mk hgr; have HNE := Aside0.mk hne; have HI2 := Aside0.mk hI2; have HB2 := Aside0.mk hB2; clear hgS hgr hne hI2 hB2; obtain ⟨v8, ho8, hs8⟩ := HI2.out.out; have hc7 := blk_cell ho8 7; simp only [List.getElem?_toArray, List.getElem?_cons_zero, List.getElem?_cons_succ] at hc7; clear ho8 hs8))
    go_ret2
    exact ⟨rfl, HB0.out.trans (HB2.out.mono HB0.out.size)⟩
  · rw [spec_CountSkolem.f, if_neg hs] at h
    obtain ⟨rfl, rfl⟩ := Prod.mk.inj (Option.some.inj h)
    have HS := Aside0.mk (show spec_seSought.f a0 = some false from by rw [CountSkolem_ask, decide_eq_false hs])
    clear h hs
    go_enter Try.func31, Try.ntmps31
    go_wp2_with (first | ((with_reducible refine gate_callee (f := 162) rfl ?_); refine goesL_ (some 5) rfl rfl Try.func162 (by kernel_rfl) rfl #[.int .i64 a0] rfl (by (try simp only [List.map_toArray, List.map_cons, List.map_nil]); first | done | rfl) ?_; refine (spec_seSought.calls a0 false _ HS.out).mono ?_; rintro e w0 ⟨rfl, hd⟩; refine ⟨_, rfl, ?_⟩; have HB0 := Aside0.mk hd.below; clear hd))
    go_ret2
    exact ⟨rfl, HB0.out⟩


end Go.Proofs.Ytaohgllnoomaeaa.Fn
namespace Go.Proofs.Ytaohgllnoomaeaa.Fn
open Go.RowKit Go.Proofs.YtaohgllnoomaeaaW.PrintWords Go.Proofs.YtaohgllnoomaeaaW.PrintLast Go.Proofs.YtaohgllnoomaeaaW.PrintMore
attribute [local go_sem] max2_int min2_int max_two min_two max_three min_three max_four min_four   -- for this text's walks alone
set_option linter.unusedVariables false
set_option linter.unusedSimpArgs false

/-! ### spec_seListed: function 150 (given) -/
def seListedOf (s : SeSt) : List (List Int) × Bool := if (600 : Int) < (s.1 : Int) then ([], false) else (s.2, true)
set_option maxHeartbeats 8000000 in
set_option maxRecDepth 100000 in
theorem seListed_call {base gS gr : Nat} {from_ to_ shift hole most : Int} (row : List Int) (used : Nat) (s : SeSt) (w : World) (hI : SeI base gS gr from_ to_ shift hole most row used s w) :
    Calls Try.prog 150 #[.pointer (some ⟨gS, 0, none⟩)] w fun e w' => ∃ v0_ : Value, e = .returned (.tuple #[v0_, .bool (seListedOf s).2]) ∧ Kd.S (Kd.slice 3 (Kd.int .i64)) 31 w' base (fun _ => True) v0_ (seListedOf s).1 ∧ w' = w := by
  obtain ⟨⟨v, ho, hS⟩, hrow⟩ := hI
  obtain ⟨A8, c8, e8⟩ := Kd.S_slice hS
  subst e8
  have hc7 := blk_cell ho 7
  have hc8 := blk_cell ho 8
  simp only [List.getElem?_toArray, List.getElem?_cons_zero, List.getElem?_cons_succ] at hc7 hc8
  have HS := Aside0.mk hS
  unfold seListedOf
  by_cases h0 : (600 : Int) < (s.1 : Int)
  · have b0 : decide ((600 : Int) < (s.1 : Int)) = true := decide_eq_true h0
    rw [if_pos h0]
    clear ho hS hrow h0
    go_enter Try.func150, Try.ntmps150
    go_wp2
    go_ret2
    exact ⟨_, rfl, Kd.S_nil _ _ _ _ _, rfl⟩
  · have b0 : decide ((600 : Int) < (s.1 : Int)) = false := decide_eq_false h0
    rw [if_neg h0]
    clear ho hS hrow h0
    go_enter Try.func150, Try.ntmps150
    go_wp2
    go_ret2
    exact ⟨_, rfl, Kd.S_mono HS.out (fun _ _ => trivial), rfl⟩


end Go.Proofs.Ytaohgllnoomaeaa.Fn
namespace Go.Proofs.Ytaohgllnoomaeaa.Fn
open Go.RowKit Go.Proofs.YtaohgllnoomaeaaW.PrintWords Go.Proofs.YtaohgllnoomaeaaW.PrintLast Go.Proofs.YtaohgllnoomaeaaW.PrintMore
attribute [local go_sem] max2_int min2_int max_two min_two max_three min_three max_four min_four   -- for this text's walks alone
set_option linter.unusedVariables false
set_option linter.unusedSimpArgs false

/-! ### spec_AllSkolem: function 33 (given) -/
def spec_AllSkolem.f (a0 : Int) : Option (List (List Int) × Bool) := if (1 ≤ a0 ∧ a0 ≤ 9) then (seSkolemRun a0.toNat 600).bind fun s => some (seListedOf s) else some ([], false)
theorem AllSkolem_ask (a0 : Int) : spec_seSought.f a0 = some (decide (1 ≤ a0 ∧ a0 ≤ 9)) := by
  unfold spec_seSought.f spec_l1In.f
  by_cases h1 : a0 ≥ 1 <;> by_cases h2 : a0 ≤ 9 <;> simp [h1, h2] <;> omega
set_option maxHeartbeats 8000000 in
set_option maxRecDepth 100000 in
theorem spec_AllSkolem.calls (a0 : Int) (r1 : List (List Int)) (r2 : Bool) (w : World) (h : spec_AllSkolem.f a0 = some (r1, r2)) :
    Calls Try.prog 33 #[.int .i64 a0] w fun e w' => ∃ v0_ : Value, e = .returned (.tuple #[v0_, .bool r2]) ∧ Kd.S (Kd.slice 3 (Kd.int .i64)) 31 w' w.heap.size (fun _ => True) v0_ r1 ∧ Below w.heap.size w w' := by
  by_cases hs : (1 ≤ a0 ∧ a0 ≤ 9)
  · rw [spec_AllSkolem.f, if_pos hs] at h
    obtain ⟨s', hrun, h⟩ := Option.bind_eq_some_iff.1 h
    have hl := Option.some.inj h
    obtain ⟨rfl, rfl⟩ : (seListedOf s').1 = r1 ∧ (seListedOf s').2 = r2 := by rw [hl]; exact ⟨rfl, rfl⟩
    clear hl
    have HS := Aside0.mk (show spec_seSought.f a0 = some true from by rw [AllSkolem_ask, decide_eq_true hs])
    have HNI := Aside0.mk (show ((a0.toNat : Nat) : Int) = a0 from by omega)
    have hall := fun w1 : World => seSkolem_call a0.toNat 600 s' w1 (by omega) hrun
    rw [HNI.out] at hall
    have HALL := Aside0.mk hall
    clear h hrun hs hall
    go_enter Try.func33, Try.ntmps33
    go_wp2_with (first | ((with_reducible refine gate_callee (f := 162) rfl ?_); refine goesL_ (some 5) rfl rfl Try.func162 (by kernel_rfl) rfl #[.int .i64 a0] rfl (by (try simp only [List.map_toArray, List.map_cons, List.map_nil]); first | done | rfl) ?_; refine (spec_seSought.calls a0 true _ HS.out).mono ?_; rintro e w0 ⟨rfl, hd⟩; refine ⟨_, rfl, ?_⟩; have HB0 := Aside0.mk hd.below; clear hd) | ((with_reducible refine gate_callee (f := 163) rfl ?_); refine goesL_ (some 8) rfl rfl Try.func163 (by kernel_rfl) rfl #[.int .i64 a0, .int .i64 600] rfl (by (try simp only [List.map_toArray, List.map_cons, List.map_nil]); first | done | rfl) ?_; refine (HALL.out w0).mono ?_; rintro e w2 ⟨gS, gr, rfl, hgS, hgr, hne, hI2, hB2⟩; refine ⟨_, rfl, ?_⟩; have HGS := Aside0.mk hgS; have HGR := Aside0.mk hgr; have HNE := Aside0.mk hne; have HI2 := Aside0.mk hI2; have HB2 := Aside0.mk hB2; clear hgS hgr hne hI2 hB2) | ((with_reducible refine gate_callee (f := 150) rfl ?_); refine goesL_ (some 9) rfl rfl Try.func150 (by kernel_rfl) rfl #[.pointer (some ⟨gS, 0, none⟩)] rfl (by (try simp only [List.map_toArray, List.map_cons, List.map_nil]); first | done | rfl) ?_; refine (seListed_call _ 0 s' w2 HI2.out).mono ?_; rintro e w3 ⟨v3, rfl, hR3, hw3⟩; refine ⟨_, rfl, ?_⟩; subst hw3; have HR3 := Aside0.mk hR3; clear hR3))
    go_ret2
    exact ⟨_, rfl, Kd.S_lower HR3.out HB0.out.size, HB0.out.trans (HB2.out.mono HB0.out.size)⟩
  · rw [spec_AllSkolem.f, if_neg hs] at h
    obtain ⟨rfl, rfl⟩ := Prod.mk.inj (Option.some.inj h)
    have HS := Aside0.mk (show spec_seSought.f a0 = some false from by rw [AllSkolem_ask, decide_eq_false hs])
    clear h hs
    go_enter Try.func33, Try.ntmps33
    go_wp2_with (first | ((with_reducible refine gate_callee (f := 162) rfl ?_); refine goesL_ (some 5) rfl rfl Try.func162 (by kernel_rfl) rfl #[.int .i64 a0] rfl (by (try simp only [List.map_toArray, List.map_cons, List.map_nil]); first | done | rfl) ?_; refine (spec_seSought.calls a0 false _ HS.out).mono ?_; rintro e w0 ⟨rfl, hd⟩; refine ⟨_, rfl, ?_⟩; have HB0 := Aside0.mk hd.below; clear hd))
    go_ret2
    exact ⟨_, rfl, Kd.S_nil _ _ _ _ _, HB0.out⟩


end Go.Proofs.Ytaohgllnoomaeaa.Fn
namespace Go.Proofs.Ytaohgllnoomaeaa.Fn
open Go.RowKit Go.Proofs.YtaohgllnoomaeaaW.PrintWords Go.Proofs.YtaohgllnoomaeaaW.PrintLast Go.Proofs.YtaohgllnoomaeaaW.PrintMore
attribute [local go_sem] max2_int min2_int max_two min_two max_three min_three max_four min_four   -- for this text's walks alone
set_option linter.unusedVariables false
set_option linter.unusedSimpArgs false

/-! ### spec_seFirst: function 152 (given) -/
/-- The first of rows that lie apart. -/
theorem S_row_first {w : World} {base : Nat} {ok : Nat → Prop} {v : Value} {row : List Int} {xs : List (List Int)} (h : Kd.S (Kd.slice 3 (Kd.int .i64)) 31 w base ok v (row :: xs)) : ∃ (P : Nat → Prop) (u : Value) (ad : Addr) (n c : Nat), Kd.R (Kd.int .i64) 3 w base P u row ∧ v = .slice (some ad) n c ∧ w.cell? ad = some u := by
  obtain ⟨f, h0, inner, ho, hr⟩ := h
  have hS : Kd.S (Kd.slice 3 (Kd.int .i64)) 31 w base ok v (row :: xs) := ⟨f, h0, inner, ho, hr⟩
  obtain ⟨u, hu, hR⟩ := hr.2 0 (row, 0) (Kd.zip_at rfl)
  rcases ho.2 with ⟨h1, _⟩ | ⟨g, cap, cur, hv, hg, hb, hnc, hcap, hsz, htk⟩
  · exfalso
    obtain ⟨g0, cap0, hv0, _⟩ := Kd.S_form hS (by simp)
    rw [h1] at hv0
    injection hv0 with e1 _ _
    cases e1
  · subst hv
    refine ⟨_, u, ⟨g, 0, none⟩, _, _, hR, rfl, ?_⟩
    rw [cell_of_row w g 0 cur _ _ hb]
    have h1 : cur.toList.take ((row :: xs).zipIdx.length * 1) = inner := htk
    have h2 : (inner.drop (0 * 1)).take 1 = [u] := hu
    rw [List.length_zipIdx, Nat.mul_one] at h1
    have h3 : inner[0]? = some u := by
      have h4 := congrArg (·[0]?) h2
      simpa [List.getElem?_take, List.getElem?_drop] using h4
    rw [← h1, List.getElem?_take, if_pos (by simp)] at h3
    simpa using h3
def seFirstOf (s : SeSt) : Option (List Int × Bool) := if s.1 = 0 then some ([], false) else match s.2 with
  | [] => none
  | x :: _ => if s.2.length < 1000000000000 then some (x, true) else none
set_option maxHeartbeats 8000000 in
set_option maxRecDepth 100000 in
theorem seFirst_call {base gS gr : Nat} {from_ to_ shift hole most : Int} (row : List Int) (used : Nat) (s : SeSt) (w : World) (hI : SeI base gS gr from_ to_ shift hole most row used s w) (r1 : List Int) (r2 : Bool) (h : seFirstOf s = some (r1, r2)) :
    Calls Try.prog 152 #[.pointer (some ⟨gS, 0, none⟩)] w fun e w' => ∃ v0_ : Value, e = .returned (.tuple #[v0_, .bool r2]) ∧ Kd.R (Kd.int .i64) 3 w' base (fun _ => True) v0_ r1 ∧ w' = w := by
  obtain ⟨⟨v, ho, hS⟩, hrow⟩ := hI
  have hc7 := blk_cell ho 7
  have hc8 := blk_cell ho 8
  simp only [List.getElem?_toArray, List.getElem?_cons_zero, List.getElem?_cons_succ] at hc7 hc8
  obtain ⟨c, xs⟩ := s
  unfold seFirstOf at h
  by_cases h0 : c = 0
  · subst h0
    rw [if_pos rfl] at h
    obtain ⟨rfl, rfl⟩ := Prod.mk.inj (Option.some.inj h)
    clear h ho hS hrow hc8
    go_enter Try.func152, Try.ntmps152
    go_wp2
    go_ret2
    exact ⟨_, rfl, Kd.R_nil _ _ _ _ _, rfl⟩
  · have b0 : ((c : Int) == 0) = false := beq_eq_false_iff_ne.mpr (by omega)
    rw [if_neg h0] at h
    cases xs with
    | nil => cases h
    | cons x xs =>
      simp only at h
      split at h
      case isFalse => cases h
      rename_i hlen
      obtain ⟨rfl, rfl⟩ := Prod.mk.inj (Option.some.inj h)
      obtain ⟨P, u, ad, n, c, hR, hv, hcu⟩ := S_row_first hS
      obtain ⟨A8, c8, e8⟩ := Kd.S_slice hS
      rw [hv] at e8
      injection e8 with e1 e2 e3
      subst hv
      subst e2
      have HR := Aside0.mk hR
      have q0 : ((0 : Int) < ((x :: xs).length : Int)) = True := eq_true (by simp)
      clear h ho hS hrow hR e1 e3 hlen h0
      obtain ⟨Au, cu, eu⟩ := Kd.R_slice HR.out
      subst eu
      have hlc : (x :: xs).length = xs.length + 1 := rfl
      go_enter Try.func152, Try.ntmps152
      go_wp2
      go_ret2
      exact ⟨_, rfl, Kd.R_mono HR.out (fun _ _ => trivial), rfl⟩


end Go.Proofs.Ytaohgllnoomaeaa.Fn
namespace Go.Proofs.Ytaohgllnoomaeaa.Fn
open Go.RowKit Go.Proofs.YtaohgllnoomaeaaW.PrintWords Go.Proofs.YtaohgllnoomaeaaW.PrintLast Go.Proofs.YtaohgllnoomaeaaW.PrintMore
attribute [local go_sem] max2_int min2_int max_two min_two max_three min_three max_four min_four   -- for this text's walks alone
set_option linter.unusedVariables false
set_option linter.unusedSimpArgs false

/-! ### spec_FirstSkolem: function 35 (given) -/
def spec_FirstSkolem.f (a0 : Int) : Option (List Int × Bool) := if (1 ≤ a0 ∧ a0 ≤ 9) then (seSkolemRun a0.toNat 1).bind seFirstOf else some ([], false)
theorem FirstSkolem_ask (a0 : Int) : spec_seSought.f a0 = some (decide (1 ≤ a0 ∧ a0 ≤ 9)) := by
  unfold spec_seSought.f spec_l1In.f
  by_cases h1 : a0 ≥ 1 <;> by_cases h2 : a0 ≤ 9 <;> simp [h1, h2] <;> omega
set_option maxHeartbeats 8000000 in
set_option maxRecDepth 100000 in
theorem spec_FirstSkolem.calls (a0 : Int) (r1 : List Int) (r2 : Bool) (w : World) (h : spec_FirstSkolem.f a0 = some (r1, r2)) :
    Calls Try.prog 35 #[.int .i64 a0] w fun e w' => ∃ v0_ : Value, e = .returned (.tuple #[v0_, .bool r2]) ∧ Kd.R (Kd.int .i64) 3 w' w.heap.size (fun _ => True) v0_ r1 ∧ Below w.heap.size w w' := by
  by_cases hs : (1 ≤ a0 ∧ a0 ≤ 9)
  · rw [spec_FirstSkolem.f, if_pos hs] at h
    obtain ⟨s', hrun, h⟩ := Option.bind_eq_some_iff.1 h
    have H := Aside0.mk h
    have HS := Aside0.mk (show spec_seSought.f a0 = some true from by rw [FirstSkolem_ask, decide_eq_true hs])
    have HNI := Aside0.mk (show ((a0.toNat : Nat) : Int) = a0 from by omega)
    have hall := fun w1 : World => seSkolem_call a0.toNat 1 s' w1 (by omega) hrun
    rw [HNI.out] at hall
    have HALL := Aside0.mk hall
    clear h hrun hs hall
    go_enter Try.func35, Try.ntmps35
    go_wp2_with (first | ((with_reducible refine gate_callee (f := 162) rfl ?_); refine goesL_ (some 5) rfl rfl Try.func162 (by kernel_rfl) rfl #[.int .i64 a0] rfl (by (try simp only [List.map_toArray, List.map_cons, List.map_nil]); first | done | rfl) ?_; refine (spec_seSought.calls a0 true _ HS.out).mono ?_; rintro e w0 ⟨rfl, hd⟩; refine ⟨_, rfl, ?_⟩; have HB0 := Aside0.mk hd.below; clear hd) | ((with_reducible refine gate_callee (f := 163) rfl ?_); refine goesL_ (some 8) rfl rfl Try.func163 (by kernel_rfl) rfl #[.int .i64 a0, .int .i64 1] rfl (by (try simp only [List.map_toArray, List.map_cons, List.map_nil]); first | done | rfl) ?_; refine (HALL.out w0).mono ?_; rintro e w2 ⟨gS, gr, rfl, hgS, hgr, hne, hI2, hB2⟩; refine ⟨_, rfl, ?_⟩; have HGS := Aside0.mk hgS; have HGR := Aside0.mk hgr; have HNE := Aside0.mk hne; have HI2 := Aside0.mk hI2; have HB2 := Aside0.mk hB2; clear hgS hgr hne hI2 hB2) | ((with_reducible refine gate_callee (f := 152) rfl ?_); refine goesL_ (some 9) rfl rfl Try.func152 (by kernel_rfl) rfl #[.pointer (some ⟨gS, 0, none⟩)] rfl (by (try simp only [List.map_toArray, List.map_cons, List.map_nil]); first | done | rfl) ?_; refine (seFirst_call _ 0 s' w2 HI2.out r1 r2 H.out).mono ?_; rintro e w3 ⟨v3, rfl, hR3, hw3⟩; refine ⟨_, rfl, ?_⟩; subst hw3; have HR3 := Aside0.mk hR3; clear hR3))
    go_ret2
    exact ⟨_, rfl, Kd.R_lower HR3.out HB0.out.size, HB0.out.trans (HB2.out.mono HB0.out.size)⟩
  · rw [spec_FirstSkolem.f, if_neg hs] at h
    obtain ⟨rfl, rfl⟩ := Prod.mk.inj (Option.some.inj h)
    have HS := Aside0.mk (show spec_seSought.f a0 = some false from by rw [FirstSkolem_ask, decide_eq_false hs])
    clear h hs
    go_enter Try.func35, Try.ntmps35
    go_wp2_with (first | ((with_reducible refine gate_callee (f := 162) rfl ?_); refine goesL_ (some 5) rfl rfl Try.func162 (by kernel_rfl) rfl #[.int .i64 a0] rfl (by (try simp only [List.map_toArray, List.map_cons, List.map_nil]); first | done | rfl) ?_; refine (spec_seSought.calls a0 false _ HS.out).mono ?_; rintro e w0 ⟨rfl, hd⟩; refine ⟨_, rfl, ?_⟩; have HB0 := Aside0.mk hd.below; clear hd))
    go_ret2
    exact ⟨_, rfl, Kd.R_nil _ _ _ _ _, HB0.out⟩


end Go.Proofs.Ytaohgllnoomaeaa.Fn
namespace Go.Proofs.Ytaohgllnoomaeaa.Fn
open Go.RowKit Go.Proofs.YtaohgllnoomaeaaW.PrintWords Go.Proofs.YtaohgllnoomaeaaW.PrintLast Go.Proofs.YtaohgllnoomaeaaW.PrintMore
attribute [local go_sem] max2_int min2_int max_two min_two max_three min_three max_four min_four   -- for this text's walks alone
set_option linter.unusedVariables false
set_option linter.unusedSimpArgs false

/-! ### spec_DrawCountHooked: function 165 -/
def spec_DrawCountHooked.f (l0 : List Int) : Option (Int) := (spec_l1Cur_among.f l0 0 0 (([1, 2, 3, 4, 5, 6, 7, 3, 6, 0, 10] : List Int))).bind fun bt272 => (some bt272.1)
set_option maxHeartbeats 8000000 in
set_option maxRecDepth 100000 in
theorem spec_DrawCountHooked.calls (A0 : Option Addr) (c0 : Nat) (l0 : List Int) (r : Int) (w : World) (hr0 : Kd.C (Kd.int .u8) w A0 l0.length l0) (hc0 : l0.length ≤ c0) (h : spec_DrawCountHooked.f l0 = some r) :
    Calls Try.prog 165 #[.slice A0 l0.length c0] w fun e w' => e = .returned (.int .i64 r) ∧ Below w.heap.size w w' := by
  have hu108 := Try.underlying108
  have HR0 := Aside0.mk hr0
  have HC0 := Aside0.mk hc0
  clear hr0 hc0
  have HB := Aside0.mk (Below.refl w.heap.size w)
  have H : ((spec_l1Cur_among.f l0 0 0 (([1, 2, 3, 4, 5, 6, 7, 3, 6, 0, 10] : List Int))).bind fun bt272 => (some bt272.1)) = some r := h
  clear h
  obtain ⟨y269, hy269⟩ : ∃ y_ : List Int, y_ = (([1, 2, 3, 4, 5, 6, 7, 3, 6, 0, 10] : List Int)) := ⟨_, rfl⟩
  replace H : ((spec_l1Cur_among.f l0 0 0 y269).bind fun bt272 => (some bt272.1)) = some r := by first | (rw [hy269]; with_reducible exact H) | (have H2_ := (Option.bind_some _ _).symm.trans H; rw [hy269]; with_reducible exact H2_) | (have H2_ := (Option.bind_some _ _).symm.trans H; with_reducible exact H2_) | with_reducible exact H | (rw [hy269]; exact H) | exact H
  have Ny269 := Aside0.mk hy269
  clear hy269
  replace H := Option.bind_eq_some_iff.mp H
  obtain ⟨⟨t272, t273, t274⟩, A20, H⟩ := H
  replace H : (some t272) = some r := H
  have A2 := Aside0.mk A20
  clear A20
  obtain rfl := Option.some.inj H
  go_enter Try.func165, Try.ntmps165
  go_wp2_with (first | ((with_reducible refine gate_dst (N := 6) rfl ?_); refine box_event ?hg (N := 6) ?hd (cs := #[.slice A0 l0.length c0, .int .i64 0, .int .u64 0]) (t := 108) ?hr ?_; (case hd => rfl); (case hg => rfl); (case hr => first | (go_simp; done) | (go_simp; rfl)); intro gb268 hg w3 hbox hb; have n0_ := Aside0.mk (below_step (by repeat (first | (with_reducible first | exact HB.out | apply below_alloc | apply pw_below_drewN | apply below_drew1) | exact HB.out)) hb); have n1_ := Aside0.mk ((⟨_, _, hbox, (by rw [hg]; exact (below_size (by repeat (first | (with_reducible first | exact HB.out | apply below_alloc | apply pw_below_drewN | apply below_drew1) | exact HB.out))) : w.heap.size ≤ gb268), HR0.out⟩ : IsS108 w w3 gb268 l0 0 0)); clear HB; have HB := n0_; have HI268 := n1_; clear n0_ n1_; clear hb hbox hg) | ((with_reducible refine gate_dst (N := 8) rfl ?_); refine Kd.R_lit (Kd.int .i64) _ 3 ?hg (N := 8) ?hd (xs := ([1, 2, 3, 4, 5, 6, 7, 3, 6, 0, 10] : List Int)) (inner := [.int .i64 1, .int .i64 2, .int .i64 3, .int .i64 4, .int .i64 5, .int .i64 6, .int .i64 7, .int .i64 3, .int .i64 6, .int .i64 0, .int .i64 10]) (ok := fun _ => True) (okp := fun _ => True) ?hr ?hp (fun _ hk => hk) trivial (Below.refl _ _) (Nat.le_refl _) (by simp) ?_; (case hd => rfl); (case hg => rfl); (case hr => first | (go_simp; done) | (go_simp; rfl)); (case hp => exact (Reps.one (show Kd.M (Kd.int .i64) _ _ _ 1 [.int .i64 1] from rfl) (Reps.one (show Kd.M (Kd.int .i64) _ _ _ 2 [.int .i64 2] from rfl) (Reps.one (show Kd.M (Kd.int .i64) _ _ _ 3 [.int .i64 3] from rfl) (Reps.one (show Kd.M (Kd.int .i64) _ _ _ 4 [.int .i64 4] from rfl) (Reps.one (show Kd.M (Kd.int .i64) _ _ _ 5 [.int .i64 5] from rfl) (Reps.one (show Kd.M (Kd.int .i64) _ _ _ 6 [.int .i64 6] from rfl) (Reps.one (show Kd.M (Kd.int .i64) _ _ _ 7 [.int .i64 7] from rfl) (Reps.one (show Kd.M (Kd.int .i64) _ _ _ 3 [.int .i64 3] from rfl) (Reps.one (show Kd.M (Kd.int .i64) _ _ _ 6 [.int .i64 6] from rfl) (Reps.one (show Kd.M (Kd.int .i64) _ _ _ 0 [.int .i64 0] from rfl) (Reps.one (show Kd.M (Kd.int .i64) _ _ _ 10 [.int .i64 10] from rfl) (Reps.none _ _))))))))))))); intro v270 w4 ho5 hb hg_ hnew_; clear hg_ hnew_; (first | rw [← Ny269.out] at ho5 | (simp only [Int.reduceToNat] at ho5; rw [← Ny269.out] at ho5)); have n0_ := Aside0.mk (Kd.R_lower ho5 (below_size (by repeat (first | (with_reducible first | exact HB.out | apply below_alloc | apply pw_below_drewN | apply below_drew1 | refine below_set ?_ (IsS108.ge HI268.out)) | exact HB.out)))); have n1_ := Aside0.mk (IsS108.below (by repeat (first | (with_reducible first | exact HI268.out | apply IsS108.alloc | apply IsS108.drewN | apply IsS108.drew | apply IsS108.set_1 | apply IsS108.set_2) | exact HI268.out)) hb); have n2_ := Aside0.mk (below_step (by repeat (first | (with_reducible first | exact HB.out | apply below_alloc | apply pw_below_drewN | apply below_drew1 | refine below_set ?_ (IsS108.ge HI268.out)) | exact HB.out)) hb); clear HI268; clear HB; have HO271 := n0_; have HI268 := n1_; have HB := n2_; clear n0_ n1_ n2_; clear hb ho5; obtain ⟨Ao6, co6, eo6⟩ := Kd.R_slice HO271.out; subst eo6) | ((with_reducible refine gate_callee (f := 191) rfl ?_); refine goesL_ (some 9) rfl rfl Try.func191 (by kernel_rfl) rfl #[.pointer (some ⟨gb268, 0, none⟩), .slice Ao6 y269.length co6] rfl (by (try simp only [List.map_toArray, List.map_cons, List.map_nil]); first | done | rfl | (simp only [List.length_drop, List.length_take]; rfl)) ?_; (with_reducible refine (spec_l1Cur_among.calls gb268 l0 0 0 _ _ y269 t272 t273 t274 w _ ?side1 ?side2 ?side3 ?side4 ?side5 A2.out).mono ?_); (case side1 => repeat (first | (with_reducible first | exact HI268.out | apply IsS108.alloc | apply IsS108.drewN | apply IsS108.drew | apply IsS108.set_1 | apply IsS108.set_2) | exact HI268.out)); (case side2 => repeat (first | (with_reducible first | exact HB.out | apply below_alloc | apply pw_below_drewN | apply below_drew1 | refine below_set ?_ (IsS108.ge HI268.out)) | exact HB.out)); (case side3 => repeat (first | exact (Kd.R_reads' HO271.out).2.2 | (with_reducible refine Kd.C_alloc ?_ _) | (with_reducible refine Kd.C_drewN ?_ _) | (with_reducible refine Kd.C_drew ?_))); (case side4 => exact (Kd.R_reads' HO271.out).2.1); (case side5 => exact far_slice (IsS108.own_ne HI268.out HO271.out (by decide))); rintro e w7 ⟨rfl, hi, hb, hk⟩; refine ⟨_, rfl, ?_⟩; have n0_ := Aside0.mk (Kd.R_mono (Kd.R_keep (IsS108.apart (show IsS108 w _ gb268 l0 0 0 from by repeat (first | (with_reducible first | exact HI268.out | apply IsS108.alloc | apply IsS108.drewN | apply IsS108.drew | apply IsS108.set_1 | apply IsS108.set_2) | exact HI268.out)) (by (with_reducible repeat (first | apply Kd.R_alloc | apply Kd.R_drewN | apply Kd.R_drew)); exact HO271.out) (by decide)) hk (fun _ h => h.2)) (fun _ h => h.1)); have n1_ := Aside0.mk (hb); have n2_ := Aside0.mk (hi); clear HO271; clear HB; clear HI268; have HO271 := n0_; have HB := n1_; have HI268 := n2_; clear n0_ n1_ n2_; (try clear hb); (try clear hb2); (try clear hk); (try clear hi)))
  go_ret
  exact ⟨by first | rfl | (simp [errW_none, errW_some] <;> rfl) | (simp [*, errW_none, errW_some] <;> rfl), by repeat (first | (with_reducible first | exact HB.out | apply below_alloc | apply pw_below_drewN | apply below_drew1 | refine below_set ?_ (IsS108.ge HI268.out)) | exact HB.out)⟩


end Go.Proofs.Ytaohgllnoomaeaa.Fn
namespace Go.Proofs.Ytaohgllnoomaeaa.Fn
open Go.RowKit Go.Proofs.YtaohgllnoomaeaaW.PrintWords Go.Proofs.YtaohgllnoomaeaaW.PrintLast Go.Proofs.YtaohgllnoomaeaaW.PrintMore
attribute [local go_sem] max2_int min2_int max_two min_two max_three min_three max_four min_four   -- for this text's walks alone
set_option linter.unusedVariables false
set_option linter.unusedSimpArgs false

/-! ### spec_DrawAllHooked: function 37 -/
def spec_DrawAllHooked.f (l0 : List Int) : Option (Int) := (spec_DrawCountHooked.f l0).bind fun t275 => (some t275)
set_option maxHeartbeats 8000000 in
set_option maxRecDepth 100000 in
theorem spec_DrawAllHooked.calls (A0 : Option Addr) (c0 : Nat) (l0 : List Int) (r : Int) (w : World) (hr0 : Kd.C (Kd.int .u8) w A0 l0.length l0) (hc0 : l0.length ≤ c0) (h : spec_DrawAllHooked.f l0 = some r) :
    Calls Try.prog 37 #[.slice A0 l0.length c0] w fun e w' => e = .returned (.int .i64 r) ∧ Below w.heap.size w w' := by
  have HR0 := Aside0.mk hr0
  have HC0 := Aside0.mk hc0
  clear hr0 hc0
  have HB := Aside0.mk (Below.refl w.heap.size w)
  have H : ((spec_DrawCountHooked.f l0).bind fun t275 => (some t275)) = some r := h
  clear h
  replace H := Option.bind_eq_some_iff.mp H
  obtain ⟨t275, A20, H⟩ := H
  replace H : (some t275) = some r := H
  have A2 := Aside0.mk A20
  clear A20
  obtain rfl := Option.some.inj H
  go_enter Try.func37, Try.ntmps37
  go_wp2_with (first | ((with_reducible refine gate_callee (f := 165) rfl ?_); refine goesL_ (some 4) rfl rfl Try.func165 (by kernel_rfl) rfl #[.slice A0 l0.length c0] rfl (by (try simp only [List.map_toArray, List.map_cons, List.map_nil]); first | done | rfl | (simp only [List.length_drop, List.length_take]; rfl)) ?_; (with_reducible refine (spec_DrawCountHooked.calls _ _ l0 t275 _ ?side1 ?side2 A2.out).mono ?_); (case side1 => repeat (first | exact HR0.out | (with_reducible refine Kd.C_alloc ?_ _) | (with_reducible refine Kd.C_drewN ?_ _) | (with_reducible refine Kd.C_drew ?_))); (case side2 => exact HC0.out); rintro e w3 ⟨rfl, hb⟩; refine ⟨_, rfl, ?_⟩; have n0_ := Aside0.mk (below_step (by repeat (first | (with_reducible first | exact HB.out | apply below_alloc | apply pw_below_drewN | apply below_drew1) | exact HB.out)) hb); clear HB; have HB := n0_; clear n0_; (try clear hb); (try clear hb2); (try clear hk); (try clear hi)))
  go_ret
  exact ⟨by first | rfl | (simp [errW_none, errW_some] <;> rfl) | (simp [*, errW_none, errW_some] <;> rfl), by repeat (first | (with_reducible first | exact HB.out | apply below_alloc | apply pw_below_drewN | apply below_drew1) | exact HB.out)⟩


end Go.Proofs.Ytaohgllnoomaeaa.Fn
namespace Go.Proofs.Ytaohgllnoomaeaa.Fn
open Go.RowKit Go.Proofs.YtaohgllnoomaeaaW.PrintWords Go.Proofs.YtaohgllnoomaeaaW.PrintLast Go.Proofs.YtaohgllnoomaeaaW.PrintMore
attribute [local go_sem] max2_int min2_int max_two min_two max_three min_three max_four min_four   -- for this text's walks alone
set_option linter.unusedVariables false
set_option linter.unusedSimpArgs false

/-! ### spec_seHooked: function 167 (given) -/
/-- What the search of seHooked comes to: how many, and the first of them. -/
def seHookedRun (n : Nat) (most : Int) : Option SeSt := seF 1 n 0 (2 * (n : Int) - 1) most (2 * n + 1 + 1) (0, []) (List.replicate (2 * n + 1) 0) 0
set_option maxHeartbeats 8000000 in
set_option maxRecDepth 100000 in
theorem seHooked_call (n : Nat) (most : Int) (s' : SeSt) (w : World) (hn : 1 ≤ n ∧ n ≤ 20) (h : seHookedRun n most = some s') :
    Calls Try.prog 167 #[.int .i64 (n : Int), .int .i64 most] w (SeRet 1 n 0 (2 * (n : Int) - 1) most (2 * n + 1) s' w) := by
  have hw1 := wrap_in (n := 2 * (n : Int)) (by omega) (by omega)
  have hw2 := wrap_in (n := 2 * (n : Int) - 1) (by omega) (by omega)
  have HALL := Aside0.mk (seAll_hole 1 n 0 (2 * (n : Int) - 1) most (2 * n + 1) s' w (by omega) (by omega) (by omega) (by omega) (by omega) (by omega) h)
  clear h hn
  go_enter Try.func167, Try.ntmps167
  go_wp2_with (first | ((with_reducible refine gate_callee (f := 221) rfl ?_); refine goesL_ (some 10) rfl rfl Try.func221 (by kernel_rfl) rfl #[.int .i64 1, .int .i64 (n : Int), .int .i64 0, .int .i64 (wrap64 (2 * (n : Int) - 1)), .int .i64 most] rfl (by (try simp only [List.map_toArray, List.map_cons, List.map_nil]); first | done | rfl) ?_; rw [hw2]; refine HALL.out.mono ?_; rintro e w2 ⟨gS, gr, rfl, hgS, hgr, hne, hI2, hB2⟩; refine ⟨_, rfl, ?_⟩; have HGS := Aside0.mk hgS; have HGR := Aside0.mk hgr; have HNE := Aside0.mk hne; have HI2 := Aside0.mk hI2; have HB2 := Aside0.mk hB2; clear hgS hgr hne hI2 hB2))
  go_ret
  exact ⟨gS, gr, rfl, HGS.out, HGR.out, HNE.out, HI2.out, HB2.out⟩
/-- The list that a search keeps. -/
def spec_seHooked.f (a0 : Int) (a1 : Int) : Option (List (List Int)) := if 1 ≤ a0 ∧ a0 ≤ 20 then (seHookedRun a0.toNat a1).map (·.2) else none
theorem spec_seHooked.calls (a0 a1 : Int) (r1 : List (List Int)) (w : World) (h : spec_seHooked.f a0 a1 = some r1) :
    Calls Try.prog 167 #[.int .i64 a0, .int .i64 a1] w fun e w' => ∃ v0_ : Value, (∃ gS, e = .returned (.pointer (some ⟨gS, 0, none⟩)) ∧ w'.cell? ⟨gS, 8, none⟩ = some v0_) ∧ Kd.S (Kd.slice 3 (Kd.int .i64)) 31 w' w.heap.size (fun _ => True) v0_ r1 ∧ Below w.heap.size w w' := by
  unfold spec_seHooked.f at h
  split at h
  case isFalse => cases h
  rename_i hn
  obtain ⟨s', hrun, rfl⟩ := Option.map_eq_some_iff.1 h
  have hc := seHooked_call a0.toNat a1 s' w (by omega) hrun
  rw [show ((a0.toNat : Nat) : Int) = a0 from by omega] at hc
  refine hc.mono ?_
  rintro e w' ⟨gS, gr, rfl, hgS, hgr, hne, hI, hB⟩
  obtain ⟨⟨v, ho, hS⟩, hrow⟩ := hI
  have hc8 := blk_cell ho 8
  simp only [List.getElem?_toArray, List.getElem?_cons_zero, List.getElem?_cons_succ] at hc8
  exact ⟨v, ⟨gS, rfl, hc8⟩, Kd.S_mono hS (fun _ _ => trivial), hB⟩


end Go.Proofs.Ytaohgllnoomaeaa.Fn
namespace Go.Proofs.Ytaohgllnoomaeaa.Fn
open Go.RowKit Go.Proofs.YtaohgllnoomaeaaW.PrintWords Go.Proofs.YtaohgllnoomaeaaW.PrintLast Go.Proofs.YtaohgllnoomaeaaW.PrintMore
attribute [local go_sem] max2_int min2_int max_two min_two max_three min_three max_four min_four   -- for this text's walks alone
set_option linter.unusedVariables false
set_option linter.unusedSimpArgs false

/-! ### spec_CountHooked: function 40 (given) -/
def spec_CountHooked.f (a0 : Int) : Option (Int × Bool) := if (1 ≤ a0 ∧ a0 ≤ 9) then (seHookedRun a0.toNat 0).bind fun s => some ((s.1 : Int), true) else some (0, false)
theorem CountHooked_ask (a0 : Int) : spec_seSought.f a0 = some (decide (1 ≤ a0 ∧ a0 ≤ 9)) := by
  unfold spec_seSought.f spec_l1In.f
  by_cases h1 : a0 ≥ 1 <;> by_cases h2 : a0 ≤ 9 <;> simp [h1, h2] <;> omega
set_option maxHeartbeats 8000000 in
set_option maxRecDepth 100000 in
theorem spec_CountHooked.calls (a0 : Int) (r1 : Int) (r2 : Bool) (w : World) (h : spec_CountHooked.f a0 = some (r1, r2)) :
    Calls Try.prog 40 #[.int .i64 a0] w fun e w' => e = .returned (.tuple #[.int .i64 r1, .bool r2]) ∧ Below w.heap.size w w' := by
  by_cases hs : (1 ≤ a0 ∧ a0 ≤ 9)
  · rw [spec_CountHooked.f, if_pos hs] at h
    obtain ⟨s', hrun, h⟩ := Option.bind_eq_some_iff.1 h
    obtain ⟨rfl, rfl⟩ := Prod.mk.inj (Option.some.inj h)
    have HS := Aside0.mk (show spec_seSought.f a0 = some true from by rw [CountHooked_ask, decide_eq_true hs])
    have HNI := Aside0.mk (show ((a0.toNat : Nat) : Int) = a0 from by omega)
    have hall := fun w1 : World => seHooked_call a0.toNat 0 s' w1 (by omega) hrun
    rw [HNI.out] at hall
    have HALL := Aside0.mk hall
    clear h hrun hs hall
    go_enter Try.func40, Try.ntmps40
    go_wp2_with (first | ((with_reducible refine gate_callee (f := 162) rfl ?_); refine goesL_ (some 5) rfl rfl Try.func162 (by kernel_rfl) rfl #[.int .i64 a0] rfl (by (try simp only [List.map_toArray, List.map_cons, List.map_nil]); first | done | rfl) ?_; refine (spec_seSought.calls a0 true _ HS.out).mono ?_; rintro e w0 ⟨rfl, hd⟩; refine ⟨_, rfl, ?_⟩; have HB0 := Aside0.mk hd.below; clear hd) | ((with_reducible refine gate_callee (f := 167) rfl ?_); refine goesL_ (some 8) rfl rfl Try.func167 (by kernel_rfl) rfl #[.int .i64 a0, .int .i64 0] rfl (by (try simp only [List.map_toArray, List.map_cons, List.map_nil]); first | done | rfl) ?_; refine (HALL.out w0).mono ?_; rintro e w2 ⟨gS, gr, rfl, hgS, hgr, hne, hI2, hB2⟩; refine ⟨_, rfl, ?_⟩; have HGS := Aside0.mk hgS; have HGR := Aside0.mk hgr; have HNE := Aside0.mk hne; have HI2 := Aside0.mk hI2; have HB2 := Aside0.mk hB2; clear hgS hgr hne hI2 hB2; obtain ⟨v8, ho8, hs8⟩ := HI2.out.out; have hc7 := blk_cell ho8 7; simp only [List.getElem?_toArray, List.getElem?_cons_zero, List.getElem?_cons_succ] at hc7; clear ho8 hs8))
    go_ret2
    exact ⟨rfl, HB0.out.trans (HB2.out.mono HB0.out.size)⟩
  · rw [spec_CountHooked.f, if_neg hs] at h
    obtain ⟨rfl, rfl⟩ := Prod.mk.inj (Option.some.inj h)
    have HS := Aside0.mk (show spec_seSought.f a0 = some false from by rw [CountHooked_ask, decide_eq_false hs])
    clear h hs
    go_enter Try.func40, Try.ntmps40
    go_wp2_with (first | ((with_reducible refine gate_callee (f := 162) rfl ?_); refine goesL_ (some 5) rfl rfl Try.func162 (by kernel_rfl) rfl #[.int .i64 a0] rfl (by (try simp only [List.map_toArray, List.map_cons, List.map_nil]); first | done | rfl) ?_; refine (spec_seSought.calls a0 false _ HS.out).mono ?_; rintro e w0 ⟨rfl, hd⟩; refine ⟨_, rfl, ?_⟩; have HB0 := Aside0.mk hd.below; clear hd))
    go_ret2
    exact ⟨rfl, HB0.out⟩


end Go.Proofs.Ytaohgllnoomaeaa.Fn
namespace Go.Proofs.Ytaohgllnoomaeaa.Fn
open Go.RowKit Go.Proofs.YtaohgllnoomaeaaW.PrintWords Go.Proofs.YtaohgllnoomaeaaW.PrintLast Go.Proofs.YtaohgllnoomaeaaW.PrintMore
attribute [local go_sem] max2_int min2_int max_two min_two max_three min_three max_four min_four   -- for this text's walks alone
set_option linter.unusedVariables false
set_option linter.unusedSimpArgs false

/-! ### spec_AllHooked: function 42 (given) -/
def spec_AllHooked.f (a0 : Int) : Option (List (List Int) × Bool) := if (1 ≤ a0 ∧ a0 ≤ 9) then (seHookedRun a0.toNat 600).bind fun s => some (seListedOf s) else some ([], false)
theorem AllHooked_ask (a0 : Int) : spec_seSought.f a0 = some (decide (1 ≤ a0 ∧ a0 ≤ 9)) := by
  unfold spec_seSought.f spec_l1In.f
  by_cases h1 : a0 ≥ 1 <;> by_cases h2 : a0 ≤ 9 <;> simp [h1, h2] <;> omega
set_option maxHeartbeats 8000000 in
set_option maxRecDepth 100000 in
theorem spec_AllHooked.calls (a0 : Int) (r1 : List (List Int)) (r2 : Bool) (w : World) (h : spec_AllHooked.f a0 = some (r1, r2)) :
    Calls Try.prog 42 #[.int .i64 a0] w fun e w' => ∃ v0_ : Value, e = .returned (.tuple #[v0_, .bool r2]) ∧ Kd.S (Kd.slice 3 (Kd.int .i64)) 31 w' w.heap.size (fun _ => True) v0_ r1 ∧ Below w.heap.size w w' := by
  by_cases hs : (1 ≤ a0 ∧ a0 ≤ 9)
  · rw [spec_AllHooked.f, if_pos hs] at h
    obtain ⟨s', hrun, h⟩ := Option.bind_eq_some_iff.1 h
    have hl := Option.some.inj h
    obtain ⟨rfl, rfl⟩ : (seListedOf s').1 = r1 ∧ (seListedOf s').2 = r2 := by rw [hl]; exact ⟨rfl, rfl⟩
    clear hl
    have HS := Aside0.mk (show spec_seSought.f a0 = some true from by rw [AllHooked_ask, decide_eq_true hs])
    have HNI := Aside0.mk (show ((a0.toNat : Nat) : Int) = a0 from by omega)
    have hall := fun w1 : World => seHooked_call a0.toNat 600 s' w1 (by omega) hrun
    rw [HNI.out] at hall
    have HALL := Aside0.mk hall
    clear h hrun hs hall
    go_enter Try.func42, Try.ntmps42
    go_wp2_with (first | ((with_reducible refine gate_callee (f := 162) rfl ?_); refine goesL_ (some 5) rfl rfl Try.func162 (by kernel_rfl) rfl #[.int .i64 a0] rfl (by (try simp only [List.map_toArray, List.map_cons, List.map_nil]); first | done | rfl) ?_; refine (spec_seSought.calls a0 true _ HS.out).mono ?_; rintro e w0 ⟨rfl, hd⟩; refine ⟨_, rfl, ?_⟩; have HB0 := Aside0.mk hd.below; clear hd) | ((with_reducible refine gate_callee (f := 167) rfl ?_); refine goesL_ (some 8) rfl rfl Try.func167 (by kernel_rfl) rfl #[.int .i64 a0, .int .i64 600] rfl (by (try simp only [List.map_toArray, List.map_cons, List.map_nil]); first | done | rfl) ?_; refine (HALL.out w0).mono ?_; rintro e w2 ⟨gS, gr, rfl, hgS, hgr, hne, hI2, hB2⟩; refine ⟨_, rfl, ?_⟩; have HGS := Aside0.mk hgS; have HGR := Aside0.mk hgr; have HNE := Aside0.mk hne; have HI2 := Aside0.mk hI2; have HB2 := Aside0.mk hB2; clear hgS hgr hne hI2 hB2) | ((with_reducible refine gate_callee (f := 150) rfl ?_); refine goesL_ (some 9) rfl rfl Try.func150 (by kernel_rfl) rfl #[.pointer (some ⟨gS, 0, none⟩)] rfl (by (try simp only [List.map_toArray, List.map_cons, List.map_nil]); first | done | rfl) ?_; refine (seListed_call _ 0 s' w2 HI2.out).mono ?_; rintro e w3 ⟨v3, rfl, hR3, hw3⟩; refine ⟨_, rfl, ?_⟩; subst hw3; have HR3 := Aside0.mk hR3; clear hR3))
    go_ret2
    exact ⟨_, rfl, Kd.S_lower HR3.out HB0.out.size, HB0.out.trans (HB2.out.mono HB0.out.size)⟩
  · rw [spec_AllHooked.f, if_neg hs] at h
    obtain ⟨rfl, rfl⟩ := Prod.mk.inj (Option.some.inj h)
    have HS := Aside0.mk (show spec_seSought.f a0 = some false from by rw [AllHooked_ask, decide_eq_false hs])
    clear h hs
    go_enter Try.func42, Try.ntmps42
    go_wp2_with (first | ((with_reducible refine gate_callee (f := 162) rfl ?_); refine goesL_ (some 5) rfl rfl Try.func162 (by kernel_rfl) rfl #[.int .i64 a0] rfl (by (try simp only [List.map_toArray, List.map_cons, List.map_nil]); first | done | rfl) ?_; refine (spec_seSought.calls a0 false _ HS.out).mono ?_; rintro e w0 ⟨rfl, hd⟩; refine ⟨_, rfl, ?_⟩; have HB0 := Aside0.mk hd.below; clear hd))
    go_ret2
    exact ⟨_, rfl, Kd.S_nil _ _ _ _ _, HB0.out⟩


end Go.Proofs.Ytaohgllnoomaeaa.Fn
namespace Go.Proofs.Ytaohgllnoomaeaa.Fn
open Go.RowKit Go.Proofs.YtaohgllnoomaeaaW.PrintWords Go.Proofs.YtaohgllnoomaeaaW.PrintLast Go.Proofs.YtaohgllnoomaeaaW.PrintMore
attribute [local go_sem] max2_int min2_int max_two min_two max_three min_three max_four min_four   -- for this text's walks alone
set_option linter.unusedVariables false
set_option linter.unusedSimpArgs false

/-! ### spec_FirstHooked: function 44 (given) -/
def spec_FirstHooked.f (a0 : Int) : Option (List Int × Bool) := if (1 ≤ a0 ∧ a0 ≤ 9) then (seHookedRun a0.toNat 1).bind seFirstOf else some ([], false)
theorem FirstHooked_ask (a0 : Int) : spec_seSought.f a0 = some (decide (1 ≤ a0 ∧ a0 ≤ 9)) := by
  unfold spec_seSought.f spec_l1In.f
  by_cases h1 : a0 ≥ 1 <;> by_cases h2 : a0 ≤ 9 <;> simp [h1, h2] <;> omega
set_option maxHeartbeats 8000000 in
set_option maxRecDepth 100000 in
theorem spec_FirstHooked.calls (a0 : Int) (r1 : List Int) (r2 : Bool) (w : World) (h : spec_FirstHooked.f a0 = some (r1, r2)) :
    Calls Try.prog 44 #[.int .i64 a0] w fun e w' => ∃ v0_ : Value, e = .returned (.tuple #[v0_, .bool r2]) ∧ Kd.R (Kd.int .i64) 3 w' w.heap.size (fun _ => True) v0_ r1 ∧ Below w.heap.size w w' := by
  by_cases hs : (1 ≤ a0 ∧ a0 ≤ 9)
  · rw [spec_FirstHooked.f, if_pos hs] at h
    obtain ⟨s', hrun, h⟩ := Option.bind_eq_some_iff.1 h
    have H := Aside0.mk h
    have HS := Aside0.mk (show spec_seSought.f a0 = some true from by rw [FirstHooked_ask, decide_eq_true hs])
    have HNI := Aside0.mk (show ((a0.toNat : Nat) : Int) = a0 from by omega)
    have hall := fun w1 : World => seHooked_call a0.toNat 1 s' w1 (by omega) hrun
    rw [HNI.out] at hall
    have HALL := Aside0.mk hall
    clear h hrun hs hall
    go_enter Try.func44, Try.ntmps44
    go_wp2_with (first | ((with_reducible refine gate_callee (f := 162) rfl ?_); refine goesL_ (some 5) rfl rfl Try.func162 (by kernel_rfl) rfl #[.int .i64 a0] rfl (by (try simp only [List.map_toArray, List.map_cons, List.map_nil]); first | done | rfl) ?_; refine (spec_seSought.calls a0 true _ HS.out).mono ?_; rintro e w0 ⟨rfl, hd⟩; refine ⟨_, rfl, ?_⟩; have HB0 := Aside0.mk hd.below; clear hd) | ((with_reducible refine gate_callee (f := 167) rfl ?_); refine goesL_ (some 8) rfl rfl Try.func167 (by kernel_rfl) rfl #[.int .i64 a0, .int .i64 1] rfl (by (try simp only [List.map_toArray, List.map_cons, List.map_nil]); first | done | rfl) ?_; refine (HALL.out w0).mono ?_; rintro e w2 ⟨gS, gr, rfl, hgS, hgr, hne, hI2, hB2⟩; refine ⟨_, rfl, ?_⟩; have HGS := Aside0.mk hgS; have HGR := Aside0.mk hgr; have HNE := Aside0.mk hne; have HI2 := Aside0.mk hI2; have HB2 := Aside0.mk hB2; clear hgS hgr hne hI2 hB2) | ((with_reducible refine gate_callee (f := 152) rfl ?_); refine goesL_ (some 9) rfl rfl Try.func152 (by kernel_rfl) rfl #[.pointer (some ⟨gS, 0, none⟩)] rfl (by (try simp only [List.map_toArray, List.map_cons, List.map_nil]); first | done | rfl) ?_; refine (seFirst_call _ 0 s' w2 HI2.out r1 r2 H.out).mono ?_; rintro e w3 ⟨v3, rfl, hR3, hw3⟩; refine ⟨_, rfl, ?_⟩; subst hw3; have HR3 := Aside0.mk hR3; clear hR3))
    go_ret2
    exact ⟨_, rfl, Kd.R_lower HR3.out HB0.out.size, HB0.out.trans (HB2.out.mono HB0.out.size)⟩
  · rw [spec_FirstHooked.f, if_neg hs] at h
    obtain ⟨rfl, rfl⟩ := Prod.mk.inj (Option.some.inj h)
    have HS := Aside0.mk (show spec_seSought.f a0 = some false from by rw [FirstHooked_ask, decide_eq_false hs])
    clear h hs
    go_enter Try.func44, Try.ntmps44
    go_wp2_with (first | ((with_reducible refine gate_callee (f := 162) rfl ?_); refine goesL_ (some 5) rfl rfl Try.func162 (by kernel_rfl) rfl #[.int .i64 a0] rfl (by (try simp only [List.map_toArray, List.map_cons, List.map_nil]); first | done | rfl) ?_; refine (spec_seSought.calls a0 false _ HS.out).mono ?_; rintro e w0 ⟨rfl, hd⟩; refine ⟨_, rfl, ?_⟩; have HB0 := Aside0.mk hd.below; clear hd))
    go_ret2
    exact ⟨_, rfl, Kd.R_nil _ _ _ _ _, HB0.out⟩


end Go.Proofs.Ytaohgllnoomaeaa.Fn
namespace Go.Proofs.Ytaohgllnoomaeaa.Fn
open Go.RowKit Go.Proofs.YtaohgllnoomaeaaW.PrintWords Go.Proofs.YtaohgllnoomaeaaW.PrintLast Go.Proofs.YtaohgllnoomaeaaW.PrintMore
attribute [local go_sem] max2_int min2_int max_two min_two max_three min_three max_four min_four   -- for this text's walks alone
set_option linter.unusedVariables false
set_option linter.unusedSimpArgs false

/-! ### spec_l1Cur_one: function 170 -/
def spec_l1Cur_one.f (s0_0 : List Int) (s0_1 : Int) (s0_2 : Int) (a1 : Int) : Option (Bool × Int × Int) := (spec_l1Cur_pick.f s0_0 s0_1 s0_2 a1).bind fun bt291 => (some ((bt291.1 == 0), bt291.2.1, bt291.2.2))
set_option maxHeartbeats 8000000 in
set_option maxRecDepth 100000 in
theorem spec_l1Cur_one.calls (g : Nat) (s0_0 : List Int) (s0_1 : Int) (s0_2 : Int) (a1 : Int) (r1 : Bool) (r2 : Int) (r3 : Int) (w0 w : World) (hI : IsS108 w0 w g s0_0 s0_1 s0_2) (hB : Below w0.heap.size w0 w) (h : spec_l1Cur_one.f s0_0 s0_1 s0_2 a1 = some (r1, r2, r3)) :
    Calls Try.prog 170 #[.pointer (some ⟨g, 0, none⟩), .int .i64 a1] w fun e w' => e = .returned (.bool r1) ∧ IsS108 w0 w' g s0_0 r2 r3 ∧ Below w0.heap.size w0 w' ∧ KeepBut w w' g none := by
  have HI0 := Aside0.mk hI
  have HK := Aside0.mk (KeepBut.refl w g none)
  have HL := Aside0.mk hB.size
  clear hI
  have HW0 := Aside0.mk hB.size
  have HB := Aside0.mk hB
  clear hB
  have H : ((spec_l1Cur_pick.f s0_0 s0_1 s0_2 a1).bind fun bt291 => (some ((bt291.1 == 0), bt291.2.1, bt291.2.2))) = some (r1, r2, r3) := h
  clear h
  replace H := Option.bind_eq_some_iff.mp H
  obtain ⟨⟨t291, t292, t293⟩, A30, H⟩ := H
  replace H : (some ((t291 == 0), t292, t293)) = some (r1, r2, r3) := H
  have A3 := Aside0.mk A30
  clear A30
  simp only [Option.some.injEq, Prod.mk.injEq] at H
  obtain ⟨rfl, rfl, rfl⟩ := H
  go_enter Try.func170, Try.ntmps170
  go_wp2_with (first | ((with_reducible refine gate_callee (f := 171) rfl ?_); refine goesL_ (some 7) rfl rfl Try.func171 (by kernel_rfl) rfl #[.pointer (some ⟨g, 0, none⟩), .int .i64 a1] rfl (by (try simp only [List.map_toArray, List.map_cons, List.map_nil]); first | done | rfl | (simp only [List.length_drop, List.length_take]; rfl)) ?_; (with_reducible refine (spec_l1Cur_pick.calls g s0_0 s0_1 s0_2 a1 t291 t292 t293 w0 _ ?side1 ?side2 A3.out).mono ?_); (case side1 => repeat (first | (with_reducible first | exact HI0.out | apply IsS108.alloc | apply IsS108.drewN | apply IsS108.drew | apply IsS108.set_1 | apply IsS108.set_2) | exact HI0.out)); (case side2 => repeat (first | (with_reducible first | exact HB.out | apply below_alloc | apply pw_below_drewN | apply below_drew1 | refine below_set ?_ (IsS108.ge HI0.out)) | exact HB.out)); rintro e w4 ⟨rfl, hi, hb, hk⟩; refine ⟨_, rfl, ?_⟩; have n0_ := Aside0.mk (KeepBut.trans (by repeat (first | (with_reducible first | exact HK.out | apply KeepBut.set_ | apply keep_drewN | apply keep_drew | apply keep_alloc) | exact HK.out)) hk (.inl rfl)); have n1_ := Aside0.mk (hb); have n2_ := Aside0.mk (hi); clear HK; clear HB; clear HI0; have HK := n0_; have HB := n1_; have HI0 := n2_; clear n0_ n1_ n2_; (try clear hb); (try clear hb2); (try clear hk); (try clear hi)))
  go_ret
  exact ⟨by first | rfl | (simp [errW_none, errW_some] <;> rfl) | (simp [*, errW_none, errW_some] <;> rfl), by repeat (first | (with_reducible first | exact HI0.out | apply IsS108.alloc | apply IsS108.drewN | apply IsS108.drew | apply IsS108.set_1 | apply IsS108.set_2) | exact HI0.out), by repeat (first | (with_reducible first | exact HB.out | apply below_alloc | apply pw_below_drewN | apply below_drew1 | refine below_set ?_ (IsS108.ge HI0.out)) | exact HB.out), by repeat (first | (with_reducible first | exact HK.out | apply KeepBut.set_ | apply keep_drewN | apply keep_drew | apply keep_alloc) | exact HK.out)⟩


end Go.Proofs.Ytaohgllnoomaeaa.Fn
namespace Go.Proofs.Ytaohgllnoomaeaa.Fn
open Go.RowKit Go.Proofs.YtaohgllnoomaeaaW.PrintWords Go.Proofs.YtaohgllnoomaeaaW.PrintLast Go.Proofs.YtaohgllnoomaeaaW.PrintMore
attribute [local go_sem] max2_int min2_int max_two min_two max_three min_three max_four min_four   -- for this text's walks alone
set_option linter.unusedVariables false
set_option linter.unusedSimpArgs false

/-! ### spec_l1Cur_many: function 169 -/
def spec_l1Cur_many.f (s0_0 : List Int) (s0_1 : Int) (s0_2 : Int) : Option (Int × Int × Int) := (spec_l1Cur_one.f s0_0 s0_1 s0_2 10).bind fun bt294 => (if bt294.1 = true then ((spec_l1Cur_among.f s0_0 bt294.2.1 bt294.2.2 (([(-1), 0, 20, 21, 4611686018427387904] : List Int))).bind fun bt300 => (some (bt300.1, bt300.2.1, bt300.2.2))) else ((spec_l1Cur_pick.f s0_0 bt294.2.1 bt294.2.2 20).bind fun bt303 => (some (wrap64 (1 + bt303.1), bt303.2.1, bt303.2.2))))
set_option maxHeartbeats 8000000 in
set_option maxRecDepth 100000 in
theorem spec_l1Cur_many.calls (g : Nat) (s0_0 : List Int) (s0_1 : Int) (s0_2 : Int) (r1 : Int) (r2 : Int) (r3 : Int) (w0 w : World) (hI : IsS108 w0 w g s0_0 s0_1 s0_2) (hB : Below w0.heap.size w0 w) (h : spec_l1Cur_many.f s0_0 s0_1 s0_2 = some (r1, r2, r3)) :
    Calls Try.prog 169 #[.pointer (some ⟨g, 0, none⟩)] w fun e w' => e = .returned (.int .i64 r1) ∧ IsS108 w0 w' g s0_0 r2 r3 ∧ Below w0.heap.size w0 w' ∧ KeepBut w w' g none := by
  have HI0 := Aside0.mk hI
  have HK := Aside0.mk (KeepBut.refl w g none)
  have HL := Aside0.mk hB.size
  clear hI
  have HW0 := Aside0.mk hB.size
  have HB := Aside0.mk hB
  clear hB
  have H : ((spec_l1Cur_one.f s0_0 s0_1 s0_2 10).bind fun bt294 => (if bt294.1 = true then ((spec_l1Cur_among.f s0_0 bt294.2.1 bt294.2.2 (([(-1), 0, 20, 21, 4611686018427387904] : List Int))).bind fun bt300 => (some (bt300.1, bt300.2.1, bt300.2.2))) else ((spec_l1Cur_pick.f s0_0 bt294.2.1 bt294.2.2 20).bind fun bt303 => (some (wrap64 (1 + bt303.1), bt303.2.1, bt303.2.2))))) = some (r1, r2, r3) := h
  clear h
  replace H := Option.bind_eq_some_iff.mp H
  obtain ⟨⟨t294, t295, t296⟩, A20, H⟩ := H
  replace H : (if t294 = true then ((spec_l1Cur_among.f s0_0 t295 t296 (([(-1), 0, 20, 21, 4611686018427387904] : List Int))).bind fun bt300 => (some (bt300.1, bt300.2.1, bt300.2.2))) else ((spec_l1Cur_pick.f s0_0 t295 t296 20).bind fun bt303 => (some (wrap64 (1 + bt303.1), bt303.2.1, bt303.2.2)))) = some (r1, r2, r3) := H
  have A2 := Aside0.mk A20
  clear A20
  by_cases c3 : t294 = true
  · subst c3
    have H1 : ((spec_l1Cur_among.f s0_0 t295 t296 (([(-1), 0, 20, 21, 4611686018427387904] : List Int))).bind fun bt300 => (some (bt300.1, bt300.2.1, bt300.2.2))) = some (r1, r2, r3) := by rw [if_pos rfl] at H; exact H
    clear H
    have H := H1
    clear H1
    obtain ⟨y297, hy297⟩ : ∃ y_ : List Int, y_ = (([(-1), 0, 20, 21, 4611686018427387904] : List Int)) := ⟨_, rfl⟩
    replace H : ((spec_l1Cur_among.f s0_0 t295 t296 y297).bind fun bt300 => (some (bt300.1, bt300.2.1, bt300.2.2))) = some (r1, r2, r3) := by first | (rw [hy297]; with_reducible exact H) | (have H2_ := (Option.bind_some _ _).symm.trans H; rw [hy297]; with_reducible exact H2_) | (have H2_ := (Option.bind_some _ _).symm.trans H; with_reducible exact H2_) | with_reducible exact H | (rw [hy297]; exact H) | exact H
    have Ny297 := Aside0.mk hy297
    clear hy297
    replace H := Option.bind_eq_some_iff.mp H
    obtain ⟨⟨t300, t301, t302⟩, A40, H⟩ := H
    replace H : (some (t300, t301, t302)) = some (r1, r2, r3) := H
    have A4 := Aside0.mk A40
    clear A40
    simp only [Option.some.injEq, Prod.mk.injEq] at H
    obtain ⟨rfl, rfl, rfl⟩ := H
    go_enter Try.func169, Try.ntmps169
    go_wp2_with (first | ((with_reducible refine gate_callee (f := 170) rfl ?_); refine goesL_ (some 4) rfl rfl Try.func170 (by kernel_rfl) rfl #[.pointer (some ⟨g, 0, none⟩), .int .i64 10] rfl (by (try simp only [List.map_toArray, List.map_cons, List.map_nil]); first | done | rfl | (simp only [List.length_drop, List.length_take]; rfl)) ?_; (with_reducible refine (spec_l1Cur_one.calls g s0_0 s0_1 s0_2 10 true t295 t296 w0 _ ?side1 ?side2 A2.out).mono ?_); (case side1 => repeat (first | (with_reducible first | exact HI0.out | apply IsS108.alloc | apply IsS108.drewN | apply IsS108.drew | apply IsS108.set_1 | apply IsS108.set_2) | exact HI0.out)); (case side2 => repeat (first | (with_reducible first | exact HB.out | apply below_alloc | apply pw_below_drewN | apply below_drew1 | refine below_set ?_ (IsS108.ge HI0.out)) | exact HB.out)); rintro e w5 ⟨rfl, hi, hb, hk⟩; refine ⟨_, rfl, ?_⟩; have n0_ := Aside0.mk (KeepBut.trans (by repeat (first | (with_reducible first | exact HK.out | apply KeepBut.set_ | apply keep_drewN | apply keep_drew | apply keep_alloc) | exact HK.out)) hk (.inl rfl)); have n1_ := Aside0.mk (hb); have n2_ := Aside0.mk (hi); clear HK; clear HB; clear HI0; have HK := n0_; have HB := n1_; have HI0 := n2_; clear n0_ n1_ n2_; (try clear hb); (try clear hb2); (try clear hk); (try clear hi)) | ((with_reducible refine gate_dst (N := 6) rfl ?_); refine Kd.R_lit (Kd.int .i64) _ 3 ?hg (N := 6) ?hd (xs := ([(-1), 0, 20, 21, 4611686018427387904] : List Int)) (inner := [.int .i64 (-1), .int .i64 0, .int .i64 20, .int .i64 21, .int .i64 4611686018427387904]) (ok := fun _ => True) (okp := fun _ => True) ?hr ?hp (fun _ hk => hk) trivial (Below.refl _ _) (Nat.le_refl _) (by simp) ?_; (case hd => rfl); (case hg => rfl); (case hr => first | (go_simp; done) | (go_simp; rfl)); (case hp => exact (Reps.one (show Kd.M (Kd.int .i64) _ _ _ (-1) [.int .i64 (-1)] from rfl) (Reps.one (show Kd.M (Kd.int .i64) _ _ _ 0 [.int .i64 0] from rfl) (Reps.one (show Kd.M (Kd.int .i64) _ _ _ 20 [.int .i64 20] from rfl) (Reps.one (show Kd.M (Kd.int .i64) _ _ _ 21 [.int .i64 21] from rfl) (Reps.one (show Kd.M (Kd.int .i64) _ _ _ 4611686018427387904 [.int .i64 4611686018427387904] from rfl) (Reps.none _ _))))))); intro v298 w6 ho7 hb hg_ hnew_; clear hg_ hnew_; (first | rw [← Ny297.out] at ho7 | (simp only [Int.reduceToNat] at ho7; rw [← Ny297.out] at ho7)); have n0_ := Aside0.mk (Kd.R_lower ho7 (keep_size (w := w) (g := g) (row := none) (by repeat (first | (with_reducible first | exact HK.out | apply KeepBut.set_ | apply keep_drewN | apply keep_drew | apply keep_alloc) | exact HK.out)))); have n1_ := Aside0.mk (IsS108.below (by repeat (first | (with_reducible first | exact HI0.out | apply IsS108.alloc | apply IsS108.drewN | apply IsS108.drew | apply IsS108.set_1 | apply IsS108.set_2) | exact HI0.out)) hb); have n2_ := Aside0.mk (KeepBut.trans (by repeat (first | (with_reducible first | exact HK.out | apply KeepBut.set_ | apply keep_drewN | apply keep_drew | apply keep_alloc) | exact HK.out)) (KeepBut.of_below hb g none) (.inl rfl)); have n3_ := Aside0.mk (below_step (by repeat (first | (with_reducible first | exact HB.out | apply below_alloc | apply pw_below_drewN | apply below_drew1 | refine below_set ?_ (IsS108.ge HI0.out)) | exact HB.out)) hb); clear HI0; clear HK; clear HB; have HO299 := n0_; have HI0 := n1_; have HK := n2_; have HB := n3_; clear n0_ n1_ n2_ n3_; clear hb ho7; obtain ⟨Ao8, co8, eo8⟩ := Kd.R_slice HO299.out; subst eo8) | ((with_reducible refine gate_callee (f := 191) rfl ?_); refine goesL_ (some 7) rfl rfl Try.func191 (by kernel_rfl) rfl #[.pointer (some ⟨g, 0, none⟩), .slice Ao8 y297.length co8] rfl (by (try simp only [List.map_toArray, List.map_cons, List.map_nil]); first | done | rfl | (simp only [List.length_drop, List.length_take]; rfl)) ?_; (with_reducible refine (spec_l1Cur_among.calls g s0_0 t295 t296 _ _ y297 t300 t301 t302 w0 _ ?side1 ?side2 ?side3 ?side4 ?side5 A4.out).mono ?_); (case side1 => repeat (first | (with_reducible first | exact HI0.out | apply IsS108.alloc | apply IsS108.drewN | apply IsS108.drew | apply IsS108.set_1 | apply IsS108.set_2) | exact HI0.out)); (case side2 => repeat (first | (with_reducible first | exact HB.out | apply below_alloc | apply pw_below_drewN | apply below_drew1 | refine below_set ?_ (IsS108.ge HI0.out)) | exact HB.out)); (case side3 => repeat (first | exact (Kd.R_reads' HO299.out).2.2 | (with_reducible refine Kd.C_alloc ?_ _) | (with_reducible refine Kd.C_drewN ?_ _) | (with_reducible refine Kd.C_drew ?_))); (case side4 => exact (Kd.R_reads' HO299.out).2.1); (case side5 => exact far_slice (IsS108.own_ne HI0.out HO299.out (by decide))); rintro e w9 ⟨rfl, hi, hb, hk⟩; refine ⟨_, rfl, ?_⟩; have n0_ := Aside0.mk (Kd.R_mono (Kd.R_keep (IsS108.apart (show IsS108 w0 _ g s0_0 t295 t296 from by repeat (first | (with_reducible first | exact HI0.out | apply IsS108.alloc | apply IsS108.drewN | apply IsS108.drew | apply IsS108.set_1 | apply IsS108.set_2) | exact HI0.out)) (by (with_reducible repeat (first | apply Kd.R_alloc | apply Kd.R_drewN | apply Kd.R_drew)); exact HO299.out) (by decide)) hk (fun _ h => h.2)) (fun _ h => h.1)); have n1_ := Aside0.mk (KeepBut.trans (by repeat (first | (with_reducible first | exact HK.out | apply KeepBut.set_ | apply keep_drewN | apply keep_drew | apply keep_alloc) | exact HK.out)) hk (.inl rfl)); have n2_ := Aside0.mk (hb); have n3_ := Aside0.mk (hi); clear HO299; clear HK; clear HB; clear HI0; have HO299 := n0_; have HK := n1_; have HB := n2_; have HI0 := n3_; clear n0_ n1_ n2_ n3_; (try clear hb); (try clear hb2); (try clear hk); (try clear hi)))
    go_ret
    exact ⟨by first | rfl | (simp [errW_none, errW_some] <;> rfl) | (simp [*, errW_none, errW_some] <;> rfl), by repeat (first | (with_reducible first | exact HI0.out | apply IsS108.alloc | apply IsS108.drewN | apply IsS108.drew | apply IsS108.set_1 | apply IsS108.set_2) | exact HI0.out), by repeat (first | (with_reducible first | exact HB.out | apply below_alloc | apply pw_below_drewN | apply below_drew1 | refine below_set ?_ (IsS108.ge HI0.out)) | exact HB.out), by repeat (first | (with_reducible first | exact HK.out | apply KeepBut.set_ | apply keep_drewN | apply keep_drew | apply keep_alloc) | exact HK.out)⟩
  · replace c3 := Bool.eq_false_iff.mpr c3
    subst c3
    have H1 : ((spec_l1Cur_pick.f s0_0 t295 t296 20).bind fun bt303 => (some (wrap64 (1 + bt303.1), bt303.2.1, bt303.2.2))) = some (r1, r2, r3) := by rw [if_neg (show ¬ (false = true) by decide)] at H; exact H
    clear H
    have H := H1
    clear H1
    replace H := Option.bind_eq_some_iff.mp H
    obtain ⟨⟨t303, t304, t305⟩, A100, H⟩ := H
    replace H : (some (wrap64 (1 + t303), t304, t305)) = some (r1, r2, r3) := H
    have A10 := Aside0.mk A100
    clear A100
    simp only [Option.some.injEq, Prod.mk.injEq] at H
    obtain ⟨rfl, rfl, rfl⟩ := H
    go_enter Try.func169, Try.ntmps169
    go_wp2_with (first | ((with_reducible refine gate_callee (f := 170) rfl ?_); refine goesL_ (some 4) rfl rfl Try.func170 (by kernel_rfl) rfl #[.pointer (some ⟨g, 0, none⟩), .int .i64 10] rfl (by (try simp only [List.map_toArray, List.map_cons, List.map_nil]); first | done | rfl | (simp only [List.length_drop, List.length_take]; rfl)) ?_; (with_reducible refine (spec_l1Cur_one.calls g s0_0 s0_1 s0_2 10 false t295 t296 w0 _ ?side1 ?side2 A2.out).mono ?_); (case side1 => repeat (first | (with_reducible first | exact HI0.out | apply IsS108.alloc | apply IsS108.drewN | apply IsS108.drew | apply IsS108.set_1 | apply IsS108.set_2) | exact HI0.out)); (case side2 => repeat (first | (with_reducible first | exact HB.out | apply below_alloc | apply pw_below_drewN | apply below_drew1 | refine below_set ?_ (IsS108.ge HI0.out)) | exact HB.out)); rintro e w11 ⟨rfl, hi, hb, hk⟩; refine ⟨_, rfl, ?_⟩; have n0_ := Aside0.mk (KeepBut.trans (by repeat (first | (with_reducible first | exact HK.out | apply KeepBut.set_ | apply keep_drewN | apply keep_drew | apply keep_alloc) | exact HK.out)) hk (.inl rfl)); have n1_ := Aside0.mk (hb); have n2_ := Aside0.mk (hi); clear HK; clear HB; clear HI0; have HK := n0_; have HB := n1_; have HI0 := n2_; clear n0_ n1_ n2_; (try clear hb); (try clear hb2); (try clear hk); (try clear hi)) | ((with_reducible refine gate_callee (f := 171) rfl ?_); refine goesL_ (some 9) rfl rfl Try.func171 (by kernel_rfl) rfl #[.pointer (some ⟨g, 0, none⟩), .int .i64 20] rfl (by (try simp only [List.map_toArray, List.map_cons, List.map_nil]); first | done | rfl | (simp only [List.length_drop, List.length_take]; rfl)) ?_; (with_reducible refine (spec_l1Cur_pick.calls g s0_0 t295 t296 20 t303 t304 t305 w0 _ ?side1 ?side2 A10.out).mono ?_); (case side1 => repeat (first | (with_reducible first | exact HI0.out | apply IsS108.alloc | apply IsS108.drewN | apply IsS108.drew | apply IsS108.set_1 | apply IsS108.set_2) | exact HI0.out)); (case side2 => repeat (first | (with_reducible first | exact HB.out | apply below_alloc | apply pw_below_drewN | apply below_drew1 | refine below_set ?_ (IsS108.ge HI0.out)) | exact HB.out)); rintro e w12 ⟨rfl, hi, hb, hk⟩; refine ⟨_, rfl, ?_⟩; have n0_ := Aside0.mk (KeepBut.trans (by repeat (first | (with_reducible first | exact HK.out | apply KeepBut.set_ | apply keep_drewN | apply keep_drew | apply keep_alloc) | exact HK.out)) hk (.inl rfl)); have n1_ := Aside0.mk (hb); have n2_ := Aside0.mk (hi); clear HK; clear HB; clear HI0; have HK := n0_; have HB := n1_; have HI0 := n2_; clear n0_ n1_ n2_; (try clear hb); (try clear hb2); (try clear hk); (try clear hi)))
    go_ret
    exact ⟨by first | rfl | (simp [errW_none, errW_some] <;> rfl) | (simp [*, errW_none, errW_some] <;> rfl), by repeat (first | (with_reducible first | exact HI0.out | apply IsS108.alloc | apply IsS108.drewN | apply IsS108.drew | apply IsS108.set_1 | apply IsS108.set_2) | exact HI0.out), by repeat (first | (with_reducible first | exact HB.out | apply below_alloc | apply pw_below_drewN | apply below_drew1 | refine below_set ?_ (IsS108.ge HI0.out)) | exact HB.out), by repeat (first | (with_reducible first | exact HK.out | apply KeepBut.set_ | apply keep_drewN | apply keep_drew | apply keep_alloc) | exact HK.out)⟩


end Go.Proofs.Ytaohgllnoomaeaa.Fn
namespace Go.Proofs.Ytaohgllnoomaeaa.Fn
open Go.RowKit Go.Proofs.YtaohgllnoomaeaaW.PrintWords Go.Proofs.YtaohgllnoomaeaaW.PrintLast Go.Proofs.YtaohgllnoomaeaaW.PrintMore
attribute [local go_sem] max2_int min2_int max_two min_two max_three min_three max_four min_four   -- for this text's walks alone
set_option linter.unusedVariables false
set_option linter.unusedSimpArgs false

/-! ### spec_DrawIsLangfordThere: function 46 -/
def spec_DrawIsLangfordThere.f (l0 : List Int) : Option (Int × Int) := (spec_l1Cur_many.f l0 0 0).bind fun bt307 => ((spec_l1Cur_one.f l0 bt307.2.1 bt307.2.2 8).bind fun bt310 => (if bt310.1 = true then ((spec_l1Cur_many.f l0 bt310.2.1 bt310.2.2).bind fun bt313 => (some (bt307.1, bt313.1))) else ((spec_l1Cur_pick.f l0 bt310.2.1 bt310.2.2 8).bind fun bt316 => (some (bt307.1, wrap64 (1 + bt316.1))))))
set_option maxHeartbeats 8000000 in
set_option maxRecDepth 100000 in
theorem spec_DrawIsLangfordThere.calls (A0 : Option Addr) (c0 : Nat) (l0 : List Int) (r1 : Int) (r2 : Int) (w : World) (hr0 : Kd.C (Kd.int .u8) w A0 l0.length l0) (hc0 : l0.length ≤ c0) (h : spec_DrawIsLangfordThere.f l0 = some (r1, r2)) :
    Calls Try.prog 46 #[.slice A0 l0.length c0] w fun e w' => e = .returned (.tuple #[.int .i64 r1, .int .i64 r2]) ∧ Below w.heap.size w w' := by
  have hu108 := Try.underlying108
  have HR0 := Aside0.mk hr0
  have HC0 := Aside0.mk hc0
  clear hr0 hc0
  have HB := Aside0.mk (Below.refl w.heap.size w)
  have H : ((spec_l1Cur_many.f l0 0 0).bind fun bt307 => ((spec_l1Cur_one.f l0 bt307.2.1 bt307.2.2 8).bind fun bt310 => (if bt310.1 = true then ((spec_l1Cur_many.f l0 bt310.2.1 bt310.2.2).bind fun bt313 => (some (bt307.1, bt313.1))) else ((spec_l1Cur_pick.f l0 bt310.2.1 bt310.2.2 8).bind fun bt316 => (some (bt307.1, wrap64 (1 + bt316.1))))))) = some (r1, r2) := h
  clear h
  replace H := Option.bind_eq_some_iff.mp H
  obtain ⟨⟨t307, t308, t309⟩, A20, H⟩ := H
  replace H : ((spec_l1Cur_one.f l0 t308 t309 8).bind fun bt310 => (if bt310.1 = true then ((spec_l1Cur_many.f l0 bt310.2.1 bt310.2.2).bind fun bt313 => (some (t307, bt313.1))) else ((spec_l1Cur_pick.f l0 bt310.2.1 bt310.2.2 8).bind fun bt316 => (some (t307, wrap64 (1 + bt316.1)))))) = some (r1, r2) := H
  have A2 := Aside0.mk A20
  clear A20
  replace H := Option.bind_eq_some_iff.mp H
  obtain ⟨⟨t310, t311, t312⟩, A30, H⟩ := H
  replace H : (if t310 = true then ((spec_l1Cur_many.f l0 t311 t312).bind fun bt313 => (some (t307, bt313.1))) else ((spec_l1Cur_pick.f l0 t311 t312 8).bind fun bt316 => (some (t307, wrap64 (1 + bt316.1))))) = some (r1, r2) := H
  have A3 := Aside0.mk A30
  clear A30
  by_cases c4 : t310 = true
  · subst c4
    have H1 : ((spec_l1Cur_many.f l0 t311 t312).bind fun bt313 => (some (t307, bt313.1))) = some (r1, r2) := by rw [if_pos rfl] at H; exact H
    clear H
    have H := H1
    clear H1
    replace H := Option.bind_eq_some_iff.mp H
    obtain ⟨⟨t313, t314, t315⟩, A50, H⟩ := H
    replace H : (some (t307, t313)) = some (r1, r2) := H
    have A5 := Aside0.mk A50
    clear A50
    simp only [Option.some.injEq, Prod.mk.injEq] at H
    obtain ⟨rfl, rfl⟩ := H
    go_enter Try.func46, Try.ntmps46
    go_wp2_with (first | ((with_reducible refine gate_dst (N := 8) rfl ?_); refine box_event ?hg (N := 8) ?hd (cs := #[.slice A0 l0.length c0, .int .i64 0, .int .u64 0]) (t := 108) ?hr ?_; (case hd => rfl); (case hg => rfl); (case hr => first | (go_simp; done) | (go_simp; rfl)); intro gb306 hg w6 hbox hb; have n0_ := Aside0.mk (below_step (by repeat (first | (with_reducible first | exact HB.out | apply below_alloc | apply pw_below_drewN | apply below_drew1) | exact HB.out)) hb); have n1_ := Aside0.mk ((⟨_, _, hbox, (by rw [hg]; exact (below_size (by repeat (first | (with_reducible first | exact HB.out | apply below_alloc | apply pw_below_drewN | apply below_drew1) | exact HB.out))) : w.heap.size ≤ gb306), HR0.out⟩ : IsS108 w w6 gb306 l0 0 0)); clear HB; have HB := n0_; have HI306 := n1_; clear n0_ n1_; clear hb hbox hg) | ((with_reducible refine gate_callee (f := 169) rfl ?_); refine goesL_ (some 10) rfl rfl Try.func169 (by kernel_rfl) rfl #[.pointer (some ⟨gb306, 0, none⟩)] rfl (by (try simp only [List.map_toArray, List.map_cons, List.map_nil]); first | done | rfl | (simp only [List.length_drop, List.length_take]; rfl)) ?_; (with_reducible refine (spec_l1Cur_many.calls gb306 l0 0 0 t307 t308 t309 w _ ?side1 ?side2 A2.out).mono ?_); (case side1 => repeat (first | (with_reducible first | exact HI306.out | apply IsS108.alloc | apply IsS108.drewN | apply IsS108.drew | apply IsS108.set_1 | apply IsS108.set_2) | exact HI306.out)); (case side2 => repeat (first | (with_reducible first | exact HB.out | apply below_alloc | apply pw_below_drewN | apply below_drew1 | refine below_set ?_ (IsS108.ge HI306.out)) | exact HB.out)); rintro e w7 ⟨rfl, hi, hb, hk⟩; refine ⟨_, rfl, ?_⟩; have n0_ := Aside0.mk (hb); have n1_ := Aside0.mk (hi); clear HB; clear HI306; have HB := n0_; have HI306 := n1_; clear n0_ n1_; (try clear hb); (try clear hb2); (try clear hk); (try clear hi)) | ((with_reducible refine gate_callee (f := 170) rfl ?_); refine goesL_ (some 12) rfl rfl Try.func170 (by kernel_rfl) rfl #[.pointer (some ⟨gb306, 0, none⟩), .int .i64 8] rfl (by (try simp only [List.map_toArray, List.map_cons, List.map_nil]); first | done | rfl | (simp only [List.length_drop, List.length_take]; rfl)) ?_; (with_reducible refine (spec_l1Cur_one.calls gb306 l0 t308 t309 8 true t311 t312 w _ ?side1 ?side2 A3.out).mono ?_); (case side1 => repeat (first | (with_reducible first | exact HI306.out | apply IsS108.alloc | apply IsS108.drewN | apply IsS108.drew | apply IsS108.set_1 | apply IsS108.set_2) | exact HI306.out)); (case side2 => repeat (first | (with_reducible first | exact HB.out | apply below_alloc | apply pw_below_drewN | apply below_drew1 | refine below_set ?_ (IsS108.ge HI306.out)) | exact HB.out)); rintro e w8 ⟨rfl, hi, hb, hk⟩; refine ⟨_, rfl, ?_⟩; have n0_ := Aside0.mk (hb); have n1_ := Aside0.mk (hi); clear HB; clear HI306; have HB := n0_; have HI306 := n1_; clear n0_ n1_; (try clear hb); (try clear hb2); (try clear hk); (try clear hi)) | ((with_reducible refine gate_callee (f := 169) rfl ?_); refine goesL_ (some 15) rfl rfl Try.func169 (by kernel_rfl) rfl #[.pointer (some ⟨gb306, 0, none⟩)] rfl (by (try simp only [List.map_toArray, List.map_cons, List.map_nil]); first | done | rfl | (simp only [List.length_drop, List.length_take]; rfl)) ?_; (with_reducible refine (spec_l1Cur_many.calls gb306 l0 t311 t312 t313 t314 t315 w _ ?side1 ?side2 A5.out).mono ?_); (case side1 => repeat (first | (with_reducible first | exact HI306.out | apply IsS108.alloc | apply IsS108.drewN | apply IsS108.drew | apply IsS108.set_1 | apply IsS108.set_2) | exact HI306.out)); (case side2 => repeat (first | (with_reducible first | exact HB.out | apply below_alloc | apply pw_below_drewN | apply below_drew1 | refine below_set ?_ (IsS108.ge HI306.out)) | exact HB.out)); rintro e w9 ⟨rfl, hi, hb, hk⟩; refine ⟨_, rfl, ?_⟩; have n0_ := Aside0.mk (hb); have n1_ := Aside0.mk (hi); clear HB; clear HI306; have HB := n0_; have HI306 := n1_; clear n0_ n1_; (try clear hb); (try clear hb2); (try clear hk); (try clear hi)))
    go_ret2
    exact ⟨by first | rfl | (simp [errW_none, errW_some] <;> rfl) | (simp [*, errW_none, errW_some] <;> rfl), by repeat (first | (with_reducible first | exact HB.out | apply below_alloc | apply pw_below_drewN | apply below_drew1 | refine below_set ?_ (IsS108.ge HI306.out)) | exact HB.out)⟩
  · replace c4 := Bool.eq_false_iff.mpr c4
    subst c4
    have H1 : ((spec_l1Cur_pick.f l0 t311 t312 8).bind fun bt316 => (some (t307, wrap64 (1 + bt316.1)))) = some (r1, r2) := by rw [if_neg (show ¬ (false = true) by decide)] at H; exact H
    clear H
    have H := H1
    clear H1
    replace H := Option.bind_eq_some_iff.mp H
    obtain ⟨⟨t316, t317, t318⟩, A100, H⟩ := H
    replace H : (some (t307, wrap64 (1 + t316))) = some (r1, r2) := H
    have A10 := Aside0.mk A100
    clear A100
    simp only [Option.some.injEq, Prod.mk.injEq] at H
    obtain ⟨rfl, rfl⟩ := H
    go_enter Try.func46, Try.ntmps46
    go_wp2_with (first | ((with_reducible refine gate_dst (N := 8) rfl ?_); refine box_event ?hg (N := 8) ?hd (cs := #[.slice A0 l0.length c0, .int .i64 0, .int .u64 0]) (t := 108) ?hr ?_; (case hd => rfl); (case hg => rfl); (case hr => first | (go_simp; done) | (go_simp; rfl)); intro gb306 hg w11 hbox hb; have n0_ := Aside0.mk (below_step (by repeat (first | (with_reducible first | exact HB.out | apply below_alloc | apply pw_below_drewN | apply below_drew1) | exact HB.out)) hb); have n1_ := Aside0.mk ((⟨_, _, hbox, (by rw [hg]; exact (below_size (by repeat (first | (with_reducible first | exact HB.out | apply below_alloc | apply pw_below_drewN | apply below_drew1) | exact HB.out))) : w.heap.size ≤ gb306), HR0.out⟩ : IsS108 w w11 gb306 l0 0 0)); clear HB; have HB := n0_; have HI306 := n1_; clear n0_ n1_; clear hb hbox hg) | ((with_reducible refine gate_callee (f := 169) rfl ?_); refine goesL_ (some 10) rfl rfl Try.func169 (by kernel_rfl) rfl #[.pointer (some ⟨gb306, 0, none⟩)] rfl (by (try simp only [List.map_toArray, List.map_cons, List.map_nil]); first | done | rfl | (simp only [List.length_drop, List.length_take]; rfl)) ?_; (with_reducible refine (spec_l1Cur_many.calls gb306 l0 0 0 t307 t308 t309 w _ ?side1 ?side2 A2.out).mono ?_); (case side1 => repeat (first | (with_reducible first | exact HI306.out | apply IsS108.alloc | apply IsS108.drewN | apply IsS108.drew | apply IsS108.set_1 | apply IsS108.set_2) | exact HI306.out)); (case side2 => repeat (first | (with_reducible first | exact HB.out | apply below_alloc | apply pw_below_drewN | apply below_drew1 | refine below_set ?_ (IsS108.ge HI306.out)) | exact HB.out)); rintro e w12 ⟨rfl, hi, hb, hk⟩; refine ⟨_, rfl, ?_⟩; have n0_ := Aside0.mk (hb); have n1_ := Aside0.mk (hi); clear HB; clear HI306; have HB := n0_; have HI306 := n1_; clear n0_ n1_; (try clear hb); (try clear hb2); (try clear hk); (try clear hi)) | ((with_reducible refine gate_callee (f := 170) rfl ?_); refine goesL_ (some 12) rfl rfl Try.func170 (by kernel_rfl) rfl #[.pointer (some ⟨gb306, 0, none⟩), .int .i64 8] rfl (by (try simp only [List.map_toArray, List.map_cons, List.map_nil]); first | done | rfl | (simp only [List.length_drop, List.length_take]; rfl)) ?_; (with_reducible refine (spec_l1Cur_one.calls gb306 l0 t308 t309 8 false t311 t312 w _ ?side1 ?side2 A3.out).mono ?_); (case side1 => repeat (first | (with_reducible first | exact HI306.out | apply IsS108.alloc | apply IsS108.drewN | apply IsS108.drew | apply IsS108.set_1 | apply IsS108.set_2) | exact HI306.out)); (case side2 => repeat (first | (with_reducible first | exact HB.out | apply below_alloc | apply pw_below_drewN | apply below_drew1 | refine below_set ?_ (IsS108.ge HI306.out)) | exact HB.out)); rintro e w13 ⟨rfl, hi, hb, hk⟩; refine ⟨_, rfl, ?_⟩; have n0_ := Aside0.mk (hb); have n1_ := Aside0.mk (hi); clear HB; clear HI306; have HB := n0_; have HI306 := n1_; clear n0_ n1_; (try clear hb); (try clear hb2); (try clear hk); (try clear hi)) | ((with_reducible refine gate_callee (f := 171) rfl ?_); refine goesL_ (some 18) rfl rfl Try.func171 (by kernel_rfl) rfl #[.pointer (some ⟨gb306, 0, none⟩), .int .i64 8] rfl (by (try simp only [List.map_toArray, List.map_cons, List.map_nil]); first | done | rfl | (simp only [List.length_drop, List.length_take]; rfl)) ?_; (with_reducible refine (spec_l1Cur_pick.calls gb306 l0 t311 t312 8 t316 t317 t318 w _ ?side1 ?side2 A10.out).mono ?_); (case side1 => repeat (first | (with_reducible first | exact HI306.out | apply IsS108.alloc | apply IsS108.drewN | apply IsS108.drew | apply IsS108.set_1 | apply IsS108.set_2) | exact HI306.out)); (case side2 => repeat (first | (with_reducible first | exact HB.out | apply below_alloc | apply pw_below_drewN | apply below_drew1 | refine below_set ?_ (IsS108.ge HI306.out)) | exact HB.out)); rintro e w14 ⟨rfl, hi, hb, hk⟩; refine ⟨_, rfl, ?_⟩; have n0_ := Aside0.mk (hb); have n1_ := Aside0.mk (hi); clear HB; clear HI306; have HB := n0_; have HI306 := n1_; clear n0_ n1_; (try clear hb); (try clear hb2); (try clear hk); (try clear hi)))
    go_ret2
    exact ⟨by first | rfl | (simp [errW_none, errW_some] <;> rfl) | (simp [*, errW_none, errW_some] <;> rfl), by repeat (first | (with_reducible first | exact HB.out | apply below_alloc | apply pw_below_drewN | apply below_drew1 | refine below_set ?_ (IsS108.ge HI306.out)) | exact HB.out)⟩


end Go.Proofs.Ytaohgllnoomaeaa.Fn
namespace Go.Proofs.Ytaohgllnoomaeaa.Fn
open Go.RowKit Go.Proofs.YtaohgllnoomaeaaW.PrintWords Go.Proofs.YtaohgllnoomaeaaW.PrintLast Go.Proofs.YtaohgllnoomaeaaW.PrintMore
attribute [local go_sem] max2_int min2_int max_two min_two max_three min_three max_four min_four   -- for this text's walks alone
set_option linter.unusedVariables false
set_option linter.unusedSimpArgs false

/-! ### spec_seN: function 172 -/
def spec_seN.f (a0 : Int) : Option (Bool) := (spec_l1In.f a0 1 20).bind fun t131 => (some t131)
set_option maxHeartbeats 8000000 in
set_option maxRecDepth 100000 in
theorem spec_seN.calls (a0 : Int) (r : Bool) (w : World) (h : spec_seN.f a0 = some r) :
    Calls Try.prog 172 #[.int .i64 a0] w fun e w' => e = .returned (.bool r) ∧ Drawn0 w w' := by
  have H : ((spec_l1In.f a0 1 20).bind fun t131 => (some t131)) = some r := h
  clear h
  replace H := Option.bind_eq_some_iff.mp H
  obtain ⟨t131, A20, H⟩ := H
  replace H : (some t131) = some r := H
  have A2 := Aside0.mk A20
  clear A20
  obtain rfl := Option.some.inj H
  go_enter Try.func172, Try.ntmps172
  go_wp2_with (first | ((with_reducible refine gate_callee (f := 192) rfl ?_); refine goesL_ (some 4) rfl rfl Try.func192 (by kernel_rfl) rfl #[.int .i64 a0, .int .i64 1, .int .i64 20] rfl (by (try simp only [List.map_toArray, List.map_cons, List.map_nil]); first | done | rfl | (simp only [List.length_drop, List.length_take]; rfl)) ?_; (with_reducible refine (spec_l1In.calls a0 1 20 t131 _ A2.out).mono ?_); rintro e w' ⟨rfl, ⟨nd, rfl⟩⟩; refine ⟨_, rfl, ?_⟩))
  go_ret
  exact ⟨by first | rfl | (simp; done) | (simp [*]; done), by repeat (first | exact Drawn0.refl _ | apply Drawn0.step)⟩


end Go.Proofs.Ytaohgllnoomaeaa.Fn
namespace Go.Proofs.Ytaohgllnoomaeaa.Fn
open Go.RowKit Go.Proofs.YtaohgllnoomaeaaW.PrintWords Go.Proofs.YtaohgllnoomaeaaW.PrintLast Go.Proofs.YtaohgllnoomaeaaW.PrintMore
attribute [local go_sem] max2_int min2_int max_two min_two max_three min_three max_four min_four   -- for this text's walks alone
set_option linter.unusedVariables false
set_option linter.unusedSimpArgs false

/-! ### spec_seThere: function 173 -/
def spec_seThere.f (a0 : Int) (a1 : Int) : Option (Bool) := if a0 < (wrap64 ((wrap64 (2 * a1)) + 1)) then (some false) else (if (Int.tmod a1 2) = 1 then (if (Int.tmod a0 4) = 0 then (some true) else (some ((Int.tmod a0 4) == 3))) else (some (decide ((Int.tmod a0 4) ≤ 1))))
set_option maxHeartbeats 8000000 in
set_option maxRecDepth 100000 in
theorem spec_seThere.calls (a0 : Int) (a1 : Int) (r : Bool) (w : World) (h : spec_seThere.f a0 a1 = some r) :
    Calls Try.prog 173 #[.int .i64 a0, .int .i64 a1] w fun e w' => e = .returned (.bool r) ∧ Drawn0 w w' := by
  have H : (if a0 < (wrap64 ((wrap64 (2 * a1)) + 1)) then (some false) else (if (Int.tmod a1 2) = 1 then (if (Int.tmod a0 4) = 0 then (some true) else (some ((Int.tmod a0 4) == 3))) else (some (decide ((Int.tmod a0 4) ≤ 1))))) = some r := h
  clear h
  by_cases c3 : a0 < (wrap64 ((wrap64 (2 * a1)) + 1))
  · rw [if_pos c3] at H
    have c3b0 : decide (a0 < (wrap64 ((wrap64 (2 * a1)) + 1))) = true := decide_eq_true c3
    clear c3
    obtain rfl := Option.some.inj H
    go_enter Try.func173, Try.ntmps173
    go_wp2
    go_ret
    exact ⟨by first | rfl | (simp; done) | (simp [*]; done), by repeat (first | exact Drawn0.refl _ | apply Drawn0.step)⟩
  · rw [if_neg c3] at H
    have c3b0 : decide (a0 < (wrap64 ((wrap64 (2 * a1)) + 1))) = false := decide_eq_false c3
    clear c3
    by_cases c4 : (Int.tmod a1 2) = 1
    · rw [if_pos c4] at H
      have c4b0 : ((Int.tmod a1 2) == 1) = true := beq_iff_eq.mpr c4
      have c4b1 : ((Int.tmod a1 2) != 1) = false := bne_eq_false_iff_eq.mpr c4
      clear c4
      by_cases c5 : (Int.tmod a0 4) = 0
      · rw [if_pos c5] at H
        have c5b0 : ((Int.tmod a0 4) == 0) = true := beq_iff_eq.mpr c5
        have c5b1 : ((Int.tmod a0 4) != 0) = false := bne_eq_false_iff_eq.mpr c5
        clear c5
        obtain rfl := Option.some.inj H
        go_enter Try.func173, Try.ntmps173
        go_wp2
        go_ret
        exact ⟨by first | rfl | (simp; done) | (simp [*]; done), by repeat (first | exact Drawn0.refl _ | apply Drawn0.step)⟩
      · rw [if_neg c5] at H
        have c5b0 : ((Int.tmod a0 4) == 0) = false := beq_eq_false_iff_ne.mpr c5
        have c5b1 : ((Int.tmod a0 4) != 0) = true := bne_iff_ne.mpr c5
        obtain rfl := Option.some.inj H
        go_enter Try.func173, Try.ntmps173
        go_wp2
        go_ret
        exact ⟨by first | rfl | (simp; done) | (simp [*]; done), by repeat (first | exact Drawn0.refl _ | apply Drawn0.step)⟩
    · rw [if_neg c4] at H
      have c4b0 : ((Int.tmod a1 2) == 1) = false := beq_eq_false_iff_ne.mpr c4
      have c4b1 : ((Int.tmod a1 2) != 1) = true := bne_iff_ne.mpr c4
      obtain rfl := Option.some.inj H
      go_enter Try.func173, Try.ntmps173
      go_wp2
      go_ret
      exact ⟨by first | rfl | (simp; done) | (simp [*]; done), by repeat (first | exact Drawn0.refl _ | apply Drawn0.step)⟩


end Go.Proofs.Ytaohgllnoomaeaa.Fn
namespace Go.Proofs.Ytaohgllnoomaeaa.Fn
open Go.RowKit Go.Proofs.YtaohgllnoomaeaaW.PrintWords Go.Proofs.YtaohgllnoomaeaaW.PrintLast Go.Proofs.YtaohgllnoomaeaaW.PrintMore
attribute [local go_sem] max2_int min2_int max_two min_two max_three min_three max_four min_four   -- for this text's walks alone
set_option linter.unusedVariables false
set_option linter.unusedSimpArgs false

/-! ### spec_IsLangfordThere: function 47 -/
def spec_IsLangfordThere.f (a0 : Int) (a1 : Int) : Option (Bool × Bool) := (spec_seN.f a0).bind fun t319 => (if t319 = true then ((spec_seN.f a1).bind fun t320 => (if t320 = true then ((spec_seThere.f a0 a1).bind fun t321 => (some (t321, true))) else (some (false, false)))) else (some (false, false)))
set_option maxHeartbeats 8000000 in
set_option maxRecDepth 100000 in
theorem spec_IsLangfordThere.calls (a0 : Int) (a1 : Int) (r1 : Bool) (r2 : Bool) (w : World) (h : spec_IsLangfordThere.f a0 a1 = some (r1, r2)) :
    Calls Try.prog 47 #[.int .i64 a0, .int .i64 a1] w fun e w' => e = .returned (.tuple #[.bool r1, .bool r2]) ∧ Drawn0 w w' := by
  have H : ((spec_seN.f a0).bind fun t319 => (if t319 = true then ((spec_seN.f a1).bind fun t320 => (if t320 = true then ((spec_seThere.f a0 a1).bind fun t321 => (some (t321, true))) else (some (false, false)))) else (some (false, false)))) = some (r1, r2) := h
  clear h
  replace H := Option.bind_eq_some_iff.mp H
  obtain ⟨t319, A30, H⟩ := H
  replace H : (if t319 = true then ((spec_seN.f a1).bind fun t320 => (if t320 = true then ((spec_seThere.f a0 a1).bind fun t321 => (some (t321, true))) else (some (false, false)))) else (some (false, false))) = some (r1, r2) := H
  have A3 := Aside0.mk A30
  clear A30
  by_cases c4 : t319 = true
  · subst c4
    have H1 : ((spec_seN.f a1).bind fun t320 => (if t320 = true then ((spec_seThere.f a0 a1).bind fun t321 => (some (t321, true))) else (some (false, false)))) = some (r1, r2) := by rw [if_pos rfl] at H; exact H
    clear H
    have H := H1
    clear H1
    replace H := Option.bind_eq_some_iff.mp H
    obtain ⟨t320, A50, H⟩ := H
    replace H : (if t320 = true then ((spec_seThere.f a0 a1).bind fun t321 => (some (t321, true))) else (some (false, false))) = some (r1, r2) := H
    have A5 := Aside0.mk A50
    clear A50
    by_cases c6 : t320 = true
    · subst c6
      have H1 : ((spec_seThere.f a0 a1).bind fun t321 => (some (t321, true))) = some (r1, r2) := by rw [if_pos rfl] at H; exact H
      clear H
      have H := H1
      clear H1
      replace H := Option.bind_eq_some_iff.mp H
      obtain ⟨t321, A70, H⟩ := H
      replace H : (some (t321, true)) = some (r1, r2) := H
      have A7 := Aside0.mk A70
      clear A70
      simp only [Option.some.injEq, Prod.mk.injEq] at H
      obtain ⟨rfl, rfl⟩ := H
      go_enter Try.func47, Try.ntmps47
      go_wp2_with (first | ((with_reducible refine gate_callee (f := 172) rfl ?_); refine goesL_ (some 7) rfl rfl Try.func172 (by kernel_rfl) rfl #[.int .i64 a0] rfl (by (try simp only [List.map_toArray, List.map_cons, List.map_nil]); first | done | rfl | (simp only [List.length_drop, List.length_take]; rfl)) ?_; (with_reducible refine (spec_seN.calls a0 true _ A3.out).mono ?_); rintro e w' ⟨rfl, ⟨nd, rfl⟩⟩; refine ⟨_, rfl, ?_⟩) | (go_at_call 172; (with_reducible refine (spec_seN.calls a1 true _ A5.out).mono ?_); rintro e w' ⟨rfl, ⟨nd, rfl⟩⟩) | ((with_reducible refine gate_callee (f := 173) rfl ?_); refine goesL_ (some 16) rfl rfl Try.func173 (by kernel_rfl) rfl #[.int .i64 a0, .int .i64 a1] rfl (by (try simp only [List.map_toArray, List.map_cons, List.map_nil]); first | done | rfl | (simp only [List.length_drop, List.length_take]; rfl)) ?_; (with_reducible refine (spec_seThere.calls a0 a1 t321 _ A7.out).mono ?_); rintro e w' ⟨rfl, ⟨nd, rfl⟩⟩; refine ⟨_, rfl, ?_⟩))
      go_ret2
      exact ⟨by first | rfl | (simp; done) | (simp [*]; done), by repeat (first | exact Drawn0.refl _ | apply Drawn0.step)⟩
    · replace c6 := Bool.eq_false_iff.mpr c6
      subst c6
      have H1 : (some (false, false)) = some (r1, r2) := by rw [if_neg (show ¬ (false = true) by decide)] at H; exact H
      clear H
      have H := H1
      clear H1
      simp only [Option.some.injEq, Prod.mk.injEq] at H
      obtain ⟨rfl, rfl⟩ := H
      go_enter Try.func47, Try.ntmps47
      go_wp2_with (first | ((with_reducible refine gate_callee (f := 172) rfl ?_); refine goesL_ (some 7) rfl rfl Try.func172 (by kernel_rfl) rfl #[.int .i64 a0] rfl (by (try simp only [List.map_toArray, List.map_cons, List.map_nil]); first | done | rfl | (simp only [List.length_drop, List.length_take]; rfl)) ?_; (with_reducible refine (spec_seN.calls a0 true _ A3.out).mono ?_); rintro e w' ⟨rfl, ⟨nd, rfl⟩⟩; refine ⟨_, rfl, ?_⟩) | (go_at_call 172; (with_reducible refine (spec_seN.calls a1 false _ A5.out).mono ?_); rintro e w' ⟨rfl, ⟨nd, rfl⟩⟩))
      go_ret2
      exact ⟨by first | rfl | (simp; done) | (simp [*]; done), by repeat (first | exact Drawn0.refl _ | apply Drawn0.step)⟩
  · replace c4 := Bool.eq_false_iff.mpr c4
    subst c4
    have H1 : (some (false, false)) = some (r1, r2) := by rw [if_neg (show ¬ (false = true) by decide)] at H; exact H
    clear H
    have H := H1
    clear H1
    simp only [Option.some.injEq, Prod.mk.injEq] at H
    obtain ⟨rfl, rfl⟩ := H
    go_enter Try.func47, Try.ntmps47
    go_wp2_with (first | ((with_reducible refine gate_callee (f := 172) rfl ?_); refine goesL_ (some 7) rfl rfl Try.func172 (by kernel_rfl) rfl #[.int .i64 a0] rfl (by (try simp only [List.map_toArray, List.map_cons, List.map_nil]); first | done | rfl | (simp only [List.length_drop, List.length_take]; rfl)) ?_; (with_reducible refine (spec_seN.calls a0 false _ A3.out).mono ?_); rintro e w' ⟨rfl, ⟨nd, rfl⟩⟩; refine ⟨_, rfl, ?_⟩))
    go_ret2
    exact ⟨by first | rfl | (simp; done) | (simp [*]; done), by repeat (first | exact Drawn0.refl _ | apply Drawn0.step)⟩


end Go.Proofs.Ytaohgllnoomaeaa.Fn
namespace Go.Proofs.Ytaohgllnoomaeaa.Fn
open Go.RowKit Go.Proofs.YtaohgllnoomaeaaW.PrintWords Go.Proofs.YtaohgllnoomaeaaW.PrintLast Go.Proofs.YtaohgllnoomaeaaW.PrintMore
attribute [local go_sem] max2_int min2_int max_two min_two max_three min_three max_four min_four   -- for this text's walks alone
set_option linter.unusedVariables false
set_option linter.unusedSimpArgs false

/-! ### spec_DrawIsSkolemThere: function 48 -/
def spec_DrawIsSkolemThere.f (l0 : List Int) : Option (Int) := (spec_l1Cur_many.f l0 0 0).bind fun bt323 => (some bt323.1)
set_option maxHeartbeats 8000000 in
set_option maxRecDepth 100000 in
theorem spec_DrawIsSkolemThere.calls (A0 : Option Addr) (c0 : Nat) (l0 : List Int) (r : Int) (w : World) (hr0 : Kd.C (Kd.int .u8) w A0 l0.length l0) (hc0 : l0.length ≤ c0) (h : spec_DrawIsSkolemThere.f l0 = some r) :
    Calls Try.prog 48 #[.slice A0 l0.length c0] w fun e w' => e = .returned (.int .i64 r) ∧ Below w.heap.size w w' := by
  have hu108 := Try.underlying108
  have HR0 := Aside0.mk hr0
  have HC0 := Aside0.mk hc0
  clear hr0 hc0
  have HB := Aside0.mk (Below.refl w.heap.size w)
  have H : ((spec_l1Cur_many.f l0 0 0).bind fun bt323 => (some bt323.1)) = some r := h
  clear h
  replace H := Option.bind_eq_some_iff.mp H
  obtain ⟨⟨t323, t324, t325⟩, A20, H⟩ := H
  replace H : (some t323) = some r := H
  have A2 := Aside0.mk A20
  clear A20
  obtain rfl := Option.some.inj H
  go_enter Try.func48, Try.ntmps48
  go_wp2_with (first | ((with_reducible refine gate_dst (N := 6) rfl ?_); refine box_event ?hg (N := 6) ?hd (cs := #[.slice A0 l0.length c0, .int .i64 0, .int .u64 0]) (t := 108) ?hr ?_; (case hd => rfl); (case hg => rfl); (case hr => first | (go_simp; done) | (go_simp; rfl)); intro gb322 hg w3 hbox hb; have n0_ := Aside0.mk (below_step (by repeat (first | (with_reducible first | exact HB.out | apply below_alloc | apply pw_below_drewN | apply below_drew1) | exact HB.out)) hb); have n1_ := Aside0.mk ((⟨_, _, hbox, (by rw [hg]; exact (below_size (by repeat (first | (with_reducible first | exact HB.out | apply below_alloc | apply pw_below_drewN | apply below_drew1) | exact HB.out))) : w.heap.size ≤ gb322), HR0.out⟩ : IsS108 w w3 gb322 l0 0 0)); clear HB; have HB := n0_; have HI322 := n1_; clear n0_ n1_; clear hb hbox hg) | ((with_reducible refine gate_callee (f := 169) rfl ?_); refine goesL_ (some 8) rfl rfl Try.func169 (by kernel_rfl) rfl #[.pointer (some ⟨gb322, 0, none⟩)] rfl (by (try simp only [List.map_toArray, List.map_cons, List.map_nil]); first | done | rfl | (simp only [List.length_drop, List.length_take]; rfl)) ?_; (with_reducible refine (spec_l1Cur_many.calls gb322 l0 0 0 t323 t324 t325 w _ ?side1 ?side2 A2.out).mono ?_); (case side1 => repeat (first | (with_reducible first | exact HI322.out | apply IsS108.alloc | apply IsS108.drewN | apply IsS108.drew | apply IsS108.set_1 | apply IsS108.set_2) | exact HI322.out)); (case side2 => repeat (first | (with_reducible first | exact HB.out | apply below_alloc | apply pw_below_drewN | apply below_drew1 | refine below_set ?_ (IsS108.ge HI322.out)) | exact HB.out)); rintro e w4 ⟨rfl, hi, hb, hk⟩; refine ⟨_, rfl, ?_⟩; have n0_ := Aside0.mk (hb); have n1_ := Aside0.mk (hi); clear HB; clear HI322; have HB := n0_; have HI322 := n1_; clear n0_ n1_; (try clear hb); (try clear hb2); (try clear hk); (try clear hi)))
  go_ret
  exact ⟨by first | rfl | (simp [errW_none, errW_some] <;> rfl) | (simp [*, errW_none, errW_some] <;> rfl), by repeat (first | (with_reducible first | exact HB.out | apply below_alloc | apply pw_below_drewN | apply below_drew1 | refine below_set ?_ (IsS108.ge HI322.out)) | exact HB.out)⟩


end Go.Proofs.Ytaohgllnoomaeaa.Fn
namespace Go.Proofs.Ytaohgllnoomaeaa.Fn
open Go.RowKit Go.Proofs.YtaohgllnoomaeaaW.PrintWords Go.Proofs.YtaohgllnoomaeaaW.PrintLast Go.Proofs.YtaohgllnoomaeaaW.PrintMore
attribute [local go_sem] max2_int min2_int max_two min_two max_three min_three max_four min_four   -- for this text's walks alone
set_option linter.unusedVariables false
set_option linter.unusedSimpArgs false

/-! ### spec_IsSkolemThere: function 49 -/
def spec_IsSkolemThere.f (a0 : Int) : Option (Bool × Bool) := (spec_seN.f a0).bind fun t326 => (if t326 = true then (some (decide ((Int.tmod a0 4) ≤ 1), true)) else (some (false, false)))
set_option maxHeartbeats 8000000 in
set_option maxRecDepth 100000 in
theorem spec_IsSkolemThere.calls (a0 : Int) (r1 : Bool) (r2 : Bool) (w : World) (h : spec_IsSkolemThere.f a0 = some (r1, r2)) :
    Calls Try.prog 49 #[.int .i64 a0] w fun e w' => e = .returned (.tuple #[.bool r1, .bool r2]) ∧ Drawn0 w w' := by
  have H : ((spec_seN.f a0).bind fun t326 => (if t326 = true then (some (decide ((Int.tmod a0 4) ≤ 1), true)) else (some (false, false)))) = some (r1, r2) := h
  clear h
  replace H := Option.bind_eq_some_iff.mp H
  obtain ⟨t326, A20, H⟩ := H
  replace H : (if t326 = true then (some (decide ((Int.tmod a0 4) ≤ 1), true)) else (some (false, false))) = some (r1, r2) := H
  have A2 := Aside0.mk A20
  clear A20
  by_cases c3 : t326 = true
  · subst c3
    have H1 : (some (decide ((Int.tmod a0 4) ≤ 1), true)) = some (r1, r2) := by rw [if_pos rfl] at H; exact H
    clear H
    have H := H1
    clear H1
    simp only [Option.some.injEq, Prod.mk.injEq] at H
    obtain ⟨rfl, rfl⟩ := H
    go_enter Try.func49, Try.ntmps49
    go_wp2_with (first | ((with_reducible refine gate_callee (f := 172) rfl ?_); refine goesL_ (some 5) rfl rfl Try.func172 (by kernel_rfl) rfl #[.int .i64 a0] rfl (by (try simp only [List.map_toArray, List.map_cons, List.map_nil]); first | done | rfl | (simp only [List.length_drop, List.length_take]; rfl)) ?_; (with_reducible refine (spec_seN.calls a0 true _ A2.out).mono ?_); rintro e w' ⟨rfl, ⟨nd, rfl⟩⟩; refine ⟨_, rfl, ?_⟩))
    go_ret2
    exact ⟨by first | rfl | (simp; done) | (simp [*]; done), by repeat (first | exact Drawn0.refl _ | apply Drawn0.step)⟩
  · replace c3 := Bool.eq_false_iff.mpr c3
    subst c3
    have H1 : (some (false, false)) = some (r1, r2) := by rw [if_neg (show ¬ (false = true) by decide)] at H; exact H
    clear H
    have H := H1
    clear H1
    simp only [Option.some.injEq, Prod.mk.injEq] at H
    obtain ⟨rfl, rfl⟩ := H
    go_enter Try.func49, Try.ntmps49
    go_wp2_with (first | ((with_reducible refine gate_callee (f := 172) rfl ?_); refine goesL_ (some 5) rfl rfl Try.func172 (by kernel_rfl) rfl #[.int .i64 a0] rfl (by (try simp only [List.map_toArray, List.map_cons, List.map_nil]); first | done | rfl | (simp only [List.length_drop, List.length_take]; rfl)) ?_; (with_reducible refine (spec_seN.calls a0 false _ A2.out).mono ?_); rintro e w' ⟨rfl, ⟨nd, rfl⟩⟩; refine ⟨_, rfl, ?_⟩))
    go_ret2
    exact ⟨by first | rfl | (simp; done) | (simp [*]; done), by repeat (first | exact Drawn0.refl _ | apply Drawn0.step)⟩


end Go.Proofs.Ytaohgllnoomaeaa.Fn
namespace Go.Proofs.Ytaohgllnoomaeaa.Fn
open Go.RowKit Go.Proofs.YtaohgllnoomaeaaW.PrintWords Go.Proofs.YtaohgllnoomaeaaW.PrintLast Go.Proofs.YtaohgllnoomaeaaW.PrintMore
attribute [local go_sem] max2_int min2_int max_two min_two max_three min_three max_four min_four   -- for this text's walks alone
set_option linter.unusedVariables false
set_option linter.unusedSimpArgs false

/-! ### spec_IsHookedThere: function 50 -/
def spec_IsHookedThere.f (a0 : Int) : Option (Bool × Bool) := (spec_seN.f a0).bind fun t327 => (if t327 = true then (some (decide ((Int.tmod a0 4) ≥ 2), true)) else (some (false, false)))
set_option maxHeartbeats 8000000 in
set_option maxRecDepth 100000 in
theorem spec_IsHookedThere.calls (a0 : Int) (r1 : Bool) (r2 : Bool) (w : World) (h : spec_IsHookedThere.f a0 = some (r1, r2)) :
    Calls Try.prog 50 #[.int .i64 a0] w fun e w' => e = .returned (.tuple #[.bool r1, .bool r2]) ∧ Drawn0 w w' := by
  have H : ((spec_seN.f a0).bind fun t327 => (if t327 = true then (some (decide ((Int.tmod a0 4) ≥ 2), true)) else (some (false, false)))) = some (r1, r2) := h
  clear h
  replace H := Option.bind_eq_some_iff.mp H
  obtain ⟨t327, A20, H⟩ := H
  replace H : (if t327 = true then (some (decide ((Int.tmod a0 4) ≥ 2), true)) else (some (false, false))) = some (r1, r2) := H
  have A2 := Aside0.mk A20
  clear A20
  by_cases c3 : t327 = true
  · subst c3
    have H1 : (some (decide ((Int.tmod a0 4) ≥ 2), true)) = some (r1, r2) := by rw [if_pos rfl] at H; exact H
    clear H
    have H := H1
    clear H1
    simp only [Option.some.injEq, Prod.mk.injEq] at H
    obtain ⟨rfl, rfl⟩ := H
    go_enter Try.func50, Try.ntmps50
    go_wp2_with (first | ((with_reducible refine gate_callee (f := 172) rfl ?_); refine goesL_ (some 5) rfl rfl Try.func172 (by kernel_rfl) rfl #[.int .i64 a0] rfl (by (try simp only [List.map_toArray, List.map_cons, List.map_nil]); first | done | rfl | (simp only [List.length_drop, List.length_take]; rfl)) ?_; (with_reducible refine (spec_seN.calls a0 true _ A2.out).mono ?_); rintro e w' ⟨rfl, ⟨nd, rfl⟩⟩; refine ⟨_, rfl, ?_⟩))
    go_ret2
    exact ⟨by first | rfl | (simp; done) | (simp [*]; done), by repeat (first | exact Drawn0.refl _ | apply Drawn0.step)⟩
  · replace c3 := Bool.eq_false_iff.mpr c3
    subst c3
    have H1 : (some (false, false)) = some (r1, r2) := by rw [if_neg (show ¬ (false = true) by decide)] at H; exact H
    clear H
    have H := H1
    clear H1
    simp only [Option.some.injEq, Prod.mk.injEq] at H
    obtain ⟨rfl, rfl⟩ := H
    go_enter Try.func50, Try.ntmps50
    go_wp2_with (first | ((with_reducible refine gate_callee (f := 172) rfl ?_); refine goesL_ (some 5) rfl rfl Try.func172 (by kernel_rfl) rfl #[.int .i64 a0] rfl (by (try simp only [List.map_toArray, List.map_cons, List.map_nil]); first | done | rfl | (simp only [List.length_drop, List.length_take]; rfl)) ?_; (with_reducible refine (spec_seN.calls a0 false _ A2.out).mono ?_); rintro e w' ⟨rfl, ⟨nd, rfl⟩⟩; refine ⟨_, rfl, ?_⟩))
    go_ret2
    exact ⟨by first | rfl | (simp; done) | (simp [*]; done), by repeat (first | exact Drawn0.refl _ | apply Drawn0.step)⟩


end Go.Proofs.Ytaohgllnoomaeaa.Fn
namespace Go.Proofs.Ytaohgllnoomaeaa.Fn
open Go.RowKit Go.Proofs.YtaohgllnoomaeaaW.PrintWords Go.Proofs.YtaohgllnoomaeaaW.PrintLast Go.Proofs.YtaohgllnoomaeaaW.PrintMore
attribute [local go_sem] max2_int min2_int max_two min_two max_three min_three max_four min_four   -- for this text's walks alone
set_option linter.unusedVariables false
set_option linter.unusedSimpArgs false

/-! ### laws_FnRowsThere: function 4 -/
mutual
def laws_FnRowsThere.j0 : Nat → List Int → Int → Int → List (List Int) → Bool → List Int → Bool → Option (Bool)
 | 0, _, _, _, _, _, _, _ => none
 | k + 1, x1, x5, x8, x12, x13, x16, x158 => if x158 = true then (some false) else (if x13 = true then (laws_FnRowsThere.l0 k x1 x5 x8 x12 x16 x12 (x12.length : Int) 0) else (laws_FnRowsThere.j2 k x1))
def laws_FnRowsThere.j2 : Nat → List Int → Option (Bool)
 | 0, _ => none
 | k + 1, x1 => (spec_DrawAllHooked.f x1).bind fun t369 => ((impl_IsHookedThere.f t369).bind fun bt370 => ((impl_CountHooked.f t369).bind fun bt372 => ((spec_CountHooked.f t369).bind fun bt374 => ((impl_AllHooked.f t369).bind fun bt376 => ((spec_AllHooked.f t369).bind fun bt380 => ((impl_FirstHooked.f t369).bind fun bt384 => ((spec_FirstHooked.f t369).bind fun bt388 => (if (bt372.2 != bt374.2) = true then (laws_FnRowsThere.j3 k x1 bt372.1 bt376.1 bt376.2 bt384.1 true) else (if bt372.1 = bt374.1 then (if (bt376.2 != bt380.2) = true then (laws_FnRowsThere.j3 k x1 bt372.1 bt376.1 bt376.2 bt384.1 true) else ((laws_jRows.f k bt376.1 bt380.1).bind fun t392 => (if t392 = true then (if (bt384.2 != bt388.2) = true then (laws_FnRowsThere.j3 k x1 bt372.1 bt376.1 bt376.2 bt384.1 true) else ((laws_jSame.f k bt384.1 bt388.1).bind fun t393 => (if t393 = true then (if bt372.2 = true then (if (bt376.2 != (decide (bt372.1 ≤ 600))) = true then (laws_FnRowsThere.j3 k x1 bt372.1 bt376.1 bt376.2 bt384.1 true) else (if (bt384.2 != (decide (bt372.1 > 0))) = true then (laws_FnRowsThere.j3 k x1 bt372.1 bt376.1 bt376.2 bt384.1 true) else (if bt370.2 = true then (laws_FnRowsThere.j3 k x1 bt372.1 bt376.1 bt376.2 bt384.1 (bt370.1 != (decide (bt372.1 > 0)))) else (laws_FnRowsThere.j3 k x1 bt372.1 bt376.1 bt376.2 bt384.1 true)))) else (if (bt376.2 != false) = true then (laws_FnRowsThere.j3 k x1 bt372.1 bt376.1 bt376.2 bt384.1 true) else (if (bt384.2 != false) = true then (laws_FnRowsThere.j3 k x1 bt372.1 bt376.1 bt376.2 bt384.1 true) else (laws_FnRowsThere.j3 k x1 bt372.1 bt376.1 bt376.2 bt384.1 false)))) else (laws_FnRowsThere.j3 k x1 bt372.1 bt376.1 bt376.2 bt384.1 true)))) else (laws_FnRowsThere.j3 k x1 bt372.1 bt376.1 bt376.2 bt384.1 true)))) else (laws_FnRowsThere.j3 k x1 bt372.1 bt376.1 bt376.2 bt384.1 true))))))))))
def laws_FnRowsThere.j3 : Nat → List Int → Int → List (List Int) → Bool → List Int → Bool → Option (Bool)
 | 0, _, _, _, _, _, _ => none
 | k + 1, x1, x27, x31, x32, x35, x320 => if x320 = true then (some false) else (if x32 = true then (laws_FnRowsThere.l1 k x1 x27 x31 x35 x31 (x31.length : Int) 0) else (laws_FnRowsThere.j5 k x1))
def laws_FnRowsThere.j5 : Nat → List Int → Option (Bool)
 | 0, _ => none
 | k + 1, x1 => (spec_DrawIsLangfordThere.f x1).bind fun bt401 => ((impl_IsLangfordThere.f k bt401.1 bt401.2).bind fun bt403 => ((spec_IsLangfordThere.f bt401.1 bt401.2).bind fun bt405 => ((spec_DrawIsSkolemThere.f x1).bind fun t407 => ((impl_IsSkolemThere.f t407).bind fun bt408 => ((spec_IsSkolemThere.f t407).bind fun bt410 => ((impl_IsHookedThere.f t407).bind fun bt412 => ((spec_IsHookedThere.f t407).bind fun bt414 => (if (bt403.2 == bt405.2) = true then (if (bt403.1 == bt405.1) = true then (if (bt408.2 == bt410.2) = true then (if (bt408.1 == bt410.1) = true then (if (bt412.2 == bt414.2) = true then (if (bt412.1 == bt414.1) = true then (if (bt412.2 == bt408.2) = true then (if bt408.2 = true then (some (bt408.1 != bt412.1)) else (some true)) else (some false)) else (some false)) else (some false)) else (some false)) else (some false)) else (some false)) else (some false)))))))))
def laws_FnRowsThere.l1 : Nat → List Int → Int → List (List Int) → List Int → List (List Int) → Int → Int → Option (Bool)
 | 0, _, _, _, _, _, _, _ => none
 | k + 1, x1, x27, x31, x35, x322, x323, x324 => if x324 < x323 then (if 0 ≤ x324 then (if x324 < (x322.length : Int) then ((impl_IsHooked.f k (rd_L2 x322 x324)).bind fun bt397 => (if bt397.2 = true then (if bt397.1 = true then (if x324 > 0 then (if 0 ≤ (wrap64 (x324 - 1)) then (if (wrap64 (x324 - 1)) < (x31.length : Int) then ((laws_jLess.f k (rd_L2 x31 (wrap64 (x324 - 1))) (rd_L2 x322 x324)).bind fun t400 => (if t400 = true then (laws_FnRowsThere.l1 k x1 x27 x31 x35 x322 x323 (wrap64 (x324 + 1))) else (some false))) else (none)) else (none)) else (laws_FnRowsThere.l1 k x1 x27 x31 x35 x322 x323 (wrap64 (x324 + 1)))) else (some false)) else (some false))) else (none)) else (none)) else (if (x31.length : Int) = x27 then (if x27 > 0 then (if 0 < (x31.length : Int) then ((laws_jSame.f k (rd_L2 x31 0) x35).bind fun t395 => (if t395 = true then (laws_FnRowsThere.j5 k x1) else (some false))) else (none)) else (laws_FnRowsThere.j5 k x1)) else (some false))
def laws_FnRowsThere.l0 : Nat → List Int → Int → Int → List (List Int) → List Int → List (List Int) → Int → Int → Option (Bool)
 | 0, _, _, _, _, _, _, _, _ => none
 | k + 1, x1, x5, x8, x12, x16, x160, x161, x162 => if x162 < x161 then (if 0 ≤ x162 then (if x162 < (x160.length : Int) then ((impl_IsSkolem.f k (rd_L2 x160 x162)).bind fun bt357 => (if bt357.2 = true then (if bt357.1 = true then (if ((rd_L2 x160 x162).length : Int) = (wrap64 (2 * x5)) then (if x162 > 0 then (if 0 ≤ (wrap64 (x162 - 1)) then (if (wrap64 (x162 - 1)) < (x12.length : Int) then ((laws_jLess.f k (rd_L2 x12 (wrap64 (x162 - 1))) (rd_L2 x160 x162)).bind fun t360 => (if t360 = true then ((laws_jBack.f k (rd_L2 x160 x162)).bind fun t361 => ((laws_jIn.f k x12 t361).bind fun t364 => (if t364 = true then (laws_FnRowsThere.l0 k x1 x5 x8 x12 x16 x160 x161 (wrap64 (x162 + 1))) else (some false)))) else (some false))) else (none)) else (none)) else ((laws_jBack.f k (rd_L2 x160 x162)).bind fun t365 => ((laws_jIn.f k x12 t365).bind fun t368 => (if t368 = true then (laws_FnRowsThere.l0 k x1 x5 x8 x12 x16 x160 x161 (wrap64 (x162 + 1))) else (some false))))) else (some false)) else (some false)) else (some false))) else (none)) else (none)) else (if (x12.length : Int) = x8 then (if x8 > 0 then (if 0 < (x12.length : Int) then ((laws_jSame.f k (rd_L2 x12 0) x16).bind fun t355 => (if t355 = true then (laws_FnRowsThere.j2 k x1) else (some false))) else (none)) else (laws_FnRowsThere.j2 k x1)) else (some false))
end
def laws_FnRowsThere.f (k : Nat) (l0 : List Int) (l1 : List Int) : Option (Bool) := (laws_big.f l0 l1).bind fun t328 => (if t328 = true then (some true) else ((spec_DrawAllSkolem.f l0).bind fun t329 => ((impl_IsSkolemThere.f t329).bind fun bt330 => ((impl_CountSkolem.f t329).bind fun bt332 => ((spec_CountSkolem.f t329).bind fun bt334 => ((impl_AllSkolem.f t329).bind fun bt336 => ((spec_AllSkolem.f t329).bind fun bt340 => ((impl_FirstSkolem.f t329).bind fun bt344 => ((spec_FirstSkolem.f t329).bind fun bt348 => (if (bt332.2 != bt334.2) = true then (laws_FnRowsThere.j0 k l1 t329 bt332.1 bt336.1 bt336.2 bt344.1 true) else (if bt332.1 = bt334.1 then (if (bt336.2 != bt340.2) = true then (laws_FnRowsThere.j0 k l1 t329 bt332.1 bt336.1 bt336.2 bt344.1 true) else ((laws_jRows.f k bt336.1 bt340.1).bind fun t352 => (if t352 = true then (if (bt344.2 != bt348.2) = true then (laws_FnRowsThere.j0 k l1 t329 bt332.1 bt336.1 bt336.2 bt344.1 true) else ((laws_jSame.f k bt344.1 bt348.1).bind fun t353 => (if t353 = true then (if bt332.2 = true then (if (bt336.2 != (decide (bt332.1 ≤ 600))) = true then (laws_FnRowsThere.j0 k l1 t329 bt332.1 bt336.1 bt336.2 bt344.1 true) else (if (bt344.2 != (decide (bt332.1 > 0))) = true then (laws_FnRowsThere.j0 k l1 t329 bt332.1 bt336.1 bt336.2 bt344.1 true) else (if bt330.2 = true then (laws_FnRowsThere.j0 k l1 t329 bt332.1 bt336.1 bt336.2 bt344.1 (bt330.1 != (decide (bt332.1 > 0)))) else (laws_FnRowsThere.j0 k l1 t329 bt332.1 bt336.1 bt336.2 bt344.1 true)))) else (if (bt336.2 != false) = true then (laws_FnRowsThere.j0 k l1 t329 bt332.1 bt336.1 bt336.2 bt344.1 true) else (if (bt344.2 != false) = true then (laws_FnRowsThere.j0 k l1 t329 bt332.1 bt336.1 bt336.2 bt344.1 true) else (laws_FnRowsThere.j0 k l1 t329 bt332.1 bt336.1 bt336.2 bt344.1 false)))) else (laws_FnRowsThere.j0 k l1 t329 bt332.1 bt336.1 bt336.2 bt344.1 true)))) else (laws_FnRowsThere.j0 k l1 t329 bt332.1 bt336.1 bt336.2 bt344.1 true)))) else (laws_FnRowsThere.j0 k l1 t329 bt332.1 bt336.1 bt336.2 bt344.1 true))))))))))))
theorem laws_FnRowsThere.mono_l : ∀ k, (∀ y0 y1 y2 y3 y4 y5 y6, LeO (laws_FnRowsThere.j0 k y0 y1 y2 y3 y4 y5 y6) (laws_FnRowsThere.j0 (k + 1) y0 y1 y2 y3 y4 y5 y6)) ∧ (∀ y0, LeO (laws_FnRowsThere.j2 k y0) (laws_FnRowsThere.j2 (k + 1) y0)) ∧ (∀ y0 y1 y2 y3 y4 y5, LeO (laws_FnRowsThere.j3 k y0 y1 y2 y3 y4 y5) (laws_FnRowsThere.j3 (k + 1) y0 y1 y2 y3 y4 y5)) ∧ (∀ y0, LeO (laws_FnRowsThere.j5 k y0) (laws_FnRowsThere.j5 (k + 1) y0)) ∧ (∀ y0 y1 y2 y3 y4 y5 y6, LeO (laws_FnRowsThere.l1 k y0 y1 y2 y3 y4 y5 y6) (laws_FnRowsThere.l1 (k + 1) y0 y1 y2 y3 y4 y5 y6)) ∧ (∀ y0 y1 y2 y3 y4 y5 y6 y7, LeO (laws_FnRowsThere.l0 k y0 y1 y2 y3 y4 y5 y6 y7) (laws_FnRowsThere.l0 (k + 1) y0 y1 y2 y3 y4 y5 y6 y7))
 | 0 => ⟨fun _ _ _ _ _ _ _ r h => by simp [laws_FnRowsThere.j0] at h, fun _ r h => by simp [laws_FnRowsThere.j2] at h, fun _ _ _ _ _ _ r h => by simp [laws_FnRowsThere.j3] at h, fun _ r h => by simp [laws_FnRowsThere.j5] at h, fun _ _ _ _ _ _ _ r h => by simp [laws_FnRowsThere.l1] at h, fun _ _ _ _ _ _ _ _ r h => by simp [laws_FnRowsThere.l0] at h⟩
 | k + 1 => by
  obtain ⟨ih0, ih1, ih2, ih3, ih4, ih5⟩ := laws_FnRowsThere.mono_l k
  refine ⟨?_, ?_, ?_, ?_, ?_, ?_⟩
  ·intro y0 y1 y2 y3 y4 y5 y6
   unfold laws_FnRowsThere.j0
   repeat' first
   | (with_reducible exact ih0 _ _ _ _ _ _ _)
   | (with_reducible exact ih1 _)
   | (with_reducible exact ih2 _ _ _ _ _ _)
   | (with_reducible exact ih3 _)
   | (with_reducible exact ih4 _ _ _ _ _ _ _)
   | (with_reducible exact ih5 _ _ _ _ _ _ _ _)
   | (with_reducible exact impl_IsHooked.mono _ _)
   | (with_reducible exact impl_IsLangfordThere.mono _ _ _)
   | (with_reducible exact impl_IsSkolem.mono _ _)
   | (with_reducible exact laws_jBack.mono _ _)
   | (with_reducible exact laws_jIn.mono _ _ _)
   | (with_reducible exact laws_jLess.mono _ _ _)
   | (with_reducible exact laws_jRows.mono _ _ _)
   | (with_reducible exact laws_jSame.mono _ _ _)
   | (with_reducible exact LeO.refl _)
   | (with_reducible exact LeO.none _)
   | (with_reducible refine LeO.ite ?_ ?_)
   | (with_reducible refine LeO.bind ?_ (fun _ => ?_))
   | exact ih0 _ _ _ _ _ _ _
   | exact ih1 _
   | exact ih2 _ _ _ _ _ _
   | exact ih3 _
   | exact ih4 _ _ _ _ _ _ _
   | exact ih5 _ _ _ _ _ _ _ _
   | exact impl_IsHooked.mono _ _
   | exact impl_IsLangfordThere.mono _ _ _
   | exact impl_IsSkolem.mono _ _
   | exact laws_jBack.mono _ _
   | exact laws_jIn.mono _ _ _
   | exact laws_jLess.mono _ _ _
   | exact laws_jRows.mono _ _ _
   | exact laws_jSame.mono _ _ _
   | exact LeO.none _
   | refine LeO.ite ?_ ?_
   | refine LeO.bind ?_ (fun _ => ?_)
  ·intro y0
   unfold laws_FnRowsThere.j2
   repeat' first
   | (with_reducible exact ih0 _ _ _ _ _ _ _)
   | (with_reducible exact ih1 _)
   | (with_reducible exact ih2 _ _ _ _ _ _)
   | (with_reducible exact ih3 _)
   | (with_reducible exact ih4 _ _ _ _ _ _ _)
   | (with_reducible exact ih5 _ _ _ _ _ _ _ _)
   | (with_reducible exact impl_IsHooked.mono _ _)
   | (with_reducible exact impl_IsLangfordThere.mono _ _ _)
   | (with_reducible exact impl_IsSkolem.mono _ _)
   | (with_reducible exact laws_jBack.mono _ _)
   | (with_reducible exact laws_jIn.mono _ _ _)
   | (with_reducible exact laws_jLess.mono _ _ _)
   | (with_reducible exact laws_jRows.mono _ _ _)
   | (with_reducible exact laws_jSame.mono _ _ _)
   | (with_reducible exact LeO.refl _)
   | (with_reducible exact LeO.none _)
   | (with_reducible refine LeO.ite ?_ ?_)
   | (with_reducible refine LeO.bind ?_ (fun _ => ?_))
   | exact ih0 _ _ _ _ _ _ _
   | exact ih1 _
   | exact ih2 _ _ _ _ _ _
   | exact ih3 _
   | exact ih4 _ _ _ _ _ _ _
   | exact ih5 _ _ _ _ _ _ _ _
   | exact impl_IsHooked.mono _ _
   | exact impl_IsLangfordThere.mono _ _ _
   | exact impl_IsSkolem.mono _ _
   | exact laws_jBack.mono _ _
   | exact laws_jIn.mono _ _ _
   | exact laws_jLess.mono _ _ _
   | exact laws_jRows.mono _ _ _
   | exact laws_jSame.mono _ _ _
   | exact LeO.none _
   | refine LeO.ite ?_ ?_
   | refine LeO.bind ?_ (fun _ => ?_)
  ·intro y0 y1 y2 y3 y4 y5
   unfold laws_FnRowsThere.j3
   repeat' first
   | (with_reducible exact ih0 _ _ _ _ _ _ _)
   | (with_reducible exact ih1 _)
   | (with_reducible exact ih2 _ _ _ _ _ _)
   | (with_reducible exact ih3 _)
   | (with_reducible exact ih4 _ _ _ _ _ _ _)
   | (with_reducible exact ih5 _ _ _ _ _ _ _ _)
   | (with_reducible exact impl_IsHooked.mono _ _)
   | (with_reducible exact impl_IsLangfordThere.mono _ _ _)
   | (with_reducible exact impl_IsSkolem.mono _ _)
   | (with_reducible exact laws_jBack.mono _ _)
   | (with_reducible exact laws_jIn.mono _ _ _)
   | (with_reducible exact laws_jLess.mono _ _ _)
   | (with_reducible exact laws_jRows.mono _ _ _)
   | (with_reducible exact laws_jSame.mono _ _ _)
   | (with_reducible exact LeO.refl _)
   | (with_reducible exact LeO.none _)
   | (with_reducible refine LeO.ite ?_ ?_)
   | (with_reducible refine LeO.bind ?_ (fun _ => ?_))
   | exact ih0 _ _ _ _ _ _ _
   | exact ih1 _
   | exact ih2 _ _ _ _ _ _
   | exact ih3 _
   | exact ih4 _ _ _ _ _ _ _
   | exact ih5 _ _ _ _ _ _ _ _
   | exact impl_IsHooked.mono _ _
   | exact impl_IsLangfordThere.mono _ _ _
   | exact impl_IsSkolem.mono _ _
   | exact laws_jBack.mono _ _
   | exact laws_jIn.mono _ _ _
   | exact laws_jLess.mono _ _ _
   | exact laws_jRows.mono _ _ _
   | exact laws_jSame.mono _ _ _
   | exact LeO.none _
   | refine LeO.ite ?_ ?_
   | refine LeO.bind ?_ (fun _ => ?_)
  ·intro y0
   unfold laws_FnRowsThere.j5
   repeat' first
   | (with_reducible exact ih0 _ _ _ _ _ _ _)
   | (with_reducible exact ih1 _)
   | (with_reducible exact ih2 _ _ _ _ _ _)
   | (with_reducible exact ih3 _)
   | (with_reducible exact ih4 _ _ _ _ _ _ _)
   | (with_reducible exact ih5 _ _ _ _ _ _ _ _)
   | (with_reducible exact impl_IsHooked.mono _ _)
   | (with_reducible exact impl_IsLangfordThere.mono _ _ _)
   | (with_reducible exact impl_IsSkolem.mono _ _)
   | (with_reducible exact laws_jBack.mono _ _)
   | (with_reducible exact laws_jIn.mono _ _ _)
   | (with_reducible exact laws_jLess.mono _ _ _)
   | (with_reducible exact laws_jRows.mono _ _ _)
   | (with_reducible exact laws_jSame.mono _ _ _)
   | (with_reducible exact LeO.refl _)
   | (with_reducible exact LeO.none _)
   | (with_reducible refine LeO.ite ?_ ?_)
   | (with_reducible refine LeO.bind ?_ (fun _ => ?_))
   | exact ih0 _ _ _ _ _ _ _
   | exact ih1 _
   | exact ih2 _ _ _ _ _ _
   | exact ih3 _
   | exact ih4 _ _ _ _ _ _ _
   | exact ih5 _ _ _ _ _ _ _ _
   | exact impl_IsHooked.mono _ _
   | exact impl_IsLangfordThere.mono _ _ _
   | exact impl_IsSkolem.mono _ _
   | exact laws_jBack.mono _ _
   | exact laws_jIn.mono _ _ _
   | exact laws_jLess.mono _ _ _
   | exact laws_jRows.mono _ _ _
   | exact laws_jSame.mono _ _ _
   | exact LeO.none _
   | refine LeO.ite ?_ ?_
   | refine LeO.bind ?_ (fun _ => ?_)
  ·intro y0 y1 y2 y3 y4 y5 y6
   unfold laws_FnRowsThere.l1
   repeat' first
   | (with_reducible exact ih0 _ _ _ _ _ _ _)
   | (with_reducible exact ih1 _)
   | (with_reducible exact ih2 _ _ _ _ _ _)
   | (with_reducible exact ih3 _)
   | (with_reducible exact ih4 _ _ _ _ _ _ _)
   | (with_reducible exact ih5 _ _ _ _ _ _ _ _)
   | (with_reducible exact impl_IsHooked.mono _ _)
   | (with_reducible exact impl_IsLangfordThere.mono _ _ _)
   | (with_reducible exact impl_IsSkolem.mono _ _)
   | (with_reducible exact laws_jBack.mono _ _)
   | (with_reducible exact laws_jIn.mono _ _ _)
   | (with_reducible exact laws_jLess.mono _ _ _)
   | (with_reducible exact laws_jRows.mono _ _ _)
   | (with_reducible exact laws_jSame.mono _ _ _)
   | (with_reducible exact LeO.refl _)
   | (with_reducible exact LeO.none _)
   | (with_reducible refine LeO.ite ?_ ?_)
   | (with_reducible refine LeO.bind ?_ (fun _ => ?_))
   | exact ih0 _ _ _ _ _ _ _
   | exact ih1 _
   | exact ih2 _ _ _ _ _ _
   | exact ih3 _
   | exact ih4 _ _ _ _ _ _ _
   | exact ih5 _ _ _ _ _ _ _ _
   | exact impl_IsHooked.mono _ _
   | exact impl_IsLangfordThere.mono _ _ _
   | exact impl_IsSkolem.mono _ _
   | exact laws_jBack.mono _ _
   | exact laws_jIn.mono _ _ _
   | exact laws_jLess.mono _ _ _
   | exact laws_jRows.mono _ _ _
   | exact laws_jSame.mono _ _ _
   | exact LeO.none _
   | refine LeO.ite ?_ ?_
   | refine LeO.bind ?_ (fun _ => ?_)
  ·intro y0 y1 y2 y3 y4 y5 y6 y7
   unfold laws_FnRowsThere.l0
   repeat' first
   | (with_reducible exact ih0 _ _ _ _ _ _ _)
   | (with_reducible exact ih1 _)
   | (with_reducible exact ih2 _ _ _ _ _ _)
   | (with_reducible exact ih3 _)
   | (with_reducible exact ih4 _ _ _ _ _ _ _)
   | (with_reducible exact ih5 _ _ _ _ _ _ _ _)
   | (with_reducible exact impl_IsHooked.mono _ _)
   | (with_reducible exact impl_IsLangfordThere.mono _ _ _)
   | (with_reducible exact impl_IsSkolem.mono _ _)
   | (with_reducible exact laws_jBack.mono _ _)
   | (with_reducible exact laws_jIn.mono _ _ _)
   | (with_reducible exact laws_jLess.mono _ _ _)
   | (with_reducible exact laws_jRows.mono _ _ _)
   | (with_reducible exact laws_jSame.mono _ _ _)
   | (with_reducible exact LeO.refl _)
   | (with_reducible exact LeO.none _)
   | (with_reducible refine LeO.ite ?_ ?_)
   | (with_reducible refine LeO.bind ?_ (fun _ => ?_))
   | exact ih0 _ _ _ _ _ _ _
   | exact ih1 _
   | exact ih2 _ _ _ _ _ _
   | exact ih3 _
   | exact ih4 _ _ _ _ _ _ _
   | exact ih5 _ _ _ _ _ _ _ _
   | exact impl_IsHooked.mono _ _
   | exact impl_IsLangfordThere.mono _ _ _
   | exact impl_IsSkolem.mono _ _
   | exact laws_jBack.mono _ _
   | exact laws_jIn.mono _ _ _
   | exact laws_jLess.mono _ _ _
   | exact laws_jRows.mono _ _ _
   | exact laws_jSame.mono _ _ _
   | exact LeO.none _
   | refine LeO.ite ?_ ?_
   | refine LeO.bind ?_ (fun _ => ?_)
theorem laws_FnRowsThere.mono : ∀ a0 a1 k, LeO (laws_FnRowsThere.f k a0 a1) (laws_FnRowsThere.f (k + 1) a0 a1) := by
 intro a0 a1 k
 obtain ⟨ih0, ih1, ih2, ih3, ih4, ih5⟩ := laws_FnRowsThere.mono_l k
 unfold laws_FnRowsThere.f
 repeat' first
   | (with_reducible exact ih0 _ _ _ _ _ _ _)
   | (with_reducible exact ih1 _)
   | (with_reducible exact ih2 _ _ _ _ _ _)
   | (with_reducible exact ih3 _)
   | (with_reducible exact ih4 _ _ _ _ _ _ _)
   | (with_reducible exact ih5 _ _ _ _ _ _ _ _)
   | (with_reducible exact impl_IsHooked.mono _ _)
   | (with_reducible exact impl_IsLangfordThere.mono _ _ _)
   | (with_reducible exact impl_IsSkolem.mono _ _)
   | (with_reducible exact laws_jBack.mono _ _)
   | (with_reducible exact laws_jIn.mono _ _ _)
   | (with_reducible exact laws_jLess.mono _ _ _)
   | (with_reducible exact laws_jRows.mono _ _ _)
   | (with_reducible exact laws_jSame.mono _ _ _)
   | (with_reducible exact LeO.refl _)
   | (with_reducible exact LeO.none _)
   | (with_reducible refine LeO.ite ?_ ?_)
   | (with_reducible refine LeO.bind ?_ (fun _ => ?_))
   | exact ih0 _ _ _ _ _ _ _
   | exact ih1 _
   | exact ih2 _ _ _ _ _ _
   | exact ih3 _
   | exact ih4 _ _ _ _ _ _ _
   | exact ih5 _ _ _ _ _ _ _ _
   | exact impl_IsHooked.mono _ _
   | exact impl_IsLangfordThere.mono _ _ _
   | exact impl_IsSkolem.mono _ _
   | exact laws_jBack.mono _ _
   | exact laws_jIn.mono _ _ _
   | exact laws_jLess.mono _ _ _
   | exact laws_jRows.mono _ _ _
   | exact laws_jSame.mono _ _ _
   | exact LeO.none _
   | refine LeO.ite ?_ ?_
   | refine LeO.bind ?_ (fun _ => ?_)
theorem laws_FnRowsThere.j0_no : ∀ k y0 y1 y2 y3 y4 y5, laws_FnRowsThere.j0 k y0 y1 y2 y3 y4 y5 true ≠ some true := by
 intro k
 cases k <;> intros <;> simp [laws_FnRowsThere.j0]
theorem laws_FnRowsThere.j3_no : ∀ k y0 y1 y2 y3 y4, laws_FnRowsThere.j3 k y0 y1 y2 y3 y4 true ≠ some true := by
 intro k
 cases k <;> intros <;> simp [laws_FnRowsThere.j3]

end Go.Proofs.Ytaohgllnoomaeaa.Fn
namespace Go.Proofs.Ytaohgllnoomaeaa.Fn
open Go.RowKit Go.Proofs.YtaohgllnoomaeaaW.PrintWords Go.Proofs.YtaohgllnoomaeaaW.PrintLast Go.Proofs.YtaohgllnoomaeaaW.PrintMore
attribute [local go_sem] max2_int min2_int max_two min_two max_three min_three max_four min_four   -- for this text's walks alone
set_option linter.unusedVariables false
set_option linter.unusedSimpArgs false


/-- The statement of laws_FnRowsThere over numbers and lists. -/
def laws_FnRowsThere.Pure : Prop := ∀ (l0 : List Int) (l1 : List Int), l0.length ≤ maxLen → l0.length * 1 ≤ 140737488351232 → (∀ x ∈ l0, (Lit.int .u8 x).wf = true) → l1.length ≤ maxLen → l1.length * 1 ≤ 140737488351232 → (∀ x ∈ l1, (Lit.int .u8 x).wf = true) → ∃ k, laws_FnRowsThere.f k l0 l1 = some true

noncomputable def laws_FnRowsThere.J0 (x1 : List Int) (x5 : Int) (x8 : Int) (x12 : List (List Int)) (x13 : Bool) (x16 : List Int) (x158 : Bool) : Option (Bool) := lim fun k => laws_FnRowsThere.j0 k x1 x5 x8 x12 x13 x16 x158
theorem laws_FnRowsThere.J0_lim (x1 : List Int) (x5 : Int) (x8 : Int) (x12 : List (List Int)) (x13 : Bool) (x16 : List Int) (x158 : Bool) : Lim (fun k => laws_FnRowsThere.j0 k x1 x5 x8 x12 x13 x16 x158) (laws_FnRowsThere.J0 x1 x5 x8 x12 x13 x16 x158) := Lim.of fun k => (laws_FnRowsThere.mono_l k).1 x1 x5 x8 x12 x13 x16 x158
noncomputable def laws_FnRowsThere.J2 (x1 : List Int) : Option (Bool) := lim fun k => laws_FnRowsThere.j2 k x1
theorem laws_FnRowsThere.J2_lim (x1 : List Int) : Lim (fun k => laws_FnRowsThere.j2 k x1) (laws_FnRowsThere.J2 x1) := Lim.of fun k => (laws_FnRowsThere.mono_l k).2.1 x1
noncomputable def laws_FnRowsThere.J3 (x1 : List Int) (x27 : Int) (x31 : List (List Int)) (x32 : Bool) (x35 : List Int) (x320 : Bool) : Option (Bool) := lim fun k => laws_FnRowsThere.j3 k x1 x27 x31 x32 x35 x320
theorem laws_FnRowsThere.J3_lim (x1 : List Int) (x27 : Int) (x31 : List (List Int)) (x32 : Bool) (x35 : List Int) (x320 : Bool) : Lim (fun k => laws_FnRowsThere.j3 k x1 x27 x31 x32 x35 x320) (laws_FnRowsThere.J3 x1 x27 x31 x32 x35 x320) := Lim.of fun k => (laws_FnRowsThere.mono_l k).2.2.1 x1 x27 x31 x32 x35 x320
noncomputable def laws_FnRowsThere.J5 (x1 : List Int) : Option (Bool) := lim fun k => laws_FnRowsThere.j5 k x1
theorem laws_FnRowsThere.J5_lim (x1 : List Int) : Lim (fun k => laws_FnRowsThere.j5 k x1) (laws_FnRowsThere.J5 x1) := Lim.of fun k => (laws_FnRowsThere.mono_l k).2.2.2.1 x1
noncomputable def laws_FnRowsThere.L1 (x1 : List Int) (x27 : Int) (x31 : List (List Int)) (x35 : List Int) (x322 : List (List Int)) (x323 : Int) (x324 : Int) : Option (Bool) := lim fun k => laws_FnRowsThere.l1 k x1 x27 x31 x35 x322 x323 x324
theorem laws_FnRowsThere.L1_lim (x1 : List Int) (x27 : Int) (x31 : List (List Int)) (x35 : List Int) (x322 : List (List Int)) (x323 : Int) (x324 : Int) : Lim (fun k => laws_FnRowsThere.l1 k x1 x27 x31 x35 x322 x323 x324) (laws_FnRowsThere.L1 x1 x27 x31 x35 x322 x323 x324) := Lim.of fun k => (laws_FnRowsThere.mono_l k).2.2.2.2.1 x1 x27 x31 x35 x322 x323 x324
noncomputable def laws_FnRowsThere.L0 (x1 : List Int) (x5 : Int) (x8 : Int) (x12 : List (List Int)) (x16 : List Int) (x160 : List (List Int)) (x161 : Int) (x162 : Int) : Option (Bool) := lim fun k => laws_FnRowsThere.l0 k x1 x5 x8 x12 x16 x160 x161 x162
theorem laws_FnRowsThere.L0_lim (x1 : List Int) (x5 : Int) (x8 : Int) (x12 : List (List Int)) (x16 : List Int) (x160 : List (List Int)) (x161 : Int) (x162 : Int) : Lim (fun k => laws_FnRowsThere.l0 k x1 x5 x8 x12 x16 x160 x161 x162) (laws_FnRowsThere.L0 x1 x5 x8 x12 x16 x160 x161 x162) := Lim.of fun k => (laws_FnRowsThere.mono_l k).2.2.2.2.2 x1 x5 x8 x12 x16 x160 x161 x162
noncomputable def laws_FnRowsThere.F (l0 : List Int) (l1 : List Int) : Option (Bool) := lim fun k => laws_FnRowsThere.f k l0 l1
theorem laws_FnRowsThere.F_lim (l0 : List Int) (l1 : List Int) : Lim (fun k => laws_FnRowsThere.f k l0 l1) (laws_FnRowsThere.F l0 l1) := Lim.of fun k => laws_FnRowsThere.mono l0 l1 k
theorem laws_FnRowsThere.J0_eq (x1 : List Int) (x5 : Int) (x8 : Int) (x12 : List (List Int)) (x13 : Bool) (x16 : List Int) (x158 : Bool) : laws_FnRowsThere.J0 x1 x5 x8 x12 x13 x16 x158 = (if x158 = true then (some false) else (if x13 = true then (laws_FnRowsThere.L0 x1 x5 x8 x12 x16 x12 (x12.length : Int) 0) else (laws_FnRowsThere.J2 x1))) :=
 Lim.step (f := fun k => (if x158 = true then (some false) else (if x13 = true then (laws_FnRowsThere.l0 k x1 x5 x8 x12 x16 x12 (x12.length : Int) 0) else (laws_FnRowsThere.j2 k x1)))) (laws_FnRowsThere.J0_lim x1 x5 x8 x12 x13 x16 x158) (fun k => by first | rfl | rw [laws_FnRowsThere.j0]) (by
  repeat' first
  | (with_reducible exact Lim.const _)
  | (with_reducible exact laws_FnRowsThere.J2_lim _)
  | (with_reducible exact laws_FnRowsThere.L0_lim _ _ _ _ _ _ _ _)
  | (with_reducible refine Lim.ite ?_ ?_)
  | (with_reducible refine Lim.bind ?_ (fun _ => ?_)))
theorem laws_FnRowsThere.J2_eq (x1 : List Int) : laws_FnRowsThere.J2 x1 = ((spec_DrawAllHooked.f x1).bind fun t369 => ((impl_IsHookedThere.f t369).bind fun bt370 => ((impl_CountHooked.f t369).bind fun bt372 => ((spec_CountHooked.f t369).bind fun bt374 => ((impl_AllHooked.f t369).bind fun bt376 => ((spec_AllHooked.f t369).bind fun bt380 => ((impl_FirstHooked.f t369).bind fun bt384 => ((spec_FirstHooked.f t369).bind fun bt388 => (if (bt372.2 != bt374.2) = true then (laws_FnRowsThere.J3 x1 bt372.1 bt376.1 bt376.2 bt384.1 true) else (if bt372.1 = bt374.1 then (if (bt376.2 != bt380.2) = true then (laws_FnRowsThere.J3 x1 bt372.1 bt376.1 bt376.2 bt384.1 true) else ((laws_jRows.F bt376.1 bt380.1).bind fun t392 => (if t392 = true then (if (bt384.2 != bt388.2) = true then (laws_FnRowsThere.J3 x1 bt372.1 bt376.1 bt376.2 bt384.1 true) else ((laws_jSame.F bt384.1 bt388.1).bind fun t393 => (if t393 = true then (if bt372.2 = true then (if (bt376.2 != (decide (bt372.1 ≤ 600))) = true then (laws_FnRowsThere.J3 x1 bt372.1 bt376.1 bt376.2 bt384.1 true) else (if (bt384.2 != (decide (bt372.1 > 0))) = true then (laws_FnRowsThere.J3 x1 bt372.1 bt376.1 bt376.2 bt384.1 true) else (if bt370.2 = true then (laws_FnRowsThere.J3 x1 bt372.1 bt376.1 bt376.2 bt384.1 (bt370.1 != (decide (bt372.1 > 0)))) else (laws_FnRowsThere.J3 x1 bt372.1 bt376.1 bt376.2 bt384.1 true)))) else (if (bt376.2 != false) = true then (laws_FnRowsThere.J3 x1 bt372.1 bt376.1 bt376.2 bt384.1 true) else (if (bt384.2 != false) = true then (laws_FnRowsThere.J3 x1 bt372.1 bt376.1 bt376.2 bt384.1 true) else (laws_FnRowsThere.J3 x1 bt372.1 bt376.1 bt376.2 bt384.1 false)))) else (laws_FnRowsThere.J3 x1 bt372.1 bt376.1 bt376.2 bt384.1 true)))) else (laws_FnRowsThere.J3 x1 bt372.1 bt376.1 bt376.2 bt384.1 true)))) else (laws_FnRowsThere.J3 x1 bt372.1 bt376.1 bt376.2 bt384.1 true))))))))))) :=
 Lim.step (f := fun k => ((spec_DrawAllHooked.f x1).bind fun t369 => ((impl_IsHookedThere.f t369).bind fun bt370 => ((impl_CountHooked.f t369).bind fun bt372 => ((spec_CountHooked.f t369).bind fun bt374 => ((impl_AllHooked.f t369).bind fun bt376 => ((spec_AllHooked.f t369).bind fun bt380 => ((impl_FirstHooked.f t369).bind fun bt384 => ((spec_FirstHooked.f t369).bind fun bt388 => (if (bt372.2 != bt374.2) = true then (laws_FnRowsThere.j3 k x1 bt372.1 bt376.1 bt376.2 bt384.1 true) else (if bt372.1 = bt374.1 then (if (bt376.2 != bt380.2) = true then (laws_FnRowsThere.j3 k x1 bt372.1 bt376.1 bt376.2 bt384.1 true) else ((laws_jRows.f k bt376.1 bt380.1).bind fun t392 => (if t392 = true then (if (bt384.2 != bt388.2) = true then (laws_FnRowsThere.j3 k x1 bt372.1 bt376.1 bt376.2 bt384.1 true) else ((laws_jSame.f k bt384.1 bt388.1).bind fun t393 => (if t393 = true then (if bt372.2 = true then (if (bt376.2 != (decide (bt372.1 ≤ 600))) = true then (laws_FnRowsThere.j3 k x1 bt372.1 bt376.1 bt376.2 bt384.1 true) else (if (bt384.2 != (decide (bt372.1 > 0))) = true then (laws_FnRowsThere.j3 k x1 bt372.1 bt376.1 bt376.2 bt384.1 true) else (if bt370.2 = true then (laws_FnRowsThere.j3 k x1 bt372.1 bt376.1 bt376.2 bt384.1 (bt370.1 != (decide (bt372.1 > 0)))) else (laws_FnRowsThere.j3 k x1 bt372.1 bt376.1 bt376.2 bt384.1 true)))) else (if (bt376.2 != false) = true then (laws_FnRowsThere.j3 k x1 bt372.1 bt376.1 bt376.2 bt384.1 true) else (if (bt384.2 != false) = true then (laws_FnRowsThere.j3 k x1 bt372.1 bt376.1 bt376.2 bt384.1 true) else (laws_FnRowsThere.j3 k x1 bt372.1 bt376.1 bt376.2 bt384.1 false)))) else (laws_FnRowsThere.j3 k x1 bt372.1 bt376.1 bt376.2 bt384.1 true)))) else (laws_FnRowsThere.j3 k x1 bt372.1 bt376.1 bt376.2 bt384.1 true)))) else (laws_FnRowsThere.j3 k x1 bt372.1 bt376.1 bt376.2 bt384.1 true)))))))))))) (laws_FnRowsThere.J2_lim x1) (fun k => by first | rfl | rw [laws_FnRowsThere.j2]) (by
  repeat' first
  | (with_reducible exact Lim.const _)
  | (with_reducible exact laws_FnRowsThere.J3_lim _ _ _ _ _ _)
  | (with_reducible exact laws_jRows.F_lim _ _)
  | (with_reducible exact laws_jSame.F_lim _ _)
  | (with_reducible refine Lim.ite ?_ ?_)
  | (with_reducible refine Lim.bind ?_ (fun _ => ?_)))
theorem laws_FnRowsThere.J3_eq (x1 : List Int) (x27 : Int) (x31 : List (List Int)) (x32 : Bool) (x35 : List Int) (x320 : Bool) : laws_FnRowsThere.J3 x1 x27 x31 x32 x35 x320 = (if x320 = true then (some false) else (if x32 = true then (laws_FnRowsThere.L1 x1 x27 x31 x35 x31 (x31.length : Int) 0) else (laws_FnRowsThere.J5 x1))) :=
 Lim.step (f := fun k => (if x320 = true then (some false) else (if x32 = true then (laws_FnRowsThere.l1 k x1 x27 x31 x35 x31 (x31.length : Int) 0) else (laws_FnRowsThere.j5 k x1)))) (laws_FnRowsThere.J3_lim x1 x27 x31 x32 x35 x320) (fun k => by first | rfl | rw [laws_FnRowsThere.j3]) (by
  repeat' first
  | (with_reducible exact Lim.const _)
  | (with_reducible exact laws_FnRowsThere.J5_lim _)
  | (with_reducible exact laws_FnRowsThere.L1_lim _ _ _ _ _ _ _)
  | (with_reducible refine Lim.ite ?_ ?_)
  | (with_reducible refine Lim.bind ?_ (fun _ => ?_)))
theorem laws_FnRowsThere.J5_eq (x1 : List Int) : laws_FnRowsThere.J5 x1 = ((spec_DrawIsLangfordThere.f x1).bind fun bt401 => ((impl_IsLangfordThere.F bt401.1 bt401.2).bind fun bt403 => ((spec_IsLangfordThere.f bt401.1 bt401.2).bind fun bt405 => ((spec_DrawIsSkolemThere.f x1).bind fun t407 => ((impl_IsSkolemThere.f t407).bind fun bt408 => ((spec_IsSkolemThere.f t407).bind fun bt410 => ((impl_IsHookedThere.f t407).bind fun bt412 => ((spec_IsHookedThere.f t407).bind fun bt414 => (if (bt403.2 == bt405.2) = true then (if (bt403.1 == bt405.1) = true then (if (bt408.2 == bt410.2) = true then (if (bt408.1 == bt410.1) = true then (if (bt412.2 == bt414.2) = true then (if (bt412.1 == bt414.1) = true then (if (bt412.2 == bt408.2) = true then (if bt408.2 = true then (some (bt408.1 != bt412.1)) else (some true)) else (some false)) else (some false)) else (some false)) else (some false)) else (some false)) else (some false)) else (some false)))))))))) :=
 Lim.step (f := fun k => ((spec_DrawIsLangfordThere.f x1).bind fun bt401 => ((impl_IsLangfordThere.f k bt401.1 bt401.2).bind fun bt403 => ((spec_IsLangfordThere.f bt401.1 bt401.2).bind fun bt405 => ((spec_DrawIsSkolemThere.f x1).bind fun t407 => ((impl_IsSkolemThere.f t407).bind fun bt408 => ((spec_IsSkolemThere.f t407).bind fun bt410 => ((impl_IsHookedThere.f t407).bind fun bt412 => ((spec_IsHookedThere.f t407).bind fun bt414 => (if (bt403.2 == bt405.2) = true then (if (bt403.1 == bt405.1) = true then (if (bt408.2 == bt410.2) = true then (if (bt408.1 == bt410.1) = true then (if (bt412.2 == bt414.2) = true then (if (bt412.1 == bt414.1) = true then (if (bt412.2 == bt408.2) = true then (if bt408.2 = true then (some (bt408.1 != bt412.1)) else (some true)) else (some false)) else (some false)) else (some false)) else (some false)) else (some false)) else (some false)) else (some false))))))))))) (laws_FnRowsThere.J5_lim x1) (fun k => by first | rfl | rw [laws_FnRowsThere.j5]) (by
  repeat' first
  | (with_reducible exact Lim.const _)
  | (with_reducible exact impl_IsLangfordThere.F_lim _ _)
  | (with_reducible refine Lim.ite ?_ ?_)
  | (with_reducible refine Lim.bind ?_ (fun _ => ?_)))
theorem laws_FnRowsThere.L1_eq (x1 : List Int) (x27 : Int) (x31 : List (List Int)) (x35 : List Int) (x322 : List (List Int)) (x323 : Int) (x324 : Int) : laws_FnRowsThere.L1 x1 x27 x31 x35 x322 x323 x324 = (if x324 < x323 then (if 0 ≤ x324 then (if x324 < (x322.length : Int) then ((impl_IsHooked.F (rd_L2 x322 x324)).bind fun bt397 => (if bt397.2 = true then (if bt397.1 = true then (if x324 > 0 then (if 0 ≤ (wrap64 (x324 - 1)) then (if (wrap64 (x324 - 1)) < (x31.length : Int) then ((laws_jLess.F (rd_L2 x31 (wrap64 (x324 - 1))) (rd_L2 x322 x324)).bind fun t400 => (if t400 = true then (laws_FnRowsThere.L1 x1 x27 x31 x35 x322 x323 (wrap64 (x324 + 1))) else (some false))) else (none)) else (none)) else (laws_FnRowsThere.L1 x1 x27 x31 x35 x322 x323 (wrap64 (x324 + 1)))) else (some false)) else (some false))) else (none)) else (none)) else (if (x31.length : Int) = x27 then (if x27 > 0 then (if 0 < (x31.length : Int) then ((laws_jSame.F (rd_L2 x31 0) x35).bind fun t395 => (if t395 = true then (laws_FnRowsThere.J5 x1) else (some false))) else (none)) else (laws_FnRowsThere.J5 x1)) else (some false))) :=
 Lim.step (f := fun k => (if x324 < x323 then (if 0 ≤ x324 then (if x324 < (x322.length : Int) then ((impl_IsHooked.f k (rd_L2 x322 x324)).bind fun bt397 => (if bt397.2 = true then (if bt397.1 = true then (if x324 > 0 then (if 0 ≤ (wrap64 (x324 - 1)) then (if (wrap64 (x324 - 1)) < (x31.length : Int) then ((laws_jLess.f k (rd_L2 x31 (wrap64 (x324 - 1))) (rd_L2 x322 x324)).bind fun t400 => (if t400 = true then (laws_FnRowsThere.l1 k x1 x27 x31 x35 x322 x323 (wrap64 (x324 + 1))) else (some false))) else (none)) else (none)) else (laws_FnRowsThere.l1 k x1 x27 x31 x35 x322 x323 (wrap64 (x324 + 1)))) else (some false)) else (some false))) else (none)) else (none)) else (if (x31.length : Int) = x27 then (if x27 > 0 then (if 0 < (x31.length : Int) then ((laws_jSame.f k (rd_L2 x31 0) x35).bind fun t395 => (if t395 = true then (laws_FnRowsThere.j5 k x1) else (some false))) else (none)) else (laws_FnRowsThere.j5 k x1)) else (some false)))) (laws_FnRowsThere.L1_lim x1 x27 x31 x35 x322 x323 x324) (fun k => by first | rfl | rw [laws_FnRowsThere.l1]) (by
  repeat' first
  | (with_reducible exact Lim.const _)
  | (with_reducible exact impl_IsHooked.F_lim _)
  | (with_reducible exact laws_FnRowsThere.J5_lim _)
  | (with_reducible exact laws_FnRowsThere.L1_lim _ _ _ _ _ _ _)
  | (with_reducible exact laws_jLess.F_lim _ _)
  | (with_reducible exact laws_jSame.F_lim _ _)
  | (with_reducible refine Lim.ite ?_ ?_)
  | (with_reducible refine Lim.bind ?_ (fun _ => ?_)))
theorem laws_FnRowsThere.L0_eq (x1 : List Int) (x5 : Int) (x8 : Int) (x12 : List (List Int)) (x16 : List Int) (x160 : List (List Int)) (x161 : Int) (x162 : Int) : laws_FnRowsThere.L0 x1 x5 x8 x12 x16 x160 x161 x162 = (if x162 < x161 then (if 0 ≤ x162 then (if x162 < (x160.length : Int) then ((impl_IsSkolem.F (rd_L2 x160 x162)).bind fun bt357 => (if bt357.2 = true then (if bt357.1 = true then (if ((rd_L2 x160 x162).length : Int) = (wrap64 (2 * x5)) then (if x162 > 0 then (if 0 ≤ (wrap64 (x162 - 1)) then (if (wrap64 (x162 - 1)) < (x12.length : Int) then ((laws_jLess.F (rd_L2 x12 (wrap64 (x162 - 1))) (rd_L2 x160 x162)).bind fun t360 => (if t360 = true then ((laws_jBack.F (rd_L2 x160 x162)).bind fun t361 => ((laws_jIn.F x12 t361).bind fun t364 => (if t364 = true then (laws_FnRowsThere.L0 x1 x5 x8 x12 x16 x160 x161 (wrap64 (x162 + 1))) else (some false)))) else (some false))) else (none)) else (none)) else ((laws_jBack.F (rd_L2 x160 x162)).bind fun t365 => ((laws_jIn.F x12 t365).bind fun t368 => (if t368 = true then (laws_FnRowsThere.L0 x1 x5 x8 x12 x16 x160 x161 (wrap64 (x162 + 1))) else (some false))))) else (some false)) else (some false)) else (some false))) else (none)) else (none)) else (if (x12.length : Int) = x8 then (if x8 > 0 then (if 0 < (x12.length : Int) then ((laws_jSame.F (rd_L2 x12 0) x16).bind fun t355 => (if t355 = true then (laws_FnRowsThere.J2 x1) else (some false))) else (none)) else (laws_FnRowsThere.J2 x1)) else (some false))) :=
 Lim.step (f := fun k => (if x162 < x161 then (if 0 ≤ x162 then (if x162 < (x160.length : Int) then ((impl_IsSkolem.f k (rd_L2 x160 x162)).bind fun bt357 => (if bt357.2 = true then (if bt357.1 = true then (if ((rd_L2 x160 x162).length : Int) = (wrap64 (2 * x5)) then (if x162 > 0 then (if 0 ≤ (wrap64 (x162 - 1)) then (if (wrap64 (x162 - 1)) < (x12.length : Int) then ((laws_jLess.f k (rd_L2 x12 (wrap64 (x162 - 1))) (rd_L2 x160 x162)).bind fun t360 => (if t360 = true then ((laws_jBack.f k (rd_L2 x160 x162)).bind fun t361 => ((laws_jIn.f k x12 t361).bind fun t364 => (if t364 = true then (laws_FnRowsThere.l0 k x1 x5 x8 x12 x16 x160 x161 (wrap64 (x162 + 1))) else (some false)))) else (some false))) else (none)) else (none)) else ((laws_jBack.f k (rd_L2 x160 x162)).bind fun t365 => ((laws_jIn.f k x12 t365).bind fun t368 => (if t368 = true then (laws_FnRowsThere.l0 k x1 x5 x8 x12 x16 x160 x161 (wrap64 (x162 + 1))) else (some false))))) else (some false)) else (some false)) else (some false))) else (none)) else (none)) else (if (x12.length : Int) = x8 then (if x8 > 0 then (if 0 < (x12.length : Int) then ((laws_jSame.f k (rd_L2 x12 0) x16).bind fun t355 => (if t355 = true then (laws_FnRowsThere.j2 k x1) else (some false))) else (none)) else (laws_FnRowsThere.j2 k x1)) else (some false)))) (laws_FnRowsThere.L0_lim x1 x5 x8 x12 x16 x160 x161 x162) (fun k => by first | rfl | rw [laws_FnRowsThere.l0]) (by
  repeat' first
  | (with_reducible exact Lim.const _)
  | (with_reducible exact impl_IsSkolem.F_lim _)
  | (with_reducible exact laws_FnRowsThere.J2_lim _)
  | (with_reducible exact laws_FnRowsThere.L0_lim _ _ _ _ _ _ _ _)
  | (with_reducible exact laws_jBack.F_lim _)
  | (with_reducible exact laws_jIn.F_lim _ _)
  | (with_reducible exact laws_jLess.F_lim _ _)
  | (with_reducible exact laws_jSame.F_lim _ _)
  | (with_reducible refine Lim.ite ?_ ?_)
  | (with_reducible refine Lim.bind ?_ (fun _ => ?_)))
theorem laws_FnRowsThere.F_eq (l0 : List Int) (l1 : List Int) : laws_FnRowsThere.F l0 l1 = ((laws_big.f l0 l1).bind fun t328 => (if t328 = true then (some true) else ((spec_DrawAllSkolem.f l0).bind fun t329 => ((impl_IsSkolemThere.f t329).bind fun bt330 => ((impl_CountSkolem.f t329).bind fun bt332 => ((spec_CountSkolem.f t329).bind fun bt334 => ((impl_AllSkolem.f t329).bind fun bt336 => ((spec_AllSkolem.f t329).bind fun bt340 => ((impl_FirstSkolem.f t329).bind fun bt344 => ((spec_FirstSkolem.f t329).bind fun bt348 => (if (bt332.2 != bt334.2) = true then (laws_FnRowsThere.J0 l1 t329 bt332.1 bt336.1 bt336.2 bt344.1 true) else (if bt332.1 = bt334.1 then (if (bt336.2 != bt340.2) = true then (laws_FnRowsThere.J0 l1 t329 bt332.1 bt336.1 bt336.2 bt344.1 true) else ((laws_jRows.F bt336.1 bt340.1).bind fun t352 => (if t352 = true then (if (bt344.2 != bt348.2) = true then (laws_FnRowsThere.J0 l1 t329 bt332.1 bt336.1 bt336.2 bt344.1 true) else ((laws_jSame.F bt344.1 bt348.1).bind fun t353 => (if t353 = true then (if bt332.2 = true then (if (bt336.2 != (decide (bt332.1 ≤ 600))) = true then (laws_FnRowsThere.J0 l1 t329 bt332.1 bt336.1 bt336.2 bt344.1 true) else (if (bt344.2 != (decide (bt332.1 > 0))) = true then (laws_FnRowsThere.J0 l1 t329 bt332.1 bt336.1 bt336.2 bt344.1 true) else (if bt330.2 = true then (laws_FnRowsThere.J0 l1 t329 bt332.1 bt336.1 bt336.2 bt344.1 (bt330.1 != (decide (bt332.1 > 0)))) else (laws_FnRowsThere.J0 l1 t329 bt332.1 bt336.1 bt336.2 bt344.1 true)))) else (if (bt336.2 != false) = true then (laws_FnRowsThere.J0 l1 t329 bt332.1 bt336.1 bt336.2 bt344.1 true) else (if (bt344.2 != false) = true then (laws_FnRowsThere.J0 l1 t329 bt332.1 bt336.1 bt336.2 bt344.1 true) else (laws_FnRowsThere.J0 l1 t329 bt332.1 bt336.1 bt336.2 bt344.1 false)))) else (laws_FnRowsThere.J0 l1 t329 bt332.1 bt336.1 bt336.2 bt344.1 true)))) else (laws_FnRowsThere.J0 l1 t329 bt332.1 bt336.1 bt336.2 bt344.1 true)))) else (laws_FnRowsThere.J0 l1 t329 bt332.1 bt336.1 bt336.2 bt344.1 true))))))))))))) :=
 Lim.unique (laws_FnRowsThere.F_lim l0 l1) (by
  unfold laws_FnRowsThere.f
  repeat' first
  | (with_reducible exact Lim.const _)
  | (with_reducible exact laws_FnRowsThere.J0_lim _ _ _ _ _ _ _)
  | (with_reducible exact laws_jRows.F_lim _ _)
  | (with_reducible exact laws_jSame.F_lim _ _)
  | (with_reducible refine Lim.ite ?_ ?_)
  | (with_reducible refine Lim.bind ?_ (fun _ => ?_)))

end Go.Proofs.Ytaohgllnoomaeaa.Fn
