/- The machine's side and plain lemmas for FnExactMeshRows: texts of this session, merged by its program (part 2). -/
import Derived.Laws.CopyOwn
import Derived.Laws.Rows
import Derived.Test.YtmhcgihkijiecaaMFnExactMeshRows0
import Derived.Test.YtmhcgihkijiecaaMFnExactMeshRows1
namespace Go.Proofs.Ytmhcgihkijiecaa.Fn
open Go.RowKit Go.Proofs.YtmhcgihkijiecaaW.PrintWords Go.Proofs.YtmhcgihkijiecaaW.PrintLast Go.Proofs.YtmhcgihkijiecaaW.PrintMore
attribute [local go_sem] max2_int min2_int max_two min_two max_three min_three max_four min_four   -- for this text's walks alone
set_option linter.unusedVariables false
set_option linter.unusedSimpArgs false

/-! ### spec_TrimRow: function 23 -/
mutual
def spec_TrimRow.j1 : Nat → List Int → Int → Int → Option (List Int × Bool)
  | 0, _, _, _ => none
  | k + 1, x0, x4, x5 => spec_TrimRow.l1 k x0 x4 x5
def spec_TrimRow.l1 : Nat → List Int → Int → Int → Option (List Int × Bool)
  | 0, _, _, _ => none
  | k + 1, x0, x4, x5 => if x5 > x4 then (if 0 ≤ (wrap64 (x5 - 1)) then (if (wrap64 (x5 - 1)) < (x0.length : Int) then (if (rd x0 (wrap64 (x5 - 1))) = 0 then (spec_TrimRow.l1 k x0 x4 (wrap64 (x5 - 1))) else (if 0 ≤ x4 then (if x4 ≤ x5 then (if x5 ≤ (x0.length : Int) then ((spec_l1Own.f ((x0.take (x5 : Int).toNat).drop (x4 : Int).toNat)).bind fun t207 => (some (t207, true))) else (none)) else (none)) else (none))) else (none)) else (none)) else (if 0 ≤ x4 then (if x4 ≤ x5 then (if x5 ≤ (x0.length : Int) then ((spec_l1Own.f ((x0.take (x5 : Int).toNat).drop (x4 : Int).toNat)).bind fun t211 => (some (t211, true))) else (none)) else (none)) else (none))
def spec_TrimRow.l0 : Nat → List Int → Int → Int → Option (List Int × Bool)
  | 0, _, _, _ => none
  | k + 1, x0, x4, x5 => if x4 < x5 then (if 0 ≤ x4 then (if x4 < (x0.length : Int) then (if (rd x0 x4) = 0 then (spec_TrimRow.l0 k x0 (wrap64 (x4 + 1)) x5) else (spec_TrimRow.j1 k x0 x4 x5)) else (none)) else (none)) else (spec_TrimRow.j1 k x0 x4 x5)
end
def spec_TrimRow.f (k : Nat) (l0 : List Int) : Option (List Int × Bool) := (spec_roGood.f k l0).bind fun t203 => (if t203 = true then (spec_TrimRow.l0 k l0 0 (l0.length : Int)) else (some (([] : List Int), false)))
theorem spec_TrimRow.mono_l : ∀ k, (∀ y0 y1 y2, LeO (spec_TrimRow.j1 k y0 y1 y2) (spec_TrimRow.j1 (k + 1) y0 y1 y2)) ∧ (∀ y0 y1 y2, LeO (spec_TrimRow.l1 k y0 y1 y2) (spec_TrimRow.l1 (k + 1) y0 y1 y2)) ∧ (∀ y0 y1 y2, LeO (spec_TrimRow.l0 k y0 y1 y2) (spec_TrimRow.l0 (k + 1) y0 y1 y2))
  | 0 => ⟨fun _ _ _ r h => by simp [spec_TrimRow.j1] at h, fun _ _ _ r h => by simp [spec_TrimRow.l1] at h, fun _ _ _ r h => by simp [spec_TrimRow.l0] at h⟩
  | k + 1 => by
    obtain ⟨ih0, ih1, ih2⟩ := spec_TrimRow.mono_l k
    refine ⟨?_, ?_, ?_⟩
    · intro y0 y1 y2
      unfold spec_TrimRow.j1
      repeat' first
      | (with_reducible exact ih0 _ _ _)
      | (with_reducible exact ih1 _ _ _)
      | (with_reducible exact ih2 _ _ _)
      | (with_reducible exact spec_roGood.mono _ _)
      | (with_reducible exact LeO.refl _)
      | (with_reducible exact LeO.none _)
      | (with_reducible refine LeO.ite ?_ ?_)
      | (with_reducible refine LeO.bind ?_ (fun _ => ?_))
      | exact ih0 _ _ _
      | exact ih1 _ _ _
      | exact ih2 _ _ _
      | exact spec_roGood.mono _ _
      | exact LeO.none _
      | refine LeO.ite ?_ ?_
      | refine LeO.bind ?_ (fun _ => ?_)
    · intro y0 y1 y2
      unfold spec_TrimRow.l1
      repeat' first
      | (with_reducible exact ih0 _ _ _)
      | (with_reducible exact ih1 _ _ _)
      | (with_reducible exact ih2 _ _ _)
      | (with_reducible exact spec_roGood.mono _ _)
      | (with_reducible exact LeO.refl _)
      | (with_reducible exact LeO.none _)
      | (with_reducible refine LeO.ite ?_ ?_)
      | (with_reducible refine LeO.bind ?_ (fun _ => ?_))
      | exact ih0 _ _ _
      | exact ih1 _ _ _
      | exact ih2 _ _ _
      | exact spec_roGood.mono _ _
      | exact LeO.none _
      | refine LeO.ite ?_ ?_
      | refine LeO.bind ?_ (fun _ => ?_)
    · intro y0 y1 y2
      unfold spec_TrimRow.l0
      repeat' first
      | (with_reducible exact ih0 _ _ _)
      | (with_reducible exact ih1 _ _ _)
      | (with_reducible exact ih2 _ _ _)
      | (with_reducible exact spec_roGood.mono _ _)
      | (with_reducible exact LeO.refl _)
      | (with_reducible exact LeO.none _)
      | (with_reducible refine LeO.ite ?_ ?_)
      | (with_reducible refine LeO.bind ?_ (fun _ => ?_))
      | exact ih0 _ _ _
      | exact ih1 _ _ _
      | exact ih2 _ _ _
      | exact spec_roGood.mono _ _
      | exact LeO.none _
      | refine LeO.ite ?_ ?_
      | refine LeO.bind ?_ (fun _ => ?_)
theorem spec_TrimRow.mono : ∀ a0 k, LeO (spec_TrimRow.f k a0) (spec_TrimRow.f (k + 1) a0) := by
  intro a0 k
  obtain ⟨ih0, ih1, ih2⟩ := spec_TrimRow.mono_l k
  unfold spec_TrimRow.f
  repeat' first
      | (with_reducible exact ih0 _ _ _)
      | (with_reducible exact ih1 _ _ _)
      | (with_reducible exact ih2 _ _ _)
      | (with_reducible exact spec_roGood.mono _ _)
      | (with_reducible exact LeO.refl _)
      | (with_reducible exact LeO.none _)
      | (with_reducible refine LeO.ite ?_ ?_)
      | (with_reducible refine LeO.bind ?_ (fun _ => ?_))
      | exact ih0 _ _ _
      | exact ih1 _ _ _
      | exact ih2 _ _ _
      | exact spec_roGood.mono _ _
      | exact LeO.none _
      | refine LeO.ite ?_ ?_
      | refine LeO.bind ?_ (fun _ => ?_)
set_option maxHeartbeats 8000000 in
set_option maxRecDepth 100000 in
theorem spec_TrimRow.calls (k : Nat) (A0 : Option Addr) (c0 : Nat) (l0 : List Int) (r1 : List Int) (r2 : Bool) (w : World) (hr0 : Kd.C (Kd.int .i64) w A0 l0.length l0) (hc0 : l0.length ≤ c0) (h : spec_TrimRow.f k l0 = some (r1, r2)) :
    Calls Try.prog 23 #[.slice A0 l0.length c0] w fun e w' => ∃ v0_ : Value, e = .returned (.tuple #[v0_, .bool r2]) ∧ Kd.R (Kd.int .i64) 3 w' w.heap.size (fun _ => True) v0_ r1 ∧ Below w.heap.size w w' := by
  have HR0 := Aside0.mk hr0
  have HC0 := Aside0.mk hc0
  clear hr0 hc0
  have HB := Aside0.mk (Below.refl w.heap.size w)
  have H : ((spec_roGood.f k l0).bind fun t203 => (if t203 = true then (spec_TrimRow.l0 k l0 0 (l0.length : Int)) else (some (([] : List Int), false)))) = some (r1, r2) := h
  clear h
  replace H := Option.bind_eq_some_iff.mp H
  obtain ⟨t203, A20, H⟩ := H
  replace H : (if t203 = true then (spec_TrimRow.l0 k l0 0 (l0.length : Int)) else (some (([] : List Int), false))) = some (r1, r2) := H
  have A2 := Aside0.mk A20
  clear A20
  by_cases c3 : t203 = true
  · subst c3
    have H1 : (spec_TrimRow.l0 k l0 0 (l0.length : Int)) = some (r1, r2) := by rw [if_pos rfl] at H; exact H
    clear H
    have H := H1
    clear H1
    have HC4 := Aside0.mk H
    clear H
    go_enter Try.func23, Try.ntmps23
    go_upto_block 0 with (first | ((with_reducible refine gate_callee (f := 48) rfl ?_); refine goesL_ (some 7) rfl rfl Try.func48 (by kernel_rfl) rfl #[.slice A0 l0.length c0] rfl (by (try simp only [List.map_toArray, List.map_cons, List.map_nil]); first | done | rfl | (simp only [List.length_drop, List.length_take]; rfl)) ?_; (with_reducible refine (spec_roGood.calls k _ _ l0 true _ ?side1 ?side2 A2.out).mono ?_); (case side1 => repeat (first | exact HR0.out | (with_reducible refine Kd.C_alloc ?_ _) | (with_reducible refine Kd.C_drewN ?_ _) | (with_reducible refine Kd.C_drew ?_))); (case side2 => exact HC0.out); rintro e w' ⟨rfl, ⟨nd, rfl⟩⟩; refine ⟨_, rfl, ?_⟩))
    (try simp only [Act.put, List.setIfInBounds_toArray, List.set_cons_zero, List.set_cons_succ])
    go_cut [4] (fun v4 wc => ∃ (kq : Nat) (x4_3 : Int), v4 = .int .i64 x4_3 ∧ Aside0 (spec_TrimRow.j1 kq l0 x4_3 (l0.length : Int) = some (r1, r2)) ∧ Aside0 (kq ≤ k) ∧ Aside0 (Below w.heap.size w wc))
    case first =>
      have H := HC4.out
      clear HC4
      have H' := Aside0.mk H
      clear H
      go_wp2
      go_loopg [4] k (fun kq v4 w' => ∃ (x4_1 : Int), v4 = .int .i64 x4_1 ∧ Aside0 (spec_TrimRow.l0 kq l0 x4_1 (l0.length : Int) = some (r1, r2)) ∧ Aside0 (kq ≤ k) ∧ Aside0 (Below w.heap.size w w'))
      case atStart => exact ⟨(0), (by first | rfl | (simp; done) | (simp [*]; done)), H', ⟨Nat.le_refl _⟩, ⟨by repeat (first | (with_reducible first | exact HB.out | apply below_alloc | apply pw_below_drewN | apply below_drew1) | exact HB.out)⟩⟩
      case round =>
        clear H'
        try clear c2
        try clear p2
        try clear c3
        try clear c4
        obtain ⟨x4_1, rfl, HA, HK1, HB⟩ := hrel
        cases gk with
        | zero => exact absurd HA.out (by simp [spec_TrimRow.l0])
        | succ k1 =>
          have H := HA.out
          clear HA
          simp only [spec_TrimRow.l0] at H
          by_cases c5 : x4_1 < (l0.length : Int)
          · rw [if_pos c5] at H
            have c5b0 : decide (x4_1 < (l0.length : Int)) = true := decide_eq_true c5
            clear c5
            (first | rw [c5b0] | (simp only [i64_w, i32_w]; rw [c5b0]) | skip)
            by_cases c6 : 0 ≤ x4_1
            · rw [if_pos c6] at H
              have c6b0 : decide (0 ≤ x4_1) = true := decide_eq_true c6
              clear c6
              by_cases c7 : x4_1 < (l0.length : Int)
              · rw [if_pos c7] at H
                have c7b0 : decide (x4_1 < (l0.length : Int)) = true := decide_eq_true c7
                clear c7
                by_cases c8 : (rd l0 x4_1) = 0
                · rw [if_pos c8] at H
                  have c8b0 : ((rd l0 x4_1) == 0) = true := beq_iff_eq.mpr c8
                  have c8b1 : ((rd l0 x4_1) != 0) = false := bne_eq_false_iff_eq.mpr c8
                  clear c8
                  have H' := Aside0.mk H
                  clear H
                  have p204 : 0 ≤ (x4_1 : Int) := of_decide_eq_true (by first | (with_reducible assumption) | assumption)
                  have q204 : x4_1 < (l0.length : Int) := of_decide_eq_true (by first | (with_reducible assumption) | assumption)
                  obtain ⟨ad204, e204, hx204_0⟩ := Kd.at_int HR0.out x4_1 p204 q204
                  cases e204
                  replace hx204_0 := (HB.out.cell (World.block_lt_of_cell? w _ hx204_0)).trans hx204_0
                  replace p204 := eq_true p204
                  replace q204 := eq_true q204
                  go_wp2
                  go_roundg k1
                  case measure => have := HK1.out; omega
                  case rel => exact ⟨(wrap64 (x4_1 + 1)), (by first | rfl | (simp; done) | (simp [*]; done)), H', ⟨by have := HK1.out; omega⟩, ⟨by repeat (first | (with_reducible first | exact HB.out | apply below_alloc | apply pw_below_drewN | apply below_drew1) | exact HB.out)⟩⟩
                · rw [if_neg c8] at H
                  have c8b0 : ((rd l0 x4_1) == 0) = false := beq_eq_false_iff_ne.mpr c8
                  have c8b1 : ((rd l0 x4_1) != 0) = true := bne_iff_ne.mpr c8
                  have H' := Aside0.mk H
                  clear H
                  have p204 : 0 ≤ (x4_1 : Int) := of_decide_eq_true (by first | (with_reducible assumption) | assumption)
                  have q204 : x4_1 < (l0.length : Int) := of_decide_eq_true (by first | (with_reducible assumption) | assumption)
                  obtain ⟨ad204, e204, hx204_0⟩ := Kd.at_int HR0.out x4_1 p204 q204
                  cases e204
                  replace hx204_0 := (HB.out.cell (World.block_lt_of_cell? w _ hx204_0)).trans hx204_0
                  replace p204 := eq_true p204
                  replace q204 := eq_true q204
                  go_wp2
                  go_meet
                  case rel => exact ⟨_, (x4_1), (by first | rfl | (simp; done) | (simp [*]; done)), H', ⟨by have := HK1.out; first | omega | exact Nat.le_refl _⟩, ⟨by repeat (first | (with_reducible first | exact HB.out | apply below_alloc | apply pw_below_drewN | apply below_drew1) | exact HB.out)⟩⟩
              · rw [if_neg c7] at H
                exact absurd H (by simp)
            · rw [if_neg c6] at H
              exact absurd H (by simp)
          · rw [if_neg c5] at H
            have c5b0 : decide (x4_1 < (l0.length : Int)) = false := decide_eq_false c5
            clear c5
            (first | rw [c5b0] | (simp only [i64_w, i32_w]; rw [c5b0]) | skip)
            have H' := Aside0.mk H
            clear H
            go_wp2
            go_meet
            case rel => exact ⟨_, (x4_1), (by first | rfl | (simp; done) | (simp [*]; done)), H', ⟨by have := HK1.out; first | omega | exact Nat.le_refl _⟩, ⟨by repeat (first | (with_reducible first | exact HB.out | apply below_alloc | apply pw_below_drewN | apply below_drew1) | exact HB.out)⟩⟩
    case rest =>
      clear HC4
      try clear c2
      try clear p2
      try clear q2
      try clear hx2
      try clear c3
      try clear c4
      try clear c5
      try clear c5b0
      try clear c6
      try clear c6b0
      try clear p6
      try clear c7
      try clear c7b0
      try clear c8
      try clear c8b0
      try clear c8b1
      try clear hx204_0
      try clear p2
      try clear p204
      try clear q204
      obtain ⟨kq, x4_3, rfl, HA, HJ3, HB⟩ := hcut
      cases kq with
      | zero => exact absurd HA.out (by simp [spec_TrimRow.j1])
      | succ kj3 =>
        have H := HA.out
        clear HA
        simp only [spec_TrimRow.j1] at H
        have H' := Aside0.mk H
        clear H
        go_wp2
        go_loopg [5] kj3 (fun kq v5 w' => ∃ (x5_2 : Int), v5 = .int .i64 x5_2 ∧ Aside0 (spec_TrimRow.l1 kq l0 x4_3 x5_2 = some (r1, r2)) ∧ Aside0 (kq ≤ kj3) ∧ Aside0 (Below w.heap.size w w'))
        case atStart => exact ⟨((l0.length : Int)), (by first | rfl | (simp; done) | (simp [*]; done)), H', ⟨Nat.le_refl _⟩, ⟨by repeat (first | (with_reducible first | exact HB.out | apply below_alloc | apply pw_below_drewN | apply below_drew1) | exact HB.out)⟩⟩
        case round =>
          clear H'
          try clear c2
          try clear p2
          try clear q2
          try clear hx2
          try clear c3
          try clear c4
          try clear c5
          try clear c5b0
          try clear c6
          try clear c6b0
          try clear p6
          try clear c7
          try clear c7b0
          try clear c8
          try clear c8b0
          try clear c8b1
          try clear hx204_0
          try clear p2
          try clear p204
          try clear p6
          try clear q2
          try clear q204
          obtain ⟨x5_2, rfl, HA, HK2, HB⟩ := hrel
          cases gk with
          | zero => exact absurd HA.out (by simp [spec_TrimRow.l1])
          | succ k2 =>
            have H := HA.out
            clear HA
            simp only [spec_TrimRow.l1] at H
            by_cases c9 : x5_2 > x4_3
            · rw [if_pos c9] at H
              have c9b0 : decide (x4_3 < x5_2) = true := decide_eq_true c9
              clear c9
              obtain ⟨ji10, hji10⟩ : ∃ j_ : Int, (wrap64 (x5_2 - 1)) = j_ := ⟨_, rfl⟩
              replace H : (if 0 ≤ (ji10) then (if (ji10) < (l0.length : Int) then (if (rd l0 (ji10)) = 0 then (spec_TrimRow.l1 k2 l0 x4_3 ji10) else (if 0 ≤ x4_3 then (if x4_3 ≤ x5_2 then (if x5_2 ≤ (l0.length : Int) then ((spec_l1Own.f ((l0.take (x5_2 : Int).toNat).drop (x4_3 : Int).toNat)).bind fun t207 => (some (t207, true))) else (none)) else (none)) else (none))) else (none)) else (none)) = some (r1, r2) := by first | (rw [hji10] at H; exact H) | (simp only [hji10] at H ⊢; exact H)
              have hji10w : (IntKind.i64.wrap (x5_2 - 1)) = ji10 := (i64_w _).trans hji10
              by_cases c11 : 0 ≤ (ji10)
              · rw [if_pos c11] at H
                have c11b0 : decide (0 ≤ (ji10)) = true := decide_eq_true c11
                clear c11
                by_cases c12 : (ji10) < (l0.length : Int)
                · rw [if_pos c12] at H
                  have c12b0 : decide ((ji10) < (l0.length : Int)) = true := decide_eq_true c12
                  clear c12
                  by_cases c13 : (rd l0 (ji10)) = 0
                  · rw [if_pos c13] at H
                    have c13b0 : ((rd l0 (ji10)) == 0) = true := beq_iff_eq.mpr c13
                    have c13b1 : ((rd l0 (ji10)) != 0) = false := bne_eq_false_iff_eq.mpr c13
                    clear c13
                    have H' := Aside0.mk H
                    clear H
                    have p205 : 0 ≤ ((ji10) : Int) := of_decide_eq_true (by first | (with_reducible assumption) | assumption)
                    have q205 : (ji10) < (l0.length : Int) := of_decide_eq_true (by first | (with_reducible assumption) | assumption)
                    obtain ⟨ad205, e205, hx205_0⟩ := Kd.at_int HR0.out (ji10) p205 q205
                    cases e205
                    replace hx205_0 := (HB.out.cell (World.block_lt_of_cell? w _ hx205_0)).trans hx205_0
                    replace p205 := eq_true p205
                    replace q205 := eq_true q205
                    go_wp2
                    go_roundg k2
                    case measure => have := HJ3.out; have := HK2.out; omega
                    case rel => exact ⟨(ji10), (by first | rfl | (simp; done) | (simp only [← hji10] <;> (first | rfl | simp)) | (simp [*]; done)), H', ⟨by have := HJ3.out; have := HK2.out; omega⟩, ⟨by repeat (first | (with_reducible first | exact HB.out | apply below_alloc | apply pw_below_drewN | apply below_drew1) | exact HB.out)⟩⟩
                  · rw [if_neg c13] at H
                    have c13b0 : ((rd l0 (ji10)) == 0) = false := beq_eq_false_iff_ne.mpr c13
                    have c13b1 : ((rd l0 (ji10)) != 0) = true := bne_iff_ne.mpr c13
                    by_cases c14 : 0 ≤ x4_3
                    · rw [if_pos c14] at H
                      have c14b0 := eq_true c14
                      have c14b1 : decide (0 ≤ x4_3) = true := decide_eq_true c14
                      clear c14
                      by_cases c15 : x4_3 ≤ x5_2
                      · rw [if_pos c15] at H
                        have c15b0 := eq_true c15
                        have c15b1 : decide (x4_3 ≤ x5_2) = true := decide_eq_true c15
                        clear c15
                        by_cases c16 : x5_2 ≤ (l0.length : Int)
                        · rw [if_pos c16] at H
                          have c16b0 := eq_true c16
                          have c16b1 : decide (x5_2 ≤ (l0.length : Int)) = true := decide_eq_true c16
                          clear c16
                          replace H := Option.bind_eq_some_iff.mp H
                          obtain ⟨t207, A170, H⟩ := H
                          replace H : (some (t207, true)) = some (r1, r2) := H
                          have A17 := Aside0.mk A170
                          clear A170
                          simp only [Option.some.injEq, Prod.mk.injEq] at H
                          obtain ⟨rfl, rfl⟩ := H
                          have p205 : 0 ≤ ((ji10) : Int) := of_decide_eq_true (by first | (with_reducible assumption) | assumption)
                          have q205 : (ji10) < (l0.length : Int) := of_decide_eq_true (by first | (with_reducible assumption) | assumption)
                          obtain ⟨ad205, e205, hx205_0⟩ := Kd.at_int HR0.out (ji10) p205 q205
                          cases e205
                          replace hx205_0 := (HB.out.cell (World.block_lt_of_cell? w _ hx205_0)).trans hx205_0
                          replace p205 := eq_true p205
                          replace q205 := eq_true q205
                          obtain ⟨i018, hi018, _, hsz18, _⟩ := info_parts info3
                          obtain ⟨A18, hcut18, hA18, hC18⟩ := print_mid_of (P := Try.prog) (Value.int .i64) 0 25 3 .i64 .i64 Try.underlying25 hi018 hsz18 (some ad205) c0 l0 x4_3 x5_2 (of_decide_eq_true (by first | (with_reducible assumption) | assumption)) (by first | omega | exact of_decide_eq_true (by first | (with_reducible assumption) | assumption)) (of_decide_eq_true (by first | (with_reducible assumption) | assumption)) HC0.out
                          have HR206 := Aside0.mk (Kd.C_of_reads (h1 := fun _ => rfl) (hA18 _ (Kd.reads_of_C HR0.out)))
                          have HC206 := Aside0.mk hC18
                          clear hA18 hC18 hi018 hsz18
                          go_wp2_with (first | ((with_reducible refine gate_callee (f := 50) rfl ?_); refine goesL_ (some 40) rfl rfl Try.func50 (by kernel_rfl) rfl #[.slice A18 ((l0.take (x5_2 : Int).toNat).drop (x4_3 : Int).toNat).length (c0 - x4_3.toNat)] rfl (by (try simp only [List.map_toArray, List.map_cons, List.map_nil]); first | done | (rw [show ((l0.take (x5_2 : Int).toNat).drop (x4_3 : Int).toNat).length = (x5_2.toNat - x4_3.toNat) from (by rw [List.length_drop, List.length_take]; have h_ : (x5_2 : Int) ≤ (l0.length : Int) := of_decide_eq_true (by first | (with_reducible assumption) | assumption); omega)] <;> rfl) | rfl | (simp only [List.length_drop, List.length_take]; rfl)) ?_; (with_reducible refine (spec_l1Own.calls _ _ ((l0.take (x5_2 : Int).toNat).drop (x4_3 : Int).toNat) t207 _ ?side1 ?side2 A17.out).mono ?_); (case side1 => repeat (first | exact (Kd.C_below HR206.out HB.out) | (with_reducible refine Kd.C_alloc ?_ _) | (with_reducible refine Kd.C_drewN ?_ _) | (with_reducible refine Kd.C_drew ?_))); (case side2 => exact HC206.out); rintro e w19 ⟨v208, rfl, ho0, hb⟩; refine ⟨_, rfl, ?_⟩; have n0_ := Aside0.mk (Kd.R_lower ho0 (below_size (by repeat (first | (with_reducible first | exact HB.out | apply below_alloc | apply pw_below_drewN | apply below_drew1) | exact HB.out)))); have n1_ := Aside0.mk (below_step (by repeat (first | (with_reducible first | exact HB.out | apply below_alloc | apply pw_below_drewN | apply below_drew1) | exact HB.out)) hb); clear HB; have HO209 := n0_; have HB := n1_; clear n0_ n1_; (try clear hb); (try clear hb2); (try clear hk); (try clear hi); (try clear ho0)))
                          go_ret2
                          exact ⟨_, by first | rfl | (simp [errW_none, errW_some] <;> rfl) | (simp only [← hji10]; first | rfl | (simp [errW_none, errW_some] <;> rfl)) | (simp [*, errW_none, errW_some] <;> rfl), by (with_reducible repeat (first | apply Kd.R_alloc | apply Kd.R_drewN | apply Kd.R_drew)); exact HO209.out, by repeat (first | (with_reducible first | exact HB.out | apply below_alloc | apply pw_below_drewN | apply below_drew1) | exact HB.out)⟩
                        · rw [if_neg c16] at H
                          exact absurd H (by simp)
                      · rw [if_neg c15] at H
                        exact absurd H (by simp)
                    · rw [if_neg c14] at H
                      exact absurd H (by simp)
                · rw [if_neg c12] at H
                  exact absurd H (by simp)
              · rw [if_neg c11] at H
                exact absurd H (by simp)
            · rw [if_neg c9] at H
              have c9b0 : decide (x4_3 < x5_2) = false := decide_eq_false c9
              clear c9
              by_cases c20 : 0 ≤ x4_3
              · rw [if_pos c20] at H
                have c20b0 := eq_true c20
                have c20b1 : decide (0 ≤ x4_3) = true := decide_eq_true c20
                clear c20
                by_cases c21 : x4_3 ≤ x5_2
                · rw [if_pos c21] at H
                  have c21b0 := eq_true c21
                  have c21b1 : decide (x4_3 ≤ x5_2) = true := decide_eq_true c21
                  clear c21
                  by_cases c22 : x5_2 ≤ (l0.length : Int)
                  · rw [if_pos c22] at H
                    have c22b0 := eq_true c22
                    have c22b1 : decide (x5_2 ≤ (l0.length : Int)) = true := decide_eq_true c22
                    clear c22
                    replace H := Option.bind_eq_some_iff.mp H
                    obtain ⟨t211, A230, H⟩ := H
                    replace H : (some (t211, true)) = some (r1, r2) := H
                    have A23 := Aside0.mk A230
                    clear A230
                    simp only [Option.some.injEq, Prod.mk.injEq] at H
                    obtain ⟨rfl, rfl⟩ := H
                    obtain ⟨i024, hi024, _, hsz24, _⟩ := info_parts info3
                    obtain ⟨A24, hcut24, hA24, hC24⟩ := print_mid_of (P := Try.prog) (Value.int .i64) 0 25 3 .i64 .i64 Try.underlying25 hi024 hsz24 A0 c0 l0 x4_3 x5_2 (of_decide_eq_true (by first | (with_reducible assumption) | assumption)) (by first | omega | exact of_decide_eq_true (by first | (with_reducible assumption) | assumption)) (of_decide_eq_true (by first | (with_reducible assumption) | assumption)) HC0.out
                    have HR210 := Aside0.mk (Kd.C_of_reads (h1 := fun _ => rfl) (hA24 _ (Kd.reads_of_C HR0.out)))
                    have HC210 := Aside0.mk hC24
                    clear hA24 hC24 hi024 hsz24
                    go_wp2_with (first | ((with_reducible refine gate_callee (f := 50) rfl ?_); refine goesL_ (some 40) rfl rfl Try.func50 (by kernel_rfl) rfl #[.slice A24 ((l0.take (x5_2 : Int).toNat).drop (x4_3 : Int).toNat).length (c0 - x4_3.toNat)] rfl (by (try simp only [List.map_toArray, List.map_cons, List.map_nil]); first | done | (rw [show ((l0.take (x5_2 : Int).toNat).drop (x4_3 : Int).toNat).length = (x5_2.toNat - x4_3.toNat) from (by rw [List.length_drop, List.length_take]; have h_ : (x5_2 : Int) ≤ (l0.length : Int) := of_decide_eq_true (by first | (with_reducible assumption) | assumption); omega)] <;> rfl) | rfl | (simp only [List.length_drop, List.length_take]; rfl)) ?_; (with_reducible refine (spec_l1Own.calls _ _ ((l0.take (x5_2 : Int).toNat).drop (x4_3 : Int).toNat) t211 _ ?side1 ?side2 A23.out).mono ?_); (case side1 => repeat (first | exact (Kd.C_below HR210.out HB.out) | (with_reducible refine Kd.C_alloc ?_ _) | (with_reducible refine Kd.C_drewN ?_ _) | (with_reducible refine Kd.C_drew ?_))); (case side2 => exact HC210.out); rintro e w25 ⟨v212, rfl, ho0, hb⟩; refine ⟨_, rfl, ?_⟩; have n0_ := Aside0.mk (Kd.R_lower ho0 (below_size (by repeat (first | (with_reducible first | exact HB.out | apply below_alloc | apply pw_below_drewN | apply below_drew1) | exact HB.out)))); have n1_ := Aside0.mk (below_step (by repeat (first | (with_reducible first | exact HB.out | apply below_alloc | apply pw_below_drewN | apply below_drew1) | exact HB.out)) hb); clear HB; have HO213 := n0_; have HB := n1_; clear n0_ n1_; (try clear hb); (try clear hb2); (try clear hk); (try clear hi); (try clear ho0)))
                    go_ret2
                    exact ⟨_, by first | rfl | (simp [errW_none, errW_some] <;> rfl) | (simp [*, errW_none, errW_some] <;> rfl), by (with_reducible repeat (first | apply Kd.R_alloc | apply Kd.R_drewN | apply Kd.R_drew)); exact HO213.out, by repeat (first | (with_reducible first | exact HB.out | apply below_alloc | apply pw_below_drewN | apply below_drew1) | exact HB.out)⟩
                  · rw [if_neg c22] at H
                    exact absurd H (by simp)
                · rw [if_neg c21] at H
                  exact absurd H (by simp)
              · rw [if_neg c20] at H
                exact absurd H (by simp)
  · replace c3 := Bool.eq_false_iff.mpr c3
    subst c3
    have H1 : (some (([] : List Int), false)) = some (r1, r2) := by rw [if_neg (show ¬ (false = true) by decide)] at H; exact H
    clear H
    have H := H1
    clear H1
    simp only [Option.some.injEq, Prod.mk.injEq] at H
    obtain ⟨rfl, rfl⟩ := H
    go_enter Try.func23, Try.ntmps23
    go_wp2_with (first | ((with_reducible refine gate_callee (f := 48) rfl ?_); refine goesL_ (some 7) rfl rfl Try.func48 (by kernel_rfl) rfl #[.slice A0 l0.length c0] rfl (by (try simp only [List.map_toArray, List.map_cons, List.map_nil]); first | done | rfl | (simp only [List.length_drop, List.length_take]; rfl)) ?_; (with_reducible refine (spec_roGood.calls k _ _ l0 false _ ?side1 ?side2 A2.out).mono ?_); (case side1 => repeat (first | exact HR0.out | (with_reducible refine Kd.C_alloc ?_ _) | (with_reducible refine Kd.C_drewN ?_ _) | (with_reducible refine Kd.C_drew ?_))); (case side2 => exact HC0.out); rintro e w' ⟨rfl, ⟨nd, rfl⟩⟩; refine ⟨_, rfl, ?_⟩))
    go_ret2
    exact ⟨_, by first | rfl | (simp [errW_none, errW_some] <;> rfl) | (simp [*, errW_none, errW_some] <;> rfl), by first | exact Kd.R_nil _ _ _ _ _ | exact Kd.N_nil _ _ _ _ _ | exact Kd.V_nil _ _ _ _ _ | exact Kd.Q_nil _ _ _ _ _ | exact Kd.S_nil _ _ _ _ _, by repeat (first | (with_reducible first | exact HB.out | apply below_alloc | apply pw_below_drewN | apply below_drew1) | exact HB.out)⟩

noncomputable def spec_TrimRow.J1 (x0 : List Int) (x4 : Int) (x5 : Int) : Option (List Int × Bool) := lim fun k => spec_TrimRow.j1 k x0 x4 x5
theorem spec_TrimRow.J1_lim (x0 : List Int) (x4 : Int) (x5 : Int) : Lim (fun k => spec_TrimRow.j1 k x0 x4 x5) (spec_TrimRow.J1 x0 x4 x5) := Lim.of fun k => (spec_TrimRow.mono_l k).1 x0 x4 x5
noncomputable def spec_TrimRow.L1 (x0 : List Int) (x4 : Int) (x5 : Int) : Option (List Int × Bool) := lim fun k => spec_TrimRow.l1 k x0 x4 x5
theorem spec_TrimRow.L1_lim (x0 : List Int) (x4 : Int) (x5 : Int) : Lim (fun k => spec_TrimRow.l1 k x0 x4 x5) (spec_TrimRow.L1 x0 x4 x5) := Lim.of fun k => (spec_TrimRow.mono_l k).2.1 x0 x4 x5
noncomputable def spec_TrimRow.L0 (x0 : List Int) (x4 : Int) (x5 : Int) : Option (List Int × Bool) := lim fun k => spec_TrimRow.l0 k x0 x4 x5
theorem spec_TrimRow.L0_lim (x0 : List Int) (x4 : Int) (x5 : Int) : Lim (fun k => spec_TrimRow.l0 k x0 x4 x5) (spec_TrimRow.L0 x0 x4 x5) := Lim.of fun k => (spec_TrimRow.mono_l k).2.2 x0 x4 x5
noncomputable def spec_TrimRow.F (l0 : List Int) : Option (List Int × Bool) := lim fun k => spec_TrimRow.f k l0
theorem spec_TrimRow.F_lim (l0 : List Int) : Lim (fun k => spec_TrimRow.f k l0) (spec_TrimRow.F l0) := Lim.of fun k => spec_TrimRow.mono l0 k
theorem spec_TrimRow.J1_eq (x0 : List Int) (x4 : Int) (x5 : Int) : spec_TrimRow.J1 x0 x4 x5 = (spec_TrimRow.L1 x0 x4 x5) :=
  Lim.step (f := fun k => (spec_TrimRow.l1 k x0 x4 x5)) (spec_TrimRow.J1_lim x0 x4 x5) (fun k => by first | rfl | rw [spec_TrimRow.j1]) (by
    repeat' first
    | (with_reducible exact Lim.const _)
    | (with_reducible exact spec_TrimRow.L1_lim _ _ _)
    | (with_reducible refine Lim.ite ?_ ?_)
    | (with_reducible refine Lim.bind ?_ (fun _ => ?_)))
theorem spec_TrimRow.L1_eq (x0 : List Int) (x4 : Int) (x5 : Int) : spec_TrimRow.L1 x0 x4 x5 = (if x5 > x4 then (if 0 ≤ (wrap64 (x5 - 1)) then (if (wrap64 (x5 - 1)) < (x0.length : Int) then (if (rd x0 (wrap64 (x5 - 1))) = 0 then (spec_TrimRow.L1 x0 x4 (wrap64 (x5 - 1))) else (if 0 ≤ x4 then (if x4 ≤ x5 then (if x5 ≤ (x0.length : Int) then ((spec_l1Own.f ((x0.take (x5 : Int).toNat).drop (x4 : Int).toNat)).bind fun t207 => (some (t207, true))) else (none)) else (none)) else (none))) else (none)) else (none)) else (if 0 ≤ x4 then (if x4 ≤ x5 then (if x5 ≤ (x0.length : Int) then ((spec_l1Own.f ((x0.take (x5 : Int).toNat).drop (x4 : Int).toNat)).bind fun t211 => (some (t211, true))) else (none)) else (none)) else (none))) :=
  Lim.step (f := fun k => (if x5 > x4 then (if 0 ≤ (wrap64 (x5 - 1)) then (if (wrap64 (x5 - 1)) < (x0.length : Int) then (if (rd x0 (wrap64 (x5 - 1))) = 0 then (spec_TrimRow.l1 k x0 x4 (wrap64 (x5 - 1))) else (if 0 ≤ x4 then (if x4 ≤ x5 then (if x5 ≤ (x0.length : Int) then ((spec_l1Own.f ((x0.take (x5 : Int).toNat).drop (x4 : Int).toNat)).bind fun t207 => (some (t207, true))) else (none)) else (none)) else (none))) else (none)) else (none)) else (if 0 ≤ x4 then (if x4 ≤ x5 then (if x5 ≤ (x0.length : Int) then ((spec_l1Own.f ((x0.take (x5 : Int).toNat).drop (x4 : Int).toNat)).bind fun t211 => (some (t211, true))) else (none)) else (none)) else (none)))) (spec_TrimRow.L1_lim x0 x4 x5) (fun k => by first | rfl | rw [spec_TrimRow.l1]) (by
    repeat' first
    | (with_reducible exact Lim.const _)
    | (with_reducible exact spec_TrimRow.L1_lim _ _ _)
    | (with_reducible refine Lim.ite ?_ ?_)
    | (with_reducible refine Lim.bind ?_ (fun _ => ?_)))
theorem spec_TrimRow.L0_eq (x0 : List Int) (x4 : Int) (x5 : Int) : spec_TrimRow.L0 x0 x4 x5 = (if x4 < x5 then (if 0 ≤ x4 then (if x4 < (x0.length : Int) then (if (rd x0 x4) = 0 then (spec_TrimRow.L0 x0 (wrap64 (x4 + 1)) x5) else (spec_TrimRow.J1 x0 x4 x5)) else (none)) else (none)) else (spec_TrimRow.J1 x0 x4 x5)) :=
  Lim.step (f := fun k => (if x4 < x5 then (if 0 ≤ x4 then (if x4 < (x0.length : Int) then (if (rd x0 x4) = 0 then (spec_TrimRow.l0 k x0 (wrap64 (x4 + 1)) x5) else (spec_TrimRow.j1 k x0 x4 x5)) else (none)) else (none)) else (spec_TrimRow.j1 k x0 x4 x5))) (spec_TrimRow.L0_lim x0 x4 x5) (fun k => by first | rfl | rw [spec_TrimRow.l0]) (by
    repeat' first
    | (with_reducible exact Lim.const _)
    | (with_reducible exact spec_TrimRow.J1_lim _ _ _)
    | (with_reducible exact spec_TrimRow.L0_lim _ _ _)
    | (with_reducible refine Lim.ite ?_ ?_)
    | (with_reducible refine Lim.bind ?_ (fun _ => ?_)))
theorem spec_TrimRow.F_eq (l0 : List Int) : spec_TrimRow.F l0 = ((spec_roGood.F l0).bind fun t203 => (if t203 = true then (spec_TrimRow.L0 l0 0 (l0.length : Int)) else (some (([] : List Int), false)))) :=
  Lim.unique (spec_TrimRow.F_lim l0) (by
    unfold spec_TrimRow.f
    repeat' first
    | (with_reducible exact Lim.const _)
    | (with_reducible exact spec_TrimRow.L0_lim _ _ _)
    | (with_reducible exact spec_roGood.F_lim _)
    | (with_reducible refine Lim.ite ?_ ?_)
    | (with_reducible refine Lim.bind ?_ (fun _ => ?_)))

end Go.Proofs.Ytmhcgihkijiecaa.Fn
namespace Go.Proofs.Ytmhcgihkijiecaa.Fn
open Go.RowKit Go.Proofs.YtmhcgihkijiecaaW.PrintWords Go.Proofs.YtmhcgihkijiecaaW.PrintLast Go.Proofs.YtmhcgihkijiecaaW.PrintMore
attribute [local go_sem] max2_int min2_int max_two min_two max_three min_three max_four min_four   -- for this text's walks alone
set_option linter.unusedVariables false
set_option linter.unusedSimpArgs false

/-! ### impl_TrimRow: function 24 -/
mutual
def impl_TrimRow.j1 : Nat → List Int → Int → Int → Option (List Int × Bool)
  | 0, _, _, _ => none
  | k + 1, x0, x4, x5 => impl_TrimRow.l1 k x0 x4 x5
def impl_TrimRow.l1 : Nat → List Int → Int → Int → Option (List Int × Bool)
  | 0, _, _, _ => none
  | k + 1, x0, x4, x5 => if x4 < x5 then (if 0 ≤ (wrap64 (x5 - 1)) then (if (wrap64 (x5 - 1)) < (x0.length : Int) then (if (rd x0 (wrap64 (x5 - 1))) = 0 then (impl_TrimRow.l1 k x0 x4 (wrap64 (x5 - 1))) else (if 0 ≤ x4 then (if x4 ≤ x5 then (if x5 ≤ (x0.length : Int) then ((slices_Clone_int_int.f ((x0.take (x5 : Int).toNat).drop (x4 : Int).toNat)).bind fun t218 => (some (t218, true))) else (none)) else (none)) else (none))) else (none)) else (none)) else (if 0 ≤ x4 then (if x4 ≤ x5 then (if x5 ≤ (x0.length : Int) then ((slices_Clone_int_int.f ((x0.take (x5 : Int).toNat).drop (x4 : Int).toNat)).bind fun t222 => (some (t222, true))) else (none)) else (none)) else (none))
def impl_TrimRow.l0 : Nat → List Int → Int → Int → Option (List Int × Bool)
  | 0, _, _, _ => none
  | k + 1, x0, x4, x5 => if x4 < x5 then (if 0 ≤ x4 then (if x4 < (x0.length : Int) then (if (rd x0 x4) = 0 then (impl_TrimRow.l0 k x0 (wrap64 (x4 + 1)) x5) else (impl_TrimRow.j1 k x0 x4 x5)) else (none)) else (none)) else (impl_TrimRow.j1 k x0 x4 x5)
end
def impl_TrimRow.f (k : Nat) (l0 : List Int) : Option (List Int × Bool) := (impl_IsRow.f k l0).bind fun t214 => (if t214 = true then (impl_TrimRow.l0 k l0 0 (l0.length : Int)) else (some (([] : List Int), false)))
theorem impl_TrimRow.mono_l : ∀ k, (∀ y0 y1 y2, LeO (impl_TrimRow.j1 k y0 y1 y2) (impl_TrimRow.j1 (k + 1) y0 y1 y2)) ∧ (∀ y0 y1 y2, LeO (impl_TrimRow.l1 k y0 y1 y2) (impl_TrimRow.l1 (k + 1) y0 y1 y2)) ∧ (∀ y0 y1 y2, LeO (impl_TrimRow.l0 k y0 y1 y2) (impl_TrimRow.l0 (k + 1) y0 y1 y2))
  | 0 => ⟨fun _ _ _ r h => by simp [impl_TrimRow.j1] at h, fun _ _ _ r h => by simp [impl_TrimRow.l1] at h, fun _ _ _ r h => by simp [impl_TrimRow.l0] at h⟩
  | k + 1 => by
    obtain ⟨ih0, ih1, ih2⟩ := impl_TrimRow.mono_l k
    refine ⟨?_, ?_, ?_⟩
    · intro y0 y1 y2
      unfold impl_TrimRow.j1
      repeat' first
      | (with_reducible exact ih0 _ _ _)
      | (with_reducible exact ih1 _ _ _)
      | (with_reducible exact ih2 _ _ _)
      | (with_reducible exact impl_IsRow.mono _ _)
      | (with_reducible exact LeO.refl _)
      | (with_reducible exact LeO.none _)
      | (with_reducible refine LeO.ite ?_ ?_)
      | (with_reducible refine LeO.bind ?_ (fun _ => ?_))
      | exact ih0 _ _ _
      | exact ih1 _ _ _
      | exact ih2 _ _ _
      | exact impl_IsRow.mono _ _
      | exact LeO.none _
      | refine LeO.ite ?_ ?_
      | refine LeO.bind ?_ (fun _ => ?_)
    · intro y0 y1 y2
      unfold impl_TrimRow.l1
      repeat' first
      | (with_reducible exact ih0 _ _ _)
      | (with_reducible exact ih1 _ _ _)
      | (with_reducible exact ih2 _ _ _)
      | (with_reducible exact impl_IsRow.mono _ _)
      | (with_reducible exact LeO.refl _)
      | (with_reducible exact LeO.none _)
      | (with_reducible refine LeO.ite ?_ ?_)
      | (with_reducible refine LeO.bind ?_ (fun _ => ?_))
      | exact ih0 _ _ _
      | exact ih1 _ _ _
      | exact ih2 _ _ _
      | exact impl_IsRow.mono _ _
      | exact LeO.none _
      | refine LeO.ite ?_ ?_
      | refine LeO.bind ?_ (fun _ => ?_)
    · intro y0 y1 y2
      unfold impl_TrimRow.l0
      repeat' first
      | (with_reducible exact ih0 _ _ _)
      | (with_reducible exact ih1 _ _ _)
      | (with_reducible exact ih2 _ _ _)
      | (with_reducible exact impl_IsRow.mono _ _)
      | (with_reducible exact LeO.refl _)
      | (with_reducible exact LeO.none _)
      | (with_reducible refine LeO.ite ?_ ?_)
      | (with_reducible refine LeO.bind ?_ (fun _ => ?_))
      | exact ih0 _ _ _
      | exact ih1 _ _ _
      | exact ih2 _ _ _
      | exact impl_IsRow.mono _ _
      | exact LeO.none _
      | refine LeO.ite ?_ ?_
      | refine LeO.bind ?_ (fun _ => ?_)
theorem impl_TrimRow.mono : ∀ a0 k, LeO (impl_TrimRow.f k a0) (impl_TrimRow.f (k + 1) a0) := by
  intro a0 k
  obtain ⟨ih0, ih1, ih2⟩ := impl_TrimRow.mono_l k
  unfold impl_TrimRow.f
  repeat' first
      | (with_reducible exact ih0 _ _ _)
      | (with_reducible exact ih1 _ _ _)
      | (with_reducible exact ih2 _ _ _)
      | (with_reducible exact impl_IsRow.mono _ _)
      | (with_reducible exact LeO.refl _)
      | (with_reducible exact LeO.none _)
      | (with_reducible refine LeO.ite ?_ ?_)
      | (with_reducible refine LeO.bind ?_ (fun _ => ?_))
      | exact ih0 _ _ _
      | exact ih1 _ _ _
      | exact ih2 _ _ _
      | exact impl_IsRow.mono _ _
      | exact LeO.none _
      | refine LeO.ite ?_ ?_
      | refine LeO.bind ?_ (fun _ => ?_)
set_option maxHeartbeats 8000000 in
set_option maxRecDepth 100000 in
theorem impl_TrimRow.calls (k : Nat) (A0 : Option Addr) (c0 : Nat) (l0 : List Int) (r1 : List Int) (r2 : Bool) (w : World) (hr0 : Kd.C (Kd.int .i64) w A0 l0.length l0) (hc0 : l0.length ≤ c0) (h : impl_TrimRow.f k l0 = some (r1, r2)) :
    Calls Try.prog 24 #[.slice A0 l0.length c0] w fun e w' => ∃ v0_ : Value, e = .returned (.tuple #[v0_, .bool r2]) ∧ Kd.R (Kd.int .i64) 3 w' w.heap.size (fun _ => True) v0_ r1 ∧ Below w.heap.size w w' := by
  have HR0 := Aside0.mk hr0
  have HC0 := Aside0.mk hc0
  clear hr0 hc0
  have HB := Aside0.mk (Below.refl w.heap.size w)
  have H : ((impl_IsRow.f k l0).bind fun t214 => (if t214 = true then (impl_TrimRow.l0 k l0 0 (l0.length : Int)) else (some (([] : List Int), false)))) = some (r1, r2) := h
  clear h
  replace H := Option.bind_eq_some_iff.mp H
  obtain ⟨t214, A20, H⟩ := H
  replace H : (if t214 = true then (impl_TrimRow.l0 k l0 0 (l0.length : Int)) else (some (([] : List Int), false))) = some (r1, r2) := H
  have A2 := Aside0.mk A20
  clear A20
  by_cases c3 : t214 = true
  · subst c3
    have H1 : (impl_TrimRow.l0 k l0 0 (l0.length : Int)) = some (r1, r2) := by rw [if_pos rfl] at H; exact H
    clear H
    have H := H1
    clear H1
    have HC4 := Aside0.mk H
    clear H
    go_enter Try.func24, Try.ntmps24
    go_upto_block 0 with (first | ((with_reducible refine gate_callee (f := 51) rfl ?_); refine goesL_ (some 7) rfl rfl Try.func51 (by kernel_rfl) rfl #[.slice A0 l0.length c0] rfl (by (try simp only [List.map_toArray, List.map_cons, List.map_nil]); first | done | rfl | (simp only [List.length_drop, List.length_take]; rfl)) ?_; (with_reducible refine (impl_IsRow.calls k _ _ l0 true _ ?side1 ?side2 A2.out).mono ?_); (case side1 => repeat (first | exact HR0.out | (with_reducible refine Kd.C_alloc ?_ _) | (with_reducible refine Kd.C_drewN ?_ _) | (with_reducible refine Kd.C_drew ?_))); (case side2 => exact HC0.out); rintro e w' ⟨rfl, ⟨nd, rfl⟩⟩; refine ⟨_, rfl, ?_⟩))
    (try simp only [Act.put, List.setIfInBounds_toArray, List.set_cons_zero, List.set_cons_succ])
    go_cut [4] (fun v4 wc => ∃ (kq : Nat) (x4_3 : Int), v4 = .int .i64 x4_3 ∧ Aside0 (impl_TrimRow.j1 kq l0 x4_3 (l0.length : Int) = some (r1, r2)) ∧ Aside0 (kq ≤ k) ∧ Aside0 (Below w.heap.size w wc))
    case first =>
      have H := HC4.out
      clear HC4
      have H' := Aside0.mk H
      clear H
      go_wp2
      go_loopg [4] k (fun kq v4 w' => ∃ (x4_1 : Int), v4 = .int .i64 x4_1 ∧ Aside0 (impl_TrimRow.l0 kq l0 x4_1 (l0.length : Int) = some (r1, r2)) ∧ Aside0 (kq ≤ k) ∧ Aside0 (Below w.heap.size w w'))
      case atStart => exact ⟨(0), (by first | rfl | (simp; done) | (simp [*]; done)), H', ⟨Nat.le_refl _⟩, ⟨by repeat (first | (with_reducible first | exact HB.out | apply below_alloc | apply pw_below_drewN | apply below_drew1) | exact HB.out)⟩⟩
      case round =>
        clear H'
        try clear c2
        try clear p2
        try clear c3
        obtain ⟨x4_1, rfl, HA, HK1, HB⟩ := hrel
        cases gk with
        | zero => exact absurd HA.out (by simp [impl_TrimRow.l0])
        | succ k1 =>
          have H := HA.out
          clear HA
          simp only [impl_TrimRow.l0] at H
          by_cases c5 : x4_1 < (l0.length : Int)
          · rw [if_pos c5] at H
            have c5b0 : decide (x4_1 < (l0.length : Int)) = true := decide_eq_true c5
            clear c5
            (first | rw [c5b0] | (simp only [i64_w, i32_w]; rw [c5b0]) | skip)
            by_cases c6 : 0 ≤ x4_1
            · rw [if_pos c6] at H
              have c6b0 : decide (0 ≤ x4_1) = true := decide_eq_true c6
              clear c6
              by_cases c7 : x4_1 < (l0.length : Int)
              · rw [if_pos c7] at H
                have c7b0 : decide (x4_1 < (l0.length : Int)) = true := decide_eq_true c7
                clear c7
                by_cases c8 : (rd l0 x4_1) = 0
                · rw [if_pos c8] at H
                  have c8b0 : ((rd l0 x4_1) == 0) = true := beq_iff_eq.mpr c8
                  have c8b1 : ((rd l0 x4_1) != 0) = false := bne_eq_false_iff_eq.mpr c8
                  clear c8
                  have H' := Aside0.mk H
                  clear H
                  have p215 : 0 ≤ (x4_1 : Int) := of_decide_eq_true (by first | (with_reducible assumption) | assumption)
                  have q215 : x4_1 < (l0.length : Int) := of_decide_eq_true (by first | (with_reducible assumption) | assumption)
                  obtain ⟨ad215, e215, hx215_0⟩ := Kd.at_int HR0.out x4_1 p215 q215
                  cases e215
                  replace hx215_0 := (HB.out.cell (World.block_lt_of_cell? w _ hx215_0)).trans hx215_0
                  replace p215 := eq_true p215
                  replace q215 := eq_true q215
                  go_wp2
                  go_roundg k1
                  case measure => have := HK1.out; omega
                  case rel => exact ⟨(wrap64 (x4_1 + 1)), (by first | rfl | (simp; done) | (simp [*]; done)), H', ⟨by have := HK1.out; omega⟩, ⟨by repeat (first | (with_reducible first | exact HB.out | apply below_alloc | apply pw_below_drewN | apply below_drew1) | exact HB.out)⟩⟩
                · rw [if_neg c8] at H
                  have c8b0 : ((rd l0 x4_1) == 0) = false := beq_eq_false_iff_ne.mpr c8
                  have c8b1 : ((rd l0 x4_1) != 0) = true := bne_iff_ne.mpr c8
                  have H' := Aside0.mk H
                  clear H
                  have p215 : 0 ≤ (x4_1 : Int) := of_decide_eq_true (by first | (with_reducible assumption) | assumption)
                  have q215 : x4_1 < (l0.length : Int) := of_decide_eq_true (by first | (with_reducible assumption) | assumption)
                  obtain ⟨ad215, e215, hx215_0⟩ := Kd.at_int HR0.out x4_1 p215 q215
                  cases e215
                  replace hx215_0 := (HB.out.cell (World.block_lt_of_cell? w _ hx215_0)).trans hx215_0
                  replace p215 := eq_true p215
                  replace q215 := eq_true q215
                  go_wp2
                  go_meet
                  case rel => exact ⟨_, (x4_1), (by first | rfl | (simp; done) | (simp [*]; done)), H', ⟨by have := HK1.out; first | omega | exact Nat.le_refl _⟩, ⟨by repeat (first | (with_reducible first | exact HB.out | apply below_alloc | apply pw_below_drewN | apply below_drew1) | exact HB.out)⟩⟩
              · rw [if_neg c7] at H
                exact absurd H (by simp)
            · rw [if_neg c6] at H
              exact absurd H (by simp)
          · rw [if_neg c5] at H
            have c5b0 : decide (x4_1 < (l0.length : Int)) = false := decide_eq_false c5
            clear c5
            (first | rw [c5b0] | (simp only [i64_w, i32_w]; rw [c5b0]) | skip)
            have H' := Aside0.mk H
            clear H
            go_wp2
            go_meet
            case rel => exact ⟨_, (x4_1), (by first | rfl | (simp; done) | (simp [*]; done)), H', ⟨by have := HK1.out; first | omega | exact Nat.le_refl _⟩, ⟨by repeat (first | (with_reducible first | exact HB.out | apply below_alloc | apply pw_below_drewN | apply below_drew1) | exact HB.out)⟩⟩
    case rest =>
      clear HC4
      try clear c2
      try clear p2
      try clear q2
      try clear hx2
      try clear c3
      try clear c5
      try clear c5b0
      try clear c6
      try clear c6b0
      try clear p6
      try clear c7
      try clear c7b0
      try clear c8
      try clear c8b0
      try clear c8b1
      try clear hx215_0
      try clear p2
      try clear p215
      try clear q215
      obtain ⟨kq, x4_3, rfl, HA, HJ3, HB⟩ := hcut
      cases kq with
      | zero => exact absurd HA.out (by simp [impl_TrimRow.j1])
      | succ kj3 =>
        have H := HA.out
        clear HA
        simp only [impl_TrimRow.j1] at H
        have H' := Aside0.mk H
        clear H
        go_wp2
        go_loopg [5] kj3 (fun kq v5 w' => ∃ (x5_2 : Int), v5 = .int .i64 x5_2 ∧ Aside0 (impl_TrimRow.l1 kq l0 x4_3 x5_2 = some (r1, r2)) ∧ Aside0 (kq ≤ kj3) ∧ Aside0 (Below w.heap.size w w'))
        case atStart => exact ⟨((l0.length : Int)), (by first | rfl | (simp; done) | (simp [*]; done)), H', ⟨Nat.le_refl _⟩, ⟨by repeat (first | (with_reducible first | exact HB.out | apply below_alloc | apply pw_below_drewN | apply below_drew1) | exact HB.out)⟩⟩
        case round =>
          clear H'
          try clear c2
          try clear p2
          try clear q2
          try clear hx2
          try clear c3
          try clear c5
          try clear c5b0
          try clear c6
          try clear c6b0
          try clear p6
          try clear c7
          try clear c7b0
          try clear c8
          try clear c8b0
          try clear c8b1
          try clear hx215_0
          try clear p2
          try clear p215
          try clear p6
          try clear q2
          try clear q215
          obtain ⟨x5_2, rfl, HA, HK2, HB⟩ := hrel
          cases gk with
          | zero => exact absurd HA.out (by simp [impl_TrimRow.l1])
          | succ k2 =>
            have H := HA.out
            clear HA
            simp only [impl_TrimRow.l1] at H
            by_cases c9 : x4_3 < x5_2
            · rw [if_pos c9] at H
              have c9b0 : decide (x4_3 < x5_2) = true := decide_eq_true c9
              clear c9
              obtain ⟨ji10, hji10⟩ : ∃ j_ : Int, (wrap64 (x5_2 - 1)) = j_ := ⟨_, rfl⟩
              replace H : (if 0 ≤ (ji10) then (if (ji10) < (l0.length : Int) then (if (rd l0 (ji10)) = 0 then (impl_TrimRow.l1 k2 l0 x4_3 ji10) else (if 0 ≤ x4_3 then (if x4_3 ≤ x5_2 then (if x5_2 ≤ (l0.length : Int) then ((slices_Clone_int_int.f ((l0.take (x5_2 : Int).toNat).drop (x4_3 : Int).toNat)).bind fun t218 => (some (t218, true))) else (none)) else (none)) else (none))) else (none)) else (none)) = some (r1, r2) := by first | (rw [hji10] at H; exact H) | (simp only [hji10] at H ⊢; exact H)
              have hji10w : (IntKind.i64.wrap (x5_2 - 1)) = ji10 := (i64_w _).trans hji10
              by_cases c11 : 0 ≤ (ji10)
              · rw [if_pos c11] at H
                have c11b0 : decide (0 ≤ (ji10)) = true := decide_eq_true c11
                clear c11
                by_cases c12 : (ji10) < (l0.length : Int)
                · rw [if_pos c12] at H
                  have c12b0 : decide ((ji10) < (l0.length : Int)) = true := decide_eq_true c12
                  clear c12
                  by_cases c13 : (rd l0 (ji10)) = 0
                  · rw [if_pos c13] at H
                    have c13b0 : ((rd l0 (ji10)) == 0) = true := beq_iff_eq.mpr c13
                    have c13b1 : ((rd l0 (ji10)) != 0) = false := bne_eq_false_iff_eq.mpr c13
                    clear c13
                    have H' := Aside0.mk H
                    clear H
                    have p216 : 0 ≤ ((ji10) : Int) := of_decide_eq_true (by first | (with_reducible assumption) | assumption)
                    have q216 : (ji10) < (l0.length : Int) := of_decide_eq_true (by first | (with_reducible assumption) | assumption)
                    obtain ⟨ad216, e216, hx216_0⟩ := Kd.at_int HR0.out (ji10) p216 q216
                    cases e216
                    replace hx216_0 := (HB.out.cell (World.block_lt_of_cell? w _ hx216_0)).trans hx216_0
                    replace p216 := eq_true p216
                    replace q216 := eq_true q216
                    go_wp2
                    go_roundg k2
                    case measure => have := HJ3.out; have := HK2.out; omega
                    case rel => exact ⟨(ji10), (by first | rfl | (simp; done) | (simp only [← hji10] <;> (first | rfl | simp)) | (simp [*]; done)), H', ⟨by have := HJ3.out; have := HK2.out; omega⟩, ⟨by repeat (first | (with_reducible first | exact HB.out | apply below_alloc | apply pw_below_drewN | apply below_drew1) | exact HB.out)⟩⟩
                  · rw [if_neg c13] at H
                    have c13b0 : ((rd l0 (ji10)) == 0) = false := beq_eq_false_iff_ne.mpr c13
                    have c13b1 : ((rd l0 (ji10)) != 0) = true := bne_iff_ne.mpr c13
                    by_cases c14 : 0 ≤ x4_3
                    · rw [if_pos c14] at H
                      have c14b0 := eq_true c14
                      have c14b1 : decide (0 ≤ x4_3) = true := decide_eq_true c14
                      clear c14
                      by_cases c15 : x4_3 ≤ x5_2
                      · rw [if_pos c15] at H
                        have c15b0 := eq_true c15
                        have c15b1 : decide (x4_3 ≤ x5_2) = true := decide_eq_true c15
                        clear c15
                        by_cases c16 : x5_2 ≤ (l0.length : Int)
                        · rw [if_pos c16] at H
                          have c16b0 := eq_true c16
                          have c16b1 : decide (x5_2 ≤ (l0.length : Int)) = true := decide_eq_true c16
                          clear c16
                          replace H := Option.bind_eq_some_iff.mp H
                          obtain ⟨t218, A170, H⟩ := H
                          replace H : (some (t218, true)) = some (r1, r2) := H
                          have A17 := Aside0.mk A170
                          clear A170
                          simp only [Option.some.injEq, Prod.mk.injEq] at H
                          obtain ⟨rfl, rfl⟩ := H
                          have p216 : 0 ≤ ((ji10) : Int) := of_decide_eq_true (by first | (with_reducible assumption) | assumption)
                          have q216 : (ji10) < (l0.length : Int) := of_decide_eq_true (by first | (with_reducible assumption) | assumption)
                          obtain ⟨ad216, e216, hx216_0⟩ := Kd.at_int HR0.out (ji10) p216 q216
                          cases e216
                          replace hx216_0 := (HB.out.cell (World.block_lt_of_cell? w _ hx216_0)).trans hx216_0
                          replace p216 := eq_true p216
                          replace q216 := eq_true q216
                          obtain ⟨i018, hi018, _, hsz18, _⟩ := info_parts info3
                          obtain ⟨A18, hcut18, hA18, hC18⟩ := print_mid_of (P := Try.prog) (Value.int .i64) 0 25 3 .i64 .i64 Try.underlying25 hi018 hsz18 (some ad216) c0 l0 x4_3 x5_2 (of_decide_eq_true (by first | (with_reducible assumption) | assumption)) (by first | omega | exact of_decide_eq_true (by first | (with_reducible assumption) | assumption)) (of_decide_eq_true (by first | (with_reducible assumption) | assumption)) HC0.out
                          have HR217 := Aside0.mk (Kd.C_of_reads (h1 := fun _ => rfl) (hA18 _ (Kd.reads_of_C HR0.out)))
                          have HC217 := Aside0.mk hC18
                          clear hA18 hC18 hi018 hsz18
                          go_wp2_with (first | ((with_reducible refine gate_callee (f := 53) rfl ?_); refine goesL_ (some 40) rfl rfl Try.func53 (by kernel_rfl) rfl #[.slice A18 ((l0.take (x5_2 : Int).toNat).drop (x4_3 : Int).toNat).length (c0 - x4_3.toNat)] rfl (by (try simp only [List.map_toArray, List.map_cons, List.map_nil]); first | done | (rw [show ((l0.take (x5_2 : Int).toNat).drop (x4_3 : Int).toNat).length = (x5_2.toNat - x4_3.toNat) from (by rw [List.length_drop, List.length_take]; have h_ : (x5_2 : Int) ≤ (l0.length : Int) := of_decide_eq_true (by first | (with_reducible assumption) | assumption); omega)] <;> rfl) | rfl | (simp only [List.length_drop, List.length_take]; rfl)) ?_; (with_reducible refine (slices_Clone_int_int.calls _ _ ((l0.take (x5_2 : Int).toNat).drop (x4_3 : Int).toNat) t218 _ ?side1 ?side2 A17.out).mono ?_); (case side1 => repeat (first | exact (Kd.C_below HR217.out HB.out) | (with_reducible refine Kd.C_alloc ?_ _) | (with_reducible refine Kd.C_drewN ?_ _) | (with_reducible refine Kd.C_drew ?_))); (case side2 => exact HC217.out); rintro e w19 ⟨v219, rfl, ho0, hb⟩; refine ⟨_, rfl, ?_⟩; have n0_ := Aside0.mk (Kd.R_lower ho0 (below_size (by repeat (first | (with_reducible first | exact HB.out | apply below_alloc | apply pw_below_drewN | apply below_drew1) | exact HB.out)))); have n1_ := Aside0.mk (below_step (by repeat (first | (with_reducible first | exact HB.out | apply below_alloc | apply pw_below_drewN | apply below_drew1) | exact HB.out)) hb); clear HB; have HO220 := n0_; have HB := n1_; clear n0_ n1_; (try clear hb); (try clear hb2); (try clear hk); (try clear hi); (try clear ho0)))
                          go_ret2
                          exact ⟨_, by first | rfl | (simp [errW_none, errW_some] <;> rfl) | (simp only [← hji10]; first | rfl | (simp [errW_none, errW_some] <;> rfl)) | (simp [*, errW_none, errW_some] <;> rfl), by (with_reducible repeat (first | apply Kd.R_alloc | apply Kd.R_drewN | apply Kd.R_drew)); exact HO220.out, by repeat (first | (with_reducible first | exact HB.out | apply below_alloc | apply pw_below_drewN | apply below_drew1) | exact HB.out)⟩
                        · rw [if_neg c16] at H
                          exact absurd H (by simp)
                      · rw [if_neg c15] at H
                        exact absurd H (by simp)
                    · rw [if_neg c14] at H
                      exact absurd H (by simp)
                · rw [if_neg c12] at H
                  exact absurd H (by simp)
              · rw [if_neg c11] at H
                exact absurd H (by simp)
            · rw [if_neg c9] at H
              have c9b0 : decide (x4_3 < x5_2) = false := decide_eq_false c9
              clear c9
              by_cases c20 : 0 ≤ x4_3
              · rw [if_pos c20] at H
                have c20b0 := eq_true c20
                have c20b1 : decide (0 ≤ x4_3) = true := decide_eq_true c20
                clear c20
                by_cases c21 : x4_3 ≤ x5_2
                · rw [if_pos c21] at H
                  have c21b0 := eq_true c21
                  have c21b1 : decide (x4_3 ≤ x5_2) = true := decide_eq_true c21
                  clear c21
                  by_cases c22 : x5_2 ≤ (l0.length : Int)
                  · rw [if_pos c22] at H
                    have c22b0 := eq_true c22
                    have c22b1 : decide (x5_2 ≤ (l0.length : Int)) = true := decide_eq_true c22
                    clear c22
                    replace H := Option.bind_eq_some_iff.mp H
                    obtain ⟨t222, A230, H⟩ := H
                    replace H : (some (t222, true)) = some (r1, r2) := H
                    have A23 := Aside0.mk A230
                    clear A230
                    simp only [Option.some.injEq, Prod.mk.injEq] at H
                    obtain ⟨rfl, rfl⟩ := H
                    obtain ⟨i024, hi024, _, hsz24, _⟩ := info_parts info3
                    obtain ⟨A24, hcut24, hA24, hC24⟩ := print_mid_of (P := Try.prog) (Value.int .i64) 0 25 3 .i64 .i64 Try.underlying25 hi024 hsz24 A0 c0 l0 x4_3 x5_2 (of_decide_eq_true (by first | (with_reducible assumption) | assumption)) (by first | omega | exact of_decide_eq_true (by first | (with_reducible assumption) | assumption)) (of_decide_eq_true (by first | (with_reducible assumption) | assumption)) HC0.out
                    have HR221 := Aside0.mk (Kd.C_of_reads (h1 := fun _ => rfl) (hA24 _ (Kd.reads_of_C HR0.out)))
                    have HC221 := Aside0.mk hC24
                    clear hA24 hC24 hi024 hsz24
                    go_wp2_with (first | ((with_reducible refine gate_callee (f := 53) rfl ?_); refine goesL_ (some 40) rfl rfl Try.func53 (by kernel_rfl) rfl #[.slice A24 ((l0.take (x5_2 : Int).toNat).drop (x4_3 : Int).toNat).length (c0 - x4_3.toNat)] rfl (by (try simp only [List.map_toArray, List.map_cons, List.map_nil]); first | done | (rw [show ((l0.take (x5_2 : Int).toNat).drop (x4_3 : Int).toNat).length = (x5_2.toNat - x4_3.toNat) from (by rw [List.length_drop, List.length_take]; have h_ : (x5_2 : Int) ≤ (l0.length : Int) := of_decide_eq_true (by first | (with_reducible assumption) | assumption); omega)] <;> rfl) | rfl | (simp only [List.length_drop, List.length_take]; rfl)) ?_; (with_reducible refine (slices_Clone_int_int.calls _ _ ((l0.take (x5_2 : Int).toNat).drop (x4_3 : Int).toNat) t222 _ ?side1 ?side2 A23.out).mono ?_); (case side1 => repeat (first | exact (Kd.C_below HR221.out HB.out) | (with_reducible refine Kd.C_alloc ?_ _) | (with_reducible refine Kd.C_drewN ?_ _) | (with_reducible refine Kd.C_drew ?_))); (case side2 => exact HC221.out); rintro e w25 ⟨v223, rfl, ho0, hb⟩; refine ⟨_, rfl, ?_⟩; have n0_ := Aside0.mk (Kd.R_lower ho0 (below_size (by repeat (first | (with_reducible first | exact HB.out | apply below_alloc | apply pw_below_drewN | apply below_drew1) | exact HB.out)))); have n1_ := Aside0.mk (below_step (by repeat (first | (with_reducible first | exact HB.out | apply below_alloc | apply pw_below_drewN | apply below_drew1) | exact HB.out)) hb); clear HB; have HO224 := n0_; have HB := n1_; clear n0_ n1_; (try clear hb); (try clear hb2); (try clear hk); (try clear hi); (try clear ho0)))
                    go_ret2
                    exact ⟨_, by first | rfl | (simp [errW_none, errW_some] <;> rfl) | (simp [*, errW_none, errW_some] <;> rfl), by (with_reducible repeat (first | apply Kd.R_alloc | apply Kd.R_drewN | apply Kd.R_drew)); exact HO224.out, by repeat (first | (with_reducible first | exact HB.out | apply below_alloc | apply pw_below_drewN | apply below_drew1) | exact HB.out)⟩
                  · rw [if_neg c22] at H
                    exact absurd H (by simp)
                · rw [if_neg c21] at H
                  exact absurd H (by simp)
              · rw [if_neg c20] at H
                exact absurd H (by simp)
  · replace c3 := Bool.eq_false_iff.mpr c3
    subst c3
    have H1 : (some (([] : List Int), false)) = some (r1, r2) := by rw [if_neg (show ¬ (false = true) by decide)] at H; exact H
    clear H
    have H := H1
    clear H1
    simp only [Option.some.injEq, Prod.mk.injEq] at H
    obtain ⟨rfl, rfl⟩ := H
    go_enter Try.func24, Try.ntmps24
    go_wp2_with (first | ((with_reducible refine gate_callee (f := 51) rfl ?_); refine goesL_ (some 7) rfl rfl Try.func51 (by kernel_rfl) rfl #[.slice A0 l0.length c0] rfl (by (try simp only [List.map_toArray, List.map_cons, List.map_nil]); first | done | rfl | (simp only [List.length_drop, List.length_take]; rfl)) ?_; (with_reducible refine (impl_IsRow.calls k _ _ l0 false _ ?side1 ?side2 A2.out).mono ?_); (case side1 => repeat (first | exact HR0.out | (with_reducible refine Kd.C_alloc ?_ _) | (with_reducible refine Kd.C_drewN ?_ _) | (with_reducible refine Kd.C_drew ?_))); (case side2 => exact HC0.out); rintro e w' ⟨rfl, ⟨nd, rfl⟩⟩; refine ⟨_, rfl, ?_⟩))
    go_ret2
    exact ⟨_, by first | rfl | (simp [errW_none, errW_some] <;> rfl) | (simp [*, errW_none, errW_some] <;> rfl), by first | exact Kd.R_nil _ _ _ _ _ | exact Kd.N_nil _ _ _ _ _ | exact Kd.V_nil _ _ _ _ _ | exact Kd.Q_nil _ _ _ _ _ | exact Kd.S_nil _ _ _ _ _, by repeat (first | (with_reducible first | exact HB.out | apply below_alloc | apply pw_below_drewN | apply below_drew1) | exact HB.out)⟩

noncomputable def impl_TrimRow.J1 (x0 : List Int) (x4 : Int) (x5 : Int) : Option (List Int × Bool) := lim fun k => impl_TrimRow.j1 k x0 x4 x5
theorem impl_TrimRow.J1_lim (x0 : List Int) (x4 : Int) (x5 : Int) : Lim (fun k => impl_TrimRow.j1 k x0 x4 x5) (impl_TrimRow.J1 x0 x4 x5) := Lim.of fun k => (impl_TrimRow.mono_l k).1 x0 x4 x5
noncomputable def impl_TrimRow.L1 (x0 : List Int) (x4 : Int) (x5 : Int) : Option (List Int × Bool) := lim fun k => impl_TrimRow.l1 k x0 x4 x5
theorem impl_TrimRow.L1_lim (x0 : List Int) (x4 : Int) (x5 : Int) : Lim (fun k => impl_TrimRow.l1 k x0 x4 x5) (impl_TrimRow.L1 x0 x4 x5) := Lim.of fun k => (impl_TrimRow.mono_l k).2.1 x0 x4 x5
noncomputable def impl_TrimRow.L0 (x0 : List Int) (x4 : Int) (x5 : Int) : Option (List Int × Bool) := lim fun k => impl_TrimRow.l0 k x0 x4 x5
theorem impl_TrimRow.L0_lim (x0 : List Int) (x4 : Int) (x5 : Int) : Lim (fun k => impl_TrimRow.l0 k x0 x4 x5) (impl_TrimRow.L0 x0 x4 x5) := Lim.of fun k => (impl_TrimRow.mono_l k).2.2 x0 x4 x5
noncomputable def impl_TrimRow.F (l0 : List Int) : Option (List Int × Bool) := lim fun k => impl_TrimRow.f k l0
theorem impl_TrimRow.F_lim (l0 : List Int) : Lim (fun k => impl_TrimRow.f k l0) (impl_TrimRow.F l0) := Lim.of fun k => impl_TrimRow.mono l0 k
theorem impl_TrimRow.J1_eq (x0 : List Int) (x4 : Int) (x5 : Int) : impl_TrimRow.J1 x0 x4 x5 = (impl_TrimRow.L1 x0 x4 x5) :=
  Lim.step (f := fun k => (impl_TrimRow.l1 k x0 x4 x5)) (impl_TrimRow.J1_lim x0 x4 x5) (fun k => by first | rfl | rw [impl_TrimRow.j1]) (by
    repeat' first
    | (with_reducible exact Lim.const _)
    | (with_reducible exact impl_TrimRow.L1_lim _ _ _)
    | (with_reducible refine Lim.ite ?_ ?_)
    | (with_reducible refine Lim.bind ?_ (fun _ => ?_)))
theorem impl_TrimRow.L1_eq (x0 : List Int) (x4 : Int) (x5 : Int) : impl_TrimRow.L1 x0 x4 x5 = (if x4 < x5 then (if 0 ≤ (wrap64 (x5 - 1)) then (if (wrap64 (x5 - 1)) < (x0.length : Int) then (if (rd x0 (wrap64 (x5 - 1))) = 0 then (impl_TrimRow.L1 x0 x4 (wrap64 (x5 - 1))) else (if 0 ≤ x4 then (if x4 ≤ x5 then (if x5 ≤ (x0.length : Int) then ((slices_Clone_int_int.f ((x0.take (x5 : Int).toNat).drop (x4 : Int).toNat)).bind fun t218 => (some (t218, true))) else (none)) else (none)) else (none))) else (none)) else (none)) else (if 0 ≤ x4 then (if x4 ≤ x5 then (if x5 ≤ (x0.length : Int) then ((slices_Clone_int_int.f ((x0.take (x5 : Int).toNat).drop (x4 : Int).toNat)).bind fun t222 => (some (t222, true))) else (none)) else (none)) else (none))) :=
  Lim.step (f := fun k => (if x4 < x5 then (if 0 ≤ (wrap64 (x5 - 1)) then (if (wrap64 (x5 - 1)) < (x0.length : Int) then (if (rd x0 (wrap64 (x5 - 1))) = 0 then (impl_TrimRow.l1 k x0 x4 (wrap64 (x5 - 1))) else (if 0 ≤ x4 then (if x4 ≤ x5 then (if x5 ≤ (x0.length : Int) then ((slices_Clone_int_int.f ((x0.take (x5 : Int).toNat).drop (x4 : Int).toNat)).bind fun t218 => (some (t218, true))) else (none)) else (none)) else (none))) else (none)) else (none)) else (if 0 ≤ x4 then (if x4 ≤ x5 then (if x5 ≤ (x0.length : Int) then ((slices_Clone_int_int.f ((x0.take (x5 : Int).toNat).drop (x4 : Int).toNat)).bind fun t222 => (some (t222, true))) else (none)) else (none)) else (none)))) (impl_TrimRow.L1_lim x0 x4 x5) (fun k => by first | rfl | rw [impl_TrimRow.l1]) (by
    repeat' first
    | (with_reducible exact Lim.const _)
    | (with_reducible exact impl_TrimRow.L1_lim _ _ _)
    | (with_reducible refine Lim.ite ?_ ?_)
    | (with_reducible refine Lim.bind ?_ (fun _ => ?_)))
theorem impl_TrimRow.L0_eq (x0 : List Int) (x4 : Int) (x5 : Int) : impl_TrimRow.L0 x0 x4 x5 = (if x4 < x5 then (if 0 ≤ x4 then (if x4 < (x0.length : Int) then (if (rd x0 x4) = 0 then (impl_TrimRow.L0 x0 (wrap64 (x4 + 1)) x5) else (impl_TrimRow.J1 x0 x4 x5)) else (none)) else (none)) else (impl_TrimRow.J1 x0 x4 x5)) :=
  Lim.step (f := fun k => (if x4 < x5 then (if 0 ≤ x4 then (if x4 < (x0.length : Int) then (if (rd x0 x4) = 0 then (impl_TrimRow.l0 k x0 (wrap64 (x4 + 1)) x5) else (impl_TrimRow.j1 k x0 x4 x5)) else (none)) else (none)) else (impl_TrimRow.j1 k x0 x4 x5))) (impl_TrimRow.L0_lim x0 x4 x5) (fun k => by first | rfl | rw [impl_TrimRow.l0]) (by
    repeat' first
    | (with_reducible exact Lim.const _)
    | (with_reducible exact impl_TrimRow.J1_lim _ _ _)
    | (with_reducible exact impl_TrimRow.L0_lim _ _ _)
    | (with_reducible refine Lim.ite ?_ ?_)
    | (with_reducible refine Lim.bind ?_ (fun _ => ?_)))
theorem impl_TrimRow.F_eq (l0 : List Int) : impl_TrimRow.F l0 = ((impl_IsRow.F l0).bind fun t214 => (if t214 = true then (impl_TrimRow.L0 l0 0 (l0.length : Int)) else (some (([] : List Int), false)))) :=
  Lim.unique (impl_TrimRow.F_lim l0) (by
    unfold impl_TrimRow.f
    repeat' first
    | (with_reducible exact Lim.const _)
    | (with_reducible exact impl_IsRow.F_lim _)
    | (with_reducible exact impl_TrimRow.L0_lim _ _ _)
    | (with_reducible refine Lim.ite ?_ ?_)
    | (with_reducible refine Lim.bind ?_ (fun _ => ?_)))

end Go.Proofs.Ytmhcgihkijiecaa.Fn
namespace Go.Proofs.Ytmhcgihkijiecaa.Fn
open Go.RowKit Go.Proofs.YtmhcgihkijiecaaW.PrintWords Go.Proofs.YtmhcgihkijiecaaW.PrintLast Go.Proofs.YtmhcgihkijiecaaW.PrintMore
set_option linter.unusedVariables false
set_option linter.unusedSimpArgs false
/-- A list of at most 40 numbers in 0..20. -/
def isRow (l : List Int) : Bool := decide (l.length ≤ 40) && l.all (fun x => decide (0 ≤ x) && decide (x ≤ 20))
theorem isRow_len {l : List Int} (h : isRow l = true) : l.length ≤ 40 := by
  unfold isRow at h
  simp only [Bool.and_eq_true, decide_eq_true_eq] at h
  exact h.1
theorem isRow_mem {l : List Int} (h : isRow l = true) {x : Int} (hx : x ∈ l) : 0 ≤ x ∧ x ≤ 20 := by
  unfold isRow at h
  simp only [Bool.and_eq_true, decide_eq_true_eq, List.all_eq_true] at h
  exact h.2 x hx
theorem slices_Clone_int_int.f_val (l : List Int) (h : l.length < 17592186044416) : slices_Clone_int_int.f l = some l := by
  unfold slices_Clone_int_int.f
  rw [if_pos h]
theorem spec_l1Own.f_val (l : List Int) (h : l.length < 17592186044416) : spec_l1Own.f l = some l := by
  unfold spec_l1Own.f
  simp [h]
theorem spec_l1In.f_val (a b c : Int) : spec_l1In.f a b c = some (decide (b ≤ a) && decide (a ≤ c)) := by
  unfold spec_l1In.f
  by_cases h : a ≥ b
  · rw [if_pos h]
    simp [show b ≤ a from h]
  · rw [if_neg h]
    simp [show ¬ b ≤ a from h]
theorem impl_IsRow.L0_val (l : List Int) : ∀ (suf pre : List Int), (pre ++ suf).length < 4611686018427387904 → impl_IsRow.L0 l (pre ++ suf) ((pre ++ suf).length : Int) (pre.length : Int) = some (suf.all (fun x => decide (0 ≤ x) && decide (x ≤ 20)) && decide (l.length ≤ 40))
  | [], pre, h => by
    rw [impl_IsRow.L0_eq, range_end]
    simp
    omega
  | x :: suf, pre, h => by
    rw [impl_IsRow.L0_eq, range_step, rd_mid, wrap_mid h]
    by_cases h1 : x < 0
    · have : ¬ 0 ≤ x := by omega
      rw [if_pos h1]
      simp [this]
    · have h1' : 0 ≤ x := by omega
      rw [if_neg h1]
      by_cases h2 : x > 20
      · have : ¬ x ≤ 20 := by omega
        rw [if_pos h2]
        simp [this]
      · have h2' : x ≤ 20 := by omega
        rw [if_neg h2, app_mid, impl_IsRow.L0_val l suf (pre ++ [x]) (by simpa using h)]
        simp [h1', h2']
theorem impl_IsRow.F_val (l : List Int) (h : l.length < 4611686018427387904) : impl_IsRow.F l = some (isRow l) := by
  rw [impl_IsRow.F_eq]
  have := impl_IsRow.L0_val l l [] (by simpa using h)
  simp only [List.nil_append, List.length_nil] at this
  rw [isRow, Bool.and_comm]
  exact this
theorem impl_madeRow.F_val (l : List Int) (h : l.length < 4611686018427387904) : impl_madeRow.F l = some (if isRow l = true then (l, true) else ([], false)) := by
  rw [impl_madeRow.F_eq, impl_IsRow.F_val l h]
  simp only [Option.bind_some]
  split <;> rfl
theorem spec_l1All.L0_val (a b : Int) : ∀ (suf pre : List Int), (pre ++ suf).length < 4611686018427387904 → spec_l1All.L0 a b (pre ++ suf) ((pre ++ suf).length : Int) (pre.length : Int) = some (suf.all (fun x => decide (a ≤ x) && decide (x ≤ b)))
  | [], pre, h => by
    rw [spec_l1All.L0_eq, range_end]
    simp
  | x :: suf, pre, h => by
    rw [spec_l1All.L0_eq, range_step, rd_mid, wrap_mid h, spec_l1In.f_val]
    simp only [Option.bind_some]
    by_cases h1 : (decide (a ≤ x) && decide (x ≤ b)) = true
    · rw [if_pos h1, app_mid, spec_l1All.L0_val a b suf (pre ++ [x]) (by simpa using h)]
      simp only [List.all_cons, h1, Bool.true_and]
    · rw [if_neg h1]
      simp only [List.all_cons, Bool.not_eq_true] at h1 ⊢
      rw [h1, Bool.false_and]
theorem spec_l1All.F_val (l : List Int) (a b : Int) (h : l.length < 4611686018427387904) : spec_l1All.F l a b = some (l.all (fun x => decide (a ≤ x) && decide (x ≤ b))) := by
  rw [spec_l1All.F_eq]
  have := spec_l1All.L0_val a b l [] (by simpa using h)
  simpa using this
theorem spec_roGood.F_val (l : List Int) (h : l.length < 4611686018427387904) : spec_roGood.F l = some (isRow l) := by
  rw [spec_roGood.F_eq]
  unfold isRow
  by_cases h1 : (l.length : Int) ≤ 40
  · rw [if_pos h1, spec_l1All.F_val l 0 20 h]
    have : l.length ≤ 40 := by omega
    simp [this]
  · rw [if_neg h1]
    have : ¬ l.length ≤ 40 := by omega
    simp [this]
theorem spec_hoIf.F_val (l : List Int) (h : l.length < 4611686018427387904) : spec_hoIf.F l = some (if isRow l = true then (l, true) else ([], false)) := by
  rw [spec_hoIf.F_eq, spec_roGood.F_val l h]
  simp only [Option.bind_some]
  split <;> rfl
/-- The places of two rows, one behind the other, if this is a row. -/
def joinRows (a b : List Int) : List Int × Bool := if isRow a = true ∧ isRow b = true ∧ isRow (a ++ b) = true then (a ++ b, true) else ([], false)
theorem joinRows_len (a b : List Int) : (joinRows a b).1.length ≤ 40 := by
  unfold joinRows
  split
  · rename_i h
    exact isRow_len h.2.2
  · simp
theorem impl_JoinRows.F_val (a b : List Int) (ha : a.length < 4611686018427387904) (hb : b.length < 4611686018427387904) : impl_JoinRows.F a b = some (joinRows a b) := by
  rw [impl_JoinRows.F_eq, impl_IsRow.F_val a ha]
  simp only [Option.bind_some]
  unfold joinRows
  by_cases h1 : isRow a = true
  · have l1 := isRow_len h1
    rw [if_pos h1, impl_IsRow.F_val b hb]
    simp only [Option.bind_some]
    rw [impl_JoinRows.J0_eq]
    by_cases h2 : isRow b = true
    · have l2 := isRow_len h2
      rw [if_neg (by simp [h2]), slices_Clone_int_int.f_val a (by omega)]
      simp only [Option.bind_some]
      rw [if_pos (by omega), impl_madeRow.F_val _ (by simp; omega)]
      simp only [Option.bind_some]
      by_cases h3 : isRow (a ++ b) = true
      · simp [h1, h2, h3]
      · simp [h3]
    · rw [if_pos (by simp [h2])]
      simp [h2]
  · rw [if_neg h1, impl_JoinRows.J0_eq, if_pos rfl]
    simp [h1]
theorem spec_JoinRows.F_val (a b : List Int) (ha : a.length < 4611686018427387904) (hb : b.length < 4611686018427387904) : spec_JoinRows.F a b = some (joinRows a b) := by
  rw [spec_JoinRows.F_eq, spec_roGood.F_val a ha]
  simp only [Option.bind_some]
  unfold joinRows
  by_cases h1 : isRow a = true
  · have l1 := isRow_len h1
    rw [if_pos h1, spec_roGood.F_val b hb]
    simp only [Option.bind_some]
    rw [spec_JoinRows.J0_eq]
    by_cases h2 : isRow b = true
    · have l2 := isRow_len h2
      rw [if_neg (by simp [h2]), spec_l1Own.f_val a (by omega)]
      simp only [Option.bind_some]
      rw [if_pos (by omega), spec_hoIf.F_val _ (by simp; omega)]
      simp only [Option.bind_some]
      by_cases h3 : isRow (a ++ b) = true
      · simp [h1, h2, h3]
      · simp [h3]
    · rw [if_pos (by simp [h2])]
      simp [h2]
  · rw [if_neg h1, spec_JoinRows.J0_eq, if_pos rfl]
    simp [h1]
/-- From the place i on: where the holes at the end begin. -/
def backTo (l : List Int) (i : Nat) : Nat → Nat
  | 0 => 0
  | j + 1 => if i < j + 1 ∧ rd l j = 0 then backTo l i j else j + 1
theorem backTo_le (l : List Int) (i : Nat) : ∀ j, backTo l i j ≤ j
  | 0 => Nat.le_refl _
  | j + 1 => by
    unfold backTo
    split
    · exact Nat.le_succ_of_le (backTo_le l i j)
    · exact Nat.le_refl _
theorem le_backTo (l : List Int) (i : Nat) : ∀ j, i ≤ j → i ≤ backTo l i j
  | 0, h => by simpa [backTo] using h
  | j + 1, h => by
    unfold backTo
    split
    · rename_i h1
      exact le_backTo l i j (by omega)
    · exact h
/-- Where the holes at the beginning end; n places are left to look at. -/
def frontTo (l : List Int) : Nat → Nat → Nat
  | i, 0 => i
  | i, n + 1 => if rd l i = 0 then frontTo l (i + 1) n else i
theorem frontTo_le (l : List Int) : ∀ n i, frontTo l i n ≤ i + n
  | 0, i => Nat.le_refl _
  | n + 1, i => by
    unfold frontTo
    split
    · have := frontTo_le l n (i + 1)
      omega
    · omega
/-- A row without the holes at its beginning and at its end. -/
def trimmed (l : List Int) : List Int := (l.take (backTo l (frontTo l 0 l.length) l.length)).drop (frontTo l 0 l.length)
def trimRow (l : List Int) : List Int × Bool := if isRow l = true then (trimmed l, true) else ([], false)
theorem trimRow_len (l : List Int) (h : l.length ≤ 4611686018427387904) : (trimRow l).1.length ≤ l.length := by
  unfold trimRow trimmed
  split
  · simp only [List.length_drop, List.length_take]
    omega
  · simp
theorem impl_TrimRow.L1_val (l : List Int) (hl : l.length ≤ 40) (i : Nat) : ∀ j, i ≤ j → j ≤ l.length → impl_TrimRow.L1 l (i : Int) (j : Int) = some ((l.take (backTo l i j)).drop i, true)
  | 0, h, hj => by
    obtain rfl : i = 0 := by omega
    rw [impl_TrimRow.L1_eq, if_neg (by omega), if_pos (by omega), if_pos (by omega), if_pos (by omega), slices_Clone_int_int.f_val _ (by simp)]
    simp [backTo]
  | j + 1, h, hj => by
    have e : wrap64 (((j + 1 : Nat) : Int) - 1) = (j : Int) := by rw [wrap_in (by omega) (by omega)]; omega
    rw [impl_TrimRow.L1_eq]
    by_cases h1 : i < j + 1
    · rw [if_pos (by omega), e, if_pos (by omega), if_pos (by omega)]
      by_cases h2 : rd l j = 0
      · rw [if_pos h2, impl_TrimRow.L1_val l hl i j (by omega) (by omega)]
        simp [backTo, h1, h2]
      · rw [if_neg h2, if_pos (by omega), if_pos (by omega), if_pos (by omega), slices_Clone_int_int.f_val _ (by simp; omega)]
        (simp [backTo, h2] <;> omega)
    · rw [if_neg (by omega), if_pos (by omega), if_pos (by omega), if_pos (by omega), slices_Clone_int_int.f_val _ (by simp; omega)]
      (simp [backTo, h1] <;> omega)
theorem impl_TrimRow.L0_val (l : List Int) (hl : l.length ≤ 40) : ∀ n i, i + n = l.length → impl_TrimRow.L0 l (i : Int) (l.length : Int) = some ((l.take (backTo l (frontTo l i n) l.length)).drop (frontTo l i n), true)
  | 0, i, h => by
    rw [impl_TrimRow.L0_eq, if_neg (by omega), impl_TrimRow.J1_eq, impl_TrimRow.L1_val l hl i l.length (by omega) (by omega)]
    simp [frontTo]
  | n + 1, i, h => by
    have e : wrap64 ((i : Int) + 1) = ((i + 1 : Nat) : Int) := by rw [wrap_in (by omega) (by omega)]; omega
    rw [impl_TrimRow.L0_eq, if_pos (by omega), if_pos (by omega), if_pos (by omega)]
    by_cases h2 : rd l i = 0
    · rw [if_pos h2, e, impl_TrimRow.L0_val l hl n (i + 1) (by omega)]
      simp [frontTo, h2]
    · rw [if_neg h2, impl_TrimRow.J1_eq, impl_TrimRow.L1_val l hl i l.length (by omega) (by omega)]
      simp [frontTo, h2]
theorem impl_TrimRow.F_val (l : List Int) (h : l.length < 4611686018427387904) : impl_TrimRow.F l = some (trimRow l) := by
  rw [impl_TrimRow.F_eq, impl_IsRow.F_val l h]
  simp only [Option.bind_some]
  unfold trimRow
  split
  · rename_i h1
    exact impl_TrimRow.L0_val l (isRow_len h1) l.length 0 (by omega)
  · rfl
theorem spec_TrimRow.L1_val (l : List Int) (hl : l.length ≤ 40) (i : Nat) : ∀ j, i ≤ j → j ≤ l.length → spec_TrimRow.L1 l (i : Int) (j : Int) = some ((l.take (backTo l i j)).drop i, true)
  | 0, h, hj => by
    obtain rfl : i = 0 := by omega
    rw [spec_TrimRow.L1_eq, if_neg (by omega), if_pos (by omega), if_pos (by omega), if_pos (by omega), spec_l1Own.f_val _ (by simp)]
    simp [backTo]
  | j + 1, h, hj => by
    have e : wrap64 (((j + 1 : Nat) : Int) - 1) = (j : Int) := by rw [wrap_in (by omega) (by omega)]; omega
    rw [spec_TrimRow.L1_eq]
    by_cases h1 : i < j + 1
    · rw [if_pos (by omega), e, if_pos (by omega), if_pos (by omega)]
      by_cases h2 : rd l j = 0
      · rw [if_pos h2, spec_TrimRow.L1_val l hl i j (by omega) (by omega)]
        simp [backTo, h1, h2]
      · rw [if_neg h2, if_pos (by omega), if_pos (by omega), if_pos (by omega), spec_l1Own.f_val _ (by simp; omega)]
        (simp [backTo, h2] <;> omega)
    · rw [if_neg (by omega), if_pos (by omega), if_pos (by omega), if_pos (by omega), spec_l1Own.f_val _ (by simp; omega)]
      (simp [backTo, h1] <;> omega)
theorem spec_TrimRow.L0_val (l : List Int) (hl : l.length ≤ 40) : ∀ n i, i + n = l.length → spec_TrimRow.L0 l (i : Int) (l.length : Int) = some ((l.take (backTo l (frontTo l i n) l.length)).drop (frontTo l i n), true)
  | 0, i, h => by
    rw [spec_TrimRow.L0_eq, if_neg (by omega), spec_TrimRow.J1_eq, spec_TrimRow.L1_val l hl i l.length (by omega) (by omega)]
    simp [frontTo]
  | n + 1, i, h => by
    have e : wrap64 ((i : Int) + 1) = ((i + 1 : Nat) : Int) := by rw [wrap_in (by omega) (by omega)]; omega
    rw [spec_TrimRow.L0_eq, if_pos (by omega), if_pos (by omega), if_pos (by omega)]
    by_cases h2 : rd l i = 0
    · rw [if_pos h2, e, spec_TrimRow.L0_val l hl n (i + 1) (by omega)]
      simp [frontTo, h2]
    · rw [if_neg h2, spec_TrimRow.J1_eq, spec_TrimRow.L1_val l hl i l.length (by omega) (by omega)]
      simp [frontTo, h2]
theorem spec_TrimRow.F_val (l : List Int) (h : l.length < 4611686018427387904) : spec_TrimRow.F l = some (trimRow l) := by
  rw [spec_TrimRow.F_eq, spec_roGood.F_val l h]
  simp only [Option.bind_some]
  unfold trimRow
  split
  · rename_i h1
    exact spec_TrimRow.L0_val l (isRow_len h1) l.length 0 (by omega)
  · rfl
end Go.Proofs.Ytmhcgihkijiecaa.Fn
namespace Go.Proofs.Ytmhcgihkijiecaa.Fn
open Go.RowKit Go.Proofs.YtmhcgihkijiecaaW.PrintWords Go.Proofs.YtmhcgihkijiecaaW.PrintLast Go.Proofs.YtmhcgihkijiecaaW.PrintMore
attribute [local go_sem] max2_int min2_int max_two min_two max_three min_three max_four min_four   -- for this text's walks alone
set_option linter.unusedVariables false
set_option linter.unusedSimpArgs false

/-! ### spec_roNumbers: function 85 -/
def spec_roNumbers.l0 : Nat → List Int → List Int → Int → Option (List Int)
  | 0, _, _, _ => none
  | k + 1, x0, x3, x4 => if x4 ≤ 20 then ((spec_l1Has.f k x0 x4).bind fun t287 => (if t287 = true then (if x3.length < 17592186044416 then (spec_roNumbers.l0 k x0 (x3 ++ [x4]) (wrap64 (x4 + 1))) else (none)) else (spec_roNumbers.l0 k x0 x3 (wrap64 (x4 + 1))))) else (some x3)
def spec_roNumbers.f (k : Nat) (l0 : List Int) : Option (List Int) := spec_roNumbers.l0 k l0 ([] : List Int) 1
theorem spec_roNumbers.mono_l : ∀ k, (∀ y0 y1 y2, LeO (spec_roNumbers.l0 k y0 y1 y2) (spec_roNumbers.l0 (k + 1) y0 y1 y2))
  | 0 => fun _ _ _ r h => by simp [spec_roNumbers.l0] at h
  | k + 1 => by
    have ih0 := spec_roNumbers.mono_l k
    · intro y0 y1 y2
      unfold spec_roNumbers.l0
      repeat' first
      | (with_reducible exact ih0 _ _ _)
      | (with_reducible exact spec_l1Has.mono _ _ _)
      | (with_reducible exact LeO.refl _)
      | (with_reducible exact LeO.none _)
      | (with_reducible refine LeO.ite ?_ ?_)
      | (with_reducible refine LeO.bind ?_ (fun _ => ?_))
      | exact ih0 _ _ _
      | exact spec_l1Has.mono _ _ _
      | exact LeO.none _
      | refine LeO.ite ?_ ?_
      | refine LeO.bind ?_ (fun _ => ?_)
theorem spec_roNumbers.mono : ∀ a0 k, LeO (spec_roNumbers.f k a0) (spec_roNumbers.f (k + 1) a0) := by
  intro a0 k
  have ih0 := spec_roNumbers.mono_l k
  unfold spec_roNumbers.f
  repeat' first
      | (with_reducible exact ih0 _ _ _)
      | (with_reducible exact spec_l1Has.mono _ _ _)
      | (with_reducible exact LeO.refl _)
      | (with_reducible exact LeO.none _)
      | (with_reducible refine LeO.ite ?_ ?_)
      | (with_reducible refine LeO.bind ?_ (fun _ => ?_))
      | exact ih0 _ _ _
      | exact spec_l1Has.mono _ _ _
      | exact LeO.none _
      | refine LeO.ite ?_ ?_
      | refine LeO.bind ?_ (fun _ => ?_)
set_option maxHeartbeats 8000000 in
set_option maxRecDepth 100000 in
theorem spec_roNumbers.calls (k : Nat) (A0 : Option Addr) (c0 : Nat) (l0 : List Int) (r : List Int) (w : World) (hr0 : Kd.C (Kd.int .i64) w A0 l0.length l0) (hc0 : l0.length ≤ c0) (h : spec_roNumbers.f k l0 = some r) :
    Calls Try.prog 85 #[.slice A0 l0.length c0] w fun e w' => ∃ v0_ : Value, e = .returned (v0_) ∧ Kd.R (Kd.int .i64) 3 w' w.heap.size (fun _ => True) v0_ r ∧ Below w.heap.size w w' := by
  have HR0 := Aside0.mk hr0
  have HC0 := Aside0.mk hc0
  clear hr0 hc0
  have HB := Aside0.mk (Below.refl w.heap.size w)
  have H : (spec_roNumbers.l0 k l0 ([] : List Int) 1) = some r := h
  clear h
  have H' := Aside0.mk H
  clear H
  go_enter Try.func85, Try.ntmps85
  go_wp2
  go_loopg [3, 4] k (fun kq v3 v4 w' => ∃ (x3_1 : List Int) (x4_1 : Int), v4 = .int .i64 x4_1 ∧ Aside0 (spec_roNumbers.l0 kq l0 x3_1 x4_1 = some r) ∧ Aside0 (kq ≤ k) ∧ Aside0 (Kd.R (Kd.int .i64) 3 w' w.heap.size (fun _ => True) v3 x3_1) ∧ Aside0 (Below w.heap.size w w'))
  case atStart => exact ⟨(([] : List Int)), (1), (by first | rfl | (simp; done) | (simp [*]; done)), H', ⟨Nat.le_refl _⟩, ⟨by first | exact Kd.R_nil _ _ _ _ _ | exact Kd.N_nil _ _ _ _ _ | exact Kd.V_nil _ _ _ _ _ | exact Kd.Q_nil _ _ _ _ _ | exact Kd.S_nil _ _ _ _ _⟩, ⟨by repeat (first | (with_reducible first | exact HB.out | apply below_alloc | apply pw_below_drewN | apply below_drew1) | exact HB.out)⟩⟩
  case round =>
    clear H'
    obtain ⟨x3_1, x4_1, rfl, HA, HK1, HO_3, HB⟩ := hrel
    cases gk with
    | zero => exact absurd HA.out (by simp [spec_roNumbers.l0])
    | succ k1 =>
      have H := HA.out
      clear HA
      simp only [spec_roNumbers.l0] at H
      by_cases c2 : x4_1 ≤ 20
      · rw [if_pos c2] at H
        have c2b0 : decide (x4_1 ≤ 20) = true := decide_eq_true c2
        clear c2
        replace H := Option.bind_eq_some_iff.mp H
        obtain ⟨t287, A30, H⟩ := H
        replace H : (if t287 = true then (if x3_1.length < 17592186044416 then (spec_roNumbers.l0 k1 l0 (x3_1 ++ [x4_1]) (wrap64 (x4_1 + 1))) else (none)) else (spec_roNumbers.l0 k1 l0 x3_1 (wrap64 (x4_1 + 1)))) = some r := H
        have A3 := Aside0.mk A30
        clear A30
        by_cases c4 : t287 = true
        · subst c4
          have H1 : (if x3_1.length < 17592186044416 then (spec_roNumbers.l0 k1 l0 (x3_1 ++ [x4_1]) (wrap64 (x4_1 + 1))) else (none)) = some r := by rw [if_pos rfl] at H; exact H
          clear H
          have H := H1
          clear H1
          by_cases c5 : x3_1.length < 17592186044416
          · rw [if_pos c5] at H
            have LMc5 := Aside0.mk c5
            clear c5
            obtain ⟨y288, hy288⟩ : ∃ y_ : List Int, y_ = (x3_1 ++ [x4_1]) := ⟨_, rfl⟩
            replace H : (spec_roNumbers.l0 k1 l0 y288 (wrap64 (x4_1 + 1))) = some r := by first | (rw [hy288]; with_reducible exact H) | (have H2_ := (Option.bind_some _ _).symm.trans H; rw [hy288]; with_reducible exact H2_) | (have H2_ := (Option.bind_some _ _).symm.trans H; with_reducible exact H2_) | with_reducible exact H | (rw [hy288]; exact H) | exact H
            have Ny288 := Aside0.mk hy288
            clear hy288
            have H' := Aside0.mk H
            clear H
            go_wp2_with (first | ((with_reducible refine gate_callee (f := 88) rfl ?_); refine goesL_ (some 11) rfl rfl Try.func88 (by kernel_rfl) rfl #[.slice A0 l0.length c0, .int .i64 x4_1] rfl (by (try simp only [List.map_toArray, List.map_cons, List.map_nil]); first | done | rfl | (simp only [List.length_drop, List.length_take]; rfl)) ?_; (with_reducible refine (spec_l1Has.calls k1 _ _ l0 x4_1 true _ ?side1 ?side2 A3.out).mono ?_); (case side1 => repeat (first | exact (Kd.C_below HR0.out HB.out) | (with_reducible refine Kd.C_alloc ?_ _) | (with_reducible refine Kd.C_drewN ?_ _) | (with_reducible refine Kd.C_drew ?_))); (case side2 => exact HC0.out); rintro e w' ⟨rfl, ⟨nd, rfl⟩⟩; refine ⟨_, rfl, ?_⟩) | ((with_reducible refine gate_builtin (b := .append) (xs := #[.tmp 12, .tmp 14]) rfl ?_); at_builtin; refine Kd.R_append (Kd.int .i64) (w0 := w) w.heap.size rfl (.tmp 12) (.tmp 14) 25 3 (.int .i64 0) 8 rfl Try.underlying25 info3 rfl (by decide) (by omega) u3 x3_1 x4_1 [.int .i64 x4_1] (fun _ => True) (fun _ => False) rfl rfl ?aP (fun _ hk => hk.elim) ?aF ?aO ?aB ?aS ?aL ?_; (case aP => exact rfl); (case aB => exact (by repeat (first | (with_reducible first | exact HB.out | apply below_alloc | apply pw_below_drewN | apply below_drew1) | exact HB.out))); (case aF => exact (fun _ _ => trivial)); (case aO => exact (by (with_reducible repeat (first | apply Kd.R_alloc | apply Kd.R_drewN | apply Kd.R_drew)); exact HO_3.out)); (case aS => exact (below_size (by repeat (first | (with_reducible first | exact HB.out | apply below_alloc | apply pw_below_drewN | apply below_drew1) | exact HB.out)))); (case aL => have := LMc5.out; omega); intro v289 w6 ho hb hg hat; rw [← Ny288.out] at ho; have n0_ := Aside0.mk (hb); have n1_ := Aside0.mk (ho); clear HB; clear HO_3; have HB := n0_; have HO290 := n1_; clear n0_ n1_; clear ho hb hg hat))
            go_roundg k1
            case measure => have := HK1.out; omega
            case rel => exact ⟨(y288), (wrap64 (x4_1 + 1)), (by first | rfl | (simp; done) | (simp [*]; done)), H', ⟨by have := HK1.out; omega⟩, ⟨by (with_reducible repeat (first | apply Kd.R_alloc | apply Kd.R_drewN | apply Kd.R_drew)); exact HO290.out⟩, ⟨by repeat (first | (with_reducible first | exact HB.out | apply below_alloc | apply pw_below_drewN | apply below_drew1) | exact HB.out)⟩⟩
          · rw [if_neg c5] at H
            exact absurd H (by simp)
        · replace c4 := Bool.eq_false_iff.mpr c4
          subst c4
          have H1 : (spec_roNumbers.l0 k1 l0 x3_1 (wrap64 (x4_1 + 1))) = some r := by rw [if_neg (show ¬ (false = true) by decide)] at H; exact H
          clear H
          have H := H1
          clear H1
          have H' := Aside0.mk H
          clear H
          go_wp2_with (first | ((with_reducible refine gate_callee (f := 88) rfl ?_); refine goesL_ (some 11) rfl rfl Try.func88 (by kernel_rfl) rfl #[.slice A0 l0.length c0, .int .i64 x4_1] rfl (by (try simp only [List.map_toArray, List.map_cons, List.map_nil]); first | done | rfl | (simp only [List.length_drop, List.length_take]; rfl)) ?_; (with_reducible refine (spec_l1Has.calls k1 _ _ l0 x4_1 false _ ?side1 ?side2 A3.out).mono ?_); (case side1 => repeat (first | exact (Kd.C_below HR0.out HB.out) | (with_reducible refine Kd.C_alloc ?_ _) | (with_reducible refine Kd.C_drewN ?_ _) | (with_reducible refine Kd.C_drew ?_))); (case side2 => exact HC0.out); rintro e w' ⟨rfl, ⟨nd, rfl⟩⟩; refine ⟨_, rfl, ?_⟩))
          go_roundg k1
          case measure => have := HK1.out; omega
          case rel => exact ⟨(x3_1), (wrap64 (x4_1 + 1)), (by first | rfl | (simp; done) | (simp [*]; done)), H', ⟨by have := HK1.out; omega⟩, ⟨by (with_reducible repeat (first | apply Kd.R_alloc | apply Kd.R_drewN | apply Kd.R_drew)); exact HO_3.out⟩, ⟨by repeat (first | (with_reducible first | exact HB.out | apply below_alloc | apply pw_below_drewN | apply below_drew1) | exact HB.out)⟩⟩
      · rw [if_neg c2] at H
        have c2b0 : decide (x4_1 ≤ 20) = false := decide_eq_false c2
        clear c2
        obtain rfl := Option.some.inj H
        go_wp2
        go_ret
        exact ⟨_, by first | rfl | (simp [errW_none, errW_some] <;> rfl) | (simp [*, errW_none, errW_some] <;> rfl), by (with_reducible repeat (first | apply Kd.R_alloc | apply Kd.R_drewN | apply Kd.R_drew)); exact HO_3.out, by repeat (first | (with_reducible first | exact HB.out | apply below_alloc | apply pw_below_drewN | apply below_drew1) | exact HB.out)⟩

noncomputable def spec_roNumbers.L0 (x0 : List Int) (x3 : List Int) (x4 : Int) : Option (List Int) := lim fun k => spec_roNumbers.l0 k x0 x3 x4
theorem spec_roNumbers.L0_lim (x0 : List Int) (x3 : List Int) (x4 : Int) : Lim (fun k => spec_roNumbers.l0 k x0 x3 x4) (spec_roNumbers.L0 x0 x3 x4) := Lim.of fun k => (spec_roNumbers.mono_l k) x0 x3 x4
noncomputable def spec_roNumbers.F (l0 : List Int) : Option (List Int) := lim fun k => spec_roNumbers.f k l0
theorem spec_roNumbers.F_lim (l0 : List Int) : Lim (fun k => spec_roNumbers.f k l0) (spec_roNumbers.F l0) := Lim.of fun k => spec_roNumbers.mono l0 k
theorem spec_roNumbers.L0_eq (x0 : List Int) (x3 : List Int) (x4 : Int) : spec_roNumbers.L0 x0 x3 x4 = (if x4 ≤ 20 then ((spec_l1Has.F x0 x4).bind fun t287 => (if t287 = true then (if x3.length < 17592186044416 then (spec_roNumbers.L0 x0 (x3 ++ [x4]) (wrap64 (x4 + 1))) else (none)) else (spec_roNumbers.L0 x0 x3 (wrap64 (x4 + 1))))) else (some x3)) :=
  Lim.step (f := fun k => (if x4 ≤ 20 then ((spec_l1Has.f k x0 x4).bind fun t287 => (if t287 = true then (if x3.length < 17592186044416 then (spec_roNumbers.l0 k x0 (x3 ++ [x4]) (wrap64 (x4 + 1))) else (none)) else (spec_roNumbers.l0 k x0 x3 (wrap64 (x4 + 1))))) else (some x3))) (spec_roNumbers.L0_lim x0 x3 x4) (fun k => by first | rfl | rw [spec_roNumbers.l0]) (by
    repeat' first
    | (with_reducible exact Lim.const _)
    | (with_reducible exact spec_l1Has.F_lim _ _)
    | (with_reducible exact spec_roNumbers.L0_lim _ _ _)
    | (with_reducible refine Lim.ite ?_ ?_)
    | (with_reducible refine Lim.bind ?_ (fun _ => ?_)))
theorem spec_roNumbers.F_eq (l0 : List Int) : spec_roNumbers.F l0 = (spec_roNumbers.L0 l0 ([] : List Int) 1) :=
  Lim.unique (spec_roNumbers.F_lim l0) (by
    unfold spec_roNumbers.f
    repeat' first
    | (with_reducible exact Lim.const _)
    | (with_reducible exact spec_roNumbers.L0_lim _ _ _)
    | (with_reducible refine Lim.ite ?_ ?_)
    | (with_reducible refine Lim.bind ?_ (fun _ => ?_)))

end Go.Proofs.Ytmhcgihkijiecaa.Fn
namespace Go.Proofs.Ytmhcgihkijiecaa.Fn
open Go.RowKit Go.Proofs.YtmhcgihkijiecaaW.PrintWords Go.Proofs.YtmhcgihkijiecaaW.PrintLast Go.Proofs.YtmhcgihkijiecaaW.PrintMore
attribute [local go_sem] max2_int min2_int max_two min_two max_three min_three max_four min_four   -- for this text's walks alone
set_option linter.unusedVariables false
set_option linter.unusedSimpArgs false

/-! ### spec_roFits: function 61 -/
def spec_roFits.l0 : Nat → List Int → Int → List Int → Int → Int → Option (Bool)
  | 0, _, _, _, _, _ => none
  | k + 1, x0, x1, x9, x10, x11 => if x11 < x10 then (if 0 ≤ x11 then (if x11 < (x9.length : Int) then ((spec_roPlaces.f k x0 (rd x9 x11)).bind fun t295 => (if 1 < (t295.length : Int) then (if 0 < (t295.length : Int) then (if (wrap64 ((rd t295 1) - (rd t295 0))) = (wrap64 ((rd x9 x11) + x1)) then (spec_roFits.l0 k x0 x1 x9 x10 (wrap64 (x11 + 1))) else (some false)) else (none)) else (none))) else (none)) else (none)) else (some true)
def spec_roFits.f (k : Nat) (l0 : List Int) (a1 : Int) : Option (Bool) := (spec_roNumbers.f k l0).bind fun t291 => (spec_roFits.l0 k l0 a1 t291 (t291.length : Int) 0)
theorem spec_roFits.mono_l : ∀ k, (∀ y0 y1 y2 y3 y4, LeO (spec_roFits.l0 k y0 y1 y2 y3 y4) (spec_roFits.l0 (k + 1) y0 y1 y2 y3 y4))
  | 0 => fun _ _ _ _ _ r h => by simp [spec_roFits.l0] at h
  | k + 1 => by
    have ih0 := spec_roFits.mono_l k
    · intro y0 y1 y2 y3 y4
      unfold spec_roFits.l0
      repeat' first
      | (with_reducible exact ih0 _ _ _ _ _)
      | (with_reducible exact spec_roNumbers.mono _ _)
      | (with_reducible exact spec_roPlaces.mono _ _ _)
      | (with_reducible exact LeO.refl _)
      | (with_reducible exact LeO.none _)
      | (with_reducible refine LeO.ite ?_ ?_)
      | (with_reducible refine LeO.bind ?_ (fun _ => ?_))
      | exact ih0 _ _ _ _ _
      | exact spec_roNumbers.mono _ _
      | exact spec_roPlaces.mono _ _ _
      | exact LeO.none _
      | refine LeO.ite ?_ ?_
      | refine LeO.bind ?_ (fun _ => ?_)
theorem spec_roFits.mono : ∀ a0 a1 k, LeO (spec_roFits.f k a0 a1) (spec_roFits.f (k + 1) a0 a1) := by
  intro a0 a1 k
  have ih0 := spec_roFits.mono_l k
  unfold spec_roFits.f
  repeat' first
      | (with_reducible exact ih0 _ _ _ _ _)
      | (with_reducible exact spec_roNumbers.mono _ _)
      | (with_reducible exact spec_roPlaces.mono _ _ _)
      | (with_reducible exact LeO.refl _)
      | (with_reducible exact LeO.none _)
      | (with_reducible refine LeO.ite ?_ ?_)
      | (with_reducible refine LeO.bind ?_ (fun _ => ?_))
      | exact ih0 _ _ _ _ _
      | exact spec_roNumbers.mono _ _
      | exact spec_roPlaces.mono _ _ _
      | exact LeO.none _
      | refine LeO.ite ?_ ?_
      | refine LeO.bind ?_ (fun _ => ?_)
set_option maxHeartbeats 8000000 in
set_option maxRecDepth 100000 in
theorem spec_roFits.calls (k : Nat) (A0 : Option Addr) (c0 : Nat) (l0 : List Int) (a1 : Int) (r : Bool) (w : World) (hr0 : Kd.C (Kd.int .i64) w A0 l0.length l0) (hc0 : l0.length ≤ c0) (h : spec_roFits.f k l0 a1 = some r) :
    Calls Try.prog 61 #[.slice A0 l0.length c0, .int .i64 a1] w fun e w' => e = .returned (.bool r) ∧ Below w.heap.size w w' := by
  have HR0 := Aside0.mk hr0
  have HC0 := Aside0.mk hc0
  clear hr0 hc0
  have HB := Aside0.mk (Below.refl w.heap.size w)
  have H : ((spec_roNumbers.f k l0).bind fun t291 => (spec_roFits.l0 k l0 a1 t291 (t291.length : Int) 0)) = some r := h
  clear h
  replace H := Option.bind_eq_some_iff.mp H
  obtain ⟨t291, A30, H⟩ := H
  replace H : (spec_roFits.l0 k l0 a1 t291 (t291.length : Int) 0) = some r := H
  have A3 := Aside0.mk A30
  clear A30
  have H' := Aside0.mk H
  clear H
  go_enter Try.func61, Try.ntmps61
  go_wp2_with (first | (go_at_call 85; (with_reducible refine (spec_roNumbers.calls k _ _ l0 t291 _ ?side1 ?side2 A3.out).mono ?_); (case side1 => repeat (first | exact HR0.out | (with_reducible refine Kd.C_alloc ?_ _) | (with_reducible refine Kd.C_drewN ?_ _) | (with_reducible refine Kd.C_drew ?_))); (case side2 => exact HC0.out); rintro e w4 ⟨v292, rfl, ho0, hb⟩; have n0_ := Aside0.mk (Kd.R_lower ho0 (below_size (by repeat (first | (with_reducible first | exact HB.out | apply below_alloc | apply pw_below_drewN | apply below_drew1) | exact HB.out)))); have n1_ := Aside0.mk (below_step (by repeat (first | (with_reducible first | exact HB.out | apply below_alloc | apply pw_below_drewN | apply below_drew1) | exact HB.out)) hb); clear HB; have HO293 := n0_; have HB := n1_; clear n0_ n1_; (try clear hb); (try clear hb2); (try clear hk); (try clear hi); (try clear ho0); obtain ⟨Ao5, co5, eo5⟩ := Kd.R_slice HO293.out; subst eo5))
  repeat (go_quiet (first | (go_at_call 85; (with_reducible refine (spec_roNumbers.calls k _ _ l0 t291 _ ?side1 ?side2 A3.out).mono ?_); (case side1 => repeat (first | exact HR0.out | (with_reducible refine Kd.C_alloc ?_ _) | (with_reducible refine Kd.C_drewN ?_ _) | (with_reducible refine Kd.C_drew ?_))); (case side2 => exact HC0.out); rintro e w4 ⟨v292, rfl, ho0, hb⟩; have n0_ := Aside0.mk (Kd.R_lower ho0 (below_size (by repeat (first | (with_reducible first | exact HB.out | apply below_alloc | apply pw_below_drewN | apply below_drew1) | exact HB.out)))); have n1_ := Aside0.mk (below_step (by repeat (first | (with_reducible first | exact HB.out | apply below_alloc | apply pw_below_drewN | apply below_drew1) | exact HB.out)) hb); clear HB; have HO293 := n0_; have HB := n1_; clear n0_ n1_; (try clear hb); (try clear hb2); (try clear hk); (try clear hi); (try clear ho0); obtain ⟨Ao5, co5, eo5⟩ := Kd.R_slice HO293.out; subst eo5)); try go_wp2_with (first | (go_at_call 85; (with_reducible refine (spec_roNumbers.calls k _ _ l0 t291 _ ?side1 ?side2 A3.out).mono ?_); (case side1 => repeat (first | exact HR0.out | (with_reducible refine Kd.C_alloc ?_ _) | (with_reducible refine Kd.C_drewN ?_ _) | (with_reducible refine Kd.C_drew ?_))); (case side2 => exact HC0.out); rintro e w4 ⟨v292, rfl, ho0, hb⟩; have n0_ := Aside0.mk (Kd.R_lower ho0 (below_size (by repeat (first | (with_reducible first | exact HB.out | apply below_alloc | apply pw_below_drewN | apply below_drew1) | exact HB.out)))); have n1_ := Aside0.mk (below_step (by repeat (first | (with_reducible first | exact HB.out | apply below_alloc | apply pw_below_drewN | apply below_drew1) | exact HB.out)) hb); clear HB; have HO293 := n0_; have HB := n1_; clear n0_ n1_; (try clear hb); (try clear hb2); (try clear hk); (try clear hi); (try clear ho0); obtain ⟨Ao5, co5, eo5⟩ := Kd.R_slice HO293.out; subst eo5)))
  go_loopg [11] k (fun kq v11 w' => ∃ (x11_1 : Int), v11 = .int .i64 x11_1 ∧ Aside0 (spec_roFits.l0 kq l0 a1 t291 (t291.length : Int) x11_1 = some r) ∧ Aside0 (kq ≤ k) ∧ Aside0 (Kd.R (Kd.int .i64) 3 w' w.heap.size (fun _ => True) (.slice Ao5 t291.length co5) t291) ∧ Aside0 (Below w.heap.size w w'))
  case atStart => exact ⟨(0), (by first | rfl | (simp; done) | (simp [*]; done)), H', ⟨Nat.le_refl _⟩, ⟨by (with_reducible repeat (first | apply Kd.R_alloc | apply Kd.R_drewN | apply Kd.R_drew)); exact HO293.out⟩, ⟨by repeat (first | (with_reducible first | exact HB.out | apply below_alloc | apply pw_below_drewN | apply below_drew1) | exact HB.out)⟩⟩
  case round =>
    clear H'
    try clear p2
    obtain ⟨x11_1, rfl, HA, HK1, HO_9, HB⟩ := hrel
    cases gk with
    | zero => exact absurd HA.out (by simp [spec_roFits.l0])
    | succ k1 =>
      have H := HA.out
      clear HA
      simp only [spec_roFits.l0] at H
      by_cases c6 : x11_1 < (t291.length : Int)
      · rw [if_pos c6] at H
        have c6b0 : decide (x11_1 < (t291.length : Int)) = true := decide_eq_true c6
        clear c6
        by_cases c7 : 0 ≤ x11_1
        · rw [if_pos c7] at H
          have c7b0 : decide (0 ≤ x11_1) = true := decide_eq_true c7
          clear c7
          by_cases c8 : x11_1 < (t291.length : Int)
          · rw [if_pos c8] at H
            have c8b0 : decide (x11_1 < (t291.length : Int)) = true := decide_eq_true c8
            clear c8
            replace H := Option.bind_eq_some_iff.mp H
            obtain ⟨t295, A90, H⟩ := H
            replace H : (if 1 < (t295.length : Int) then (if 0 < (t295.length : Int) then (if (wrap64 ((rd t295 1) - (rd t295 0))) = (wrap64 ((rd t291 x11_1) + a1)) then (spec_roFits.l0 k1 l0 a1 t291 (t291.length : Int) (wrap64 (x11_1 + 1))) else (some false)) else (none)) else (none)) = some r := H
            have A9 := Aside0.mk A90
            clear A90
            by_cases c10 : 1 < (t295.length : Int)
            · rw [if_pos c10] at H
              have c10b0 : decide (1 < (t295.length : Int)) = true := decide_eq_true c10
              have c10b1 : decide (1 < t295.length) = true := decide_eq_true (by omega)
              clear c10
              by_cases c11 : 0 < (t295.length : Int)
              · rw [if_pos c11] at H
                have c11b0 : decide (0 < (t295.length : Int)) = true := decide_eq_true c11
                have c11b1 : decide (0 < t295.length) = true := decide_eq_true (by omega)
                clear c11
                by_cases c12 : (wrap64 ((rd t295 1) - (rd t295 0))) = (wrap64 ((rd t291 x11_1) + a1))
                · rw [if_pos c12] at H
                  have c12b0 : ((wrap64 ((rd t295 1) - (rd t295 0))) == (wrap64 ((rd t291 x11_1) + a1))) = true := beq_iff_eq.mpr c12
                  have c12b1 : ((wrap64 ((rd t295 1) - (rd t295 0))) != (wrap64 ((rd t291 x11_1) + a1))) = false := bne_eq_false_iff_eq.mpr c12
                  clear c12
                  have H' := Aside0.mk H
                  clear H
                  have p294 : 0 ≤ (x11_1 : Int) := of_decide_eq_true (by first | (with_reducible assumption) | assumption)
                  have q294 : x11_1 < (t291.length : Int) := of_decide_eq_true (by first | (with_reducible assumption) | assumption)
                  obtain ⟨ad294, e294, hx294_0⟩ := Kd.at_int (Kd.R_reads' HO_9.out).2.2 x11_1 p294 q294
                  cases e294
                  replace p294 := eq_true p294
                  replace q294 := eq_true q294
                  go_wp2_with (first | (go_at_call 86; (with_reducible refine (spec_roPlaces.calls k1 _ _ l0 (rd t291 x11_1) t295 _ ?side1 ?side2 A9.out).mono ?_); (case side1 => repeat (first | exact (Kd.C_below HR0.out HB.out) | (with_reducible refine Kd.C_alloc ?_ _) | (with_reducible refine Kd.C_drewN ?_ _) | (with_reducible refine Kd.C_drew ?_))); (case side2 => exact HC0.out); rintro e w13 ⟨v296, rfl, ho0, hb⟩; have n0_ := Aside0.mk (Kd.R_elder' (by (with_reducible repeat (first | apply Kd.R_alloc | apply Kd.R_drewN | apply Kd.R_drew)); exact HO_9.out) (Kd.R_base ho0) hb); have n1_ := Aside0.mk (Kd.R_lower (Kd.R_new' ho0 (Kd.R_lt (by (with_reducible repeat (first | apply Kd.R_alloc | apply Kd.R_drewN | apply Kd.R_drew)); exact HO_9.out))) (below_size (by repeat (first | (with_reducible first | exact HB.out | apply below_alloc | apply pw_below_drewN | apply below_drew1) | exact HB.out)))); have n2_ := Aside0.mk (below_step (by repeat (first | (with_reducible first | exact HB.out | apply below_alloc | apply pw_below_drewN | apply below_drew1) | exact HB.out)) hb); clear HO_9; clear HB; have HO_9 := n0_; have HO297 := n1_; have HB := n2_; clear n0_ n1_ n2_; (try clear hb); (try clear hb2); (try clear hk); (try clear hi); (try clear ho0); obtain ⟨Ao14, co14, eo14⟩ := Kd.R_slice HO297.out; subst eo14; have p298 : 0 ≤ (1 : Int) := (by omega); have q298 : 1 < (t295.length : Int) := of_decide_eq_true (by first | (with_reducible assumption) | assumption); obtain ⟨ad298, e298, hx298_0⟩ := Kd.at_int (Kd.R_reads' HO297.out).2.2 1 p298 q298; cases e298; (try simp only [show (1 : Int).toNat = 1 from rfl, Nat.reduceMul, Nat.reduceEqDiff, Go.Addr.add, ↓reduceIte] at hx298_0); have qi298 : (1 < t295.length) = True := eq_true (by omega); (try rw [show ((1 : Int)).toNat = 1 from rfl] at hx298_0); replace p298 := eq_true p298; replace q298 := eq_true q298; have p299 : 0 ≤ (0 : Int) := (by omega); have q299 : 0 < (t295.length : Int) := of_decide_eq_true (by first | (with_reducible assumption) | assumption); obtain ⟨ad299, e299, hx299_0⟩ := Kd.at_int (Kd.R_reads' HO297.out).2.2 0 p299 q299; obtain rfl : ad298 = ad299 := (by injection e299); have qi299 : (0 < t295.length) = True := eq_true (by omega); (try rw [show ((0 : Int)).toNat = 0 from rfl] at hx299_0); (try rw [Addr.add_zero'] at hx299_0); replace p299 := eq_true p299; replace q299 := eq_true q299))
                  repeat (go_quiet (first | (go_at_call 86; (with_reducible refine (spec_roPlaces.calls k1 _ _ l0 (rd t291 x11_1) t295 _ ?side1 ?side2 A9.out).mono ?_); (case side1 => repeat (first | exact (Kd.C_below HR0.out HB.out) | (with_reducible refine Kd.C_alloc ?_ _) | (with_reducible refine Kd.C_drewN ?_ _) | (with_reducible refine Kd.C_drew ?_))); (case side2 => exact HC0.out); rintro e w13 ⟨v296, rfl, ho0, hb⟩; have n0_ := Aside0.mk (Kd.R_elder' (by (with_reducible repeat (first | apply Kd.R_alloc | apply Kd.R_drewN | apply Kd.R_drew)); exact HO_9.out) (Kd.R_base ho0) hb); have n1_ := Aside0.mk (Kd.R_lower (Kd.R_new' ho0 (Kd.R_lt (by (with_reducible repeat (first | apply Kd.R_alloc | apply Kd.R_drewN | apply Kd.R_drew)); exact HO_9.out))) (below_size (by repeat (first | (with_reducible first | exact HB.out | apply below_alloc | apply pw_below_drewN | apply below_drew1) | exact HB.out)))); have n2_ := Aside0.mk (below_step (by repeat (first | (with_reducible first | exact HB.out | apply below_alloc | apply pw_below_drewN | apply below_drew1) | exact HB.out)) hb); clear HO_9; clear HB; have HO_9 := n0_; have HO297 := n1_; have HB := n2_; clear n0_ n1_ n2_; (try clear hb); (try clear hb2); (try clear hk); (try clear hi); (try clear ho0); obtain ⟨Ao14, co14, eo14⟩ := Kd.R_slice HO297.out; subst eo14; have p298 : 0 ≤ (1 : Int) := (by omega); have q298 : 1 < (t295.length : Int) := of_decide_eq_true (by first | (with_reducible assumption) | assumption); obtain ⟨ad298, e298, hx298_0⟩ := Kd.at_int (Kd.R_reads' HO297.out).2.2 1 p298 q298; cases e298; (try simp only [show (1 : Int).toNat = 1 from rfl, Nat.reduceMul, Nat.reduceEqDiff, Go.Addr.add, ↓reduceIte] at hx298_0); have qi298 : (1 < t295.length) = True := eq_true (by omega); (try rw [show ((1 : Int)).toNat = 1 from rfl] at hx298_0); replace p298 := eq_true p298; replace q298 := eq_true q298; have p299 : 0 ≤ (0 : Int) := (by omega); have q299 : 0 < (t295.length : Int) := of_decide_eq_true (by first | (with_reducible assumption) | assumption); obtain ⟨ad299, e299, hx299_0⟩ := Kd.at_int (Kd.R_reads' HO297.out).2.2 0 p299 q299; obtain rfl : ad298 = ad299 := (by injection e299); have qi299 : (0 < t295.length) = True := eq_true (by omega); (try rw [show ((0 : Int)).toNat = 0 from rfl] at hx299_0); (try rw [Addr.add_zero'] at hx299_0); replace p299 := eq_true p299; replace q299 := eq_true q299)); try go_wp2_with (first | (go_at_call 86; (with_reducible refine (spec_roPlaces.calls k1 _ _ l0 (rd t291 x11_1) t295 _ ?side1 ?side2 A9.out).mono ?_); (case side1 => repeat (first | exact (Kd.C_below HR0.out HB.out) | (with_reducible refine Kd.C_alloc ?_ _) | (with_reducible refine Kd.C_drewN ?_ _) | (with_reducible refine Kd.C_drew ?_))); (case side2 => exact HC0.out); rintro e w13 ⟨v296, rfl, ho0, hb⟩; have n0_ := Aside0.mk (Kd.R_elder' (by (with_reducible repeat (first | apply Kd.R_alloc | apply Kd.R_drewN | apply Kd.R_drew)); exact HO_9.out) (Kd.R_base ho0) hb); have n1_ := Aside0.mk (Kd.R_lower (Kd.R_new' ho0 (Kd.R_lt (by (with_reducible repeat (first | apply Kd.R_alloc | apply Kd.R_drewN | apply Kd.R_drew)); exact HO_9.out))) (below_size (by repeat (first | (with_reducible first | exact HB.out | apply below_alloc | apply pw_below_drewN | apply below_drew1) | exact HB.out)))); have n2_ := Aside0.mk (below_step (by repeat (first | (with_reducible first | exact HB.out | apply below_alloc | apply pw_below_drewN | apply below_drew1) | exact HB.out)) hb); clear HO_9; clear HB; have HO_9 := n0_; have HO297 := n1_; have HB := n2_; clear n0_ n1_ n2_; (try clear hb); (try clear hb2); (try clear hk); (try clear hi); (try clear ho0); obtain ⟨Ao14, co14, eo14⟩ := Kd.R_slice HO297.out; subst eo14; have p298 : 0 ≤ (1 : Int) := (by omega); have q298 : 1 < (t295.length : Int) := of_decide_eq_true (by first | (with_reducible assumption) | assumption); obtain ⟨ad298, e298, hx298_0⟩ := Kd.at_int (Kd.R_reads' HO297.out).2.2 1 p298 q298; cases e298; (try simp only [show (1 : Int).toNat = 1 from rfl, Nat.reduceMul, Nat.reduceEqDiff, Go.Addr.add, ↓reduceIte] at hx298_0); have qi298 : (1 < t295.length) = True := eq_true (by omega); (try rw [show ((1 : Int)).toNat = 1 from rfl] at hx298_0); replace p298 := eq_true p298; replace q298 := eq_true q298; have p299 : 0 ≤ (0 : Int) := (by omega); have q299 : 0 < (t295.length : Int) := of_decide_eq_true (by first | (with_reducible assumption) | assumption); obtain ⟨ad299, e299, hx299_0⟩ := Kd.at_int (Kd.R_reads' HO297.out).2.2 0 p299 q299; obtain rfl : ad298 = ad299 := (by injection e299); have qi299 : (0 < t295.length) = True := eq_true (by omega); (try rw [show ((0 : Int)).toNat = 0 from rfl] at hx299_0); (try rw [Addr.add_zero'] at hx299_0); replace p299 := eq_true p299; replace q299 := eq_true q299)))
                  go_roundg k1
                  case measure => have := HK1.out; omega
                  case rel => exact ⟨(wrap64 (x11_1 + 1)), (by first | rfl | (simp; done) | (simp [*]; done)), H', ⟨by have := HK1.out; omega⟩, ⟨by (with_reducible repeat (first | apply Kd.R_alloc | apply Kd.R_drewN | apply Kd.R_drew)); exact Kd.R_mono HO_9.out (fun _ hk => trivial)⟩, ⟨by repeat (first | (with_reducible first | exact HB.out | apply below_alloc | apply pw_below_drewN | apply below_drew1) | exact HB.out)⟩⟩
                · rw [if_neg c12] at H
                  have c12b0 : ((wrap64 ((rd t295 1) - (rd t295 0))) == (wrap64 ((rd t291 x11_1) + a1))) = false := beq_eq_false_iff_ne.mpr c12
                  have c12b1 : ((wrap64 ((rd t295 1) - (rd t295 0))) != (wrap64 ((rd t291 x11_1) + a1))) = true := bne_iff_ne.mpr c12
                  obtain rfl := Option.some.inj H
                  have p294 : 0 ≤ (x11_1 : Int) := of_decide_eq_true (by first | (with_reducible assumption) | assumption)
                  have q294 : x11_1 < (t291.length : Int) := of_decide_eq_true (by first | (with_reducible assumption) | assumption)
                  obtain ⟨ad294, e294, hx294_0⟩ := Kd.at_int (Kd.R_reads' HO_9.out).2.2 x11_1 p294 q294
                  cases e294
                  replace p294 := eq_true p294
                  replace q294 := eq_true q294
                  go_wp2_with (first | (go_at_call 86; (with_reducible refine (spec_roPlaces.calls k1 _ _ l0 (rd t291 x11_1) t295 _ ?side1 ?side2 A9.out).mono ?_); (case side1 => repeat (first | exact (Kd.C_below HR0.out HB.out) | (with_reducible refine Kd.C_alloc ?_ _) | (with_reducible refine Kd.C_drewN ?_ _) | (with_reducible refine Kd.C_drew ?_))); (case side2 => exact HC0.out); rintro e w15 ⟨v296, rfl, ho0, hb⟩; have n0_ := Aside0.mk (Kd.R_elder' (by (with_reducible repeat (first | apply Kd.R_alloc | apply Kd.R_drewN | apply Kd.R_drew)); exact HO_9.out) (Kd.R_base ho0) hb); have n1_ := Aside0.mk (Kd.R_lower (Kd.R_new' ho0 (Kd.R_lt (by (with_reducible repeat (first | apply Kd.R_alloc | apply Kd.R_drewN | apply Kd.R_drew)); exact HO_9.out))) (below_size (by repeat (first | (with_reducible first | exact HB.out | apply below_alloc | apply pw_below_drewN | apply below_drew1) | exact HB.out)))); have n2_ := Aside0.mk (below_step (by repeat (first | (with_reducible first | exact HB.out | apply below_alloc | apply pw_below_drewN | apply below_drew1) | exact HB.out)) hb); clear HO_9; clear HB; have HO_9 := n0_; have HO297 := n1_; have HB := n2_; clear n0_ n1_ n2_; (try clear hb); (try clear hb2); (try clear hk); (try clear hi); (try clear ho0); obtain ⟨Ao16, co16, eo16⟩ := Kd.R_slice HO297.out; subst eo16; have p298 : 0 ≤ (1 : Int) := (by omega); have q298 : 1 < (t295.length : Int) := of_decide_eq_true (by first | (with_reducible assumption) | assumption); obtain ⟨ad298, e298, hx298_0⟩ := Kd.at_int (Kd.R_reads' HO297.out).2.2 1 p298 q298; cases e298; (try simp only [show (1 : Int).toNat = 1 from rfl, Nat.reduceMul, Nat.reduceEqDiff, Go.Addr.add, ↓reduceIte] at hx298_0); have qi298 : (1 < t295.length) = True := eq_true (by omega); (try rw [show ((1 : Int)).toNat = 1 from rfl] at hx298_0); replace p298 := eq_true p298; replace q298 := eq_true q298; have p299 : 0 ≤ (0 : Int) := (by omega); have q299 : 0 < (t295.length : Int) := of_decide_eq_true (by first | (with_reducible assumption) | assumption); obtain ⟨ad299, e299, hx299_0⟩ := Kd.at_int (Kd.R_reads' HO297.out).2.2 0 p299 q299; obtain rfl : ad298 = ad299 := (by injection e299); have qi299 : (0 < t295.length) = True := eq_true (by omega); (try rw [show ((0 : Int)).toNat = 0 from rfl] at hx299_0); (try rw [Addr.add_zero'] at hx299_0); replace p299 := eq_true p299; replace q299 := eq_true q299))
                  repeat (go_quiet (first | (go_at_call 86; (with_reducible refine (spec_roPlaces.calls k1 _ _ l0 (rd t291 x11_1) t295 _ ?side1 ?side2 A9.out).mono ?_); (case side1 => repeat (first | exact (Kd.C_below HR0.out HB.out) | (with_reducible refine Kd.C_alloc ?_ _) | (with_reducible refine Kd.C_drewN ?_ _) | (with_reducible refine Kd.C_drew ?_))); (case side2 => exact HC0.out); rintro e w15 ⟨v296, rfl, ho0, hb⟩; have n0_ := Aside0.mk (Kd.R_elder' (by (with_reducible repeat (first | apply Kd.R_alloc | apply Kd.R_drewN | apply Kd.R_drew)); exact HO_9.out) (Kd.R_base ho0) hb); have n1_ := Aside0.mk (Kd.R_lower (Kd.R_new' ho0 (Kd.R_lt (by (with_reducible repeat (first | apply Kd.R_alloc | apply Kd.R_drewN | apply Kd.R_drew)); exact HO_9.out))) (below_size (by repeat (first | (with_reducible first | exact HB.out | apply below_alloc | apply pw_below_drewN | apply below_drew1) | exact HB.out)))); have n2_ := Aside0.mk (below_step (by repeat (first | (with_reducible first | exact HB.out | apply below_alloc | apply pw_below_drewN | apply below_drew1) | exact HB.out)) hb); clear HO_9; clear HB; have HO_9 := n0_; have HO297 := n1_; have HB := n2_; clear n0_ n1_ n2_; (try clear hb); (try clear hb2); (try clear hk); (try clear hi); (try clear ho0); obtain ⟨Ao16, co16, eo16⟩ := Kd.R_slice HO297.out; subst eo16; have p298 : 0 ≤ (1 : Int) := (by omega); have q298 : 1 < (t295.length : Int) := of_decide_eq_true (by first | (with_reducible assumption) | assumption); obtain ⟨ad298, e298, hx298_0⟩ := Kd.at_int (Kd.R_reads' HO297.out).2.2 1 p298 q298; cases e298; (try simp only [show (1 : Int).toNat = 1 from rfl, Nat.reduceMul, Nat.reduceEqDiff, Go.Addr.add, ↓reduceIte] at hx298_0); have qi298 : (1 < t295.length) = True := eq_true (by omega); (try rw [show ((1 : Int)).toNat = 1 from rfl] at hx298_0); replace p298 := eq_true p298; replace q298 := eq_true q298; have p299 : 0 ≤ (0 : Int) := (by omega); have q299 : 0 < (t295.length : Int) := of_decide_eq_true (by first | (with_reducible assumption) | assumption); obtain ⟨ad299, e299, hx299_0⟩ := Kd.at_int (Kd.R_reads' HO297.out).2.2 0 p299 q299; obtain rfl : ad298 = ad299 := (by injection e299); have qi299 : (0 < t295.length) = True := eq_true (by omega); (try rw [show ((0 : Int)).toNat = 0 from rfl] at hx299_0); (try rw [Addr.add_zero'] at hx299_0); replace p299 := eq_true p299; replace q299 := eq_true q299)); try go_wp2_with (first | (go_at_call 86; (with_reducible refine (spec_roPlaces.calls k1 _ _ l0 (rd t291 x11_1) t295 _ ?side1 ?side2 A9.out).mono ?_); (case side1 => repeat (first | exact (Kd.C_below HR0.out HB.out) | (with_reducible refine Kd.C_alloc ?_ _) | (with_reducible refine Kd.C_drewN ?_ _) | (with_reducible refine Kd.C_drew ?_))); (case side2 => exact HC0.out); rintro e w15 ⟨v296, rfl, ho0, hb⟩; have n0_ := Aside0.mk (Kd.R_elder' (by (with_reducible repeat (first | apply Kd.R_alloc | apply Kd.R_drewN | apply Kd.R_drew)); exact HO_9.out) (Kd.R_base ho0) hb); have n1_ := Aside0.mk (Kd.R_lower (Kd.R_new' ho0 (Kd.R_lt (by (with_reducible repeat (first | apply Kd.R_alloc | apply Kd.R_drewN | apply Kd.R_drew)); exact HO_9.out))) (below_size (by repeat (first | (with_reducible first | exact HB.out | apply below_alloc | apply pw_below_drewN | apply below_drew1) | exact HB.out)))); have n2_ := Aside0.mk (below_step (by repeat (first | (with_reducible first | exact HB.out | apply below_alloc | apply pw_below_drewN | apply below_drew1) | exact HB.out)) hb); clear HO_9; clear HB; have HO_9 := n0_; have HO297 := n1_; have HB := n2_; clear n0_ n1_ n2_; (try clear hb); (try clear hb2); (try clear hk); (try clear hi); (try clear ho0); obtain ⟨Ao16, co16, eo16⟩ := Kd.R_slice HO297.out; subst eo16; have p298 : 0 ≤ (1 : Int) := (by omega); have q298 : 1 < (t295.length : Int) := of_decide_eq_true (by first | (with_reducible assumption) | assumption); obtain ⟨ad298, e298, hx298_0⟩ := Kd.at_int (Kd.R_reads' HO297.out).2.2 1 p298 q298; cases e298; (try simp only [show (1 : Int).toNat = 1 from rfl, Nat.reduceMul, Nat.reduceEqDiff, Go.Addr.add, ↓reduceIte] at hx298_0); have qi298 : (1 < t295.length) = True := eq_true (by omega); (try rw [show ((1 : Int)).toNat = 1 from rfl] at hx298_0); replace p298 := eq_true p298; replace q298 := eq_true q298; have p299 : 0 ≤ (0 : Int) := (by omega); have q299 : 0 < (t295.length : Int) := of_decide_eq_true (by first | (with_reducible assumption) | assumption); obtain ⟨ad299, e299, hx299_0⟩ := Kd.at_int (Kd.R_reads' HO297.out).2.2 0 p299 q299; obtain rfl : ad298 = ad299 := (by injection e299); have qi299 : (0 < t295.length) = True := eq_true (by omega); (try rw [show ((0 : Int)).toNat = 0 from rfl] at hx299_0); (try rw [Addr.add_zero'] at hx299_0); replace p299 := eq_true p299; replace q299 := eq_true q299)))
                  go_ret
                  exact ⟨by first | rfl | (simp [errW_none, errW_some] <;> rfl) | (simp [*, errW_none, errW_some] <;> rfl), by repeat (first | (with_reducible first | exact HB.out | apply below_alloc | apply pw_below_drewN | apply below_drew1) | exact HB.out)⟩
              · rw [if_neg c11] at H
                exact absurd H (by simp)
            · rw [if_neg c10] at H
              exact absurd H (by simp)
          · rw [if_neg c8] at H
            exact absurd H (by simp)
        · rw [if_neg c7] at H
          exact absurd H (by simp)
      · rw [if_neg c6] at H
        have c6b0 : decide (x11_1 < (t291.length : Int)) = false := decide_eq_false c6
        clear c6
        obtain rfl := Option.some.inj H
        go_wp2
        repeat (go_quiet (fail); try go_wp2)
        go_ret
        exact ⟨by first | rfl | (simp [errW_none, errW_some] <;> rfl) | (simp [*, errW_none, errW_some] <;> rfl), by repeat (first | (with_reducible first | exact HB.out | apply below_alloc | apply pw_below_drewN | apply below_drew1) | exact HB.out)⟩

noncomputable def spec_roFits.L0 (x0 : List Int) (x1 : Int) (x9 : List Int) (x10 : Int) (x11 : Int) : Option (Bool) := lim fun k => spec_roFits.l0 k x0 x1 x9 x10 x11
theorem spec_roFits.L0_lim (x0 : List Int) (x1 : Int) (x9 : List Int) (x10 : Int) (x11 : Int) : Lim (fun k => spec_roFits.l0 k x0 x1 x9 x10 x11) (spec_roFits.L0 x0 x1 x9 x10 x11) := Lim.of fun k => (spec_roFits.mono_l k) x0 x1 x9 x10 x11
noncomputable def spec_roFits.F (l0 : List Int) (a1 : Int) : Option (Bool) := lim fun k => spec_roFits.f k l0 a1
theorem spec_roFits.F_lim (l0 : List Int) (a1 : Int) : Lim (fun k => spec_roFits.f k l0 a1) (spec_roFits.F l0 a1) := Lim.of fun k => spec_roFits.mono l0 a1 k
theorem spec_roFits.L0_eq (x0 : List Int) (x1 : Int) (x9 : List Int) (x10 : Int) (x11 : Int) : spec_roFits.L0 x0 x1 x9 x10 x11 = (if x11 < x10 then (if 0 ≤ x11 then (if x11 < (x9.length : Int) then ((spec_roPlaces.F x0 (rd x9 x11)).bind fun t295 => (if 1 < (t295.length : Int) then (if 0 < (t295.length : Int) then (if (wrap64 ((rd t295 1) - (rd t295 0))) = (wrap64 ((rd x9 x11) + x1)) then (spec_roFits.L0 x0 x1 x9 x10 (wrap64 (x11 + 1))) else (some false)) else (none)) else (none))) else (none)) else (none)) else (some true)) :=
  Lim.step (f := fun k => (if x11 < x10 then (if 0 ≤ x11 then (if x11 < (x9.length : Int) then ((spec_roPlaces.f k x0 (rd x9 x11)).bind fun t295 => (if 1 < (t295.length : Int) then (if 0 < (t295.length : Int) then (if (wrap64 ((rd t295 1) - (rd t295 0))) = (wrap64 ((rd x9 x11) + x1)) then (spec_roFits.l0 k x0 x1 x9 x10 (wrap64 (x11 + 1))) else (some false)) else (none)) else (none))) else (none)) else (none)) else (some true))) (spec_roFits.L0_lim x0 x1 x9 x10 x11) (fun k => by first | rfl | rw [spec_roFits.l0]) (by
    repeat' first
    | (with_reducible exact Lim.const _)
    | (with_reducible exact spec_roFits.L0_lim _ _ _ _ _)
    | (with_reducible exact spec_roPlaces.F_lim _ _)
    | (with_reducible refine Lim.ite ?_ ?_)
    | (with_reducible refine Lim.bind ?_ (fun _ => ?_)))
theorem spec_roFits.F_eq (l0 : List Int) (a1 : Int) : spec_roFits.F l0 a1 = ((spec_roNumbers.F l0).bind fun t291 => (spec_roFits.L0 l0 a1 t291 (t291.length : Int) 0)) :=
  Lim.unique (spec_roFits.F_lim l0 a1) (by
    unfold spec_roFits.f
    repeat' first
    | (with_reducible exact Lim.const _)
    | (with_reducible exact spec_roFits.L0_lim _ _ _ _ _)
    | (with_reducible exact spec_roNumbers.F_lim _)
    | (with_reducible refine Lim.ite ?_ ?_)
    | (with_reducible refine Lim.bind ?_ (fun _ => ?_)))

end Go.Proofs.Ytmhcgihkijiecaa.Fn
namespace Go.Proofs.Ytmhcgihkijiecaa.Fn
open Go.RowKit Go.Proofs.YtmhcgihkijiecaaW.PrintWords Go.Proofs.YtmhcgihkijiecaaW.PrintLast Go.Proofs.YtmhcgihkijiecaaW.PrintMore
attribute [local go_sem] max2_int min2_int max_two min_two max_three min_three max_four min_four   -- for this text's walks alone
set_option linter.unusedVariables false
set_option linter.unusedSimpArgs false

/-! ### impl_fits: function 63 (given) -/
/-- The distance of each number that stands twice is the number and the shift together. -/
def fitsAt (l : List Int) (s : Int) : Bool := (List.range 21).all fun n => !((atOf l n).length == 2 && (wrap64 (rd (atOf l n) 1 - rd (atOf l n) 0) != wrap64 ((n : Int) + s)))
def impl_fits.f (k : Nat) (l0 : List Int) (a1 : Int) : Option (Bool) := (impl_isPairs.f k l0).bind fun t1 => (if t1 = true then (some (fitsAt l0 a1)) else (some false))
theorem impl_fits.mono : ∀ a0 a1 k, LeO (impl_fits.f k a0 a1) (impl_fits.f (k + 1) a0 a1) := by
  intro a0 a1 k
  unfold impl_fits.f
  refine LeO.bind (impl_isPairs.mono _ _) (fun _ => LeO.refl _)
theorem impl_isPairs.f_row (k : Nat) (l : List Int) (hl : l.length ≤ 9223372036854775807) (h : impl_isPairs.f k l = some true) : l.length ≤ 40 ∧ ∀ x ∈ l, 0 ≤ x ∧ x ≤ 20 := by
  obtain ⟨t1, hA, h⟩ := Option.bind_eq_some_iff.1 h
  cases t1 with
  | false => rw [if_neg (by decide)] at h; simp at h
  | true => exact impl_IsRow.f_row k l hl hA
theorem arr21_R_setRow {B : Nat} {w : World} {v : Value} {l : List Int} (h : Kd.R (Kd.int .i64) 3 w B (fun _ => True) v l) (o : Obj) (cs : Array Value) : Kd.R (Kd.int .i64) 3 ((w.alloc o).setRow w.heap.size cs) B (fun _ => True) v l :=
  Kd.R_mono (Kd.R_step (Kd.R_bound h) (fun b hb _ => by rw [setRow_other _ _ _ _ (by have := hb.2.2.1; omega), Below.heap_alloc _ _ _ hb.2.2.1])) (fun _ hb => hb.1)
set_option maxHeartbeats 4000000 in
set_option maxRecDepth 100000 in
theorem impl_fits.calls (k : Nat) (A0 : Option Addr) (c0 : Nat) (l0 : List Int) (a1 : Int) (r : Bool) (w : World) (hr0 : Kd.C (Kd.int .i64) w A0 l0.length l0) (hc0 : l0.length ≤ c0) (h : impl_fits.f k l0 a1 = some r) :
    Calls Try.prog 63 #[.slice A0 l0.length c0, .int .i64 a1] w fun e w' => e = .returned (.bool r) ∧ Below w.heap.size w w' := by
  have HR0 := Aside0.mk hr0
  have HC0 := Aside0.mk hc0
  obtain ⟨t1, hA, h⟩ := Option.bind_eq_some_iff.1 h
  have A1 := Aside0.mk hA
  cases t1 with
  | false =>
    rw [if_neg (by decide)] at h
    obtain rfl := Option.some.inj h
    clear hr0 hc0 hA h
    go_enter Try.func63, Try.ntmps63
    go_wp2_with (first | (go_at_call 66; refine (impl_isPairs.calls k _ _ l0 false _ HR0.out HC0.out A1.out).mono ?_; rintro e w0 ⟨rfl, hB⟩; have HB := Aside0.mk hB; clear hB))
    go_ret
    exact ⟨rfl, HB.out⟩
  | true =>
    rw [if_pos rfl] at h
    obtain rfl := Option.some.inj h
    have HROW := Aside0.mk (impl_isPairs.f_row k l0 (cells_max hr0) hA)
    clear hr0 hc0 hA h
    have hu := Try.underlying68
    go_enter Try.func63, Try.ntmps63
    go_wp2_with (first | (go_at_call 66; refine (impl_isPairs.calls k _ _ l0 true _ HR0.out HC0.out A1.out).mono ?_; rintro e w0 ⟨rfl, hB⟩; have HB0 := Aside0.mk hB; clear hB) | (go_at_call 87; refine (impl_pairs.calls _ _ l0 _ (Kd.C_below HR0.out HB0.out) HROW.out.1 HROW.out.2).mono ?_; rintro e w1 ⟨V, rfl, hV, hB⟩; have HV := Aside0.mk hV; have HALL := Aside0.mk (arr21_oneCell hV); have HB := Aside0.mk (below_step HB0.out hB); clear hV hB) | ((with_reducible refine gate_store (t := 68) (p := 5) rfl ?_); refine wpList_store_row rfl 68 (.tmp 5) (.tmp 15) rfl w1.heap.size (arr21 V) rfl rfl 68 _ (heap_alloc_new _ _) (by rw [arr21_size]; kernel_rfl) (by rw [arr21_size]; rfl) HALL.out ?_) | ((with_reducible refine gate_dst (N := 17) rfl ?_); refine wpList_load_row rfl 68 (.tmp 5) rfl w1.heap.size rfl 68 (arr21 V) (0, 0) _ (setRow_heap _ _ _ _ _ _ (heap_alloc_new _ _)) hu rfl (by rw [arr21_size]; kernel_rfl) ?_))
    have hW1 := below_setRow (below_alloc HB.out (.cells #[.slice none 0 0, .slice none 0 0, .slice none 0 0, .slice none 0 0, .slice none 0 0, .slice none 0 0, .slice none 0 0, .slice none 0 0, .slice none 0 0, .slice none 0 0, .slice none 0 0, .slice none 0 0, .slice none 0 0, .slice none 0 0, .slice none 0 0, .slice none 0 0, .slice none 0 0, .slice none 0 0, .slice none 0 0, .slice none 0 0, .slice none 0 0] 68)) (below_size HB.out) (arr21 V)
    have hW2 := fun k hk => arr21_R_setRow (HV.out k hk) (.cells #[.slice none 0 0, .slice none 0 0, .slice none 0 0, .slice none 0 0, .slice none 0 0, .slice none 0 0, .slice none 0 0, .slice none 0 0, .slice none 0 0, .slice none 0 0, .slice none 0 0, .slice none 0 0, .slice none 0 0, .slice none 0 0, .slice none 0 0, .slice none 0 0, .slice none 0 0, .slice none 0 0, .slice none 0 0, .slice none 0 0, .slice none 0 0] 68) (arr21 V)
    generalize World.setRow _ w1.heap.size (arr21 V) = W at hW1 hW2 ⊢
    have HW1 := Aside0.mk hW1
    have HW2 := Aside0.mk hW2
    clear hW1 hW2 HV HB HALL
    go_loopw [18] (fun i wr => ∃ j : Nat, j ≤ 21 ∧ i = .int .i64 j ∧ Aside0 (Drawn0 W wr) ∧ Aside0 (∀ q, q < j → (!((atOf l0 q).length == 2 && (wrap64 (rd (atOf l0 q) 1 - rd (atOf l0 q) 0) != wrap64 ((q : Int) + a1)))) = true)) (fun i _ => 21 - (intOf i).toNat)
    case atStart => exact ⟨0, by omega, rfl, ⟨Drawn0.refl _⟩, ⟨fun q hq => by omega⟩⟩
    case round =>
      obtain ⟨j, hj, rfl, HD, HQ⟩ := hrel
      obtain ⟨⟨nd2, rfl⟩⟩ := HD
      by_cases hlt : j < 21
      · by_cases h2 : (atOf l0 j).length = 2
        · obtain ⟨g, cap, hv, _, hg, cells, hh⟩ := Kd.R_form (HW2.out j hlt) (by omega)
          have hR := HW2.out j hlt
          have hix := fun U => run_index_arr21 U V j hlt (own_oneCell hR)
          rw [hv] at hR
          rw [hv, h2] at hix
          have hx0 := (Kd.R_celln 0 hR 0 (by omega) (by omega)).1
          have hx1 := (Kd.R_celln 0 hR 1 (by omega) (by omega)).1
          have b2 : ((2 : Int) == 2) = true := rfl
          generalize e0 : rd (atOf l0 j) 0 = x0
          generalize e1 : rd (atOf l0 j) 1 = x1
          replace hx0 : W.cell? ⟨g, 0, none⟩ = some (.int .i64 x0) := by rw [← e0]; exact hx0
          replace hx1 : W.cell? ⟨g, 1, none⟩ = some (.int .i64 x1) := by rw [← e1]; exact hx1
          have H2 := Aside0.mk h2
          have E0 := Aside0.mk e0
          have E1 := Aside0.mk e1
          clear hR hv hh hg h2 e0 e1
          by_cases hne : wrap64 (x1 - x0) = wrap64 ((j : Int) + a1)
          · have b3 : (wrap64 (x1 - x0) != wrap64 ((j : Int) + a1)) = false := bne_eq_false_iff_eq.mpr hne
            clear hne
            have B3 := Aside0.mk b3
            go_wp2_with fail
            go_quiet (fail)
            go_wp2_with fail
            go_roundw
            case rel => exact ⟨j + 1, by omega, by go_num, by (first | exact ⟨⟨⟨_, rfl⟩⟩⟩ | exact ⟨⟨⟨_, World.drewN_drewN ..⟩⟩⟩), ⟨fun q hq => by
              by_cases e : q = j
              · subst e
                rw [E0.out, E1.out, B3.out, Bool.and_false]
                rfl
              · exact HQ.out q (by omega)⟩⟩
            case measure => simp [intOf]; omega
          · have b3 : (wrap64 (x1 - x0) != wrap64 ((j : Int) + a1)) = true := bne_iff_ne.mpr hne
            clear hne
            have HNO := Aside0.mk (show fitsAt l0 a1 = false from by
              unfold fitsAt
              rw [List.all_eq_false]
              exact ⟨j, List.mem_range.2 hlt, by rw [E0.out, E1.out, b3, H2.out]; decide⟩)
            go_wp2_with fail
            go_quiet (fail)
            go_wp2_with fail
            go_ret
            exact ⟨by rw [HNO.out]; rfl, by repeat (first | exact HW1.out | apply pw_below_drewN)⟩
        · obtain ⟨A, cap, hv⟩ := Kd.R_slice (HW2.out j hlt)
          have hix := fun U => run_index_arr21 U V j hlt (own_oneCell (HW2.out j hlt))
          rw [hv] at hix
          have b2 : (((atOf l0 j).length : Int) == 2) = false := by rw [beq_eq_false_iff_ne]; omega
          have B2 := Aside0.mk (show ((atOf l0 j).length == 2) = false from by rw [beq_eq_false_iff_ne]; exact h2)
          clear h2 hv
          go_wp2_with fail
          go_quiet (fail)
          go_wp2_with fail
          go_roundw
          case rel => exact ⟨j + 1, by omega, by go_num, by (first | exact ⟨⟨⟨_, rfl⟩⟩⟩ | exact ⟨⟨⟨_, World.drewN_drewN ..⟩⟩⟩), ⟨fun q hq => by
            by_cases e : q = j
            · subst e
              rw [B2.out, Bool.false_and]
              rfl
            · exact HQ.out q (by omega)⟩⟩
          case measure => simp [intOf]; omega
      · have HYES := Aside0.mk (show fitsAt l0 a1 = true from by
          unfold fitsAt
          rw [List.all_eq_true]
          intro q hq
          exact HQ.out q (by have := List.mem_range.1 hq; omega))
        go_wp2_with fail
        go_ret
        exact ⟨by rw [HYES.out]; rfl, by repeat (first | exact HW1.out | apply pw_below_drewN)⟩

noncomputable def impl_fits.F (l0 : List Int) (a1 : Int) : Option (Bool) := lim fun k => impl_fits.f k l0 a1
theorem impl_fits.F_lim (l0 : List Int) (a1 : Int) : Lim (fun k => impl_fits.f k l0 a1) (impl_fits.F l0 a1) := Lim.of fun k => impl_fits.mono l0 a1 k
theorem impl_fits.F_eq (l0 : List Int) (a1 : Int) : impl_fits.F l0 a1 = ((impl_isPairs.F l0).bind fun t1 => (if t1 = true then (some (fitsAt l0 a1)) else (some false))) :=
  Lim.unique (impl_fits.F_lim l0 a1) (by
    unfold impl_fits.f
    repeat' first
    | (with_reducible exact Lim.const _)
    | (with_reducible exact impl_isPairs.F_lim _)
    | (with_reducible refine Lim.ite ?_ ?_)
    | (with_reducible refine Lim.bind ?_ (fun _ => ?_)))

end Go.Proofs.Ytmhcgihkijiecaa.Fn
namespace Go.Proofs.Ytmhcgihkijiecaa.Fn
open Go.RowKit Go.Proofs.YtmhcgihkijiecaaW.PrintWords Go.Proofs.YtmhcgihkijiecaaW.PrintLast Go.Proofs.YtmhcgihkijiecaaW.PrintMore
attribute [local go_sem] max2_int min2_int max_two min_two max_three min_three max_four min_four   -- for this text's walks alone
set_option linter.unusedVariables false
set_option linter.unusedSimpArgs false

/-! ### impl_numbers: function 95 -/
def impl_numbers.l0 : Nat → List Int → List Int → Int → Option (List Int)
  | 0, _, _, _ => none
  | k + 1, x0, x3, x4 => if x4 ≤ 20 then ((slices_Contains_int_int.f k x0 x4).bind fun t459 => (if t459 = true then (if x3.length < 17592186044416 then (impl_numbers.l0 k x0 (x3 ++ [x4]) (wrap64 (x4 + 1))) else (none)) else (impl_numbers.l0 k x0 x3 (wrap64 (x4 + 1))))) else (some x3)
def impl_numbers.f (k : Nat) (l0 : List Int) : Option (List Int) := impl_numbers.l0 k l0 ([] : List Int) 1
theorem impl_numbers.mono_l : ∀ k, (∀ y0 y1 y2, LeO (impl_numbers.l0 k y0 y1 y2) (impl_numbers.l0 (k + 1) y0 y1 y2))
  | 0 => fun _ _ _ r h => by simp [impl_numbers.l0] at h
  | k + 1 => by
    have ih0 := impl_numbers.mono_l k
    · intro y0 y1 y2
      unfold impl_numbers.l0
      repeat' first
      | (with_reducible exact ih0 _ _ _)
      | (with_reducible exact slices_Contains_int_int.mono _ _ _)
      | (with_reducible exact LeO.refl _)
      | (with_reducible exact LeO.none _)
      | (with_reducible refine LeO.ite ?_ ?_)
      | (with_reducible refine LeO.bind ?_ (fun _ => ?_))
      | exact ih0 _ _ _
      | exact slices_Contains_int_int.mono _ _ _
      | exact LeO.none _
      | refine LeO.ite ?_ ?_
      | refine LeO.bind ?_ (fun _ => ?_)
theorem impl_numbers.mono : ∀ a0 k, LeO (impl_numbers.f k a0) (impl_numbers.f (k + 1) a0) := by
  intro a0 k
  have ih0 := impl_numbers.mono_l k
  unfold impl_numbers.f
  repeat' first
      | (with_reducible exact ih0 _ _ _)
      | (with_reducible exact slices_Contains_int_int.mono _ _ _)
      | (with_reducible exact LeO.refl _)
      | (with_reducible exact LeO.none _)
      | (with_reducible refine LeO.ite ?_ ?_)
      | (with_reducible refine LeO.bind ?_ (fun _ => ?_))
      | exact ih0 _ _ _
      | exact slices_Contains_int_int.mono _ _ _
      | exact LeO.none _
      | refine LeO.ite ?_ ?_
      | refine LeO.bind ?_ (fun _ => ?_)
set_option maxHeartbeats 8000000 in
set_option maxRecDepth 100000 in
theorem impl_numbers.calls (k : Nat) (A0 : Option Addr) (c0 : Nat) (l0 : List Int) (r : List Int) (w : World) (hr0 : Kd.C (Kd.int .i64) w A0 l0.length l0) (hc0 : l0.length ≤ c0) (h : impl_numbers.f k l0 = some r) :
    Calls Try.prog 95 #[.slice A0 l0.length c0] w fun e w' => ∃ v0_ : Value, e = .returned (v0_) ∧ Kd.R (Kd.int .i64) 3 w' w.heap.size (fun _ => True) v0_ r ∧ Below w.heap.size w w' := by
  have HR0 := Aside0.mk hr0
  have HC0 := Aside0.mk hc0
  clear hr0 hc0
  have HB := Aside0.mk (Below.refl w.heap.size w)
  have H : (impl_numbers.l0 k l0 ([] : List Int) 1) = some r := h
  clear h
  have H' := Aside0.mk H
  clear H
  go_enter Try.func95, Try.ntmps95
  go_wp2
  go_loopg [3, 4] k (fun kq v3 v4 w' => ∃ (x3_1 : List Int) (x4_1 : Int), v4 = .int .i64 x4_1 ∧ Aside0 (impl_numbers.l0 kq l0 x3_1 x4_1 = some r) ∧ Aside0 (kq ≤ k) ∧ Aside0 (Kd.R (Kd.int .i64) 3 w' w.heap.size (fun _ => True) v3 x3_1) ∧ Aside0 (Below w.heap.size w w'))
  case atStart => exact ⟨(([] : List Int)), (1), (by first | rfl | (simp; done) | (simp [*]; done)), H', ⟨Nat.le_refl _⟩, ⟨by first | exact Kd.R_nil _ _ _ _ _ | exact Kd.N_nil _ _ _ _ _ | exact Kd.V_nil _ _ _ _ _ | exact Kd.Q_nil _ _ _ _ _ | exact Kd.S_nil _ _ _ _ _⟩, ⟨by repeat (first | (with_reducible first | exact HB.out | apply below_alloc | apply pw_below_drewN | apply below_drew1) | exact HB.out)⟩⟩
  case round =>
    clear H'
    obtain ⟨x3_1, x4_1, rfl, HA, HK1, HO_3, HB⟩ := hrel
    cases gk with
    | zero => exact absurd HA.out (by simp [impl_numbers.l0])
    | succ k1 =>
      have H := HA.out
      clear HA
      simp only [impl_numbers.l0] at H
      by_cases c2 : x4_1 ≤ 20
      · rw [if_pos c2] at H
        have c2b0 : decide (x4_1 ≤ 20) = true := decide_eq_true c2
        clear c2
        replace H := Option.bind_eq_some_iff.mp H
        obtain ⟨t459, A30, H⟩ := H
        replace H : (if t459 = true then (if x3_1.length < 17592186044416 then (impl_numbers.l0 k1 l0 (x3_1 ++ [x4_1]) (wrap64 (x4_1 + 1))) else (none)) else (impl_numbers.l0 k1 l0 x3_1 (wrap64 (x4_1 + 1)))) = some r := H
        have A3 := Aside0.mk A30
        clear A30
        by_cases c4 : t459 = true
        · subst c4
          have H1 : (if x3_1.length < 17592186044416 then (impl_numbers.l0 k1 l0 (x3_1 ++ [x4_1]) (wrap64 (x4_1 + 1))) else (none)) = some r := by rw [if_pos rfl] at H; exact H
          clear H
          have H := H1
          clear H1
          by_cases c5 : x3_1.length < 17592186044416
          · rw [if_pos c5] at H
            have LMc5 := Aside0.mk c5
            clear c5
            obtain ⟨y460, hy460⟩ : ∃ y_ : List Int, y_ = (x3_1 ++ [x4_1]) := ⟨_, rfl⟩
            replace H : (impl_numbers.l0 k1 l0 y460 (wrap64 (x4_1 + 1))) = some r := by first | (rw [hy460]; with_reducible exact H) | (have H2_ := (Option.bind_some _ _).symm.trans H; rw [hy460]; with_reducible exact H2_) | (have H2_ := (Option.bind_some _ _).symm.trans H; with_reducible exact H2_) | with_reducible exact H | (rw [hy460]; exact H) | exact H
            have Ny460 := Aside0.mk hy460
            clear hy460
            have H' := Aside0.mk H
            clear H
            go_wp2_with (first | ((with_reducible refine gate_callee (f := 67) rfl ?_); refine goesL_ (some 11) rfl rfl Try.func67 (by kernel_rfl) rfl #[.slice A0 l0.length c0, .int .i64 x4_1] rfl (by (try simp only [List.map_toArray, List.map_cons, List.map_nil]); first | done | rfl | (simp only [List.length_drop, List.length_take]; rfl)) ?_; (with_reducible refine (slices_Contains_int_int.calls k1 _ _ l0 x4_1 true _ ?side1 ?side2 A3.out).mono ?_); (case side1 => repeat (first | exact (Kd.C_below HR0.out HB.out) | (with_reducible refine Kd.C_alloc ?_ _) | (with_reducible refine Kd.C_drewN ?_ _) | (with_reducible refine Kd.C_drew ?_))); (case side2 => exact HC0.out); rintro e w' ⟨rfl, ⟨nd, rfl⟩⟩; refine ⟨_, rfl, ?_⟩) | ((with_reducible refine gate_builtin (b := .append) (xs := #[.tmp 12, .tmp 14]) rfl ?_); at_builtin; refine Kd.R_append (Kd.int .i64) (w0 := w) w.heap.size rfl (.tmp 12) (.tmp 14) 25 3 (.int .i64 0) 8 rfl Try.underlying25 info3 rfl (by decide) (by omega) u3 x3_1 x4_1 [.int .i64 x4_1] (fun _ => True) (fun _ => False) rfl rfl ?aP (fun _ hk => hk.elim) ?aF ?aO ?aB ?aS ?aL ?_; (case aP => exact rfl); (case aB => exact (by repeat (first | (with_reducible first | exact HB.out | apply below_alloc | apply pw_below_drewN | apply below_drew1) | exact HB.out))); (case aF => exact (fun _ _ => trivial)); (case aO => exact (by (with_reducible repeat (first | apply Kd.R_alloc | apply Kd.R_drewN | apply Kd.R_drew)); exact HO_3.out)); (case aS => exact (below_size (by repeat (first | (with_reducible first | exact HB.out | apply below_alloc | apply pw_below_drewN | apply below_drew1) | exact HB.out)))); (case aL => have := LMc5.out; omega); intro v461 w6 ho hb hg hat; rw [← Ny460.out] at ho; have n0_ := Aside0.mk (hb); have n1_ := Aside0.mk (ho); clear HB; clear HO_3; have HB := n0_; have HO462 := n1_; clear n0_ n1_; clear ho hb hg hat))
            go_roundg k1
            case measure => have := HK1.out; omega
            case rel => exact ⟨(y460), (wrap64 (x4_1 + 1)), (by first | rfl | (simp; done) | (simp [*]; done)), H', ⟨by have := HK1.out; omega⟩, ⟨by (with_reducible repeat (first | apply Kd.R_alloc | apply Kd.R_drewN | apply Kd.R_drew)); exact HO462.out⟩, ⟨by repeat (first | (with_reducible first | exact HB.out | apply below_alloc | apply pw_below_drewN | apply below_drew1) | exact HB.out)⟩⟩
          · rw [if_neg c5] at H
            exact absurd H (by simp)
        · replace c4 := Bool.eq_false_iff.mpr c4
          subst c4
          have H1 : (impl_numbers.l0 k1 l0 x3_1 (wrap64 (x4_1 + 1))) = some r := by rw [if_neg (show ¬ (false = true) by decide)] at H; exact H
          clear H
          have H := H1
          clear H1
          have H' := Aside0.mk H
          clear H
          go_wp2_with (first | ((with_reducible refine gate_callee (f := 67) rfl ?_); refine goesL_ (some 11) rfl rfl Try.func67 (by kernel_rfl) rfl #[.slice A0 l0.length c0, .int .i64 x4_1] rfl (by (try simp only [List.map_toArray, List.map_cons, List.map_nil]); first | done | rfl | (simp only [List.length_drop, List.length_take]; rfl)) ?_; (with_reducible refine (slices_Contains_int_int.calls k1 _ _ l0 x4_1 false _ ?side1 ?side2 A3.out).mono ?_); (case side1 => repeat (first | exact (Kd.C_below HR0.out HB.out) | (with_reducible refine Kd.C_alloc ?_ _) | (with_reducible refine Kd.C_drewN ?_ _) | (with_reducible refine Kd.C_drew ?_))); (case side2 => exact HC0.out); rintro e w' ⟨rfl, ⟨nd, rfl⟩⟩; refine ⟨_, rfl, ?_⟩))
          go_roundg k1
          case measure => have := HK1.out; omega
          case rel => exact ⟨(x3_1), (wrap64 (x4_1 + 1)), (by first | rfl | (simp; done) | (simp [*]; done)), H', ⟨by have := HK1.out; omega⟩, ⟨by (with_reducible repeat (first | apply Kd.R_alloc | apply Kd.R_drewN | apply Kd.R_drew)); exact HO_3.out⟩, ⟨by repeat (first | (with_reducible first | exact HB.out | apply below_alloc | apply pw_below_drewN | apply below_drew1) | exact HB.out)⟩⟩
      · rw [if_neg c2] at H
        have c2b0 : decide (x4_1 ≤ 20) = false := decide_eq_false c2
        clear c2
        obtain rfl := Option.some.inj H
        go_wp2
        go_ret
        exact ⟨_, by first | rfl | (simp [errW_none, errW_some] <;> rfl) | (simp [*, errW_none, errW_some] <;> rfl), by (with_reducible repeat (first | apply Kd.R_alloc | apply Kd.R_drewN | apply Kd.R_drew)); exact HO_3.out, by repeat (first | (with_reducible first | exact HB.out | apply below_alloc | apply pw_below_drewN | apply below_drew1) | exact HB.out)⟩

noncomputable def impl_numbers.L0 (x0 : List Int) (x3 : List Int) (x4 : Int) : Option (List Int) := lim fun k => impl_numbers.l0 k x0 x3 x4
theorem impl_numbers.L0_lim (x0 : List Int) (x3 : List Int) (x4 : Int) : Lim (fun k => impl_numbers.l0 k x0 x3 x4) (impl_numbers.L0 x0 x3 x4) := Lim.of fun k => (impl_numbers.mono_l k) x0 x3 x4
noncomputable def impl_numbers.F (l0 : List Int) : Option (List Int) := lim fun k => impl_numbers.f k l0
theorem impl_numbers.F_lim (l0 : List Int) : Lim (fun k => impl_numbers.f k l0) (impl_numbers.F l0) := Lim.of fun k => impl_numbers.mono l0 k
theorem impl_numbers.L0_eq (x0 : List Int) (x3 : List Int) (x4 : Int) : impl_numbers.L0 x0 x3 x4 = (if x4 ≤ 20 then ((slices_Contains_int_int.F x0 x4).bind fun t459 => (if t459 = true then (if x3.length < 17592186044416 then (impl_numbers.L0 x0 (x3 ++ [x4]) (wrap64 (x4 + 1))) else (none)) else (impl_numbers.L0 x0 x3 (wrap64 (x4 + 1))))) else (some x3)) :=
  Lim.step (f := fun k => (if x4 ≤ 20 then ((slices_Contains_int_int.f k x0 x4).bind fun t459 => (if t459 = true then (if x3.length < 17592186044416 then (impl_numbers.l0 k x0 (x3 ++ [x4]) (wrap64 (x4 + 1))) else (none)) else (impl_numbers.l0 k x0 x3 (wrap64 (x4 + 1))))) else (some x3))) (impl_numbers.L0_lim x0 x3 x4) (fun k => by first | rfl | rw [impl_numbers.l0]) (by
    repeat' first
    | (with_reducible exact Lim.const _)
    | (with_reducible exact impl_numbers.L0_lim _ _ _)
    | (with_reducible exact slices_Contains_int_int.F_lim _ _)
    | (with_reducible refine Lim.ite ?_ ?_)
    | (with_reducible refine Lim.bind ?_ (fun _ => ?_)))
theorem impl_numbers.F_eq (l0 : List Int) : impl_numbers.F l0 = (impl_numbers.L0 l0 ([] : List Int) 1) :=
  Lim.unique (impl_numbers.F_lim l0) (by
    unfold impl_numbers.f
    repeat' first
    | (with_reducible exact Lim.const _)
    | (with_reducible exact impl_numbers.L0_lim _ _ _)
    | (with_reducible refine Lim.ite ?_ ?_)
    | (with_reducible refine Lim.bind ?_ (fun _ => ?_)))

end Go.Proofs.Ytmhcgihkijiecaa.Fn
namespace Go.Proofs.Ytmhcgihkijiecaa.Fn
open Go.RowKit Go.Proofs.YtmhcgihkijiecaaW.PrintWords Go.Proofs.YtmhcgihkijiecaaW.PrintLast Go.Proofs.YtmhcgihkijiecaaW.PrintMore
set_option linter.unusedVariables false
set_option linter.unusedSimpArgs false
theorem placesFrom_count (n : Int) : ∀ (l : List Int) (i : Nat), (placesFrom n i l).length = l.count n
  | [], i => by simp [placesFrom]
  | x :: l, i => by
    have ih := placesFrom_count n l (i + 1)
    by_cases h : x = n
    · subst h
      simp [placesFrom, ih]
    · simp [placesFrom, h, ih]
theorem placesOf_count (l : List Int) (n : Int) : (placesOf l n).length = l.count n := placesFrom_count n l 0
theorem pairsOk_eq (l : List Int) : pairsOk l = (List.range' 1 20).all fun k => (placesOf l (k : Nat)).length == 0 || (placesOf l (k : Nat)).length == 2 := by
  unfold pairsOk
  rw [show List.range 21 = 0 :: List.range' 1 20 from rfl, List.all_cons]
  simp only [atOf, if_true, List.length_nil, beq_self_eq_true, Bool.true_or, Bool.true_and]
  rw [Bool.eq_iff_iff, List.all_eq_true, List.all_eq_true]
  have hk : ∀ k, k ∈ List.range' 1 20 → ¬ k = 0 := fun k hk => by have := List.mem_range'_1.1 hk; omega
  exact ⟨fun H k h => by have := H k h; rw [if_neg (hk k h)] at this; exact this, fun H k h => by rw [if_neg (hk k h)]; exact H k h⟩
theorem pairsOk_count {l : List Int} (h : pairsOk l = true) (k : Nat) (h1 : 1 ≤ k) (h2 : k ≤ 20) : l.count (k : Int) = 0 ∨ l.count (k : Int) = 2 := by
  rw [pairsOk_eq, List.all_eq_true] at h
  have := h k (List.mem_range'_1.2 (by omega))
  rw [placesOf_count] at this
  simpa using this
/-- The numbers of a row, from n on, m of them looked at. -/
def numbersFrom (l : List Int) (n m : Nat) : List Int := ((List.range' n m).filter (fun k : Nat => decide ((k : Int) ∈ l))).map (fun k : Nat => (k : Int))
def numbersOf (l : List Int) : List Int := numbersFrom l 1 20
theorem numbersFrom_length (l : List Int) (n m : Nat) : (numbersFrom l n m).length ≤ m := by
  unfold numbersFrom
  have := List.length_filter_le (fun k : Nat => decide ((k : Int) ∈ l)) (List.range' n m)
  simp at this ⊢
  exact this
theorem mem_numbersOf (l : List Int) (v : Int) : v ∈ numbersOf l ↔ v ∈ l ∧ 1 ≤ v ∧ v ≤ 20 := by
  simp only [numbersOf, numbersFrom, List.mem_map, List.mem_filter, List.mem_range'_1, decide_eq_true_eq]
  constructor
  · rintro ⟨k, ⟨hi, hk⟩, rfl⟩
    exact ⟨hk, by omega, by omega⟩
  · rintro ⟨h, h1, h2⟩
    refine ⟨v.toNat, ⟨by omega, ?_⟩, by omega⟩
    rwa [Int.toNat_of_nonneg (by omega)]
theorem fitsAt_eq (l : List Int) (s : Int) (h : pairsOk l = true) : fitsAt l s = (numbersOf l).all fun v => wrap64 (rd (placesOf l v) 1 - rd (placesOf l v) 0) == wrap64 (v + s) := by
  unfold fitsAt
  rw [Bool.eq_iff_iff, List.all_eq_true, List.all_eq_true]
  constructor
  · intro H v hv
    obtain ⟨h1, h2, h3⟩ := (mem_numbersOf l v).1 hv
    obtain ⟨k, rfl⟩ : ∃ k : Nat, v = (k : Int) := ⟨v.toNat, by omega⟩
    have hk := H k (by simp; omega)
    have hz : ¬ k = 0 := by omega
    rw [atOf, if_neg hz, placesOf_count] at hk
    have h5 : 0 < l.count (k : Int) := List.count_pos_iff.2 h1
    rcases pairsOk_count h k (by omega) (by omega) with h4 | h4
    · omega
    · rw [h4] at hk
      simpa using hk
  · intro H k hk
    by_cases hz : k = 0
    · subst hz
      rfl
    · rw [atOf, if_neg hz, placesOf_count]
      by_cases h4 : l.count (k : Int) = 2
      · have h5 : (k : Int) ∈ l := List.count_pos_iff.1 (by omega)
        have := H k ((mem_numbersOf l k).2 ⟨h5, by omega, by simp at hk; omega⟩)
        rw [h4]
        simpa using this
      · rw [beq_false_of_ne h4]
        rfl
/-- A row in which each number stands twice or not at all. -/
def isPairs (l : List Int) : Bool := isRow l && pairsOk l
theorem isPairs_row {l : List Int} (h : isPairs l = true) : isRow l = true := by
  unfold isPairs at h
  exact (Bool.and_eq_true_iff.1 h).1
theorem isPairs_ok {l : List Int} (h : isPairs l = true) : pairsOk l = true := by
  unfold isPairs at h
  exact (Bool.and_eq_true_iff.1 h).2
theorem spec_roPlaces.L0_val (n : Int) : ∀ (suf pre acc : List Int), (pre ++ suf).length < 4611686018427387904 → acc.length + suf.length < 17592186044416 → spec_roPlaces.L0 n acc (pre ++ suf) ((pre ++ suf).length : Int) (pre.length : Int) = some (acc ++ placesFrom n pre.length suf)
  | [], pre, acc, h, ha => by
    rw [spec_roPlaces.L0_eq, range_end]
    simp [placesFrom]
  | x :: suf, pre, acc, h, ha => by
    have ha' : acc.length + (suf.length + 1) < 17592186044416 := by simpa using ha
    have e : (pre ++ [x]).length = pre.length + 1 := by simp
    rw [spec_roPlaces.L0_eq, range_step, rd_mid, wrap_mid h, app_mid pre x suf]
    by_cases h1 : x = n
    · rw [if_pos h1, if_pos (by omega), spec_roPlaces.L0_val n suf (pre ++ [x]) _ (by simpa using h) (by simp; omega), e]
      simp [placesFrom, h1]
    · rw [if_neg h1, spec_roPlaces.L0_val n suf (pre ++ [x]) _ (by simpa using h) (by omega), e]
      simp [placesFrom, h1]
theorem spec_roPlaces.F_val (l : List Int) (n : Int) (h : l.length < 17592186044416) : spec_roPlaces.F l n = some (placesOf l n) := by
  rw [spec_roPlaces.F_eq]
  have := spec_roPlaces.L0_val n l [] [] (by simp; omega) (by simpa using h)
  simpa [placesOf] using this
theorem spec_roPairs.L0_val (l : List Int) (hl : l.length < 17592186044416) : ∀ (m n : Nat), n + m = 21 → spec_roPairs.L0 l (n : Int) = some ((List.range' n m).all fun k => (placesOf l (k : Nat)).length == 0 || (placesOf l (k : Nat)).length == 2)
  | 0, n, h => by
    rw [spec_roPairs.L0_eq, if_neg (by omega)]
    rfl
  | m + 1, n, h => by
    have e : wrap64 ((n : Int) + 1) = ((n + 1 : Nat) : Int) := by rw [wrap_in (by omega) (by omega)]; omega
    rw [spec_roPairs.L0_eq, if_pos (by omega), spec_roPlaces.F_val l n hl]
    simp only [Option.bind_some]
    rw [e, spec_roPairs.L0_val l hl m (n + 1) (by omega), List.range'_succ, List.all_cons]
    by_cases h0 : (placesOf l n).length = 0
    · rw [if_pos (by omega), beq_iff_eq.2 h0]
      rfl
    · rw [if_neg (by omega), beq_false_of_ne h0]
      by_cases h2 : (placesOf l n).length = 2
      · rw [if_pos (by omega), beq_iff_eq.2 h2]
        rfl
      · rw [if_neg (by omega), beq_false_of_ne h2]
        rfl
theorem spec_roPairs.F_val (l : List Int) (hl : l.length < 17592186044416) : spec_roPairs.F l = some (pairsOk l) := by
  rw [spec_roPairs.F_eq, pairsOk_eq]
  exact spec_roPairs.L0_val l hl 20 1 (by omega)
theorem spec_roIs.F_val (l : List Int) (h : l.length < 17592186044416) : spec_roIs.F l = some (isPairs l) := by
  rw [spec_roIs.F_eq, spec_roGood.F_val l (by omega)]
  simp only [Option.bind_some]
  unfold isPairs
  by_cases h1 : isRow l = true
  · rw [if_pos h1, spec_roPairs.F_val l h, h1]
    rfl
  · rw [if_neg h1, Bool.eq_false_iff.2 h1]
    rfl
theorem impl_isPairs.F_val (l : List Int) (h : l.length < 4611686018427387904) : impl_isPairs.F l = some (isPairs l) := by
  rw [impl_isPairs.F_eq, impl_IsRow.F_val l h]
  simp only [Option.bind_some]
  unfold isPairs
  by_cases h1 : isRow l = true
  · rw [if_pos h1, h1]
    rfl
  · rw [if_neg h1, Bool.eq_false_iff.2 h1]
    rfl
theorem impl_fits.F_val (l : List Int) (s : Int) (h : l.length < 4611686018427387904) : impl_fits.F l s = some (isPairs l && fitsAt l s) := by
  rw [impl_fits.F_eq, impl_isPairs.F_val l h]
  simp only [Option.bind_some]
  by_cases h1 : isPairs l = true
  · rw [if_pos h1, h1]
    rfl
  · rw [if_neg h1, Bool.eq_false_iff.2 h1]
    rfl
theorem spec_l1Has.L0_val (n : Int) : ∀ (suf pre : List Int), (pre ++ suf).length < 4611686018427387904 → spec_l1Has.L0 n (pre ++ suf) ((pre ++ suf).length : Int) (pre.length : Int) = some (decide (n ∈ suf))
  | [], pre, h => by
    rw [spec_l1Has.L0_eq, range_end]
    simp
  | x :: suf, pre, h => by
    rw [spec_l1Has.L0_eq, range_step, rd_mid, wrap_mid h, app_mid pre x suf, spec_l1Has.L0_val n suf (pre ++ [x]) (by simpa using h)]
    by_cases h1 : x = n
    · rw [if_pos h1]
      simp [h1]
    · rw [if_neg h1]
      have : ¬ n = x := fun h => h1 h.symm
      simp [this]
theorem spec_l1Has.F_val (l : List Int) (n : Int) (h : l.length < 4611686018427387904) : spec_l1Has.F l n = some (decide (n ∈ l)) := by
  rw [spec_l1Has.F_eq]
  have := spec_l1Has.L0_val n l [] (by simpa using h)
  simpa using this
/-- The first place of a number, the first one counted as i; -1 where it does not stand. -/
def indexFrom (n : Int) : Nat → List Int → Int
  | _, [] => -1
  | i, x :: l => if n = x then (i : Int) else indexFrom n (i + 1) l
theorem indexFrom_mem (n : Int) : ∀ (l : List Int) (i : Nat), 0 ≤ indexFrom n i l ↔ n ∈ l
  | [], i => by simp [indexFrom]
  | x :: l, i => by
    have ih := indexFrom_mem n l (i + 1)
    by_cases h : n = x
    · simp [indexFrom, h]
    · simp [indexFrom, h, ih]
theorem slices_Index_int_int.L0_val (n : Int) : ∀ (suf pre : List Int), (pre ++ suf).length < 4611686018427387904 → slices_Index_int_int.L0 (pre ++ suf) n ((pre ++ suf).length : Int) (pre.length : Int) = some (indexFrom n pre.length suf)
  | [], pre, h => by
    rw [slices_Index_int_int.L0_eq, range_end]
    rfl
  | x :: suf, pre, h => by
    have e : (pre ++ [x]).length = pre.length + 1 := by simp
    rw [slices_Index_int_int.L0_eq, range_step, rd_mid, wrap_mid h, app_mid pre x suf, slices_Index_int_int.L0_val n suf (pre ++ [x]) (by simpa using h), e, indexFrom]
    split <;> rfl
theorem slices_Index_int_int.F_val (l : List Int) (n : Int) (h : l.length < 4611686018427387904) : slices_Index_int_int.F l n = some (indexFrom n 0 l) := by
  rw [slices_Index_int_int.F_eq]
  have := slices_Index_int_int.L0_val n l [] (by simpa using h)
  simpa using this
theorem slices_Contains_int_int.F_val (l : List Int) (n : Int) (h : l.length < 4611686018427387904) : slices_Contains_int_int.F l n = some (decide (n ∈ l)) := by
  rw [slices_Contains_int_int.F_eq, slices_Index_int_int.F_val l n h]
  simp only [Option.bind_some]
  have := indexFrom_mem n l 0
  congr 1
  rw [decide_eq_decide]
  exact this
theorem spec_roNumbers.L0_val (l : List Int) (hl : l.length < 4611686018427387904) : ∀ (m n : Nat) (acc : List Int), n + m = 21 → acc.length + m < 100 → spec_roNumbers.L0 l acc (n : Int) = some (acc ++ numbersFrom l n m)
  | 0, n, acc, h, ha => by
    rw [spec_roNumbers.L0_eq, if_neg (by omega)]
    simp [numbersFrom]
  | m + 1, n, acc, h, ha => by
    have e : wrap64 ((n : Int) + 1) = ((n + 1 : Nat) : Int) := by rw [wrap_in (by omega) (by omega)]; omega
    rw [spec_roNumbers.L0_eq, if_pos (by omega), spec_l1Has.F_val l n hl]
    simp only [Option.bind_some]
    by_cases h1 : (n : Int) ∈ l
    · rw [if_pos (by simpa using h1), if_pos (by omega), e, spec_roNumbers.L0_val l hl m (n + 1) _ (by omega) (by simp; omega)]
      simp [numbersFrom, List.range'_succ, h1]
    · rw [if_neg (by simpa using h1), e, spec_roNumbers.L0_val l hl m (n + 1) _ (by omega) (by omega)]
      simp [numbersFrom, List.range'_succ, h1]
theorem spec_roNumbers.F_val (l : List Int) (hl : l.length < 4611686018427387904) : spec_roNumbers.F l = some (numbersOf l) := by
  rw [spec_roNumbers.F_eq]
  exact spec_roNumbers.L0_val l hl 20 1 [] (by omega) (by simp)
theorem impl_numbers.L0_val (l : List Int) (hl : l.length < 4611686018427387904) : ∀ (m n : Nat) (acc : List Int), n + m = 21 → acc.length + m < 100 → impl_numbers.L0 l acc (n : Int) = some (acc ++ numbersFrom l n m)
  | 0, n, acc, h, ha => by
    rw [impl_numbers.L0_eq, if_neg (by omega)]
    simp [numbersFrom]
  | m + 1, n, acc, h, ha => by
    have e : wrap64 ((n : Int) + 1) = ((n + 1 : Nat) : Int) := by rw [wrap_in (by omega) (by omega)]; omega
    rw [impl_numbers.L0_eq, if_pos (by omega), slices_Contains_int_int.F_val l n hl]
    simp only [Option.bind_some]
    by_cases h1 : (n : Int) ∈ l
    · rw [if_pos (by simpa using h1), if_pos (by omega), e, impl_numbers.L0_val l hl m (n + 1) _ (by omega) (by simp; omega)]
      simp [numbersFrom, List.range'_succ, h1]
    · rw [if_neg (by simpa using h1), e, impl_numbers.L0_val l hl m (n + 1) _ (by omega) (by omega)]
      simp [numbersFrom, List.range'_succ, h1]
theorem impl_numbers.F_val (l : List Int) (hl : l.length < 4611686018427387904) : impl_numbers.F l = some (numbersOf l) := by
  rw [impl_numbers.F_eq]
  exact impl_numbers.L0_val l hl 20 1 [] (by omega) (by simp)
theorem spec_roFits.L0_val (l : List Int) (s : Int) (hl : l.length < 17592186044416) : ∀ (suf pre : List Int), (pre ++ suf).length < 4611686018427387904 → (∀ v ∈ suf, (placesOf l v).length = 2) → spec_roFits.L0 l s (pre ++ suf) ((pre ++ suf).length : Int) (pre.length : Int) = some (suf.all fun v => wrap64 (rd (placesOf l v) 1 - rd (placesOf l v) 0) == wrap64 (v + s))
  | [], pre, h, hv => by
    rw [spec_roFits.L0_eq, range_end]
    simp
  | x :: suf, pre, h, hv => by
    have h2 := hv x (by simp)
    rw [spec_roFits.L0_eq, range_step, rd_mid, wrap_mid h, app_mid pre x suf, spec_roPlaces.F_val l x hl]
    simp only [Option.bind_some]
    rw [if_pos (by omega), if_pos (by omega), spec_roFits.L0_val l s hl suf (pre ++ [x]) (by simpa using h) (fun v h => hv v (by simp [h])), List.all_cons]
    by_cases h1 : wrap64 (rd (placesOf l x) 1 - rd (placesOf l x) 0) = wrap64 (x + s)
    · rw [if_pos h1, beq_iff_eq.2 h1]
      rfl
    · rw [if_neg h1, beq_false_of_ne h1]
      rfl
theorem numbersOf_two {l : List Int} (h : pairsOk l = true) {v : Int} (hv : v ∈ numbersOf l) : (placesOf l v).length = 2 := by
  obtain ⟨h1, h2, h3⟩ := (mem_numbersOf l v).1 hv
  obtain ⟨k, rfl⟩ : ∃ k : Nat, v = (k : Int) := ⟨v.toNat, by omega⟩
  have h5 : 0 < l.count (k : Int) := List.count_pos_iff.2 h1
  rw [placesOf_count]
  rcases pairsOk_count h k (by omega) (by omega) with h4 | h4 <;> omega
theorem spec_roFits.F_val (l : List Int) (s : Int) (hl : l.length < 17592186044416) (h : pairsOk l = true) : spec_roFits.F l s = some (fitsAt l s) := by
  rw [spec_roFits.F_eq, spec_roNumbers.F_val l (by omega)]
  simp only [Option.bind_some]
  rw [fitsAt_eq l s h]
  have hn := numbersFrom_length l 1 20
  have := spec_roFits.L0_val l s hl (numbersOf l) [] (by simp only [List.nil_append, numbersOf]; omega) (fun v hv => numbersOf_two h hv)
  simpa using this
end Go.Proofs.Ytmhcgihkijiecaa.Fn
namespace Go.Proofs.Ytmhcgihkijiecaa.Fn
open Go.RowKit Go.Proofs.YtmhcgihkijiecaaW.PrintWords Go.Proofs.YtmhcgihkijiecaaW.PrintLast Go.Proofs.YtmhcgihkijiecaaW.PrintMore
attribute [local go_sem] max2_int min2_int max_two min_two max_three min_three max_four min_four   -- for this text's walks alone
set_option linter.unusedVariables false
set_option linter.unusedSimpArgs false

/-! ### spec_SpreadRow: function 34 -/
mutual
def spec_SpreadRow.j0 : Nat → List Int → Int → Bool → Option (List Int × Bool)
  | 0, _, _, _ => none
  | k + 1, x0, x1, x21 => if x21 = true then (some (([] : List Int), false)) else (if (x0.length : Int) = 0 then (some (([] : List Int), true)) else (if 0 ≤ (wrap64 ((wrap64 (x1 * (wrap64 ((x0.length : Int) - 1)))) + 1)) then (if (wrap64 ((wrap64 (x1 * (wrap64 ((x0.length : Int) - 1)))) + 1) : Int).toNat ≤ 35184372088832 then (spec_SpreadRow.l0 k x1 (List.replicate (wrap64 ((wrap64 (x1 * (wrap64 ((x0.length : Int) - 1)))) + 1) : Int).toNat 0) x0 (x0.length : Int) 0) else (none)) else (none)))
def spec_SpreadRow.l0 : Nat → Int → List Int → List Int → Int → Int → Option (List Int × Bool)
  | 0, _, _, _, _, _ => none
  | k + 1, x1, x6, x32, x33, x34 => if x34 < x33 then (if 0 ≤ x34 then (if x34 < (x32.length : Int) then (if 0 ≤ (wrap64 (x1 * x34)) then (if (wrap64 (x1 * x34)) < (x6.length : Int) then (spec_SpreadRow.l0 k x1 (x6.set ((wrap64 (x1 * x34)) : Int).toNat (wrap64 (x1 * (rd x32 x34)))) x32 x33 (wrap64 (x34 + 1))) else (none)) else (none)) else (none)) else (none)) else ((spec_hoIf.f k x6).bind fun bt308 => (some (bt308.1, bt308.2)))
end
def spec_SpreadRow.f (k : Nat) (l0 : List Int) (a1 : Int) : Option (List Int × Bool) := (spec_roIs.f k l0).bind fun t300 => (if t300 = true then ((spec_roFits.f k l0 0).bind fun t301 => (if t301 = true then ((spec_l1In.f a1 1 10).bind fun t302 => (spec_SpreadRow.j0 k l0 a1 (!t302))) else (spec_SpreadRow.j0 k l0 a1 true))) else (spec_SpreadRow.j0 k l0 a1 true))
theorem spec_SpreadRow.mono_l : ∀ k, (∀ y0 y1 y2, LeO (spec_SpreadRow.j0 k y0 y1 y2) (spec_SpreadRow.j0 (k + 1) y0 y1 y2)) ∧ (∀ y0 y1 y2 y3 y4, LeO (spec_SpreadRow.l0 k y0 y1 y2 y3 y4) (spec_SpreadRow.l0 (k + 1) y0 y1 y2 y3 y4))
  | 0 => ⟨fun _ _ _ r h => by simp [spec_SpreadRow.j0] at h, fun _ _ _ _ _ r h => by simp [spec_SpreadRow.l0] at h⟩
  | k + 1 => by
    obtain ⟨ih0, ih1⟩ := spec_SpreadRow.mono_l k
    refine ⟨?_, ?_⟩
    · intro y0 y1 y2
      unfold spec_SpreadRow.j0
      repeat' first
      | (with_reducible exact ih0 _ _ _)
      | (with_reducible exact ih1 _ _ _ _ _)
      | (with_reducible exact spec_hoIf.mono _ _)
      | (with_reducible exact spec_roFits.mono _ _ _)
      | (with_reducible exact spec_roIs.mono _ _)
      | (with_reducible exact LeO.refl _)
      | (with_reducible exact LeO.none _)
      | (with_reducible refine LeO.ite ?_ ?_)
      | (with_reducible refine LeO.bind ?_ (fun _ => ?_))
      | exact ih0 _ _ _
      | exact ih1 _ _ _ _ _
      | exact spec_hoIf.mono _ _
      | exact spec_roFits.mono _ _ _
      | exact spec_roIs.mono _ _
      | exact LeO.none _
      | refine LeO.ite ?_ ?_
      | refine LeO.bind ?_ (fun _ => ?_)
    · intro y0 y1 y2 y3 y4
      unfold spec_SpreadRow.l0
      repeat' first
      | (with_reducible exact ih0 _ _ _)
      | (with_reducible exact ih1 _ _ _ _ _)
      | (with_reducible exact spec_hoIf.mono _ _)
      | (with_reducible exact spec_roFits.mono _ _ _)
      | (with_reducible exact spec_roIs.mono _ _)
      | (with_reducible exact LeO.refl _)
      | (with_reducible exact LeO.none _)
      | (with_reducible refine LeO.ite ?_ ?_)
      | (with_reducible refine LeO.bind ?_ (fun _ => ?_))
      | exact ih0 _ _ _
      | exact ih1 _ _ _ _ _
      | exact spec_hoIf.mono _ _
      | exact spec_roFits.mono _ _ _
      | exact spec_roIs.mono _ _
      | exact LeO.none _
      | refine LeO.ite ?_ ?_
      | refine LeO.bind ?_ (fun _ => ?_)
theorem spec_SpreadRow.mono : ∀ a0 a1 k, LeO (spec_SpreadRow.f k a0 a1) (spec_SpreadRow.f (k + 1) a0 a1) := by
  intro a0 a1 k
  obtain ⟨ih0, ih1⟩ := spec_SpreadRow.mono_l k
  unfold spec_SpreadRow.f
  repeat' first
      | (with_reducible exact ih0 _ _ _)
      | (with_reducible exact ih1 _ _ _ _ _)
      | (with_reducible exact spec_hoIf.mono _ _)
      | (with_reducible exact spec_roFits.mono _ _ _)
      | (with_reducible exact spec_roIs.mono _ _)
      | (with_reducible exact LeO.refl _)
      | (with_reducible exact LeO.none _)
      | (with_reducible refine LeO.ite ?_ ?_)
      | (with_reducible refine LeO.bind ?_ (fun _ => ?_))
      | exact ih0 _ _ _
      | exact ih1 _ _ _ _ _
      | exact spec_hoIf.mono _ _
      | exact spec_roFits.mono _ _ _
      | exact spec_roIs.mono _ _
      | exact LeO.none _
      | refine LeO.ite ?_ ?_
      | refine LeO.bind ?_ (fun _ => ?_)
set_option maxHeartbeats 8000000 in
set_option maxRecDepth 100000 in
theorem spec_SpreadRow.calls (k : Nat) (A0 : Option Addr) (c0 : Nat) (l0 : List Int) (a1 : Int) (r1 : List Int) (r2 : Bool) (w : World) (hr0 : Kd.C (Kd.int .i64) w A0 l0.length l0) (hc0 : l0.length ≤ c0) (h : spec_SpreadRow.f k l0 a1 = some (r1, r2)) :
    Calls Try.prog 34 #[.slice A0 l0.length c0, .int .i64 a1] w fun e w' => ∃ v0_ : Value, e = .returned (.tuple #[v0_, .bool r2]) ∧ Kd.R (Kd.int .i64) 3 w' w.heap.size (fun _ => True) v0_ r1 ∧ Below w.heap.size w w' := by
  have HR0 := Aside0.mk hr0
  have HC0 := Aside0.mk hc0
  clear hr0 hc0
  have HB := Aside0.mk (Below.refl w.heap.size w)
  have H : ((spec_roIs.f k l0).bind fun t300 => (if t300 = true then ((spec_roFits.f k l0 0).bind fun t301 => (if t301 = true then ((spec_l1In.f a1 1 10).bind fun t302 => (spec_SpreadRow.j0 k l0 a1 (!t302))) else (spec_SpreadRow.j0 k l0 a1 true))) else (spec_SpreadRow.j0 k l0 a1 true))) = some (r1, r2) := h
  clear h
  have HC3 := Aside0.mk H
  clear H
  go_enter Try.func34, Try.ntmps34
  go_upto_region 1 with (fail)
  go_cut [21] (fun v21 wc => ∃ (kq : Nat) (x21_2 : Bool), v21 = .bool x21_2 ∧ Aside0 (spec_SpreadRow.j0 kq l0 a1 x21_2 = some (r1, r2)) ∧ Aside0 (kq ≤ k) ∧ Aside0 (Below w.heap.size w wc))
  case first =>
    have H := HC3.out
    clear HC3
    replace H := Option.bind_eq_some_iff.mp H
    obtain ⟨t300, A40, H⟩ := H
    replace H : (if t300 = true then ((spec_roFits.f k l0 0).bind fun t301 => (if t301 = true then ((spec_l1In.f a1 1 10).bind fun t302 => (spec_SpreadRow.j0 k l0 a1 (!t302))) else (spec_SpreadRow.j0 k l0 a1 true))) else (spec_SpreadRow.j0 k l0 a1 true)) = some (r1, r2) := H
    have A4 := Aside0.mk A40
    clear A40
    by_cases c5 : t300 = true
    · subst c5
      have H1 : ((spec_roFits.f k l0 0).bind fun t301 => (if t301 = true then ((spec_l1In.f a1 1 10).bind fun t302 => (spec_SpreadRow.j0 k l0 a1 (!t302))) else (spec_SpreadRow.j0 k l0 a1 true))) = some (r1, r2) := by rw [if_pos rfl] at H; exact H
      clear H
      have H := H1
      clear H1
      replace H := Option.bind_eq_some_iff.mp H
      obtain ⟨t301, A60, H⟩ := H
      replace H : (if t301 = true then ((spec_l1In.f a1 1 10).bind fun t302 => (spec_SpreadRow.j0 k l0 a1 (!t302))) else (spec_SpreadRow.j0 k l0 a1 true)) = some (r1, r2) := H
      have A6 := Aside0.mk A60
      clear A60
      by_cases c7 : t301 = true
      · subst c7
        have H1 : ((spec_l1In.f a1 1 10).bind fun t302 => (spec_SpreadRow.j0 k l0 a1 (!t302))) = some (r1, r2) := by rw [if_pos rfl] at H; exact H
        clear H
        have H := H1
        clear H1
        replace H := Option.bind_eq_some_iff.mp H
        obtain ⟨t302, A80, H⟩ := H
        replace H : (spec_SpreadRow.j0 k l0 a1 (!t302)) = some (r1, r2) := H
        have A8 := Aside0.mk A80
        clear A80
        have H' := Aside0.mk H
        clear H
        go_wp2_with (first | ((with_reducible refine gate_callee (f := 60) rfl ?_); refine goesL_ (some 10) rfl rfl Try.func60 (by kernel_rfl) rfl #[.slice A0 l0.length c0] rfl (by (try simp only [List.map_toArray, List.map_cons, List.map_nil]); first | done | rfl | (simp only [List.length_drop, List.length_take]; rfl)) ?_; (with_reducible refine (spec_roIs.calls k _ _ l0 true _ ?side1 ?side2 A4.out).mono ?_); (case side1 => repeat (first | exact (Kd.C_below HR0.out HB.out) | (with_reducible refine Kd.C_alloc ?_ _) | (with_reducible refine Kd.C_drewN ?_ _) | (with_reducible refine Kd.C_drew ?_))); (case side2 => exact HC0.out); rintro e w9 ⟨rfl, hb⟩; refine ⟨_, rfl, ?_⟩; have n0_ := Aside0.mk (below_step (by repeat (first | (with_reducible first | exact HB.out | apply below_alloc | apply pw_below_drewN | apply below_drew1) | exact HB.out)) hb); clear HB; have HB := n0_; clear n0_; (try clear hb); (try clear hb2); (try clear hk); (try clear hi)) | (go_at_call 61; (with_reducible refine (spec_roFits.calls k _ _ l0 0 true _ ?side1 ?side2 A6.out).mono ?_); (case side1 => repeat (first | exact (Kd.C_below HR0.out HB.out) | (with_reducible refine Kd.C_alloc ?_ _) | (with_reducible refine Kd.C_drewN ?_ _) | (with_reducible refine Kd.C_drew ?_))); (case side2 => exact HC0.out); rintro e w10 ⟨rfl, hb⟩; have n0_ := Aside0.mk (below_step (by repeat (first | (with_reducible first | exact HB.out | apply below_alloc | apply pw_below_drewN | apply below_drew1) | exact HB.out)) hb); clear HB; have HB := n0_; clear n0_; (try clear hb); (try clear hb2); (try clear hk); (try clear hi)) | (go_at_call 62; (with_reducible refine (spec_l1In.calls a1 1 10 t302 _ A8.out).mono ?_); rintro e w' ⟨rfl, ⟨nd, rfl⟩⟩))
        go_meet
        case rel => exact ⟨_, (!t302), (by first | rfl | (simp; done) | (simp [*]; done)), H', ⟨by first | omega | exact Nat.le_refl _⟩, ⟨by repeat (first | (with_reducible first | exact HB.out | apply below_alloc | apply pw_below_drewN | apply below_drew1) | exact HB.out)⟩⟩
      · replace c7 := Bool.eq_false_iff.mpr c7
        subst c7
        have H1 : (spec_SpreadRow.j0 k l0 a1 true) = some (r1, r2) := by rw [if_neg (show ¬ (false = true) by decide)] at H; exact H
        clear H
        have H := H1
        clear H1
        have H' := Aside0.mk H
        clear H
        go_wp2_with (first | ((with_reducible refine gate_callee (f := 60) rfl ?_); refine goesL_ (some 10) rfl rfl Try.func60 (by kernel_rfl) rfl #[.slice A0 l0.length c0] rfl (by (try simp only [List.map_toArray, List.map_cons, List.map_nil]); first | done | rfl | (simp only [List.length_drop, List.length_take]; rfl)) ?_; (with_reducible refine (spec_roIs.calls k _ _ l0 true _ ?side1 ?side2 A4.out).mono ?_); (case side1 => repeat (first | exact (Kd.C_below HR0.out HB.out) | (with_reducible refine Kd.C_alloc ?_ _) | (with_reducible refine Kd.C_drewN ?_ _) | (with_reducible refine Kd.C_drew ?_))); (case side2 => exact HC0.out); rintro e w11 ⟨rfl, hb⟩; refine ⟨_, rfl, ?_⟩; have n0_ := Aside0.mk (below_step (by repeat (first | (with_reducible first | exact HB.out | apply below_alloc | apply pw_below_drewN | apply below_drew1) | exact HB.out)) hb); clear HB; have HB := n0_; clear n0_; (try clear hb); (try clear hb2); (try clear hk); (try clear hi)) | (go_at_call 61; (with_reducible refine (spec_roFits.calls k _ _ l0 0 false _ ?side1 ?side2 A6.out).mono ?_); (case side1 => repeat (first | exact (Kd.C_below HR0.out HB.out) | (with_reducible refine Kd.C_alloc ?_ _) | (with_reducible refine Kd.C_drewN ?_ _) | (with_reducible refine Kd.C_drew ?_))); (case side2 => exact HC0.out); rintro e w12 ⟨rfl, hb⟩; have n0_ := Aside0.mk (below_step (by repeat (first | (with_reducible first | exact HB.out | apply below_alloc | apply pw_below_drewN | apply below_drew1) | exact HB.out)) hb); clear HB; have HB := n0_; clear n0_; (try clear hb); (try clear hb2); (try clear hk); (try clear hi)))
        go_meet
        case rel => exact ⟨_, (true), (by first | rfl | (simp; done) | (simp [*]; done)), H', ⟨by first | omega | exact Nat.le_refl _⟩, ⟨by repeat (first | (with_reducible first | exact HB.out | apply below_alloc | apply pw_below_drewN | apply below_drew1) | exact HB.out)⟩⟩
    · replace c5 := Bool.eq_false_iff.mpr c5
      subst c5
      have H1 : (spec_SpreadRow.j0 k l0 a1 true) = some (r1, r2) := by rw [if_neg (show ¬ (false = true) by decide)] at H; exact H
      clear H
      have H := H1
      clear H1
      have H' := Aside0.mk H
      clear H
      go_wp2_with (first | ((with_reducible refine gate_callee (f := 60) rfl ?_); refine goesL_ (some 10) rfl rfl Try.func60 (by kernel_rfl) rfl #[.slice A0 l0.length c0] rfl (by (try simp only [List.map_toArray, List.map_cons, List.map_nil]); first | done | rfl | (simp only [List.length_drop, List.length_take]; rfl)) ?_; (with_reducible refine (spec_roIs.calls k _ _ l0 false _ ?side1 ?side2 A4.out).mono ?_); (case side1 => repeat (first | exact (Kd.C_below HR0.out HB.out) | (with_reducible refine Kd.C_alloc ?_ _) | (with_reducible refine Kd.C_drewN ?_ _) | (with_reducible refine Kd.C_drew ?_))); (case side2 => exact HC0.out); rintro e w13 ⟨rfl, hb⟩; refine ⟨_, rfl, ?_⟩; have n0_ := Aside0.mk (below_step (by repeat (first | (with_reducible first | exact HB.out | apply below_alloc | apply pw_below_drewN | apply below_drew1) | exact HB.out)) hb); clear HB; have HB := n0_; clear n0_; (try clear hb); (try clear hb2); (try clear hk); (try clear hi)))
      go_meet
      case rel => exact ⟨_, (true), (by first | rfl | (simp; done) | (simp [*]; done)), H', ⟨by first | omega | exact Nat.le_refl _⟩, ⟨by repeat (first | (with_reducible first | exact HB.out | apply below_alloc | apply pw_below_drewN | apply below_drew1) | exact HB.out)⟩⟩
  case rest =>
    clear HC3
    try clear p2
    try clear c3
    try clear c5
    try clear c6
    try clear c7
    obtain ⟨kq, x21_2, rfl, HA, HJ2, HB⟩ := hcut
    cases kq with
    | zero => exact absurd HA.out (by simp [spec_SpreadRow.j0])
    | succ kj2 =>
      have H := HA.out
      clear HA
      simp only [spec_SpreadRow.j0] at H
      by_cases c14 : x21_2 = true
      · subst c14
        have H1 : (some (([] : List Int), false)) = some (r1, r2) := by rw [if_pos rfl] at H; exact H
        clear H
        have H := H1
        clear H1
        simp only [Option.some.injEq, Prod.mk.injEq] at H
        obtain ⟨rfl, rfl⟩ := H
        go_wp2
        go_ret2
        exact ⟨_, by first | rfl | (simp [errW_none, errW_some] <;> rfl) | (simp [*, errW_none, errW_some] <;> rfl), by first | exact Kd.R_nil _ _ _ _ _ | exact Kd.N_nil _ _ _ _ _ | exact Kd.V_nil _ _ _ _ _ | exact Kd.Q_nil _ _ _ _ _ | exact Kd.S_nil _ _ _ _ _, by repeat (first | (with_reducible first | exact HB.out | apply below_alloc | apply pw_below_drewN | apply below_drew1) | exact HB.out)⟩
      · replace c14 := Bool.eq_false_iff.mpr c14
        subst c14
        have H1 : (if (l0.length : Int) = 0 then (some (([] : List Int), true)) else (if 0 ≤ (wrap64 ((wrap64 (a1 * (wrap64 ((l0.length : Int) - 1)))) + 1)) then (if (wrap64 ((wrap64 (a1 * (wrap64 ((l0.length : Int) - 1)))) + 1) : Int).toNat ≤ 35184372088832 then (spec_SpreadRow.l0 kj2 a1 (List.replicate (wrap64 ((wrap64 (a1 * (wrap64 ((l0.length : Int) - 1)))) + 1) : Int).toNat 0) l0 (l0.length : Int) 0) else (none)) else (none))) = some (r1, r2) := by rw [if_neg (show ¬ (false = true) by decide)] at H; exact H
        clear H
        have H := H1
        clear H1
        by_cases c15 : (l0.length : Int) = 0
        · rw [if_pos c15] at H
          have c15b0 : ((l0.length : Int) == 0) = true := beq_iff_eq.mpr c15
          have c15b1 : ((l0.length : Int) != 0) = false := bne_eq_false_iff_eq.mpr c15
          clear c15
          simp only [Option.some.injEq, Prod.mk.injEq] at H
          obtain ⟨rfl, rfl⟩ := H
          go_wp2
          go_ret2
          exact ⟨_, by first | rfl | (simp [errW_none, errW_some] <;> rfl) | (simp [*, errW_none, errW_some] <;> rfl), by first | exact Kd.R_nil _ _ _ _ _ | exact Kd.N_nil _ _ _ _ _ | exact Kd.V_nil _ _ _ _ _ | exact Kd.Q_nil _ _ _ _ _ | exact Kd.S_nil _ _ _ _ _, by repeat (first | (with_reducible first | exact HB.out | apply below_alloc | apply pw_below_drewN | apply below_drew1) | exact HB.out)⟩
        · rw [if_neg c15] at H
          have c15b0 : ((l0.length : Int) == 0) = false := beq_eq_false_iff_ne.mpr c15
          have c15b1 : ((l0.length : Int) != 0) = true := bne_iff_ne.mpr c15
          have c15b2 : ¬ (l0 = []) := fun h_ => c15 (by rw [h_]; rfl)
          obtain ⟨ji16, hji16⟩ : ∃ j_ : Int, (wrap64 ((wrap64 (a1 * (wrap64 ((l0.length : Int) - 1)))) + 1)) = j_ := ⟨_, rfl⟩
          replace H : (if 0 ≤ (ji16) then (if (ji16 : Int).toNat ≤ 35184372088832 then (spec_SpreadRow.l0 kj2 a1 (List.replicate (ji16 : Int).toNat 0) l0 (l0.length : Int) 0) else (none)) else (none)) = some (r1, r2) := by first | (rw [hji16] at H; exact H) | (simp only [hji16] at H ⊢; exact H)
          have hji16w : (IntKind.i64.wrap ((wrap64 (a1 * (wrap64 ((l0.length : Int) - 1)))) + 1)) = ji16 := (i64_w _).trans hji16
          by_cases c17 : 0 ≤ (ji16)
          · rw [if_pos c17] at H
            have c17b0 := eq_true c17
            have c17b1 : decide (0 ≤ (ji16)) = true := decide_eq_true c17
            clear c17
            by_cases c18 : (ji16 : Int).toNat ≤ 35184372088832
            · rw [if_pos c18] at H
              have c18b0 := eq_true c18
              have c18b1 : decide ((ji16 : Int).toNat ≤ 35184372088832) = true := decide_eq_true c18
              clear c18
              obtain ⟨y303, hy303⟩ : ∃ y_ : List Int, y_ = (List.replicate (ji16 : Int).toNat 0) := ⟨_, rfl⟩
              replace H : (spec_SpreadRow.l0 kj2 a1 y303 l0 (l0.length : Int) 0) = some (r1, r2) := by first | (rw [hy303]; with_reducible exact H) | (have H2_ := (Option.bind_some _ _).symm.trans H; rw [hy303]; with_reducible exact H2_) | (have H2_ := (Option.bind_some _ _).symm.trans H; with_reducible exact H2_) | with_reducible exact H | (rw [hy303]; exact H) | exact H
              have Ny303 := Aside0.mk hy303
              clear hy303
              have H' := Aside0.mk H
              clear H
              go_wp2_with (first | ((with_reducible refine gate_dst (N := 31) rfl ?_); refine Kd.R_make (Kd.int .i64) _ 3 rfl (N := 31) rfl 25 _ _ rfl ji16 rfl rfl Try.underlying25 (.int .i64 0) 8 info3 rfl (by decide) (by omega) 0 (ok := fun _ => True) (okp := fun _ => True) rfl (fun _ hk => hk) trivial (of_decide_eq_true (by first | (with_reducible assumption) | assumption)) (Nat.le_trans (Nat.mul_le_mul_right _ (of_decide_eq_true (by first | (with_reducible assumption) | assumption) : ji16.toNat ≤ 35184372088832)) (by omega)) (Below.refl _ _) (Nat.le_refl _) ?_; intro v304 w19 ho20 hb hg_ hnew_; clear hg_ hnew_; (first | rw [← Ny303.out] at ho20 | (simp only [Int.reduceToNat] at ho20; rw [← Ny303.out] at ho20)); have n0_ := Aside0.mk (Kd.R_lower ho20 (below_size (by repeat (first | (with_reducible first | exact HB.out | apply below_alloc | apply pw_below_drewN | apply below_drew1) | exact HB.out)))); have n1_ := Aside0.mk (below_step (by repeat (first | (with_reducible first | exact HB.out | apply below_alloc | apply pw_below_drewN | apply below_drew1) | exact HB.out)) hb); clear HB; have HO305 := n0_; have HB := n1_; clear n0_ n1_; clear hb ho20))
              go_loopg [34] kj2 (fun kq v34 w' => ∃ (x6_2 : List Int) (x34_2 : Int), v34 = .int .i64 x34_2 ∧ Aside0 (spec_SpreadRow.l0 kq a1 x6_2 l0 (l0.length : Int) x34_2 = some (r1, r2)) ∧ Aside0 (kq ≤ kj2) ∧ Aside0 (Kd.R (Kd.int .i64) 3 w' w.heap.size (fun _ => True) v304 x6_2) ∧ Aside0 (Below w.heap.size w w'))
              case atStart => exact ⟨(y303), (0), (by first | rfl | (simp; done) | (simp [*]; done)), H', ⟨Nat.le_refl _⟩, ⟨by (with_reducible repeat (first | apply Kd.R_alloc | apply Kd.R_drewN | apply Kd.R_drew)); exact HO305.out⟩, ⟨by repeat (first | (with_reducible first | exact HB.out | apply below_alloc | apply pw_below_drewN | apply below_drew1) | exact HB.out)⟩⟩
              case round =>
                clear H'
                try clear c1
                try clear p2
                try clear c3
                try clear c5
                try clear c6
                try clear p6
                try clear c7
                try clear c14
                try clear c15
                try clear c15b0
                try clear c15b1
                try clear c15b2
                try clear c17
                try clear c17b0
                try clear c17b1
                try clear c18
                try clear c18b0
                try clear c18b1
                try clear p2
                obtain ⟨x6_2, x34_2, rfl, HA, HK2, HO_6, HB⟩ := hrel
                cases gk with
                | zero => exact absurd HA.out (by simp [spec_SpreadRow.l0])
                | succ k2 =>
                  have H := HA.out
                  clear HA
                  simp only [spec_SpreadRow.l0] at H
                  by_cases c21 : x34_2 < (l0.length : Int)
                  · rw [if_pos c21] at H
                    have c21b0 : decide (x34_2 < (l0.length : Int)) = true := decide_eq_true c21
                    clear c21
                    by_cases c22 : 0 ≤ x34_2
                    · rw [if_pos c22] at H
                      have c22b0 : decide (0 ≤ x34_2) = true := decide_eq_true c22
                      clear c22
                      by_cases c23 : x34_2 < (l0.length : Int)
                      · rw [if_pos c23] at H
                        have c23b0 : decide (x34_2 < (l0.length : Int)) = true := decide_eq_true c23
                        clear c23
                        obtain ⟨ji24, hji24⟩ : ∃ j_ : Int, (wrap64 (a1 * x34_2)) = j_ := ⟨_, rfl⟩
                        replace H : (if 0 ≤ (ji24) then (if (ji24) < (x6_2.length : Int) then (spec_SpreadRow.l0 k2 a1 (x6_2.set ((ji24) : Int).toNat (wrap64 (a1 * (rd l0 x34_2)))) l0 (l0.length : Int) (wrap64 (x34_2 + 1))) else (none)) else (none)) = some (r1, r2) := by first | (rw [hji24] at H; exact H) | (simp only [hji24] at H ⊢; exact H)
                        have hji24w : (IntKind.i64.wrap (a1 * x34_2)) = ji24 := (i64_w _).trans hji24
                        by_cases c25 : 0 ≤ (ji24)
                        · rw [if_pos c25] at H
                          have c25b0 : decide (0 ≤ (ji24)) = true := decide_eq_true c25
                          clear c25
                          by_cases c26 : (ji24) < (x6_2.length : Int)
                          · rw [if_pos c26] at H
                            have c26b0 : decide ((ji24) < (x6_2.length : Int)) = true := decide_eq_true c26
                            clear c26
                            obtain ⟨y307, hy307⟩ : ∃ y_ : List Int, y_ = (x6_2.set ((ji24) : Int).toNat (wrap64 (a1 * (rd l0 x34_2)))) := ⟨_, rfl⟩
                            replace H : (spec_SpreadRow.l0 k2 a1 y307 l0 (l0.length : Int) (wrap64 (x34_2 + 1))) = some (r1, r2) := by first | (rw [hy307]; with_reducible exact H) | (have H2_ := (Option.bind_some _ _).symm.trans H; rw [hy307]; with_reducible exact H2_) | (have H2_ := (Option.bind_some _ _).symm.trans H; with_reducible exact H2_) | with_reducible exact H | (rw [hy307]; exact H) | exact H
                            have Ny307 := Aside0.mk hy307
                            clear hy307
                            have H' := Aside0.mk H
                            clear H
                            have p306 : 0 ≤ (x34_2 : Int) := of_decide_eq_true (by first | (with_reducible assumption) | assumption)
                            have q306 : x34_2 < (l0.length : Int) := of_decide_eq_true (by first | (with_reducible assumption) | assumption)
                            obtain ⟨ad306, e306, hx306_0⟩ := Kd.at_int HR0.out x34_2 p306 q306
                            cases e306
                            replace hx306_0 := (HB.out.cell (World.block_lt_of_cell? w _ hx306_0)).trans hx306_0
                            replace p306 := eq_true p306
                            replace q306 := eq_true q306
                            have p27 : 0 ≤ ((ji24) : Int) := of_decide_eq_true (by first | (with_reducible assumption) | assumption)
                            have q27 : ((ji24) : Int) < ((x6_2.length : Int) : Int) := of_decide_eq_true (by first | (with_reducible assumption) | assumption)
                            obtain ⟨go27, co27, eo27, gb27, gl27, cl27, HG27⟩ := Kd.R_form HO_6.out (by omega)
                            (first | cases eo27 | (injection eo27 with ea_ en_ ec_; (first | subst ea_ | (injection ea_ with ea_; subst ea_)); subst ec_; clear en_))
                            have GB27 := Aside0.mk gb27
                            have GG27 := Aside0.mk HG27
                            clear gb27 gl27 HG27
                            obtain ⟨hx27_0, hf27_0⟩ := Kd.R_celln 0 HO_6.out ((ji24) : Int) p27 q27
                            replace p27 := eq_true p27
                            replace q27 := eq_true q27
                            have HP28 := Kd.R_putg HO_6.out ((ji24) : Int) (wrap64 (a1 * (rd l0 x34_2)))
                            go_wp2_with (first | ((with_reducible refine gate_store (t := 3) (p := 46) rfl ?_); refine store_event (t := 3) (p := 46) (v := ?vo_w29) (w1 := (wr.setCell ⟨go27, ((ji24) : Int).toNat, none⟩ (.int .i64 (wrap64 (a1 * (rd l0 x34_2)))))) ?hg ?ho ?hn ?hr ?_; (case ho => rfl); (case hg => rfl); (case hn => rfl); (case hr => first | (go_simp; done) | (go_simp; rfl)); intro w29 hw; have hg : wr.grownBy w29 (some go27) := (by rw [hw]; exact HP28.2); have hp_ : Kd.R (Kd.int .i64) 3 w29 w.heap.size (fun _ => True) (.slice (some ⟨go27, 0, none⟩) x6_2.length co27) y307 := (by rw [hw, Ny307.out]; exact HP28.1); clear HP28; have n0_ := Aside0.mk (hp_); have n1_ := Aside0.mk ((by rw [hw]; exact below_set (HB.out) GB27.out : Below w.heap.size w w29)); clear HO_6; clear HB; have HO_6 := n0_; have HB := n1_; clear n0_ n1_; clear hg hw hp_))
                            go_roundg k2
                            case measure => have := HJ2.out; have := HK2.out; omega
                            case rel => exact ⟨(y307), (wrap64 (x34_2 + 1)), (by first | rfl | (simp; done) | (simp [*]; done)), H', ⟨by have := HJ2.out; have := HK2.out; omega⟩, ⟨by (with_reducible repeat (first | apply Kd.R_alloc | apply Kd.R_drewN | apply Kd.R_drew)); exact HO_6.out⟩, ⟨by repeat (first | (with_reducible first | exact HB.out | apply below_alloc | apply pw_below_drewN | apply below_drew1) | exact HB.out)⟩⟩
                          · rw [if_neg c26] at H
                            exact absurd H (by simp)
                        · rw [if_neg c25] at H
                          exact absurd H (by simp)
                      · rw [if_neg c23] at H
                        exact absurd H (by simp)
                    · rw [if_neg c22] at H
                      exact absurd H (by simp)
                  · rw [if_neg c21] at H
                    have c21b0 : decide (x34_2 < (l0.length : Int)) = false := decide_eq_false c21
                    clear c21
                    replace H := Option.bind_eq_some_iff.mp H
                    obtain ⟨⟨t308, t311⟩, A300, H⟩ := H
                    replace H : (some (t308, t311)) = some (r1, r2) := H
                    have A30 := Aside0.mk A300
                    clear A300
                    simp only [Option.some.injEq, Prod.mk.injEq] at H
                    obtain ⟨rfl, rfl⟩ := H
                    obtain ⟨Ao31, co31, eo31⟩ := Kd.R_slice HO_6.out
                    subst eo31
                    go_wp2_with (first | ((with_reducible refine gate_callee (f := 49) rfl ?_); refine goesL_ (some 49) rfl rfl Try.func49 (by kernel_rfl) rfl #[.slice Ao31 x6_2.length co31] rfl (by (try simp only [List.map_toArray, List.map_cons, List.map_nil]); first | done | rfl | (simp only [List.length_drop, List.length_take]; rfl)) ?_; (with_reducible refine (spec_hoIf.calls k2 (fun k_ => some k_ = (.slice Ao31 x6_2.length co31 : Value).ownBlock) (.slice Ao31 x6_2.length co31) x6_2 t308 t311 w _ ?side1 ?side2 A30.out).mono ?_); (case side1 => repeat (first | (with_reducible first | exact HB.out | apply below_alloc | apply pw_below_drewN | apply below_drew1) | exact HB.out)); (case side2 => exact Kd.R_tight rfl HO_6.out); rintro e w32 ⟨v309, rfl, ho0, hb, hkp⟩; refine ⟨_, rfl, ?_⟩; have n0_ := Aside0.mk (Kd.R_mono (ok' := fun k_ => True) ho0 (fun k_ hk_ => trivial)); have n1_ := Aside0.mk (hb); clear HB; clear HO_6; have HO310 := n0_; have HB := n1_; clear n0_ n1_; (try clear hb); (try clear hkp); (try clear ho0)))
                    go_ret2
                    exact ⟨_, by first | rfl | (simp [errW_none, errW_some] <;> rfl) | (simp only [← hji16]; first | rfl | (simp [errW_none, errW_some] <;> rfl)) | (simp [*, errW_none, errW_some] <;> rfl), by (with_reducible repeat (first | apply Kd.R_alloc | apply Kd.R_drewN | apply Kd.R_drew)); exact HO310.out, by repeat (first | (with_reducible first | exact HB.out | apply below_alloc | apply pw_below_drewN | apply below_drew1) | exact HB.out)⟩
            · rw [if_neg c18] at H
              exact absurd H (by simp)
          · rw [if_neg c17] at H
            exact absurd H (by simp)

noncomputable def spec_SpreadRow.J0 (x0 : List Int) (x1 : Int) (x21 : Bool) : Option (List Int × Bool) := lim fun k => spec_SpreadRow.j0 k x0 x1 x21
theorem spec_SpreadRow.J0_lim (x0 : List Int) (x1 : Int) (x21 : Bool) : Lim (fun k => spec_SpreadRow.j0 k x0 x1 x21) (spec_SpreadRow.J0 x0 x1 x21) := Lim.of fun k => (spec_SpreadRow.mono_l k).1 x0 x1 x21
noncomputable def spec_SpreadRow.L0 (x1 : Int) (x6 : List Int) (x32 : List Int) (x33 : Int) (x34 : Int) : Option (List Int × Bool) := lim fun k => spec_SpreadRow.l0 k x1 x6 x32 x33 x34
theorem spec_SpreadRow.L0_lim (x1 : Int) (x6 : List Int) (x32 : List Int) (x33 : Int) (x34 : Int) : Lim (fun k => spec_SpreadRow.l0 k x1 x6 x32 x33 x34) (spec_SpreadRow.L0 x1 x6 x32 x33 x34) := Lim.of fun k => (spec_SpreadRow.mono_l k).2 x1 x6 x32 x33 x34
noncomputable def spec_SpreadRow.F (l0 : List Int) (a1 : Int) : Option (List Int × Bool) := lim fun k => spec_SpreadRow.f k l0 a1
theorem spec_SpreadRow.F_lim (l0 : List Int) (a1 : Int) : Lim (fun k => spec_SpreadRow.f k l0 a1) (spec_SpreadRow.F l0 a1) := Lim.of fun k => spec_SpreadRow.mono l0 a1 k
theorem spec_SpreadRow.J0_eq (x0 : List Int) (x1 : Int) (x21 : Bool) : spec_SpreadRow.J0 x0 x1 x21 = (if x21 = true then (some (([] : List Int), false)) else (if (x0.length : Int) = 0 then (some (([] : List Int), true)) else (if 0 ≤ (wrap64 ((wrap64 (x1 * (wrap64 ((x0.length : Int) - 1)))) + 1)) then (if (wrap64 ((wrap64 (x1 * (wrap64 ((x0.length : Int) - 1)))) + 1) : Int).toNat ≤ 35184372088832 then (spec_SpreadRow.L0 x1 (List.replicate (wrap64 ((wrap64 (x1 * (wrap64 ((x0.length : Int) - 1)))) + 1) : Int).toNat 0) x0 (x0.length : Int) 0) else (none)) else (none)))) :=
  Lim.step (f := fun k => (if x21 = true then (some (([] : List Int), false)) else (if (x0.length : Int) = 0 then (some (([] : List Int), true)) else (if 0 ≤ (wrap64 ((wrap64 (x1 * (wrap64 ((x0.length : Int) - 1)))) + 1)) then (if (wrap64 ((wrap64 (x1 * (wrap64 ((x0.length : Int) - 1)))) + 1) : Int).toNat ≤ 35184372088832 then (spec_SpreadRow.l0 k x1 (List.replicate (wrap64 ((wrap64 (x1 * (wrap64 ((x0.length : Int) - 1)))) + 1) : Int).toNat 0) x0 (x0.length : Int) 0) else (none)) else (none))))) (spec_SpreadRow.J0_lim x0 x1 x21) (fun k => by first | rfl | rw [spec_SpreadRow.j0]) (by
    repeat' first
    | (with_reducible exact Lim.const _)
    | (with_reducible exact spec_SpreadRow.L0_lim _ _ _ _ _)
    | (with_reducible refine Lim.ite ?_ ?_)
    | (with_reducible refine Lim.bind ?_ (fun _ => ?_)))
theorem spec_SpreadRow.L0_eq (x1 : Int) (x6 : List Int) (x32 : List Int) (x33 : Int) (x34 : Int) : spec_SpreadRow.L0 x1 x6 x32 x33 x34 = (if x34 < x33 then (if 0 ≤ x34 then (if x34 < (x32.length : Int) then (if 0 ≤ (wrap64 (x1 * x34)) then (if (wrap64 (x1 * x34)) < (x6.length : Int) then (spec_SpreadRow.L0 x1 (x6.set ((wrap64 (x1 * x34)) : Int).toNat (wrap64 (x1 * (rd x32 x34)))) x32 x33 (wrap64 (x34 + 1))) else (none)) else (none)) else (none)) else (none)) else ((spec_hoIf.F x6).bind fun bt308 => (some (bt308.1, bt308.2)))) :=
  Lim.step (f := fun k => (if x34 < x33 then (if 0 ≤ x34 then (if x34 < (x32.length : Int) then (if 0 ≤ (wrap64 (x1 * x34)) then (if (wrap64 (x1 * x34)) < (x6.length : Int) then (spec_SpreadRow.l0 k x1 (x6.set ((wrap64 (x1 * x34)) : Int).toNat (wrap64 (x1 * (rd x32 x34)))) x32 x33 (wrap64 (x34 + 1))) else (none)) else (none)) else (none)) else (none)) else ((spec_hoIf.f k x6).bind fun bt308 => (some (bt308.1, bt308.2))))) (spec_SpreadRow.L0_lim x1 x6 x32 x33 x34) (fun k => by first | rfl | rw [spec_SpreadRow.l0]) (by
    repeat' first
    | (with_reducible exact Lim.const _)
    | (with_reducible exact spec_SpreadRow.L0_lim _ _ _ _ _)
    | (with_reducible exact spec_hoIf.F_lim _)
    | (with_reducible refine Lim.ite ?_ ?_)
    | (with_reducible refine Lim.bind ?_ (fun _ => ?_)))
theorem spec_SpreadRow.F_eq (l0 : List Int) (a1 : Int) : spec_SpreadRow.F l0 a1 = ((spec_roIs.F l0).bind fun t300 => (if t300 = true then ((spec_roFits.F l0 0).bind fun t301 => (if t301 = true then ((spec_l1In.f a1 1 10).bind fun t302 => (spec_SpreadRow.J0 l0 a1 (!t302))) else (spec_SpreadRow.J0 l0 a1 true))) else (spec_SpreadRow.J0 l0 a1 true))) :=
  Lim.unique (spec_SpreadRow.F_lim l0 a1) (by
    unfold spec_SpreadRow.f
    repeat' first
    | (with_reducible exact Lim.const _)
    | (with_reducible exact spec_SpreadRow.J0_lim _ _ _)
    | (with_reducible exact spec_roFits.F_lim _ _)
    | (with_reducible exact spec_roIs.F_lim _)
    | (with_reducible refine Lim.ite ?_ ?_)
    | (with_reducible refine Lim.bind ?_ (fun _ => ?_)))

end Go.Proofs.Ytmhcgihkijiecaa.Fn
namespace Go.Proofs.Ytmhcgihkijiecaa.Fn
open Go.RowKit Go.Proofs.YtmhcgihkijiecaaW.PrintWords Go.Proofs.YtmhcgihkijiecaaW.PrintLast Go.Proofs.YtmhcgihkijiecaaW.PrintMore
attribute [local go_sem] max2_int min2_int max_two min_two max_three min_three max_four min_four   -- for this text's walks alone
set_option linter.unusedVariables false
set_option linter.unusedSimpArgs false

/-! ### impl_SpreadRow: function 35 -/
mutual
def impl_SpreadRow.j0 : Nat → List Int → Int → Bool → Option (List Int × Bool)
  | 0, _, _, _ => none
  | k + 1, x0, x1, x19 => if x19 = true then (some (([] : List Int), false)) else (impl_SpreadRow.l0 k x1 ([] : List Int) x0 (x0.length : Int) 0)
def impl_SpreadRow.l0 : Nat → Int → List Int → List Int → Int → Int → Option (List Int × Bool)
  | 0, _, _, _, _, _ => none
  | k + 1, x1, x6, x20, x21, x22 => if x22 < x21 then (if 0 ≤ x22 then (if x22 < (x20.length : Int) then (if x22 > 0 then (if 0 ≤ (wrap64 (x1 - 1)) then (if x6.length + (wrap64 (x1 - 1) : Int).toNat < 17592186044416 then ((some (x6 ++ List.replicate (wrap64 (x1 - 1) : Int).toNat 0 : List Int)).bind fun y314 => (if y314.length < 17592186044416 then (impl_SpreadRow.l0 k x1 (y314 ++ [wrap64 ((rd x20 x22) * x1)]) x20 x21 (wrap64 (x22 + 1))) else (none))) else (none)) else (none)) else (if x6.length < 17592186044416 then (impl_SpreadRow.l0 k x1 (x6 ++ [wrap64 ((rd x20 x22) * x1)]) x20 x21 (wrap64 (x22 + 1))) else (none))) else (none)) else (none)) else ((impl_madeRow.f k x6).bind fun bt323 => (some (bt323.1, bt323.2)))
end
def impl_SpreadRow.f (k : Nat) (l0 : List Int) (a1 : Int) : Option (List Int × Bool) := (impl_fits.f k l0 0).bind fun t312 => (if t312 = true then (if a1 < 1 then (impl_SpreadRow.j0 k l0 a1 true) else (impl_SpreadRow.j0 k l0 a1 (decide (a1 > 10)))) else (impl_SpreadRow.j0 k l0 a1 true))
theorem impl_SpreadRow.mono_l : ∀ k, (∀ y0 y1 y2, LeO (impl_SpreadRow.j0 k y0 y1 y2) (impl_SpreadRow.j0 (k + 1) y0 y1 y2)) ∧ (∀ y0 y1 y2 y3 y4, LeO (impl_SpreadRow.l0 k y0 y1 y2 y3 y4) (impl_SpreadRow.l0 (k + 1) y0 y1 y2 y3 y4))
  | 0 => ⟨fun _ _ _ r h => by simp [impl_SpreadRow.j0] at h, fun _ _ _ _ _ r h => by simp [impl_SpreadRow.l0] at h⟩
  | k + 1 => by
    obtain ⟨ih0, ih1⟩ := impl_SpreadRow.mono_l k
    refine ⟨?_, ?_⟩
    · intro y0 y1 y2
      unfold impl_SpreadRow.j0
      repeat' first
      | (with_reducible exact ih0 _ _ _)
      | (with_reducible exact ih1 _ _ _ _ _)
      | (with_reducible exact impl_fits.mono _ _ _)
      | (with_reducible exact impl_madeRow.mono _ _)
      | (with_reducible exact LeO.refl _)
      | (with_reducible exact LeO.none _)
      | (with_reducible refine LeO.ite ?_ ?_)
      | (with_reducible refine LeO.bind ?_ (fun _ => ?_))
      | exact ih0 _ _ _
      | exact ih1 _ _ _ _ _
      | exact impl_fits.mono _ _ _
      | exact impl_madeRow.mono _ _
      | exact LeO.none _
      | refine LeO.ite ?_ ?_
      | refine LeO.bind ?_ (fun _ => ?_)
    · intro y0 y1 y2 y3 y4
      unfold impl_SpreadRow.l0
      repeat' first
      | (with_reducible exact ih0 _ _ _)
      | (with_reducible exact ih1 _ _ _ _ _)
      | (with_reducible exact impl_fits.mono _ _ _)
      | (with_reducible exact impl_madeRow.mono _ _)
      | (with_reducible exact LeO.refl _)
      | (with_reducible exact LeO.none _)
      | (with_reducible refine LeO.ite ?_ ?_)
      | (with_reducible refine LeO.bind ?_ (fun _ => ?_))
      | exact ih0 _ _ _
      | exact ih1 _ _ _ _ _
      | exact impl_fits.mono _ _ _
      | exact impl_madeRow.mono _ _
      | exact LeO.none _
      | refine LeO.ite ?_ ?_
      | refine LeO.bind ?_ (fun _ => ?_)
theorem impl_SpreadRow.mono : ∀ a0 a1 k, LeO (impl_SpreadRow.f k a0 a1) (impl_SpreadRow.f (k + 1) a0 a1) := by
  intro a0 a1 k
  obtain ⟨ih0, ih1⟩ := impl_SpreadRow.mono_l k
  unfold impl_SpreadRow.f
  repeat' first
      | (with_reducible exact ih0 _ _ _)
      | (with_reducible exact ih1 _ _ _ _ _)
      | (with_reducible exact impl_fits.mono _ _ _)
      | (with_reducible exact impl_madeRow.mono _ _)
      | (with_reducible exact LeO.refl _)
      | (with_reducible exact LeO.none _)
      | (with_reducible refine LeO.ite ?_ ?_)
      | (with_reducible refine LeO.bind ?_ (fun _ => ?_))
      | exact ih0 _ _ _
      | exact ih1 _ _ _ _ _
      | exact impl_fits.mono _ _ _
      | exact impl_madeRow.mono _ _
      | exact LeO.none _
      | refine LeO.ite ?_ ?_
      | refine LeO.bind ?_ (fun _ => ?_)
set_option maxHeartbeats 8000000 in
set_option maxRecDepth 100000 in
theorem impl_SpreadRow.calls (k : Nat) (A0 : Option Addr) (c0 : Nat) (l0 : List Int) (a1 : Int) (r1 : List Int) (r2 : Bool) (w : World) (hr0 : Kd.C (Kd.int .i64) w A0 l0.length l0) (hc0 : l0.length ≤ c0) (h : impl_SpreadRow.f k l0 a1 = some (r1, r2)) :
    Calls Try.prog 35 #[.slice A0 l0.length c0, .int .i64 a1] w fun e w' => ∃ v0_ : Value, e = .returned (.tuple #[v0_, .bool r2]) ∧ Kd.R (Kd.int .i64) 3 w' w.heap.size (fun _ => True) v0_ r1 ∧ Below w.heap.size w w' := by
  have HR0 := Aside0.mk hr0
  have HC0 := Aside0.mk hc0
  clear hr0 hc0
  have HB := Aside0.mk (Below.refl w.heap.size w)
  have H : ((impl_fits.f k l0 0).bind fun t312 => (if t312 = true then (if a1 < 1 then (impl_SpreadRow.j0 k l0 a1 true) else (impl_SpreadRow.j0 k l0 a1 (decide (a1 > 10)))) else (impl_SpreadRow.j0 k l0 a1 true))) = some (r1, r2) := h
  clear h
  have HC3 := Aside0.mk H
  clear H
  go_enter Try.func35, Try.ntmps35
  go_upto_region 1 with (fail)
  go_cut [19] (fun v19 wc => ∃ (kq : Nat) (x19_2 : Bool), v19 = .bool x19_2 ∧ Aside0 (impl_SpreadRow.j0 kq l0 a1 x19_2 = some (r1, r2)) ∧ Aside0 (kq ≤ k) ∧ Aside0 (Below w.heap.size w wc))
  case first =>
    have H := HC3.out
    clear HC3
    replace H := Option.bind_eq_some_iff.mp H
    obtain ⟨t312, A40, H⟩ := H
    replace H : (if t312 = true then (if a1 < 1 then (impl_SpreadRow.j0 k l0 a1 true) else (impl_SpreadRow.j0 k l0 a1 (decide (a1 > 10)))) else (impl_SpreadRow.j0 k l0 a1 true)) = some (r1, r2) := H
    have A4 := Aside0.mk A40
    clear A40
    by_cases c5 : t312 = true
    · subst c5
      have H1 : (if a1 < 1 then (impl_SpreadRow.j0 k l0 a1 true) else (impl_SpreadRow.j0 k l0 a1 (decide (a1 > 10)))) = some (r1, r2) := by rw [if_pos rfl] at H; exact H
      clear H
      have H := H1
      clear H1
      by_cases c6 : a1 < 1
      · rw [if_pos c6] at H
        have c6b0 : decide (a1 < 1) = true := decide_eq_true c6
        clear c6
        (first | rw [c6b0] | (simp only [i64_w, i32_w]; rw [c6b0]) | skip)
        have H' := Aside0.mk H
        clear H
        go_wp2_with (first | ((with_reducible refine gate_callee (f := 63) rfl ?_); refine goesL_ (some 10) rfl rfl Try.func63 (by kernel_rfl) rfl #[.slice A0 l0.length c0, .int .i64 0] rfl (by (try simp only [List.map_toArray, List.map_cons, List.map_nil]); first | done | rfl | (simp only [List.length_drop, List.length_take]; rfl)) ?_; (with_reducible refine (impl_fits.calls k _ _ l0 0 true _ ?side1 ?side2 A4.out).mono ?_); (case side1 => repeat (first | exact (Kd.C_below HR0.out HB.out) | (with_reducible refine Kd.C_alloc ?_ _) | (with_reducible refine Kd.C_drewN ?_ _) | (with_reducible refine Kd.C_drew ?_))); (case side2 => exact HC0.out); rintro e w7 ⟨rfl, hb⟩; refine ⟨_, rfl, ?_⟩; have n0_ := Aside0.mk (below_step (by repeat (first | (with_reducible first | exact HB.out | apply below_alloc | apply pw_below_drewN | apply below_drew1) | exact HB.out)) hb); clear HB; have HB := n0_; clear n0_; (try clear hb); (try clear hb2); (try clear hk); (try clear hi)))
        go_meet
        case rel => exact ⟨_, (true), (by first | rfl | (simp; done) | (simp [*]; done)), H', ⟨by first | omega | exact Nat.le_refl _⟩, ⟨by repeat (first | (with_reducible first | exact HB.out | apply below_alloc | apply pw_below_drewN | apply below_drew1) | exact HB.out)⟩⟩
      · rw [if_neg c6] at H
        have c6b0 : decide (a1 < 1) = false := decide_eq_false c6
        clear c6
        (first | rw [c6b0] | (simp only [i64_w, i32_w]; rw [c6b0]) | skip)
        have H' := Aside0.mk H
        clear H
        go_wp2_with (first | ((with_reducible refine gate_callee (f := 63) rfl ?_); refine goesL_ (some 10) rfl rfl Try.func63 (by kernel_rfl) rfl #[.slice A0 l0.length c0, .int .i64 0] rfl (by (try simp only [List.map_toArray, List.map_cons, List.map_nil]); first | done | rfl | (simp only [List.length_drop, List.length_take]; rfl)) ?_; (with_reducible refine (impl_fits.calls k _ _ l0 0 true _ ?side1 ?side2 A4.out).mono ?_); (case side1 => repeat (first | exact (Kd.C_below HR0.out HB.out) | (with_reducible refine Kd.C_alloc ?_ _) | (with_reducible refine Kd.C_drewN ?_ _) | (with_reducible refine Kd.C_drew ?_))); (case side2 => exact HC0.out); rintro e w8 ⟨rfl, hb⟩; refine ⟨_, rfl, ?_⟩; have n0_ := Aside0.mk (below_step (by repeat (first | (with_reducible first | exact HB.out | apply below_alloc | apply pw_below_drewN | apply below_drew1) | exact HB.out)) hb); clear HB; have HB := n0_; clear n0_; (try clear hb); (try clear hb2); (try clear hk); (try clear hi)))
        go_meet
        case rel => exact ⟨_, (decide (a1 > 10)), (by first | rfl | (simp; done) | (simp [*]; done)), H', ⟨by first | omega | exact Nat.le_refl _⟩, ⟨by repeat (first | (with_reducible first | exact HB.out | apply below_alloc | apply pw_below_drewN | apply below_drew1) | exact HB.out)⟩⟩
    · replace c5 := Bool.eq_false_iff.mpr c5
      subst c5
      have H1 : (impl_SpreadRow.j0 k l0 a1 true) = some (r1, r2) := by rw [if_neg (show ¬ (false = true) by decide)] at H; exact H
      clear H
      have H := H1
      clear H1
      have H' := Aside0.mk H
      clear H
      go_wp2_with (first | ((with_reducible refine gate_callee (f := 63) rfl ?_); refine goesL_ (some 10) rfl rfl Try.func63 (by kernel_rfl) rfl #[.slice A0 l0.length c0, .int .i64 0] rfl (by (try simp only [List.map_toArray, List.map_cons, List.map_nil]); first | done | rfl | (simp only [List.length_drop, List.length_take]; rfl)) ?_; (with_reducible refine (impl_fits.calls k _ _ l0 0 false _ ?side1 ?side2 A4.out).mono ?_); (case side1 => repeat (first | exact (Kd.C_below HR0.out HB.out) | (with_reducible refine Kd.C_alloc ?_ _) | (with_reducible refine Kd.C_drewN ?_ _) | (with_reducible refine Kd.C_drew ?_))); (case side2 => exact HC0.out); rintro e w9 ⟨rfl, hb⟩; refine ⟨_, rfl, ?_⟩; have n0_ := Aside0.mk (below_step (by repeat (first | (with_reducible first | exact HB.out | apply below_alloc | apply pw_below_drewN | apply below_drew1) | exact HB.out)) hb); clear HB; have HB := n0_; clear n0_; (try clear hb); (try clear hb2); (try clear hk); (try clear hi)))
      go_meet
      case rel => exact ⟨_, (true), (by first | rfl | (simp; done) | (simp [*]; done)), H', ⟨by first | omega | exact Nat.le_refl _⟩, ⟨by repeat (first | (with_reducible first | exact HB.out | apply below_alloc | apply pw_below_drewN | apply below_drew1) | exact HB.out)⟩⟩
  case rest =>
    clear HC3
    try clear p2
    try clear c3
    try clear c5
    try clear c6
    try clear c6b0
    obtain ⟨kq, x19_2, rfl, HA, HJ2, HB⟩ := hcut
    cases kq with
    | zero => exact absurd HA.out (by simp [impl_SpreadRow.j0])
    | succ kj2 =>
      have H := HA.out
      clear HA
      simp only [impl_SpreadRow.j0] at H
      by_cases c10 : x19_2 = true
      · subst c10
        have H1 : (some (([] : List Int), false)) = some (r1, r2) := by rw [if_pos rfl] at H; exact H
        clear H
        have H := H1
        clear H1
        simp only [Option.some.injEq, Prod.mk.injEq] at H
        obtain ⟨rfl, rfl⟩ := H
        go_wp2
        go_ret2
        exact ⟨_, by first | rfl | (simp [errW_none, errW_some] <;> rfl) | (simp [*, errW_none, errW_some] <;> rfl), by first | exact Kd.R_nil _ _ _ _ _ | exact Kd.N_nil _ _ _ _ _ | exact Kd.V_nil _ _ _ _ _ | exact Kd.Q_nil _ _ _ _ _ | exact Kd.S_nil _ _ _ _ _, by repeat (first | (with_reducible first | exact HB.out | apply below_alloc | apply pw_below_drewN | apply below_drew1) | exact HB.out)⟩
      · replace c10 := Bool.eq_false_iff.mpr c10
        subst c10
        have H1 : (impl_SpreadRow.l0 kj2 a1 ([] : List Int) l0 (l0.length : Int) 0) = some (r1, r2) := by rw [if_neg (show ¬ (false = true) by decide)] at H; exact H
        clear H
        have H := H1
        clear H1
        have H' := Aside0.mk H
        clear H
        go_wp2
        go_loopg [6, 22] kj2 (fun kq v6 v22 w' => ∃ (x6_2 : List Int) (x22_2 : Int), v22 = .int .i64 x22_2 ∧ Aside0 (impl_SpreadRow.l0 kq a1 x6_2 l0 (l0.length : Int) x22_2 = some (r1, r2)) ∧ Aside0 (kq ≤ kj2) ∧ Aside0 (Kd.R (Kd.int .i64) 3 w' w.heap.size (fun _ => True) v6 x6_2) ∧ Aside0 (Below w.heap.size w w'))
        case atStart => exact ⟨(([] : List Int)), (0), (by first | rfl | (simp; done) | (simp [*]; done)), H', ⟨Nat.le_refl _⟩, ⟨by first | exact Kd.R_nil _ _ _ _ _ | exact Kd.N_nil _ _ _ _ _ | exact Kd.V_nil _ _ _ _ _ | exact Kd.Q_nil _ _ _ _ _ | exact Kd.S_nil _ _ _ _ _⟩, ⟨by repeat (first | (with_reducible first | exact HB.out | apply below_alloc | apply pw_below_drewN | apply below_drew1) | exact HB.out)⟩⟩
        case round =>
          clear H'
          try clear c1
          try clear p2
          try clear c3
          try clear c5
          try clear c6
          try clear c6b0
          try clear c10
          try clear p2
          obtain ⟨x6_2, x22_2, rfl, HA, HK2, HO_6, HB⟩ := hrel
          cases gk with
          | zero => exact absurd HA.out (by simp [impl_SpreadRow.l0])
          | succ k2 =>
            have H := HA.out
            clear HA
            simp only [impl_SpreadRow.l0] at H
            by_cases c11 : x22_2 < (l0.length : Int)
            · rw [if_pos c11] at H
              have c11b0 : decide (x22_2 < (l0.length : Int)) = true := decide_eq_true c11
              clear c11
              by_cases c12 : 0 ≤ x22_2
              · rw [if_pos c12] at H
                have c12b0 : decide (0 ≤ x22_2) = true := decide_eq_true c12
                clear c12
                by_cases c13 : x22_2 < (l0.length : Int)
                · rw [if_pos c13] at H
                  have c13b0 : decide (x22_2 < (l0.length : Int)) = true := decide_eq_true c13
                  clear c13
                  by_cases c14 : x22_2 > 0
                  · rw [if_pos c14] at H
                    have c14b0 : decide (0 < x22_2) = true := decide_eq_true c14
                    clear c14
                    obtain ⟨ji15, hji15⟩ : ∃ j_ : Int, (wrap64 (a1 - 1)) = j_ := ⟨_, rfl⟩
                    replace H : (if 0 ≤ (ji15) then (if x6_2.length + (ji15 : Int).toNat < 17592186044416 then ((some (x6_2 ++ List.replicate (ji15 : Int).toNat 0 : List Int)).bind fun y314 => (if y314.length < 17592186044416 then (impl_SpreadRow.l0 k2 a1 (y314 ++ [wrap64 ((rd l0 x22_2) * a1)]) l0 (l0.length : Int) (wrap64 (x22_2 + 1))) else (none))) else (none)) else (none)) = some (r1, r2) := by first | (rw [hji15] at H; exact H) | (simp only [hji15] at H ⊢; exact H)
                    have hji15w : (IntKind.i64.wrap (a1 - 1)) = ji15 := (i64_w _).trans hji15
                    by_cases c16 : 0 ≤ (ji15)
                    · rw [if_pos c16] at H
                      have c16b0 := eq_true c16
                      have c16b1 : decide (0 ≤ (ji15)) = true := decide_eq_true c16
                      clear c16
                      by_cases c17 : x6_2.length + (ji15 : Int).toNat < 17592186044416
                      · rw [if_pos c17] at H
                        have LMc17 := Aside0.mk c17
                        clear c17
                        obtain ⟨y314, hy314⟩ : ∃ y_ : List Int, y_ = (x6_2 ++ List.replicate (ji15 : Int).toNat 0) := ⟨_, rfl⟩
                        replace H : (if y314.length < 17592186044416 then (impl_SpreadRow.l0 k2 a1 (y314 ++ [wrap64 ((rd l0 x22_2) * a1)]) l0 (l0.length : Int) (wrap64 (x22_2 + 1))) else (none)) = some (r1, r2) := by first | (rw [hy314]; with_reducible exact H) | (have H2_ := (Option.bind_some _ _).symm.trans H; rw [hy314]; with_reducible exact H2_) | (have H2_ := (Option.bind_some _ _).symm.trans H; with_reducible exact H2_) | with_reducible exact H | (rw [hy314]; exact H) | exact H
                        have Ny314 := Aside0.mk hy314
                        clear hy314
                        by_cases c18 : y314.length < 17592186044416
                        · rw [if_pos c18] at H
                          have LMc18 := Aside0.mk c18
                          clear c18
                          obtain ⟨y317, hy317⟩ : ∃ y_ : List Int, y_ = (y314 ++ [wrap64 ((rd l0 x22_2) * a1)]) := ⟨_, rfl⟩
                          replace H : (impl_SpreadRow.l0 k2 a1 y317 l0 (l0.length : Int) (wrap64 (x22_2 + 1))) = some (r1, r2) := by first | (rw [hy317]; with_reducible exact H) | (have H2_ := (Option.bind_some _ _).symm.trans H; rw [hy317]; with_reducible exact H2_) | (have H2_ := (Option.bind_some _ _).symm.trans H; with_reducible exact H2_) | with_reducible exact H | (rw [hy317]; exact H) | exact H
                          have Ny317 := Aside0.mk hy317
                          clear hy317
                          have H' := Aside0.mk H
                          clear H
                          have p313 : 0 ≤ (x22_2 : Int) := of_decide_eq_true (by first | (with_reducible assumption) | assumption)
                          have q313 : x22_2 < (l0.length : Int) := of_decide_eq_true (by first | (with_reducible assumption) | assumption)
                          obtain ⟨ad313, e313, hx313_0⟩ := Kd.at_int HR0.out x22_2 p313 q313
                          cases e313
                          replace hx313_0 := (HB.out.cell (World.block_lt_of_cell? w _ hx313_0)).trans hx313_0
                          replace p313 := eq_true p313
                          replace q313 := eq_true q313
                          go_wp2_with (first | (at_builtin; refine Kd.R_append_zeros (Kd.int .i64) (w0 := w) w.heap.size rfl (.tmp 29) (.tmp 31) 25 3 3 (.int .i64 0) 8 rfl Try.underlying25 Try.underlying3 info3 rfl (by decide) (by omega) u6 x6_2 0 (ji15 : Int) (fun _ => True) rfl rfl rfl ?aF ?aO (of_decide_eq_true (by first | (with_reducible assumption) | assumption)) ?aB ?aS ?aL ?_; (case aB => exact (by repeat (first | (with_reducible first | exact HB.out | apply below_alloc | apply pw_below_drewN | apply below_drew1) | exact HB.out))); (case aF => exact (fun _ _ => trivial)); (case aO => exact (by (with_reducible repeat (first | apply Kd.R_alloc | apply Kd.R_drewN | apply Kd.R_drew)); exact HO_6.out)); (case aS => exact (below_size (by repeat (first | (with_reducible first | exact HB.out | apply below_alloc | apply pw_below_drewN | apply below_drew1) | exact HB.out)))); (case aL => have := LMc17.out; omega); intro v315 w19 ho hb hg hat; rw [← Ny314.out] at ho; have n0_ := Aside0.mk (hb); have n1_ := Aside0.mk (ho); clear HB; clear HO_6; have HB := n0_; have HO316 := n1_; clear n0_ n1_; clear ho hb hg hat) | ((with_reducible refine gate_builtin (b := .append) (xs := #[.tmp 33, .tmp 37]) rfl ?_); at_builtin; refine Kd.R_append (Kd.int .i64) (w0 := w) w.heap.size rfl (.tmp 33) (.tmp 37) 25 3 (.int .i64 0) 8 rfl Try.underlying25 info3 rfl (by decide) (by omega) v315 y314 (wrap64 ((rd l0 x22_2) * a1)) [.int .i64 (wrap64 ((rd l0 x22_2) * a1))] (fun _ => True) (fun _ => False) rfl rfl ?aP (fun _ hk => hk.elim) ?aF ?aO ?aB ?aS ?aL ?_; (case aP => exact rfl); (case aB => exact (by repeat (first | (with_reducible first | exact HB.out | apply below_alloc | apply pw_below_drewN | apply below_drew1) | exact HB.out))); (case aF => exact (fun _ _ => trivial)); (case aO => exact (by (with_reducible repeat (first | apply Kd.R_alloc | apply Kd.R_drewN | apply Kd.R_drew)); exact HO316.out)); (case aS => exact (below_size (by repeat (first | (with_reducible first | exact HB.out | apply below_alloc | apply pw_below_drewN | apply below_drew1) | exact HB.out)))); (case aL => have := LMc18.out; omega); intro v318 w20 ho hb hg hat; rw [← Ny317.out] at ho; have n0_ := Aside0.mk (hb); have n1_ := Aside0.mk (ho); clear HB; clear HO316; have HB := n0_; have HO319 := n1_; clear n0_ n1_; clear ho hb hg hat))
                          go_roundg k2
                          case measure => have := HJ2.out; have := HK2.out; omega
                          case rel => exact ⟨(y317), (wrap64 (x22_2 + 1)), (by first | rfl | (simp; done) | (simp [*]; done)), H', ⟨by have := HJ2.out; have := HK2.out; omega⟩, ⟨by (with_reducible repeat (first | apply Kd.R_alloc | apply Kd.R_drewN | apply Kd.R_drew)); exact HO319.out⟩, ⟨by repeat (first | (with_reducible first | exact HB.out | apply below_alloc | apply pw_below_drewN | apply below_drew1) | exact HB.out)⟩⟩
                        · rw [if_neg c18] at H
                          exact absurd H (by simp)
                      · rw [if_neg c17] at H
                        exact absurd H (by simp)
                    · rw [if_neg c16] at H
                      exact absurd H (by simp)
                  · rw [if_neg c14] at H
                    have c14b0 : decide (0 < x22_2) = false := decide_eq_false c14
                    clear c14
                    by_cases c21 : x6_2.length < 17592186044416
                    · rw [if_pos c21] at H
                      have LMc21 := Aside0.mk c21
                      clear c21
                      obtain ⟨y320, hy320⟩ : ∃ y_ : List Int, y_ = (x6_2 ++ [wrap64 ((rd l0 x22_2) * a1)]) := ⟨_, rfl⟩
                      replace H : (impl_SpreadRow.l0 k2 a1 y320 l0 (l0.length : Int) (wrap64 (x22_2 + 1))) = some (r1, r2) := by first | (rw [hy320]; with_reducible exact H) | (have H2_ := (Option.bind_some _ _).symm.trans H; rw [hy320]; with_reducible exact H2_) | (have H2_ := (Option.bind_some _ _).symm.trans H; with_reducible exact H2_) | with_reducible exact H | (rw [hy320]; exact H) | exact H
                      have Ny320 := Aside0.mk hy320
                      clear hy320
                      have H' := Aside0.mk H
                      clear H
                      have p313 : 0 ≤ (x22_2 : Int) := of_decide_eq_true (by first | (with_reducible assumption) | assumption)
                      have q313 : x22_2 < (l0.length : Int) := of_decide_eq_true (by first | (with_reducible assumption) | assumption)
                      obtain ⟨ad313, e313, hx313_0⟩ := Kd.at_int HR0.out x22_2 p313 q313
                      cases e313
                      replace hx313_0 := (HB.out.cell (World.block_lt_of_cell? w _ hx313_0)).trans hx313_0
                      replace p313 := eq_true p313
                      replace q313 := eq_true q313
                      go_wp2_with (first | ((with_reducible refine gate_builtin (b := .append) (xs := #[.tmp 33, .tmp 37]) rfl ?_); at_builtin; refine Kd.R_append (Kd.int .i64) (w0 := w) w.heap.size rfl (.tmp 33) (.tmp 37) 25 3 (.int .i64 0) 8 rfl Try.underlying25 info3 rfl (by decide) (by omega) u6 x6_2 (wrap64 ((rd l0 x22_2) * a1)) [.int .i64 (wrap64 ((rd l0 x22_2) * a1))] (fun _ => True) (fun _ => False) rfl rfl ?aP (fun _ hk => hk.elim) ?aF ?aO ?aB ?aS ?aL ?_; (case aP => exact rfl); (case aB => exact (by repeat (first | (with_reducible first | exact HB.out | apply below_alloc | apply pw_below_drewN | apply below_drew1) | exact HB.out))); (case aF => exact (fun _ _ => trivial)); (case aO => exact (by (with_reducible repeat (first | apply Kd.R_alloc | apply Kd.R_drewN | apply Kd.R_drew)); exact HO_6.out)); (case aS => exact (below_size (by repeat (first | (with_reducible first | exact HB.out | apply below_alloc | apply pw_below_drewN | apply below_drew1) | exact HB.out)))); (case aL => have := LMc21.out; omega); intro v321 w22 ho hb hg hat; rw [← Ny320.out] at ho; have n0_ := Aside0.mk (hb); have n1_ := Aside0.mk (ho); clear HB; clear HO_6; have HB := n0_; have HO322 := n1_; clear n0_ n1_; clear ho hb hg hat))
                      go_roundg k2
                      case measure => have := HJ2.out; have := HK2.out; omega
                      case rel => exact ⟨(y320), (wrap64 (x22_2 + 1)), (by first | rfl | (simp; done) | (simp [*]; done)), H', ⟨by have := HJ2.out; have := HK2.out; omega⟩, ⟨by (with_reducible repeat (first | apply Kd.R_alloc | apply Kd.R_drewN | apply Kd.R_drew)); exact HO322.out⟩, ⟨by repeat (first | (with_reducible first | exact HB.out | apply below_alloc | apply pw_below_drewN | apply below_drew1) | exact HB.out)⟩⟩
                    · rw [if_neg c21] at H
                      exact absurd H (by simp)
                · rw [if_neg c13] at H
                  exact absurd H (by simp)
              · rw [if_neg c12] at H
                exact absurd H (by simp)
            · rw [if_neg c11] at H
              have c11b0 : decide (x22_2 < (l0.length : Int)) = false := decide_eq_false c11
              clear c11
              replace H := Option.bind_eq_some_iff.mp H
              obtain ⟨⟨t323, t326⟩, A230, H⟩ := H
              replace H : (some (t323, t326)) = some (r1, r2) := H
              have A23 := Aside0.mk A230
              clear A230
              simp only [Option.some.injEq, Prod.mk.injEq] at H
              obtain ⟨rfl, rfl⟩ := H
              obtain ⟨Ao24, co24, eo24⟩ := Kd.R_slice HO_6.out
              subst eo24
              go_wp2_with (first | ((with_reducible refine gate_callee (f := 52) rfl ?_); refine goesL_ (some 41) rfl rfl Try.func52 (by kernel_rfl) rfl #[.slice Ao24 x6_2.length co24] rfl (by (try simp only [List.map_toArray, List.map_cons, List.map_nil]); first | done | rfl | (simp only [List.length_drop, List.length_take]; rfl)) ?_; (with_reducible refine (impl_madeRow.calls k2 (fun k_ => some k_ = (.slice Ao24 x6_2.length co24 : Value).ownBlock) (.slice Ao24 x6_2.length co24) x6_2 t323 t326 w _ ?side1 ?side2 A23.out).mono ?_); (case side1 => repeat (first | (with_reducible first | exact HB.out | apply below_alloc | apply pw_below_drewN | apply below_drew1) | exact HB.out)); (case side2 => exact Kd.R_tight rfl HO_6.out); rintro e w25 ⟨v324, rfl, ho0, hb, hkp⟩; refine ⟨_, rfl, ?_⟩; have n0_ := Aside0.mk (Kd.R_mono (ok' := fun k_ => True) ho0 (fun k_ hk_ => trivial)); have n1_ := Aside0.mk (hb); clear HB; clear HO_6; have HO325 := n0_; have HB := n1_; clear n0_ n1_; (try clear hb); (try clear hkp); (try clear ho0)))
              go_ret2
              exact ⟨_, by first | rfl | (simp [errW_none, errW_some] <;> rfl) | (simp [*, errW_none, errW_some] <;> rfl), by (with_reducible repeat (first | apply Kd.R_alloc | apply Kd.R_drewN | apply Kd.R_drew)); exact HO325.out, by repeat (first | (with_reducible first | exact HB.out | apply below_alloc | apply pw_below_drewN | apply below_drew1) | exact HB.out)⟩

noncomputable def impl_SpreadRow.J0 (x0 : List Int) (x1 : Int) (x19 : Bool) : Option (List Int × Bool) := lim fun k => impl_SpreadRow.j0 k x0 x1 x19
theorem impl_SpreadRow.J0_lim (x0 : List Int) (x1 : Int) (x19 : Bool) : Lim (fun k => impl_SpreadRow.j0 k x0 x1 x19) (impl_SpreadRow.J0 x0 x1 x19) := Lim.of fun k => (impl_SpreadRow.mono_l k).1 x0 x1 x19
noncomputable def impl_SpreadRow.L0 (x1 : Int) (x6 : List Int) (x20 : List Int) (x21 : Int) (x22 : Int) : Option (List Int × Bool) := lim fun k => impl_SpreadRow.l0 k x1 x6 x20 x21 x22
theorem impl_SpreadRow.L0_lim (x1 : Int) (x6 : List Int) (x20 : List Int) (x21 : Int) (x22 : Int) : Lim (fun k => impl_SpreadRow.l0 k x1 x6 x20 x21 x22) (impl_SpreadRow.L0 x1 x6 x20 x21 x22) := Lim.of fun k => (impl_SpreadRow.mono_l k).2 x1 x6 x20 x21 x22
noncomputable def impl_SpreadRow.F (l0 : List Int) (a1 : Int) : Option (List Int × Bool) := lim fun k => impl_SpreadRow.f k l0 a1
theorem impl_SpreadRow.F_lim (l0 : List Int) (a1 : Int) : Lim (fun k => impl_SpreadRow.f k l0 a1) (impl_SpreadRow.F l0 a1) := Lim.of fun k => impl_SpreadRow.mono l0 a1 k
theorem impl_SpreadRow.J0_eq (x0 : List Int) (x1 : Int) (x19 : Bool) : impl_SpreadRow.J0 x0 x1 x19 = (if x19 = true then (some (([] : List Int), false)) else (impl_SpreadRow.L0 x1 ([] : List Int) x0 (x0.length : Int) 0)) :=
  Lim.step (f := fun k => (if x19 = true then (some (([] : List Int), false)) else (impl_SpreadRow.l0 k x1 ([] : List Int) x0 (x0.length : Int) 0))) (impl_SpreadRow.J0_lim x0 x1 x19) (fun k => by first | rfl | rw [impl_SpreadRow.j0]) (by
    repeat' first
    | (with_reducible exact Lim.const _)
    | (with_reducible exact impl_SpreadRow.L0_lim _ _ _ _ _)
    | (with_reducible refine Lim.ite ?_ ?_)
    | (with_reducible refine Lim.bind ?_ (fun _ => ?_)))
theorem impl_SpreadRow.L0_eq (x1 : Int) (x6 : List Int) (x20 : List Int) (x21 : Int) (x22 : Int) : impl_SpreadRow.L0 x1 x6 x20 x21 x22 = (if x22 < x21 then (if 0 ≤ x22 then (if x22 < (x20.length : Int) then (if x22 > 0 then (if 0 ≤ (wrap64 (x1 - 1)) then (if x6.length + (wrap64 (x1 - 1) : Int).toNat < 17592186044416 then ((some (x6 ++ List.replicate (wrap64 (x1 - 1) : Int).toNat 0 : List Int)).bind fun y314 => (if y314.length < 17592186044416 then (impl_SpreadRow.L0 x1 (y314 ++ [wrap64 ((rd x20 x22) * x1)]) x20 x21 (wrap64 (x22 + 1))) else (none))) else (none)) else (none)) else (if x6.length < 17592186044416 then (impl_SpreadRow.L0 x1 (x6 ++ [wrap64 ((rd x20 x22) * x1)]) x20 x21 (wrap64 (x22 + 1))) else (none))) else (none)) else (none)) else ((impl_madeRow.F x6).bind fun bt323 => (some (bt323.1, bt323.2)))) :=
  Lim.step (f := fun k => (if x22 < x21 then (if 0 ≤ x22 then (if x22 < (x20.length : Int) then (if x22 > 0 then (if 0 ≤ (wrap64 (x1 - 1)) then (if x6.length + (wrap64 (x1 - 1) : Int).toNat < 17592186044416 then ((some (x6 ++ List.replicate (wrap64 (x1 - 1) : Int).toNat 0 : List Int)).bind fun y314 => (if y314.length < 17592186044416 then (impl_SpreadRow.l0 k x1 (y314 ++ [wrap64 ((rd x20 x22) * x1)]) x20 x21 (wrap64 (x22 + 1))) else (none))) else (none)) else (none)) else (if x6.length < 17592186044416 then (impl_SpreadRow.l0 k x1 (x6 ++ [wrap64 ((rd x20 x22) * x1)]) x20 x21 (wrap64 (x22 + 1))) else (none))) else (none)) else (none)) else ((impl_madeRow.f k x6).bind fun bt323 => (some (bt323.1, bt323.2))))) (impl_SpreadRow.L0_lim x1 x6 x20 x21 x22) (fun k => by first | rfl | rw [impl_SpreadRow.l0]) (by
    repeat' first
    | (with_reducible exact Lim.const _)
    | (with_reducible exact impl_SpreadRow.L0_lim _ _ _ _ _)
    | (with_reducible exact impl_madeRow.F_lim _)
    | (with_reducible refine Lim.ite ?_ ?_)
    | (with_reducible refine Lim.bind ?_ (fun _ => ?_)))
theorem impl_SpreadRow.F_eq (l0 : List Int) (a1 : Int) : impl_SpreadRow.F l0 a1 = ((impl_fits.F l0 0).bind fun t312 => (if t312 = true then (if a1 < 1 then (impl_SpreadRow.J0 l0 a1 true) else (impl_SpreadRow.J0 l0 a1 (decide (a1 > 10)))) else (impl_SpreadRow.J0 l0 a1 true))) :=
  Lim.unique (impl_SpreadRow.F_lim l0 a1) (by
    unfold impl_SpreadRow.f
    repeat' first
    | (with_reducible exact Lim.const _)
    | (with_reducible exact impl_SpreadRow.J0_lim _ _ _)
    | (with_reducible exact impl_fits.F_lim _ _)
    | (with_reducible refine Lim.ite ?_ ?_)
    | (with_reducible refine Lim.bind ?_ (fun _ => ?_)))

end Go.Proofs.Ytmhcgihkijiecaa.Fn
