/- The machine's side and plain lemmas for FnExactHoleOf: texts of this session, merged by its program (part 2). -/
import Derived.Test.YtmhcgihkijiecaaMFnExactHoleOf0
import Derived.Test.YtmhcgihkijiecaaMFnExactHoleOf1
namespace Go.Proofs.Ytmhcgihkijiecaa.Fn
open Go.RowKit Go.Proofs.YtmhcgihkijiecaaW.PrintWords Go.Proofs.YtmhcgihkijiecaaW.PrintLast Go.Proofs.YtmhcgihkijiecaaW.PrintMore
set_option linter.unusedVariables false
set_option linter.unusedSimpArgs false
theorem placesFrom_count (n : Int) : ∀ (l : List Int) (i : Nat), (placesFrom n i l).length = l.count n
  | [], i => by simp [placesFrom]
  | x :: l, i => by
    have ih := placesFrom_count n l (i + 1)
    by_cases h : x = n
    · subst h
      simp [placesFrom, ih]
    · simp [placesFrom, h, ih]
theorem placesOf_count (l : List Int) (n : Int) : (placesOf l n).length = l.count n := placesFrom_count n l 0
theorem pairsOk_eq (l : List Int) : pairsOk l = (List.range' 1 20).all fun k => (placesOf l (k : Nat)).length == 0 || (placesOf l (k : Nat)).length == 2 := by
  unfold pairsOk
  rw [show List.range 21 = 0 :: List.range' 1 20 from rfl, List.all_cons]
  simp only [atOf, if_true, List.length_nil, beq_self_eq_true, Bool.true_or, Bool.true_and]
  rw [Bool.eq_iff_iff, List.all_eq_true, List.all_eq_true]
  have hk : ∀ k, k ∈ List.range' 1 20 → ¬ k = 0 := fun k hk => by have := List.mem_range'_1.1 hk; omega
  exact ⟨fun H k h => by have := H k h; rw [if_neg (hk k h)] at this; exact this, fun H k h => by rw [if_neg (hk k h)]; exact H k h⟩
theorem pairsOk_count {l : List Int} (h : pairsOk l = true) (k : Nat) (h1 : 1 ≤ k) (h2 : k ≤ 20) : l.count (k : Int) = 0 ∨ l.count (k : Int) = 2 := by
  rw [pairsOk_eq, List.all_eq_true] at h
  have := h k (List.mem_range'_1.2 (by omega))
  rw [placesOf_count] at this
  simpa using this
/-- The numbers of a row, from n on, m of them looked at. -/
def numbersFrom (l : List Int) (n m : Nat) : List Int := ((List.range' n m).filter (fun k : Nat => decide ((k : Int) ∈ l))).map (fun k : Nat => (k : Int))
def numbersOf (l : List Int) : List Int := numbersFrom l 1 20
theorem numbersFrom_length (l : List Int) (n m : Nat) : (numbersFrom l n m).length ≤ m := by
  unfold numbersFrom
  have := List.length_filter_le (fun k : Nat => decide ((k : Int) ∈ l)) (List.range' n m)
  simp at this ⊢
  exact this
theorem mem_numbersOf (l : List Int) (v : Int) : v ∈ numbersOf l ↔ v ∈ l ∧ 1 ≤ v ∧ v ≤ 20 := by
  simp only [numbersOf, numbersFrom, List.mem_map, List.mem_filter, List.mem_range'_1, decide_eq_true_eq]
  constructor
  · rintro ⟨k, ⟨hi, hk⟩, rfl⟩
    exact ⟨hk, by omega, by omega⟩
  · rintro ⟨h, h1, h2⟩
    refine ⟨v.toNat, ⟨by omega, ?_⟩, by omega⟩
    rwa [Int.toNat_of_nonneg (by omega)]
theorem fitsAt_eq (l : List Int) (s : Int) (h : pairsOk l = true) : fitsAt l s = (numbersOf l).all fun v => wrap64 (rd (placesOf l v) 1 - rd (placesOf l v) 0) == wrap64 (v + s) := by
  unfold fitsAt
  rw [Bool.eq_iff_iff, List.all_eq_true, List.all_eq_true]
  constructor
  · intro H v hv
    obtain ⟨h1, h2, h3⟩ := (mem_numbersOf l v).1 hv
    obtain ⟨k, rfl⟩ : ∃ k : Nat, v = (k : Int) := ⟨v.toNat, by omega⟩
    have hk := H k (by simp; omega)
    have hz : ¬ k = 0 := by omega
    rw [atOf, if_neg hz, placesOf_count] at hk
    have h5 : 0 < l.count (k : Int) := List.count_pos_iff.2 h1
    rcases pairsOk_count h k (by omega) (by omega) with h4 | h4
    · omega
    · rw [h4] at hk
      simpa using hk
  · intro H k hk
    by_cases hz : k = 0
    · subst hz
      rfl
    · rw [atOf, if_neg hz, placesOf_count]
      by_cases h4 : l.count (k : Int) = 2
      · have h5 : (k : Int) ∈ l := List.count_pos_iff.1 (by omega)
        have := H k ((mem_numbersOf l k).2 ⟨h5, by omega, by simp at hk; omega⟩)
        rw [h4]
        simpa using this
      · rw [beq_false_of_ne h4]
        rfl
/-- A row in which each number stands twice or not at all. -/
def isPairs (l : List Int) : Bool := isRow l && pairsOk l
theorem isPairs_row {l : List Int} (h : isPairs l = true) : isRow l = true := by
  unfold isPairs at h
  exact (Bool.and_eq_true_iff.1 h).1
theorem isPairs_ok {l : List Int} (h : isPairs l = true) : pairsOk l = true := by
  unfold isPairs at h
  exact (Bool.and_eq_true_iff.1 h).2
theorem spec_roPlaces.L0_val (n : Int) : ∀ (suf pre acc : List Int), (pre ++ suf).length < 4611686018427387904 → acc.length + suf.length < 17592186044416 → spec_roPlaces.L0 n acc (pre ++ suf) ((pre ++ suf).length : Int) (pre.length : Int) = some (acc ++ placesFrom n pre.length suf)
  | [], pre, acc, h, ha => by
    rw [spec_roPlaces.L0_eq, range_end]
    simp [placesFrom]
  | x :: suf, pre, acc, h, ha => by
    have ha' : acc.length + (suf.length + 1) < 17592186044416 := by simpa using ha
    have e : (pre ++ [x]).length = pre.length + 1 := by simp
    rw [spec_roPlaces.L0_eq, range_step, rd_mid, wrap_mid h, app_mid pre x suf]
    by_cases h1 : x = n
    · rw [if_pos h1, if_pos (by omega), spec_roPlaces.L0_val n suf (pre ++ [x]) _ (by simpa using h) (by simp; omega), e]
      simp [placesFrom, h1]
    · rw [if_neg h1, spec_roPlaces.L0_val n suf (pre ++ [x]) _ (by simpa using h) (by omega), e]
      simp [placesFrom, h1]
theorem spec_roPlaces.F_val (l : List Int) (n : Int) (h : l.length < 17592186044416) : spec_roPlaces.F l n = some (placesOf l n) := by
  rw [spec_roPlaces.F_eq]
  have := spec_roPlaces.L0_val n l [] [] (by simp; omega) (by simpa using h)
  simpa [placesOf] using this
theorem spec_roPairs.L0_val (l : List Int) (hl : l.length < 17592186044416) : ∀ (m n : Nat), n + m = 21 → spec_roPairs.L0 l (n : Int) = some ((List.range' n m).all fun k => (placesOf l (k : Nat)).length == 0 || (placesOf l (k : Nat)).length == 2)
  | 0, n, h => by
    rw [spec_roPairs.L0_eq, if_neg (by omega)]
    rfl
  | m + 1, n, h => by
    have e : wrap64 ((n : Int) + 1) = ((n + 1 : Nat) : Int) := by rw [wrap_in (by omega) (by omega)]; omega
    rw [spec_roPairs.L0_eq, if_pos (by omega), spec_roPlaces.F_val l n hl]
    simp only [Option.bind_some]
    rw [e, spec_roPairs.L0_val l hl m (n + 1) (by omega), List.range'_succ, List.all_cons]
    by_cases h0 : (placesOf l n).length = 0
    · rw [if_pos (by omega), beq_iff_eq.2 h0]
      rfl
    · rw [if_neg (by omega), beq_false_of_ne h0]
      by_cases h2 : (placesOf l n).length = 2
      · rw [if_pos (by omega), beq_iff_eq.2 h2]
        rfl
      · rw [if_neg (by omega), beq_false_of_ne h2]
        rfl
theorem spec_roPairs.F_val (l : List Int) (hl : l.length < 17592186044416) : spec_roPairs.F l = some (pairsOk l) := by
  rw [spec_roPairs.F_eq, pairsOk_eq]
  exact spec_roPairs.L0_val l hl 20 1 (by omega)
theorem spec_roIs.F_val (l : List Int) (h : l.length < 17592186044416) : spec_roIs.F l = some (isPairs l) := by
  rw [spec_roIs.F_eq, spec_roGood.F_val l (by omega)]
  simp only [Option.bind_some]
  unfold isPairs
  by_cases h1 : isRow l = true
  · rw [if_pos h1, spec_roPairs.F_val l h, h1]
    rfl
  · rw [if_neg h1, Bool.eq_false_iff.2 h1]
    rfl
theorem impl_isPairs.F_val (l : List Int) (h : l.length < 4611686018427387904) : impl_isPairs.F l = some (isPairs l) := by
  rw [impl_isPairs.F_eq, impl_IsRow.F_val l h]
  simp only [Option.bind_some]
  unfold isPairs
  by_cases h1 : isRow l = true
  · rw [if_pos h1, h1]
    rfl
  · rw [if_neg h1, Bool.eq_false_iff.2 h1]
    rfl
theorem impl_fits.F_val (l : List Int) (s : Int) (h : l.length < 4611686018427387904) : impl_fits.F l s = some (isPairs l && fitsAt l s) := by
  rw [impl_fits.F_eq, impl_isPairs.F_val l h]
  simp only [Option.bind_some]
  by_cases h1 : isPairs l = true
  · rw [if_pos h1, h1]
    rfl
  · rw [if_neg h1, Bool.eq_false_iff.2 h1]
    rfl
theorem spec_l1Has.L0_val (n : Int) : ∀ (suf pre : List Int), (pre ++ suf).length < 4611686018427387904 → spec_l1Has.L0 n (pre ++ suf) ((pre ++ suf).length : Int) (pre.length : Int) = some (decide (n ∈ suf))
  | [], pre, h => by
    rw [spec_l1Has.L0_eq, range_end]
    simp
  | x :: suf, pre, h => by
    rw [spec_l1Has.L0_eq, range_step, rd_mid, wrap_mid h, app_mid pre x suf, spec_l1Has.L0_val n suf (pre ++ [x]) (by simpa using h)]
    by_cases h1 : x = n
    · rw [if_pos h1]
      simp [h1]
    · rw [if_neg h1]
      have : ¬ n = x := fun h => h1 h.symm
      simp [this]
theorem spec_l1Has.F_val (l : List Int) (n : Int) (h : l.length < 4611686018427387904) : spec_l1Has.F l n = some (decide (n ∈ l)) := by
  rw [spec_l1Has.F_eq]
  have := spec_l1Has.L0_val n l [] (by simpa using h)
  simpa using this
/-- The first place of a number, the first one counted as i; -1 where it does not stand. -/
def indexFrom (n : Int) : Nat → List Int → Int
  | _, [] => -1
  | i, x :: l => if n = x then (i : Int) else indexFrom n (i + 1) l
theorem indexFrom_mem (n : Int) : ∀ (l : List Int) (i : Nat), 0 ≤ indexFrom n i l ↔ n ∈ l
  | [], i => by simp [indexFrom]
  | x :: l, i => by
    have ih := indexFrom_mem n l (i + 1)
    by_cases h : n = x
    · simp [indexFrom, h]
    · simp [indexFrom, h, ih]
theorem slices_Index_int_int.L0_val (n : Int) : ∀ (suf pre : List Int), (pre ++ suf).length < 4611686018427387904 → slices_Index_int_int.L0 (pre ++ suf) n ((pre ++ suf).length : Int) (pre.length : Int) = some (indexFrom n pre.length suf)
  | [], pre, h => by
    rw [slices_Index_int_int.L0_eq, range_end]
    rfl
  | x :: suf, pre, h => by
    have e : (pre ++ [x]).length = pre.length + 1 := by simp
    rw [slices_Index_int_int.L0_eq, range_step, rd_mid, wrap_mid h, app_mid pre x suf, slices_Index_int_int.L0_val n suf (pre ++ [x]) (by simpa using h), e, indexFrom]
    split <;> rfl
theorem slices_Index_int_int.F_val (l : List Int) (n : Int) (h : l.length < 4611686018427387904) : slices_Index_int_int.F l n = some (indexFrom n 0 l) := by
  rw [slices_Index_int_int.F_eq]
  have := slices_Index_int_int.L0_val n l [] (by simpa using h)
  simpa using this
theorem slices_Contains_int_int.F_val (l : List Int) (n : Int) (h : l.length < 4611686018427387904) : slices_Contains_int_int.F l n = some (decide (n ∈ l)) := by
  rw [slices_Contains_int_int.F_eq, slices_Index_int_int.F_val l n h]
  simp only [Option.bind_some]
  have := indexFrom_mem n l 0
  congr 1
  rw [decide_eq_decide]
  exact this
theorem spec_roNumbers.L0_val (l : List Int) (hl : l.length < 4611686018427387904) : ∀ (m n : Nat) (acc : List Int), n + m = 21 → acc.length + m < 100 → spec_roNumbers.L0 l acc (n : Int) = some (acc ++ numbersFrom l n m)
  | 0, n, acc, h, ha => by
    rw [spec_roNumbers.L0_eq, if_neg (by omega)]
    simp [numbersFrom]
  | m + 1, n, acc, h, ha => by
    have e : wrap64 ((n : Int) + 1) = ((n + 1 : Nat) : Int) := by rw [wrap_in (by omega) (by omega)]; omega
    rw [spec_roNumbers.L0_eq, if_pos (by omega), spec_l1Has.F_val l n hl]
    simp only [Option.bind_some]
    by_cases h1 : (n : Int) ∈ l
    · rw [if_pos (by simpa using h1), if_pos (by omega), e, spec_roNumbers.L0_val l hl m (n + 1) _ (by omega) (by simp; omega)]
      simp [numbersFrom, List.range'_succ, h1]
    · rw [if_neg (by simpa using h1), e, spec_roNumbers.L0_val l hl m (n + 1) _ (by omega) (by omega)]
      simp [numbersFrom, List.range'_succ, h1]
theorem spec_roNumbers.F_val (l : List Int) (hl : l.length < 4611686018427387904) : spec_roNumbers.F l = some (numbersOf l) := by
  rw [spec_roNumbers.F_eq]
  exact spec_roNumbers.L0_val l hl 20 1 [] (by omega) (by simp)
theorem impl_numbers.L0_val (l : List Int) (hl : l.length < 4611686018427387904) : ∀ (m n : Nat) (acc : List Int), n + m = 21 → acc.length + m < 100 → impl_numbers.L0 l acc (n : Int) = some (acc ++ numbersFrom l n m)
  | 0, n, acc, h, ha => by
    rw [impl_numbers.L0_eq, if_neg (by omega)]
    simp [numbersFrom]
  | m + 1, n, acc, h, ha => by
    have e : wrap64 ((n : Int) + 1) = ((n + 1 : Nat) : Int) := by rw [wrap_in (by omega) (by omega)]; omega
    rw [impl_numbers.L0_eq, if_pos (by omega), slices_Contains_int_int.F_val l n hl]
    simp only [Option.bind_some]
    by_cases h1 : (n : Int) ∈ l
    · rw [if_pos (by simpa using h1), if_pos (by omega), e, impl_numbers.L0_val l hl m (n + 1) _ (by omega) (by simp; omega)]
      simp [numbersFrom, List.range'_succ, h1]
    · rw [if_neg (by simpa using h1), e, impl_numbers.L0_val l hl m (n + 1) _ (by omega) (by omega)]
      simp [numbersFrom, List.range'_succ, h1]
theorem impl_numbers.F_val (l : List Int) (hl : l.length < 4611686018427387904) : impl_numbers.F l = some (numbersOf l) := by
  rw [impl_numbers.F_eq]
  exact impl_numbers.L0_val l hl 20 1 [] (by omega) (by simp)
theorem spec_roFits.L0_val (l : List Int) (s : Int) (hl : l.length < 17592186044416) : ∀ (suf pre : List Int), (pre ++ suf).length < 4611686018427387904 → (∀ v ∈ suf, (placesOf l v).length = 2) → spec_roFits.L0 l s (pre ++ suf) ((pre ++ suf).length : Int) (pre.length : Int) = some (suf.all fun v => wrap64 (rd (placesOf l v) 1 - rd (placesOf l v) 0) == wrap64 (v + s))
  | [], pre, h, hv => by
    rw [spec_roFits.L0_eq, range_end]
    simp
  | x :: suf, pre, h, hv => by
    have h2 := hv x (by simp)
    rw [spec_roFits.L0_eq, range_step, rd_mid, wrap_mid h, app_mid pre x suf, spec_roPlaces.F_val l x hl]
    simp only [Option.bind_some]
    rw [if_pos (by omega), if_pos (by omega), spec_roFits.L0_val l s hl suf (pre ++ [x]) (by simpa using h) (fun v h => hv v (by simp [h])), List.all_cons]
    by_cases h1 : wrap64 (rd (placesOf l x) 1 - rd (placesOf l x) 0) = wrap64 (x + s)
    · rw [if_pos h1, beq_iff_eq.2 h1]
      rfl
    · rw [if_neg h1, beq_false_of_ne h1]
      rfl
theorem numbersOf_two {l : List Int} (h : pairsOk l = true) {v : Int} (hv : v ∈ numbersOf l) : (placesOf l v).length = 2 := by
  obtain ⟨h1, h2, h3⟩ := (mem_numbersOf l v).1 hv
  obtain ⟨k, rfl⟩ : ∃ k : Nat, v = (k : Int) := ⟨v.toNat, by omega⟩
  have h5 : 0 < l.count (k : Int) := List.count_pos_iff.2 h1
  rw [placesOf_count]
  rcases pairsOk_count h k (by omega) (by omega) with h4 | h4 <;> omega
theorem spec_roFits.F_val (l : List Int) (s : Int) (hl : l.length < 17592186044416) (h : pairsOk l = true) : spec_roFits.F l s = some (fitsAt l s) := by
  rw [spec_roFits.F_eq, spec_roNumbers.F_val l (by omega)]
  simp only [Option.bind_some]
  rw [fitsAt_eq l s h]
  have hn := numbersFrom_length l 1 20
  have := spec_roFits.L0_val l s hl (numbersOf l) [] (by simp only [List.nil_append, numbersOf]; omega) (fun v hv => numbersOf_two h hv)
  simpa using this
end Go.Proofs.Ytmhcgihkijiecaa.Fn
namespace Go.Proofs.Ytmhcgihkijiecaa.Fn
open Go.RowKit Go.Proofs.YtmhcgihkijiecaaW.PrintWords Go.Proofs.YtmhcgihkijiecaaW.PrintLast Go.Proofs.YtmhcgihkijiecaaW.PrintMore
attribute [local go_sem] max2_int min2_int max_two min_two max_three min_three max_four min_four   -- for this text's walks alone
set_option linter.unusedVariables false
set_option linter.unusedSimpArgs false

/-! ### spec_IsExtended: function 38 -/
def spec_IsExtended.f (k : Nat) (l0 : List Int) : Option (Bool × Bool) := (spec_roIs.f k l0).bind fun t453 => (if t453 = true then ((spec_hoExtended.f k l0).bind fun t454 => (some (t454, true))) else (some (false, false)))
theorem spec_IsExtended.mono : ∀ a0 k, LeO (spec_IsExtended.f k a0) (spec_IsExtended.f (k + 1) a0) := by
  intro a0 k
  unfold spec_IsExtended.f
  repeat' first
      | (with_reducible exact spec_hoExtended.mono _ _)
      | (with_reducible exact spec_roIs.mono _ _)
      | (with_reducible exact LeO.refl _)
      | (with_reducible exact LeO.none _)
      | (with_reducible refine LeO.ite ?_ ?_)
      | (with_reducible refine LeO.bind ?_ (fun _ => ?_))
      | exact spec_hoExtended.mono _ _
      | exact spec_roIs.mono _ _
      | exact LeO.none _
      | refine LeO.ite ?_ ?_
      | refine LeO.bind ?_ (fun _ => ?_)
set_option maxHeartbeats 8000000 in
set_option maxRecDepth 100000 in
theorem spec_IsExtended.calls (k : Nat) (A0 : Option Addr) (c0 : Nat) (l0 : List Int) (r1 : Bool) (r2 : Bool) (w : World) (hr0 : Kd.C (Kd.int .i64) w A0 l0.length l0) (hc0 : l0.length ≤ c0) (h : spec_IsExtended.f k l0 = some (r1, r2)) :
    Calls Try.prog 38 #[.slice A0 l0.length c0] w fun e w' => e = .returned (.tuple #[.bool r1, .bool r2]) ∧ Below w.heap.size w w' := by
  have HR0 := Aside0.mk hr0
  have HC0 := Aside0.mk hc0
  clear hr0 hc0
  have HB := Aside0.mk (Below.refl w.heap.size w)
  have H : ((spec_roIs.f k l0).bind fun t453 => (if t453 = true then ((spec_hoExtended.f k l0).bind fun t454 => (some (t454, true))) else (some (false, false)))) = some (r1, r2) := h
  clear h
  replace H := Option.bind_eq_some_iff.mp H
  obtain ⟨t453, A20, H⟩ := H
  replace H : (if t453 = true then ((spec_hoExtended.f k l0).bind fun t454 => (some (t454, true))) else (some (false, false))) = some (r1, r2) := H
  have A2 := Aside0.mk A20
  clear A20
  by_cases c3 : t453 = true
  · subst c3
    have H1 : ((spec_hoExtended.f k l0).bind fun t454 => (some (t454, true))) = some (r1, r2) := by rw [if_pos rfl] at H; exact H
    clear H
    have H := H1
    clear H1
    replace H := Option.bind_eq_some_iff.mp H
    obtain ⟨t454, A40, H⟩ := H
    replace H : (some (t454, true)) = some (r1, r2) := H
    have A4 := Aside0.mk A40
    clear A40
    simp only [Option.some.injEq, Prod.mk.injEq] at H
    obtain ⟨rfl, rfl⟩ := H
    go_enter Try.func38, Try.ntmps38
    go_wp2_with (first | ((with_reducible refine gate_callee (f := 60) rfl ?_); refine goesL_ (some 5) rfl rfl Try.func60 (by kernel_rfl) rfl #[.slice A0 l0.length c0] rfl (by (try simp only [List.map_toArray, List.map_cons, List.map_nil]); first | done | rfl | (simp only [List.length_drop, List.length_take]; rfl)) ?_; (with_reducible refine (spec_roIs.calls k _ _ l0 true _ ?side1 ?side2 A2.out).mono ?_); (case side1 => repeat (first | exact HR0.out | (with_reducible refine Kd.C_alloc ?_ _) | (with_reducible refine Kd.C_drewN ?_ _) | (with_reducible refine Kd.C_drew ?_))); (case side2 => exact HC0.out); rintro e w5 ⟨rfl, hb⟩; refine ⟨_, rfl, ?_⟩; have n0_ := Aside0.mk (below_step (by repeat (first | (with_reducible first | exact HB.out | apply below_alloc | apply pw_below_drewN | apply below_drew1) | exact HB.out)) hb); clear HB; have HB := n0_; clear n0_; (try clear hb); (try clear hb2); (try clear hk); (try clear hi)) | ((with_reducible refine gate_callee (f := 68) rfl ?_); refine goesL_ (some 8) rfl rfl Try.func68 (by kernel_rfl) rfl #[.slice A0 l0.length c0] rfl (by (try simp only [List.map_toArray, List.map_cons, List.map_nil]); first | done | rfl | (simp only [List.length_drop, List.length_take]; rfl)) ?_; (with_reducible refine (spec_hoExtended.calls k _ _ l0 t454 _ ?side1 ?side2 A4.out).mono ?_); (case side1 => repeat (first | exact (Kd.C_below HR0.out HB.out) | (with_reducible refine Kd.C_alloc ?_ _) | (with_reducible refine Kd.C_drewN ?_ _) | (with_reducible refine Kd.C_drew ?_))); (case side2 => exact HC0.out); rintro e w6 ⟨rfl, hb⟩; refine ⟨_, rfl, ?_⟩; have n0_ := Aside0.mk (below_step (by repeat (first | (with_reducible first | exact HB.out | apply below_alloc | apply pw_below_drewN | apply below_drew1) | exact HB.out)) hb); clear HB; have HB := n0_; clear n0_; (try clear hb); (try clear hb2); (try clear hk); (try clear hi)))
    go_ret2
    exact ⟨by first | rfl | (simp [errW_none, errW_some] <;> rfl) | (simp [*, errW_none, errW_some] <;> rfl), by repeat (first | (with_reducible first | exact HB.out | apply below_alloc | apply pw_below_drewN | apply below_drew1) | exact HB.out)⟩
  · replace c3 := Bool.eq_false_iff.mpr c3
    subst c3
    have H1 : (some (false, false)) = some (r1, r2) := by rw [if_neg (show ¬ (false = true) by decide)] at H; exact H
    clear H
    have H := H1
    clear H1
    simp only [Option.some.injEq, Prod.mk.injEq] at H
    obtain ⟨rfl, rfl⟩ := H
    go_enter Try.func38, Try.ntmps38
    go_wp2_with (first | ((with_reducible refine gate_callee (f := 60) rfl ?_); refine goesL_ (some 5) rfl rfl Try.func60 (by kernel_rfl) rfl #[.slice A0 l0.length c0] rfl (by (try simp only [List.map_toArray, List.map_cons, List.map_nil]); first | done | rfl | (simp only [List.length_drop, List.length_take]; rfl)) ?_; (with_reducible refine (spec_roIs.calls k _ _ l0 false _ ?side1 ?side2 A2.out).mono ?_); (case side1 => repeat (first | exact HR0.out | (with_reducible refine Kd.C_alloc ?_ _) | (with_reducible refine Kd.C_drewN ?_ _) | (with_reducible refine Kd.C_drew ?_))); (case side2 => exact HC0.out); rintro e w7 ⟨rfl, hb⟩; refine ⟨_, rfl, ?_⟩; have n0_ := Aside0.mk (below_step (by repeat (first | (with_reducible first | exact HB.out | apply below_alloc | apply pw_below_drewN | apply below_drew1) | exact HB.out)) hb); clear HB; have HB := n0_; clear n0_; (try clear hb); (try clear hb2); (try clear hk); (try clear hi)))
    go_ret2
    exact ⟨by first | rfl | (simp [errW_none, errW_some] <;> rfl) | (simp [*, errW_none, errW_some] <;> rfl), by repeat (first | (with_reducible first | exact HB.out | apply below_alloc | apply pw_below_drewN | apply below_drew1) | exact HB.out)⟩

noncomputable def spec_IsExtended.F (l0 : List Int) : Option (Bool × Bool) := lim fun k => spec_IsExtended.f k l0
theorem spec_IsExtended.F_lim (l0 : List Int) : Lim (fun k => spec_IsExtended.f k l0) (spec_IsExtended.F l0) := Lim.of fun k => spec_IsExtended.mono l0 k
theorem spec_IsExtended.F_eq (l0 : List Int) : spec_IsExtended.F l0 = ((spec_roIs.F l0).bind fun t453 => (if t453 = true then ((spec_hoExtended.F l0).bind fun t454 => (some (t454, true))) else (some (false, false)))) :=
  Lim.unique (spec_IsExtended.F_lim l0) (by
    unfold spec_IsExtended.f
    repeat' first
    | (with_reducible exact Lim.const _)
    | (with_reducible exact spec_hoExtended.F_lim _)
    | (with_reducible exact spec_roIs.F_lim _)
    | (with_reducible refine Lim.ite ?_ ?_)
    | (with_reducible refine Lim.bind ?_ (fun _ => ?_)))

end Go.Proofs.Ytmhcgihkijiecaa.Fn
namespace Go.Proofs.Ytmhcgihkijiecaa.Fn
open Go.RowKit Go.Proofs.YtmhcgihkijiecaaW.PrintWords Go.Proofs.YtmhcgihkijiecaaW.PrintLast Go.Proofs.YtmhcgihkijiecaaW.PrintMore
attribute [local go_sem] max2_int min2_int max_two min_two max_three min_three max_four min_four   -- for this text's walks alone
set_option linter.unusedVariables false
set_option linter.unusedSimpArgs false

/-! ### impl_IsExtended: function 39 -/
def impl_IsExtended.f (k : Nat) (l0 : List Int) : Option (Bool × Bool) := (impl_isPairs.f k l0).bind fun t477 => (if t477 = true then ((impl_extended.f k l0).bind fun bt478 => (some (decide (bt478.1 > 0), true))) else (some (false, false)))
theorem impl_IsExtended.mono : ∀ a0 k, LeO (impl_IsExtended.f k a0) (impl_IsExtended.f (k + 1) a0) := by
  intro a0 k
  unfold impl_IsExtended.f
  repeat' first
      | (with_reducible exact impl_extended.mono _ _)
      | (with_reducible exact impl_isPairs.mono _ _)
      | (with_reducible exact LeO.refl _)
      | (with_reducible exact LeO.none _)
      | (with_reducible refine LeO.ite ?_ ?_)
      | (with_reducible refine LeO.bind ?_ (fun _ => ?_))
      | exact impl_extended.mono _ _
      | exact impl_isPairs.mono _ _
      | exact LeO.none _
      | refine LeO.ite ?_ ?_
      | refine LeO.bind ?_ (fun _ => ?_)
set_option maxHeartbeats 8000000 in
set_option maxRecDepth 100000 in
theorem impl_IsExtended.calls (k : Nat) (A0 : Option Addr) (c0 : Nat) (l0 : List Int) (r1 : Bool) (r2 : Bool) (w : World) (hr0 : Kd.C (Kd.int .i64) w A0 l0.length l0) (hc0 : l0.length ≤ c0) (h : impl_IsExtended.f k l0 = some (r1, r2)) :
    Calls Try.prog 39 #[.slice A0 l0.length c0] w fun e w' => e = .returned (.tuple #[.bool r1, .bool r2]) ∧ Below w.heap.size w w' := by
  have HR0 := Aside0.mk hr0
  have HC0 := Aside0.mk hc0
  clear hr0 hc0
  have HB := Aside0.mk (Below.refl w.heap.size w)
  have H : ((impl_isPairs.f k l0).bind fun t477 => (if t477 = true then ((impl_extended.f k l0).bind fun bt478 => (some (decide (bt478.1 > 0), true))) else (some (false, false)))) = some (r1, r2) := h
  clear h
  replace H := Option.bind_eq_some_iff.mp H
  obtain ⟨t477, A20, H⟩ := H
  replace H : (if t477 = true then ((impl_extended.f k l0).bind fun bt478 => (some (decide (bt478.1 > 0), true))) else (some (false, false))) = some (r1, r2) := H
  have A2 := Aside0.mk A20
  clear A20
  by_cases c3 : t477 = true
  · subst c3
    have H1 : ((impl_extended.f k l0).bind fun bt478 => (some (decide (bt478.1 > 0), true))) = some (r1, r2) := by rw [if_pos rfl] at H; exact H
    clear H
    have H := H1
    clear H1
    replace H := Option.bind_eq_some_iff.mp H
    obtain ⟨⟨t478, t479⟩, A40, H⟩ := H
    replace H : (some (decide (t478 > 0), true)) = some (r1, r2) := H
    have A4 := Aside0.mk A40
    clear A40
    simp only [Option.some.injEq, Prod.mk.injEq] at H
    obtain ⟨rfl, rfl⟩ := H
    go_enter Try.func39, Try.ntmps39
    go_wp2_with (first | ((with_reducible refine gate_callee (f := 66) rfl ?_); refine goesL_ (some 7) rfl rfl Try.func66 (by kernel_rfl) rfl #[.slice A0 l0.length c0] rfl (by (try simp only [List.map_toArray, List.map_cons, List.map_nil]); first | done | rfl | (simp only [List.length_drop, List.length_take]; rfl)) ?_; (with_reducible refine (impl_isPairs.calls k _ _ l0 true _ ?side1 ?side2 A2.out).mono ?_); (case side1 => repeat (first | exact HR0.out | (with_reducible refine Kd.C_alloc ?_ _) | (with_reducible refine Kd.C_drewN ?_ _) | (with_reducible refine Kd.C_drew ?_))); (case side2 => exact HC0.out); rintro e w5 ⟨rfl, hb⟩; refine ⟨_, rfl, ?_⟩; have n0_ := Aside0.mk (below_step (by repeat (first | (with_reducible first | exact HB.out | apply below_alloc | apply pw_below_drewN | apply below_drew1) | exact HB.out)) hb); clear HB; have HB := n0_; clear n0_; (try clear hb); (try clear hb2); (try clear hk); (try clear hi)) | ((with_reducible refine gate_callee (f := 69) rfl ?_); refine goesL_ (some 11) rfl rfl Try.func69 (by kernel_rfl) rfl #[.slice A0 l0.length c0] rfl (by (try simp only [List.map_toArray, List.map_cons, List.map_nil]); first | done | rfl | (simp only [List.length_drop, List.length_take]; rfl)) ?_; (with_reducible refine (impl_extended.calls k _ _ l0 t478 t479 _ ?side1 ?side2 A4.out).mono ?_); (case side1 => repeat (first | exact (Kd.C_below HR0.out HB.out) | (with_reducible refine Kd.C_alloc ?_ _) | (with_reducible refine Kd.C_drewN ?_ _) | (with_reducible refine Kd.C_drew ?_))); (case side2 => exact HC0.out); rintro e w6 ⟨rfl, hb⟩; refine ⟨_, rfl, ?_⟩; have n0_ := Aside0.mk (below_step (by repeat (first | (with_reducible first | exact HB.out | apply below_alloc | apply pw_below_drewN | apply below_drew1) | exact HB.out)) hb); clear HB; have HB := n0_; clear n0_; (try clear hb); (try clear hb2); (try clear hk); (try clear hi)))
    go_ret2
    exact ⟨by first | rfl | (simp [errW_none, errW_some] <;> rfl) | (simp [*, errW_none, errW_some] <;> rfl), by repeat (first | (with_reducible first | exact HB.out | apply below_alloc | apply pw_below_drewN | apply below_drew1) | exact HB.out)⟩
  · replace c3 := Bool.eq_false_iff.mpr c3
    subst c3
    have H1 : (some (false, false)) = some (r1, r2) := by rw [if_neg (show ¬ (false = true) by decide)] at H; exact H
    clear H
    have H := H1
    clear H1
    simp only [Option.some.injEq, Prod.mk.injEq] at H
    obtain ⟨rfl, rfl⟩ := H
    go_enter Try.func39, Try.ntmps39
    go_wp2_with (first | ((with_reducible refine gate_callee (f := 66) rfl ?_); refine goesL_ (some 7) rfl rfl Try.func66 (by kernel_rfl) rfl #[.slice A0 l0.length c0] rfl (by (try simp only [List.map_toArray, List.map_cons, List.map_nil]); first | done | rfl | (simp only [List.length_drop, List.length_take]; rfl)) ?_; (with_reducible refine (impl_isPairs.calls k _ _ l0 false _ ?side1 ?side2 A2.out).mono ?_); (case side1 => repeat (first | exact HR0.out | (with_reducible refine Kd.C_alloc ?_ _) | (with_reducible refine Kd.C_drewN ?_ _) | (with_reducible refine Kd.C_drew ?_))); (case side2 => exact HC0.out); rintro e w7 ⟨rfl, hb⟩; refine ⟨_, rfl, ?_⟩; have n0_ := Aside0.mk (below_step (by repeat (first | (with_reducible first | exact HB.out | apply below_alloc | apply pw_below_drewN | apply below_drew1) | exact HB.out)) hb); clear HB; have HB := n0_; clear n0_; (try clear hb); (try clear hb2); (try clear hk); (try clear hi)))
    go_ret2
    exact ⟨by first | rfl | (simp [errW_none, errW_some] <;> rfl) | (simp [*, errW_none, errW_some] <;> rfl), by repeat (first | (with_reducible first | exact HB.out | apply below_alloc | apply pw_below_drewN | apply below_drew1) | exact HB.out)⟩

noncomputable def impl_IsExtended.F (l0 : List Int) : Option (Bool × Bool) := lim fun k => impl_IsExtended.f k l0
theorem impl_IsExtended.F_lim (l0 : List Int) : Lim (fun k => impl_IsExtended.f k l0) (impl_IsExtended.F l0) := Lim.of fun k => impl_IsExtended.mono l0 k
theorem impl_IsExtended.F_eq (l0 : List Int) : impl_IsExtended.F l0 = ((impl_isPairs.F l0).bind fun t477 => (if t477 = true then ((impl_extended.F l0).bind fun bt478 => (some (decide (bt478.1 > 0), true))) else (some (false, false)))) :=
  Lim.unique (impl_IsExtended.F_lim l0) (by
    unfold impl_IsExtended.f
    repeat' first
    | (with_reducible exact Lim.const _)
    | (with_reducible exact impl_extended.F_lim _)
    | (with_reducible exact impl_isPairs.F_lim _)
    | (with_reducible refine Lim.ite ?_ ?_)
    | (with_reducible refine Lim.bind ?_ (fun _ => ?_)))

end Go.Proofs.Ytmhcgihkijiecaa.Fn
namespace Go.Proofs.Ytmhcgihkijiecaa.Fn
open Go.RowKit Go.Proofs.YtmhcgihkijiecaaW.PrintWords Go.Proofs.YtmhcgihkijiecaaW.PrintLast Go.Proofs.YtmhcgihkijiecaaW.PrintMore
attribute [local go_sem] max2_int min2_int max_two min_two max_three min_three max_four min_four   -- for this text's walks alone
set_option linter.unusedVariables false
set_option linter.unusedSimpArgs false

/-! ### spec_roFrom: function 92 -/
def spec_roFrom.l0 : Nat → Int → List Int → List Int → Int → Int → Option (Bool)
  | 0, _, _, _, _, _ => none
  | k + 1, x1, x5, x10, x11, x12 => if x12 < x11 then (if 0 ≤ x12 then (if x12 < (x10.length : Int) then (if (rd x10 x12) = (wrap64 (x1 + x12)) then (spec_roFrom.l0 k x1 x5 x10 x11 (wrap64 (x12 + 1))) else (some false)) else (none)) else (none)) else (some (decide ((x5.length : Int) > 0)))
def spec_roFrom.f (k : Nat) (l0 : List Int) (a1 : Int) : Option (Bool) := (spec_roNumbers.f k l0).bind fun t514 => (spec_roFrom.l0 k a1 t514 t514 (t514.length : Int) 0)
theorem spec_roFrom.mono_l : ∀ k, (∀ y0 y1 y2 y3 y4, LeO (spec_roFrom.l0 k y0 y1 y2 y3 y4) (spec_roFrom.l0 (k + 1) y0 y1 y2 y3 y4))
  | 0 => fun _ _ _ _ _ r h => by simp [spec_roFrom.l0] at h
  | k + 1 => by
    have ih0 := spec_roFrom.mono_l k
    · intro y0 y1 y2 y3 y4
      unfold spec_roFrom.l0
      repeat' first
      | (with_reducible exact ih0 _ _ _ _ _)
      | (with_reducible exact spec_roNumbers.mono _ _)
      | (with_reducible exact LeO.refl _)
      | (with_reducible exact LeO.none _)
      | (with_reducible refine LeO.ite ?_ ?_)
      | (with_reducible refine LeO.bind ?_ (fun _ => ?_))
      | exact ih0 _ _ _ _ _
      | exact spec_roNumbers.mono _ _
      | exact LeO.none _
      | refine LeO.ite ?_ ?_
      | refine LeO.bind ?_ (fun _ => ?_)
theorem spec_roFrom.mono : ∀ a0 a1 k, LeO (spec_roFrom.f k a0 a1) (spec_roFrom.f (k + 1) a0 a1) := by
  intro a0 a1 k
  have ih0 := spec_roFrom.mono_l k
  unfold spec_roFrom.f
  repeat' first
      | (with_reducible exact ih0 _ _ _ _ _)
      | (with_reducible exact spec_roNumbers.mono _ _)
      | (with_reducible exact LeO.refl _)
      | (with_reducible exact LeO.none _)
      | (with_reducible refine LeO.ite ?_ ?_)
      | (with_reducible refine LeO.bind ?_ (fun _ => ?_))
      | exact ih0 _ _ _ _ _
      | exact spec_roNumbers.mono _ _
      | exact LeO.none _
      | refine LeO.ite ?_ ?_
      | refine LeO.bind ?_ (fun _ => ?_)
set_option maxHeartbeats 8000000 in
set_option maxRecDepth 100000 in
theorem spec_roFrom.calls (k : Nat) (A0 : Option Addr) (c0 : Nat) (l0 : List Int) (a1 : Int) (r : Bool) (w : World) (hr0 : Kd.C (Kd.int .i64) w A0 l0.length l0) (hc0 : l0.length ≤ c0) (h : spec_roFrom.f k l0 a1 = some r) :
    Calls Try.prog 92 #[.slice A0 l0.length c0, .int .i64 a1] w fun e w' => e = .returned (.bool r) ∧ Below w.heap.size w w' := by
  have HR0 := Aside0.mk hr0
  have HC0 := Aside0.mk hc0
  clear hr0 hc0
  have HB := Aside0.mk (Below.refl w.heap.size w)
  have H : ((spec_roNumbers.f k l0).bind fun t514 => (spec_roFrom.l0 k a1 t514 t514 (t514.length : Int) 0)) = some r := h
  clear h
  replace H := Option.bind_eq_some_iff.mp H
  obtain ⟨t514, A30, H⟩ := H
  replace H : (spec_roFrom.l0 k a1 t514 t514 (t514.length : Int) 0) = some r := H
  have A3 := Aside0.mk A30
  clear A30
  have H' := Aside0.mk H
  clear H
  go_enter Try.func92, Try.ntmps92
  go_wp2_with (first | ((with_reducible refine gate_callee (f := 85) rfl ?_); refine goesL_ (some 9) rfl rfl Try.func85 (by kernel_rfl) rfl #[.slice A0 l0.length c0] rfl (by (try simp only [List.map_toArray, List.map_cons, List.map_nil]); first | done | rfl | (simp only [List.length_drop, List.length_take]; rfl)) ?_; (with_reducible refine (spec_roNumbers.calls k _ _ l0 t514 _ ?side1 ?side2 A3.out).mono ?_); (case side1 => repeat (first | exact HR0.out | (with_reducible refine Kd.C_alloc ?_ _) | (with_reducible refine Kd.C_drewN ?_ _) | (with_reducible refine Kd.C_drew ?_))); (case side2 => exact HC0.out); rintro e w4 ⟨v515, rfl, ho0, hb⟩; refine ⟨_, rfl, ?_⟩; have n0_ := Aside0.mk (Kd.R_lower ho0 (below_size (by repeat (first | (with_reducible first | exact HB.out | apply below_alloc | apply pw_below_drewN | apply below_drew1) | exact HB.out)))); have n1_ := Aside0.mk (below_step (by repeat (first | (with_reducible first | exact HB.out | apply below_alloc | apply pw_below_drewN | apply below_drew1) | exact HB.out)) hb); clear HB; have HO516 := n0_; have HB := n1_; clear n0_ n1_; (try clear hb); (try clear hb2); (try clear hk); (try clear hi); (try clear ho0); obtain ⟨Ao5, co5, eo5⟩ := Kd.R_slice HO516.out; subst eo5))
  go_loopg [12] k (fun kq v12 w' => ∃ (x12_1 : Int), v12 = .int .i64 x12_1 ∧ Aside0 (spec_roFrom.l0 kq a1 t514 t514 (t514.length : Int) x12_1 = some r) ∧ Aside0 (kq ≤ k) ∧ Aside0 (Kd.R (Kd.int .i64) 3 w' w.heap.size (fun _ => True) (.slice Ao5 t514.length co5) t514) ∧ Aside0 (Kd.R (Kd.int .i64) 3 w' w.heap.size (fun _ => True) (.slice Ao5 t514.length co5) t514) ∧ Aside0 (Below w.heap.size w w'))
  case atStart => exact ⟨(0), (by first | rfl | (simp; done) | (simp [*]; done)), H', ⟨Nat.le_refl _⟩, ⟨by (with_reducible repeat (first | apply Kd.R_alloc | apply Kd.R_drewN | apply Kd.R_drew)); exact HO516.out⟩, ⟨by (with_reducible repeat (first | apply Kd.R_alloc | apply Kd.R_drewN | apply Kd.R_drew)); exact HO516.out⟩, ⟨by repeat (first | (with_reducible first | exact HB.out | apply below_alloc | apply pw_below_drewN | apply below_drew1) | exact HB.out)⟩⟩
  case round =>
    clear H'
    try clear p2
    obtain ⟨x12_1, rfl, HA, HK1, HO_5, HO_10, HB⟩ := hrel
    cases gk with
    | zero => exact absurd HA.out (by simp [spec_roFrom.l0])
    | succ k1 =>
      have H := HA.out
      clear HA
      simp only [spec_roFrom.l0] at H
      by_cases c6 : x12_1 < (t514.length : Int)
      · rw [if_pos c6] at H
        have c6b0 : decide (x12_1 < (t514.length : Int)) = true := decide_eq_true c6
        clear c6
        by_cases c7 : 0 ≤ x12_1
        · rw [if_pos c7] at H
          have c7b0 : decide (0 ≤ x12_1) = true := decide_eq_true c7
          clear c7
          by_cases c8 : x12_1 < (t514.length : Int)
          · rw [if_pos c8] at H
            have c8b0 : decide (x12_1 < (t514.length : Int)) = true := decide_eq_true c8
            clear c8
            by_cases c9 : (rd t514 x12_1) = (wrap64 (a1 + x12_1))
            · rw [if_pos c9] at H
              have c9b0 : ((rd t514 x12_1) == (wrap64 (a1 + x12_1))) = true := beq_iff_eq.mpr c9
              have c9b1 : ((rd t514 x12_1) != (wrap64 (a1 + x12_1))) = false := bne_eq_false_iff_eq.mpr c9
              clear c9
              have H' := Aside0.mk H
              clear H
              have p517 : 0 ≤ (x12_1 : Int) := of_decide_eq_true (by first | (with_reducible assumption) | assumption)
              have q517 : x12_1 < (t514.length : Int) := of_decide_eq_true (by first | (with_reducible assumption) | assumption)
              obtain ⟨ad517, e517, hx517_0⟩ := Kd.at_int (Kd.R_reads' HO_10.out).2.2 x12_1 p517 q517
              cases e517
              replace p517 := eq_true p517
              replace q517 := eq_true q517
              go_wp2
              go_roundg k1
              case measure => have := HK1.out; omega
              case rel => exact ⟨(wrap64 (x12_1 + 1)), (by first | rfl | (simp; done) | (simp [*]; done)), H', ⟨by have := HK1.out; omega⟩, ⟨by (with_reducible repeat (first | apply Kd.R_alloc | apply Kd.R_drewN | apply Kd.R_drew)); exact HO_5.out⟩, ⟨by (with_reducible repeat (first | apply Kd.R_alloc | apply Kd.R_drewN | apply Kd.R_drew)); exact HO_10.out⟩, ⟨by repeat (first | (with_reducible first | exact HB.out | apply below_alloc | apply pw_below_drewN | apply below_drew1) | exact HB.out)⟩⟩
            · rw [if_neg c9] at H
              have c9b0 : ((rd t514 x12_1) == (wrap64 (a1 + x12_1))) = false := beq_eq_false_iff_ne.mpr c9
              have c9b1 : ((rd t514 x12_1) != (wrap64 (a1 + x12_1))) = true := bne_iff_ne.mpr c9
              obtain rfl := Option.some.inj H
              have p517 : 0 ≤ (x12_1 : Int) := of_decide_eq_true (by first | (with_reducible assumption) | assumption)
              have q517 : x12_1 < (t514.length : Int) := of_decide_eq_true (by first | (with_reducible assumption) | assumption)
              obtain ⟨ad517, e517, hx517_0⟩ := Kd.at_int (Kd.R_reads' HO_10.out).2.2 x12_1 p517 q517
              cases e517
              replace p517 := eq_true p517
              replace q517 := eq_true q517
              go_wp2
              go_ret
              exact ⟨by first | rfl | (simp [errW_none, errW_some] <;> rfl) | (simp [*, errW_none, errW_some] <;> rfl), by repeat (first | (with_reducible first | exact HB.out | apply below_alloc | apply pw_below_drewN | apply below_drew1) | exact HB.out)⟩
          · rw [if_neg c8] at H
            exact absurd H (by simp)
        · rw [if_neg c7] at H
          exact absurd H (by simp)
      · rw [if_neg c6] at H
        have c6b0 : decide (x12_1 < (t514.length : Int)) = false := decide_eq_false c6
        clear c6
        obtain rfl := Option.some.inj H
        go_wp2
        go_ret
        exact ⟨by first | rfl | (simp [errW_none, errW_some] <;> rfl) | (simp [*, errW_none, errW_some] <;> rfl), by repeat (first | (with_reducible first | exact HB.out | apply below_alloc | apply pw_below_drewN | apply below_drew1) | exact HB.out)⟩

noncomputable def spec_roFrom.L0 (x1 : Int) (x5 : List Int) (x10 : List Int) (x11 : Int) (x12 : Int) : Option (Bool) := lim fun k => spec_roFrom.l0 k x1 x5 x10 x11 x12
theorem spec_roFrom.L0_lim (x1 : Int) (x5 : List Int) (x10 : List Int) (x11 : Int) (x12 : Int) : Lim (fun k => spec_roFrom.l0 k x1 x5 x10 x11 x12) (spec_roFrom.L0 x1 x5 x10 x11 x12) := Lim.of fun k => (spec_roFrom.mono_l k) x1 x5 x10 x11 x12
noncomputable def spec_roFrom.F (l0 : List Int) (a1 : Int) : Option (Bool) := lim fun k => spec_roFrom.f k l0 a1
theorem spec_roFrom.F_lim (l0 : List Int) (a1 : Int) : Lim (fun k => spec_roFrom.f k l0 a1) (spec_roFrom.F l0 a1) := Lim.of fun k => spec_roFrom.mono l0 a1 k
theorem spec_roFrom.L0_eq (x1 : Int) (x5 : List Int) (x10 : List Int) (x11 : Int) (x12 : Int) : spec_roFrom.L0 x1 x5 x10 x11 x12 = (if x12 < x11 then (if 0 ≤ x12 then (if x12 < (x10.length : Int) then (if (rd x10 x12) = (wrap64 (x1 + x12)) then (spec_roFrom.L0 x1 x5 x10 x11 (wrap64 (x12 + 1))) else (some false)) else (none)) else (none)) else (some (decide ((x5.length : Int) > 0)))) :=
  Lim.step (f := fun k => (if x12 < x11 then (if 0 ≤ x12 then (if x12 < (x10.length : Int) then (if (rd x10 x12) = (wrap64 (x1 + x12)) then (spec_roFrom.l0 k x1 x5 x10 x11 (wrap64 (x12 + 1))) else (some false)) else (none)) else (none)) else (some (decide ((x5.length : Int) > 0))))) (spec_roFrom.L0_lim x1 x5 x10 x11 x12) (fun k => by first | rfl | rw [spec_roFrom.l0]) (by
    repeat' first
    | (with_reducible exact Lim.const _)
    | (with_reducible exact spec_roFrom.L0_lim _ _ _ _ _)
    | (with_reducible refine Lim.ite ?_ ?_)
    | (with_reducible refine Lim.bind ?_ (fun _ => ?_)))
theorem spec_roFrom.F_eq (l0 : List Int) (a1 : Int) : spec_roFrom.F l0 a1 = ((spec_roNumbers.F l0).bind fun t514 => (spec_roFrom.L0 a1 t514 t514 (t514.length : Int) 0)) :=
  Lim.unique (spec_roFrom.F_lim l0 a1) (by
    unfold spec_roFrom.f
    repeat' first
    | (with_reducible exact Lim.const _)
    | (with_reducible exact spec_roFrom.L0_lim _ _ _ _ _)
    | (with_reducible exact spec_roNumbers.F_lim _)
    | (with_reducible refine Lim.ite ?_ ?_)
    | (with_reducible refine Lim.bind ?_ (fun _ => ?_)))

end Go.Proofs.Ytmhcgihkijiecaa.Fn
namespace Go.Proofs.Ytmhcgihkijiecaa.Fn
open Go.RowKit Go.Proofs.YtmhcgihkijiecaaW.PrintWords Go.Proofs.YtmhcgihkijiecaaW.PrintLast Go.Proofs.YtmhcgihkijiecaaW.PrintMore
attribute [local go_sem] max2_int min2_int max_two min_two max_three min_three max_four min_four   -- for this text's walks alone
set_option linter.unusedVariables false
set_option linter.unusedSimpArgs false

/-! ### spec_roHooked: function 71 -/
def spec_roHooked.f (k : Nat) (l0 : List Int) : Option (Bool) := (spec_roPlaces.f k l0 0).bind fun t518 => ((spec_roFits.f k l0 0).bind fun t521 => (if t521 = true then ((spec_roFrom.f k l0 1).bind fun t522 => (if t522 = true then (if (t518.length : Int) = 1 then (if 0 < (t518.length : Int) then (some ((rd t518 0) == (wrap64 ((l0.length : Int) - 2)))) else (none)) else (some false)) else (some false))) else (some false)))
theorem spec_roHooked.mono : ∀ a0 k, LeO (spec_roHooked.f k a0) (spec_roHooked.f (k + 1) a0) := by
  intro a0 k
  unfold spec_roHooked.f
  repeat' first
      | (with_reducible exact spec_roFits.mono _ _ _)
      | (with_reducible exact spec_roFrom.mono _ _ _)
      | (with_reducible exact spec_roPlaces.mono _ _ _)
      | (with_reducible exact LeO.refl _)
      | (with_reducible exact LeO.none _)
      | (with_reducible refine LeO.ite ?_ ?_)
      | (with_reducible refine LeO.bind ?_ (fun _ => ?_))
      | exact spec_roFits.mono _ _ _
      | exact spec_roFrom.mono _ _ _
      | exact spec_roPlaces.mono _ _ _
      | exact LeO.none _
      | refine LeO.ite ?_ ?_
      | refine LeO.bind ?_ (fun _ => ?_)
set_option maxHeartbeats 8000000 in
set_option maxRecDepth 100000 in
theorem spec_roHooked.calls (k : Nat) (A0 : Option Addr) (c0 : Nat) (l0 : List Int) (r : Bool) (w : World) (hr0 : Kd.C (Kd.int .i64) w A0 l0.length l0) (hc0 : l0.length ≤ c0) (h : spec_roHooked.f k l0 = some r) :
    Calls Try.prog 71 #[.slice A0 l0.length c0] w fun e w' => e = .returned (.bool r) ∧ Below w.heap.size w w' := by
  have HR0 := Aside0.mk hr0
  have HC0 := Aside0.mk hc0
  clear hr0 hc0
  have HB := Aside0.mk (Below.refl w.heap.size w)
  have H : ((spec_roPlaces.f k l0 0).bind fun t518 => ((spec_roFits.f k l0 0).bind fun t521 => (if t521 = true then ((spec_roFrom.f k l0 1).bind fun t522 => (if t522 = true then (if (t518.length : Int) = 1 then (if 0 < (t518.length : Int) then (some ((rd t518 0) == (wrap64 ((l0.length : Int) - 2)))) else (none)) else (some false)) else (some false))) else (some false)))) = some r := h
  clear h
  replace H := Option.bind_eq_some_iff.mp H
  obtain ⟨t518, A20, H⟩ := H
  replace H : ((spec_roFits.f k l0 0).bind fun t521 => (if t521 = true then ((spec_roFrom.f k l0 1).bind fun t522 => (if t522 = true then (if (t518.length : Int) = 1 then (if 0 < (t518.length : Int) then (some ((rd t518 0) == (wrap64 ((l0.length : Int) - 2)))) else (none)) else (some false)) else (some false))) else (some false))) = some r := H
  have A2 := Aside0.mk A20
  clear A20
  replace H := Option.bind_eq_some_iff.mp H
  obtain ⟨t521, A30, H⟩ := H
  replace H : (if t521 = true then ((spec_roFrom.f k l0 1).bind fun t522 => (if t522 = true then (if (t518.length : Int) = 1 then (if 0 < (t518.length : Int) then (some ((rd t518 0) == (wrap64 ((l0.length : Int) - 2)))) else (none)) else (some false)) else (some false))) else (some false)) = some r := H
  have A3 := Aside0.mk A30
  clear A30
  by_cases c4 : t521 = true
  · subst c4
    have H1 : ((spec_roFrom.f k l0 1).bind fun t522 => (if t522 = true then (if (t518.length : Int) = 1 then (if 0 < (t518.length : Int) then (some ((rd t518 0) == (wrap64 ((l0.length : Int) - 2)))) else (none)) else (some false)) else (some false))) = some r := by rw [if_pos rfl] at H; exact H
    clear H
    have H := H1
    clear H1
    replace H := Option.bind_eq_some_iff.mp H
    obtain ⟨t522, A50, H⟩ := H
    replace H : (if t522 = true then (if (t518.length : Int) = 1 then (if 0 < (t518.length : Int) then (some ((rd t518 0) == (wrap64 ((l0.length : Int) - 2)))) else (none)) else (some false)) else (some false)) = some r := H
    have A5 := Aside0.mk A50
    clear A50
    by_cases c6 : t522 = true
    · subst c6
      have H1 : (if (t518.length : Int) = 1 then (if 0 < (t518.length : Int) then (some ((rd t518 0) == (wrap64 ((l0.length : Int) - 2)))) else (none)) else (some false)) = some r := by rw [if_pos rfl] at H; exact H
      clear H
      have H := H1
      clear H1
      by_cases c7 : (t518.length : Int) = 1
      · rw [if_pos c7] at H
        have c7b0 : ((t518.length : Int) == 1) = true := beq_iff_eq.mpr c7
        have c7b1 : ((t518.length : Int) != 1) = false := bne_eq_false_iff_eq.mpr c7
        clear c7
        by_cases c8 : 0 < (t518.length : Int)
        · rw [if_pos c8] at H
          have c8b0 : decide (0 < (t518.length : Int)) = true := decide_eq_true c8
          have c8b1 : decide (0 < t518.length) = true := decide_eq_true (by omega)
          clear c8
          obtain rfl := Option.some.inj H
          go_enter Try.func71, Try.ntmps71
          go_wp2_with (first | ((with_reducible refine gate_callee (f := 86) rfl ?_); refine goesL_ (some 5) rfl rfl Try.func86 (by kernel_rfl) rfl #[.slice A0 l0.length c0, .int .i64 0] rfl (by (try simp only [List.map_toArray, List.map_cons, List.map_nil]); first | done | rfl | (simp only [List.length_drop, List.length_take]; rfl)) ?_; (with_reducible refine (spec_roPlaces.calls k _ _ l0 0 t518 _ ?side1 ?side2 A2.out).mono ?_); (case side1 => repeat (first | exact HR0.out | (with_reducible refine Kd.C_alloc ?_ _) | (with_reducible refine Kd.C_drewN ?_ _) | (with_reducible refine Kd.C_drew ?_))); (case side2 => exact HC0.out); rintro e w9 ⟨v519, rfl, ho0, hb⟩; refine ⟨_, rfl, ?_⟩; have n0_ := Aside0.mk (Kd.R_lower ho0 (below_size (by repeat (first | (with_reducible first | exact HB.out | apply below_alloc | apply pw_below_drewN | apply below_drew1) | exact HB.out)))); have n1_ := Aside0.mk (below_step (by repeat (first | (with_reducible first | exact HB.out | apply below_alloc | apply pw_below_drewN | apply below_drew1) | exact HB.out)) hb); clear HB; have HO520 := n0_; have HB := n1_; clear n0_ n1_; (try clear hb); (try clear hb2); (try clear hk); (try clear hi); (try clear ho0)) | ((with_reducible refine gate_callee (f := 61) rfl ?_); refine goesL_ (some 7) rfl rfl Try.func61 (by kernel_rfl) rfl #[.slice A0 l0.length c0, .int .i64 0] rfl (by (try simp only [List.map_toArray, List.map_cons, List.map_nil]); first | done | rfl | (simp only [List.length_drop, List.length_take]; rfl)) ?_; (with_reducible refine (spec_roFits.calls k _ _ l0 0 true _ ?side1 ?side2 A3.out).mono ?_); (case side1 => repeat (first | exact (Kd.C_below HR0.out HB.out) | (with_reducible refine Kd.C_alloc ?_ _) | (with_reducible refine Kd.C_drewN ?_ _) | (with_reducible refine Kd.C_drew ?_))); (case side2 => exact HC0.out); rintro e w10 ⟨rfl, hb⟩; refine ⟨_, rfl, ?_⟩; have n0_ := Aside0.mk (Kd.R_below (by (with_reducible repeat (first | apply Kd.R_alloc | apply Kd.R_drewN | apply Kd.R_drew)); exact HO520.out) hb); have n1_ := Aside0.mk (below_step (by repeat (first | (with_reducible first | exact HB.out | apply below_alloc | apply pw_below_drewN | apply below_drew1) | exact HB.out)) hb); clear HO520; clear HB; have HO520 := n0_; have HB := n1_; clear n0_ n1_; (try clear hb); (try clear hb2); (try clear hk); (try clear hi)) | (go_at_call 92; (with_reducible refine (spec_roFrom.calls k _ _ l0 1 true _ ?side1 ?side2 A5.out).mono ?_); (case side1 => repeat (first | exact (Kd.C_below HR0.out HB.out) | (with_reducible refine Kd.C_alloc ?_ _) | (with_reducible refine Kd.C_drewN ?_ _) | (with_reducible refine Kd.C_drew ?_))); (case side2 => exact HC0.out); rintro e w11 ⟨rfl, hb⟩; have n0_ := Aside0.mk (Kd.R_below (by (with_reducible repeat (first | apply Kd.R_alloc | apply Kd.R_drewN | apply Kd.R_drew)); exact HO520.out) hb); have n1_ := Aside0.mk (below_step (by repeat (first | (with_reducible first | exact HB.out | apply below_alloc | apply pw_below_drewN | apply below_drew1) | exact HB.out)) hb); clear HO520; clear HB; have HO520 := n0_; have HB := n1_; clear n0_ n1_; (try clear hb); (try clear hb2); (try clear hk); (try clear hi); obtain ⟨Ao12, co12, eo12⟩ := Kd.R_slice HO520.out; subst eo12; have p523 : 0 ≤ (0 : Int) := (by omega); have q523 : 0 < (t518.length : Int) := of_decide_eq_true (by first | (with_reducible assumption) | assumption); obtain ⟨ad523, e523, hx523_0⟩ := Kd.at_int (Kd.R_reads' HO520.out).2.2 0 p523 q523; cases e523; have qi523 : (0 < t518.length) = True := eq_true (by omega); (try rw [show ((0 : Int)).toNat = 0 from rfl] at hx523_0); (try rw [Addr.add_zero'] at hx523_0); replace p523 := eq_true p523; replace q523 := eq_true q523))
          go_ret
          exact ⟨by first | rfl | (simp [errW_none, errW_some] <;> rfl) | (simp [*, errW_none, errW_some] <;> rfl), by repeat (first | (with_reducible first | exact HB.out | apply below_alloc | apply pw_below_drewN | apply below_drew1) | exact HB.out)⟩
        · rw [if_neg c8] at H
          exact absurd H (by simp)
      · rw [if_neg c7] at H
        have c7b0 : ((t518.length : Int) == 1) = false := beq_eq_false_iff_ne.mpr c7
        have c7b1 : ((t518.length : Int) != 1) = true := bne_iff_ne.mpr c7
        obtain rfl := Option.some.inj H
        go_enter Try.func71, Try.ntmps71
        go_wp2_with (first | ((with_reducible refine gate_callee (f := 86) rfl ?_); refine goesL_ (some 5) rfl rfl Try.func86 (by kernel_rfl) rfl #[.slice A0 l0.length c0, .int .i64 0] rfl (by (try simp only [List.map_toArray, List.map_cons, List.map_nil]); first | done | rfl | (simp only [List.length_drop, List.length_take]; rfl)) ?_; (with_reducible refine (spec_roPlaces.calls k _ _ l0 0 t518 _ ?side1 ?side2 A2.out).mono ?_); (case side1 => repeat (first | exact HR0.out | (with_reducible refine Kd.C_alloc ?_ _) | (with_reducible refine Kd.C_drewN ?_ _) | (with_reducible refine Kd.C_drew ?_))); (case side2 => exact HC0.out); rintro e w13 ⟨v519, rfl, ho0, hb⟩; refine ⟨_, rfl, ?_⟩; have n0_ := Aside0.mk (Kd.R_lower ho0 (below_size (by repeat (first | (with_reducible first | exact HB.out | apply below_alloc | apply pw_below_drewN | apply below_drew1) | exact HB.out)))); have n1_ := Aside0.mk (below_step (by repeat (first | (with_reducible first | exact HB.out | apply below_alloc | apply pw_below_drewN | apply below_drew1) | exact HB.out)) hb); clear HB; have HO520 := n0_; have HB := n1_; clear n0_ n1_; (try clear hb); (try clear hb2); (try clear hk); (try clear hi); (try clear ho0)) | ((with_reducible refine gate_callee (f := 61) rfl ?_); refine goesL_ (some 7) rfl rfl Try.func61 (by kernel_rfl) rfl #[.slice A0 l0.length c0, .int .i64 0] rfl (by (try simp only [List.map_toArray, List.map_cons, List.map_nil]); first | done | rfl | (simp only [List.length_drop, List.length_take]; rfl)) ?_; (with_reducible refine (spec_roFits.calls k _ _ l0 0 true _ ?side1 ?side2 A3.out).mono ?_); (case side1 => repeat (first | exact (Kd.C_below HR0.out HB.out) | (with_reducible refine Kd.C_alloc ?_ _) | (with_reducible refine Kd.C_drewN ?_ _) | (with_reducible refine Kd.C_drew ?_))); (case side2 => exact HC0.out); rintro e w14 ⟨rfl, hb⟩; refine ⟨_, rfl, ?_⟩; have n0_ := Aside0.mk (Kd.R_below (by (with_reducible repeat (first | apply Kd.R_alloc | apply Kd.R_drewN | apply Kd.R_drew)); exact HO520.out) hb); have n1_ := Aside0.mk (below_step (by repeat (first | (with_reducible first | exact HB.out | apply below_alloc | apply pw_below_drewN | apply below_drew1) | exact HB.out)) hb); clear HO520; clear HB; have HO520 := n0_; have HB := n1_; clear n0_ n1_; (try clear hb); (try clear hb2); (try clear hk); (try clear hi)) | (go_at_call 92; (with_reducible refine (spec_roFrom.calls k _ _ l0 1 true _ ?side1 ?side2 A5.out).mono ?_); (case side1 => repeat (first | exact (Kd.C_below HR0.out HB.out) | (with_reducible refine Kd.C_alloc ?_ _) | (with_reducible refine Kd.C_drewN ?_ _) | (with_reducible refine Kd.C_drew ?_))); (case side2 => exact HC0.out); rintro e w15 ⟨rfl, hb⟩; have n0_ := Aside0.mk (Kd.R_below (by (with_reducible repeat (first | apply Kd.R_alloc | apply Kd.R_drewN | apply Kd.R_drew)); exact HO520.out) hb); have n1_ := Aside0.mk (below_step (by repeat (first | (with_reducible first | exact HB.out | apply below_alloc | apply pw_below_drewN | apply below_drew1) | exact HB.out)) hb); clear HO520; clear HB; have HO520 := n0_; have HB := n1_; clear n0_ n1_; (try clear hb); (try clear hb2); (try clear hk); (try clear hi); obtain ⟨Ao16, co16, eo16⟩ := Kd.R_slice HO520.out; subst eo16))
        go_ret
        exact ⟨by first | rfl | (simp [errW_none, errW_some] <;> rfl) | (simp [*, errW_none, errW_some] <;> rfl), by repeat (first | (with_reducible first | exact HB.out | apply below_alloc | apply pw_below_drewN | apply below_drew1) | exact HB.out)⟩
    · replace c6 := Bool.eq_false_iff.mpr c6
      subst c6
      have H1 : (some false) = some r := by rw [if_neg (show ¬ (false = true) by decide)] at H; exact H
      clear H
      have H := H1
      clear H1
      obtain rfl := Option.some.inj H
      go_enter Try.func71, Try.ntmps71
      go_wp2_with (first | ((with_reducible refine gate_callee (f := 86) rfl ?_); refine goesL_ (some 5) rfl rfl Try.func86 (by kernel_rfl) rfl #[.slice A0 l0.length c0, .int .i64 0] rfl (by (try simp only [List.map_toArray, List.map_cons, List.map_nil]); first | done | rfl | (simp only [List.length_drop, List.length_take]; rfl)) ?_; (with_reducible refine (spec_roPlaces.calls k _ _ l0 0 t518 _ ?side1 ?side2 A2.out).mono ?_); (case side1 => repeat (first | exact HR0.out | (with_reducible refine Kd.C_alloc ?_ _) | (with_reducible refine Kd.C_drewN ?_ _) | (with_reducible refine Kd.C_drew ?_))); (case side2 => exact HC0.out); rintro e w17 ⟨v519, rfl, ho0, hb⟩; refine ⟨_, rfl, ?_⟩; have n0_ := Aside0.mk (Kd.R_lower ho0 (below_size (by repeat (first | (with_reducible first | exact HB.out | apply below_alloc | apply pw_below_drewN | apply below_drew1) | exact HB.out)))); have n1_ := Aside0.mk (below_step (by repeat (first | (with_reducible first | exact HB.out | apply below_alloc | apply pw_below_drewN | apply below_drew1) | exact HB.out)) hb); clear HB; have HO520 := n0_; have HB := n1_; clear n0_ n1_; (try clear hb); (try clear hb2); (try clear hk); (try clear hi); (try clear ho0)) | ((with_reducible refine gate_callee (f := 61) rfl ?_); refine goesL_ (some 7) rfl rfl Try.func61 (by kernel_rfl) rfl #[.slice A0 l0.length c0, .int .i64 0] rfl (by (try simp only [List.map_toArray, List.map_cons, List.map_nil]); first | done | rfl | (simp only [List.length_drop, List.length_take]; rfl)) ?_; (with_reducible refine (spec_roFits.calls k _ _ l0 0 true _ ?side1 ?side2 A3.out).mono ?_); (case side1 => repeat (first | exact (Kd.C_below HR0.out HB.out) | (with_reducible refine Kd.C_alloc ?_ _) | (with_reducible refine Kd.C_drewN ?_ _) | (with_reducible refine Kd.C_drew ?_))); (case side2 => exact HC0.out); rintro e w18 ⟨rfl, hb⟩; refine ⟨_, rfl, ?_⟩; have n0_ := Aside0.mk (Kd.R_below (by (with_reducible repeat (first | apply Kd.R_alloc | apply Kd.R_drewN | apply Kd.R_drew)); exact HO520.out) hb); have n1_ := Aside0.mk (below_step (by repeat (first | (with_reducible first | exact HB.out | apply below_alloc | apply pw_below_drewN | apply below_drew1) | exact HB.out)) hb); clear HO520; clear HB; have HO520 := n0_; have HB := n1_; clear n0_ n1_; (try clear hb); (try clear hb2); (try clear hk); (try clear hi)) | (go_at_call 92; (with_reducible refine (spec_roFrom.calls k _ _ l0 1 false _ ?side1 ?side2 A5.out).mono ?_); (case side1 => repeat (first | exact (Kd.C_below HR0.out HB.out) | (with_reducible refine Kd.C_alloc ?_ _) | (with_reducible refine Kd.C_drewN ?_ _) | (with_reducible refine Kd.C_drew ?_))); (case side2 => exact HC0.out); rintro e w19 ⟨rfl, hb⟩; have n0_ := Aside0.mk (Kd.R_below (by (with_reducible repeat (first | apply Kd.R_alloc | apply Kd.R_drewN | apply Kd.R_drew)); exact HO520.out) hb); have n1_ := Aside0.mk (below_step (by repeat (first | (with_reducible first | exact HB.out | apply below_alloc | apply pw_below_drewN | apply below_drew1) | exact HB.out)) hb); clear HO520; clear HB; have HO520 := n0_; have HB := n1_; clear n0_ n1_; (try clear hb); (try clear hb2); (try clear hk); (try clear hi)))
      go_ret
      exact ⟨by first | rfl | (simp [errW_none, errW_some] <;> rfl) | (simp [*, errW_none, errW_some] <;> rfl), by repeat (first | (with_reducible first | exact HB.out | apply below_alloc | apply pw_below_drewN | apply below_drew1) | exact HB.out)⟩
  · replace c4 := Bool.eq_false_iff.mpr c4
    subst c4
    have H1 : (some false) = some r := by rw [if_neg (show ¬ (false = true) by decide)] at H; exact H
    clear H
    have H := H1
    clear H1
    obtain rfl := Option.some.inj H
    go_enter Try.func71, Try.ntmps71
    go_wp2_with (first | ((with_reducible refine gate_callee (f := 86) rfl ?_); refine goesL_ (some 5) rfl rfl Try.func86 (by kernel_rfl) rfl #[.slice A0 l0.length c0, .int .i64 0] rfl (by (try simp only [List.map_toArray, List.map_cons, List.map_nil]); first | done | rfl | (simp only [List.length_drop, List.length_take]; rfl)) ?_; (with_reducible refine (spec_roPlaces.calls k _ _ l0 0 t518 _ ?side1 ?side2 A2.out).mono ?_); (case side1 => repeat (first | exact HR0.out | (with_reducible refine Kd.C_alloc ?_ _) | (with_reducible refine Kd.C_drewN ?_ _) | (with_reducible refine Kd.C_drew ?_))); (case side2 => exact HC0.out); rintro e w20 ⟨v519, rfl, ho0, hb⟩; refine ⟨_, rfl, ?_⟩; have n0_ := Aside0.mk (Kd.R_lower ho0 (below_size (by repeat (first | (with_reducible first | exact HB.out | apply below_alloc | apply pw_below_drewN | apply below_drew1) | exact HB.out)))); have n1_ := Aside0.mk (below_step (by repeat (first | (with_reducible first | exact HB.out | apply below_alloc | apply pw_below_drewN | apply below_drew1) | exact HB.out)) hb); clear HB; have HO520 := n0_; have HB := n1_; clear n0_ n1_; (try clear hb); (try clear hb2); (try clear hk); (try clear hi); (try clear ho0)) | ((with_reducible refine gate_callee (f := 61) rfl ?_); refine goesL_ (some 7) rfl rfl Try.func61 (by kernel_rfl) rfl #[.slice A0 l0.length c0, .int .i64 0] rfl (by (try simp only [List.map_toArray, List.map_cons, List.map_nil]); first | done | rfl | (simp only [List.length_drop, List.length_take]; rfl)) ?_; (with_reducible refine (spec_roFits.calls k _ _ l0 0 false _ ?side1 ?side2 A3.out).mono ?_); (case side1 => repeat (first | exact (Kd.C_below HR0.out HB.out) | (with_reducible refine Kd.C_alloc ?_ _) | (with_reducible refine Kd.C_drewN ?_ _) | (with_reducible refine Kd.C_drew ?_))); (case side2 => exact HC0.out); rintro e w21 ⟨rfl, hb⟩; refine ⟨_, rfl, ?_⟩; have n0_ := Aside0.mk (Kd.R_below (by (with_reducible repeat (first | apply Kd.R_alloc | apply Kd.R_drewN | apply Kd.R_drew)); exact HO520.out) hb); have n1_ := Aside0.mk (below_step (by repeat (first | (with_reducible first | exact HB.out | apply below_alloc | apply pw_below_drewN | apply below_drew1) | exact HB.out)) hb); clear HO520; clear HB; have HO520 := n0_; have HB := n1_; clear n0_ n1_; (try clear hb); (try clear hb2); (try clear hk); (try clear hi)))
    go_ret
    exact ⟨by first | rfl | (simp [errW_none, errW_some] <;> rfl) | (simp [*, errW_none, errW_some] <;> rfl), by repeat (first | (with_reducible first | exact HB.out | apply below_alloc | apply pw_below_drewN | apply below_drew1) | exact HB.out)⟩

noncomputable def spec_roHooked.F (l0 : List Int) : Option (Bool) := lim fun k => spec_roHooked.f k l0
theorem spec_roHooked.F_lim (l0 : List Int) : Lim (fun k => spec_roHooked.f k l0) (spec_roHooked.F l0) := Lim.of fun k => spec_roHooked.mono l0 k
theorem spec_roHooked.F_eq (l0 : List Int) : spec_roHooked.F l0 = ((spec_roPlaces.F l0 0).bind fun t518 => ((spec_roFits.F l0 0).bind fun t521 => (if t521 = true then ((spec_roFrom.F l0 1).bind fun t522 => (if t522 = true then (if (t518.length : Int) = 1 then (if 0 < (t518.length : Int) then (some ((rd t518 0) == (wrap64 ((l0.length : Int) - 2)))) else (none)) else (some false)) else (some false))) else (some false)))) :=
  Lim.unique (spec_roHooked.F_lim l0) (by
    unfold spec_roHooked.f
    repeat' first
    | (with_reducible exact Lim.const _)
    | (with_reducible exact spec_roFits.F_lim _ _)
    | (with_reducible exact spec_roFrom.F_lim _ _)
    | (with_reducible exact spec_roPlaces.F_lim _ _)
    | (with_reducible refine Lim.ite ?_ ?_)
    | (with_reducible refine Lim.bind ?_ (fun _ => ?_)))

end Go.Proofs.Ytmhcgihkijiecaa.Fn
namespace Go.Proofs.Ytmhcgihkijiecaa.Fn
open Go.RowKit Go.Proofs.YtmhcgihkijiecaaW.PrintWords Go.Proofs.YtmhcgihkijiecaaW.PrintLast Go.Proofs.YtmhcgihkijiecaaW.PrintMore
attribute [local go_sem] max2_int min2_int max_two min_two max_three min_three max_four min_four   -- for this text's walks alone
set_option linter.unusedVariables false
set_option linter.unusedSimpArgs false

/-! ### spec_roBack: function 72 -/
def spec_roBack.l0 : Nat → List Int → List Int → Int → Option (List Int)
  | 0, _, _, _ => none
  | k + 1, x0, x3, x4 => if x4 ≥ 0 then (if 0 ≤ x4 then (if x4 < (x0.length : Int) then (if x3.length < 17592186044416 then (spec_roBack.l0 k x0 (x3 ++ [rd x0 x4]) (wrap64 (x4 - 1))) else (none)) else (none)) else (none)) else (some x3)
def spec_roBack.f (k : Nat) (l0 : List Int) : Option (List Int) := spec_roBack.l0 k l0 ([] : List Int) (wrap64 ((l0.length : Int) - 1))
theorem spec_roBack.mono_l : ∀ k, (∀ y0 y1 y2, LeO (spec_roBack.l0 k y0 y1 y2) (spec_roBack.l0 (k + 1) y0 y1 y2))
  | 0 => fun _ _ _ r h => by simp [spec_roBack.l0] at h
  | k + 1 => by
    have ih0 := spec_roBack.mono_l k
    · intro y0 y1 y2
      unfold spec_roBack.l0
      repeat' first
      | (with_reducible exact ih0 _ _ _)
      | (with_reducible exact LeO.refl _)
      | (with_reducible exact LeO.none _)
      | (with_reducible refine LeO.ite ?_ ?_)
      | (with_reducible refine LeO.bind ?_ (fun _ => ?_))
      | exact ih0 _ _ _
      | exact LeO.none _
      | refine LeO.ite ?_ ?_
      | refine LeO.bind ?_ (fun _ => ?_)
theorem spec_roBack.mono : ∀ a0 k, LeO (spec_roBack.f k a0) (spec_roBack.f (k + 1) a0) := by
  intro a0 k
  have ih0 := spec_roBack.mono_l k
  unfold spec_roBack.f
  repeat' first
      | (with_reducible exact ih0 _ _ _)
      | (with_reducible exact LeO.refl _)
      | (with_reducible exact LeO.none _)
      | (with_reducible refine LeO.ite ?_ ?_)
      | (with_reducible refine LeO.bind ?_ (fun _ => ?_))
      | exact ih0 _ _ _
      | exact LeO.none _
      | refine LeO.ite ?_ ?_
      | refine LeO.bind ?_ (fun _ => ?_)
set_option maxHeartbeats 8000000 in
set_option maxRecDepth 100000 in
theorem spec_roBack.calls (k : Nat) (A0 : Option Addr) (c0 : Nat) (l0 : List Int) (r : List Int) (w : World) (hr0 : Kd.C (Kd.int .i64) w A0 l0.length l0) (hc0 : l0.length ≤ c0) (h : spec_roBack.f k l0 = some r) :
    Calls Try.prog 72 #[.slice A0 l0.length c0] w fun e w' => ∃ v0_ : Value, e = .returned (v0_) ∧ Kd.R (Kd.int .i64) 3 w' w.heap.size (fun _ => True) v0_ r ∧ Below w.heap.size w w' := by
  have HR0 := Aside0.mk hr0
  have HC0 := Aside0.mk hc0
  clear hr0 hc0
  have HB := Aside0.mk (Below.refl w.heap.size w)
  have H : (spec_roBack.l0 k l0 ([] : List Int) (wrap64 ((l0.length : Int) - 1))) = some r := h
  clear h
  have H' := Aside0.mk H
  clear H
  go_enter Try.func72, Try.ntmps72
  go_wp2
  go_loopg [3, 4] k (fun kq v3 v4 w' => ∃ (x3_1 : List Int) (x4_1 : Int), v4 = .int .i64 x4_1 ∧ Aside0 (spec_roBack.l0 kq l0 x3_1 x4_1 = some r) ∧ Aside0 (kq ≤ k) ∧ Aside0 (Kd.R (Kd.int .i64) 3 w' w.heap.size (fun _ => True) v3 x3_1) ∧ Aside0 (Below w.heap.size w w'))
  case atStart => exact ⟨(([] : List Int)), (wrap64 ((l0.length : Int) - 1)), (by first | rfl | (simp; done) | (simp [*]; done)), H', ⟨Nat.le_refl _⟩, ⟨by first | exact Kd.R_nil _ _ _ _ _ | exact Kd.N_nil _ _ _ _ _ | exact Kd.V_nil _ _ _ _ _ | exact Kd.Q_nil _ _ _ _ _ | exact Kd.S_nil _ _ _ _ _⟩, ⟨by repeat (first | (with_reducible first | exact HB.out | apply below_alloc | apply pw_below_drewN | apply below_drew1) | exact HB.out)⟩⟩
  case round =>
    clear H'
    obtain ⟨x3_1, x4_1, rfl, HA, HK1, HO_3, HB⟩ := hrel
    cases gk with
    | zero => exact absurd HA.out (by simp [spec_roBack.l0])
    | succ k1 =>
      have H := HA.out
      clear HA
      simp only [spec_roBack.l0] at H
      by_cases c2 : x4_1 ≥ 0
      · rw [if_pos c2] at H
        have c2b0 : decide (0 ≤ x4_1) = true := decide_eq_true c2
        clear c2
        by_cases c3 : 0 ≤ x4_1
        · rw [if_pos c3] at H
          have c3b0 : decide (0 ≤ x4_1) = true := decide_eq_true c3
          clear c3
          by_cases c4 : x4_1 < (l0.length : Int)
          · rw [if_pos c4] at H
            have c4b0 : decide (x4_1 < (l0.length : Int)) = true := decide_eq_true c4
            clear c4
            by_cases c5 : x3_1.length < 17592186044416
            · rw [if_pos c5] at H
              have LMc5 := Aside0.mk c5
              clear c5
              obtain ⟨y525, hy525⟩ : ∃ y_ : List Int, y_ = (x3_1 ++ [rd l0 x4_1]) := ⟨_, rfl⟩
              replace H : (spec_roBack.l0 k1 l0 y525 (wrap64 (x4_1 - 1))) = some r := by first | (rw [hy525]; with_reducible exact H) | (have H2_ := (Option.bind_some _ _).symm.trans H; rw [hy525]; with_reducible exact H2_) | (have H2_ := (Option.bind_some _ _).symm.trans H; with_reducible exact H2_) | with_reducible exact H | (rw [hy525]; exact H) | exact H
              have Ny525 := Aside0.mk hy525
              clear hy525
              have H' := Aside0.mk H
              clear H
              have p524 : 0 ≤ (x4_1 : Int) := of_decide_eq_true (by first | (with_reducible assumption) | assumption)
              have q524 : x4_1 < (l0.length : Int) := of_decide_eq_true (by first | (with_reducible assumption) | assumption)
              obtain ⟨ad524, e524, hx524_0⟩ := Kd.at_int HR0.out x4_1 p524 q524
              cases e524
              replace hx524_0 := (HB.out.cell (World.block_lt_of_cell? w _ hx524_0)).trans hx524_0
              replace p524 := eq_true p524
              replace q524 := eq_true q524
              go_wp2_with (first | ((with_reducible refine gate_builtin (b := .append) (xs := #[.tmp 12, .tmp 17]) rfl ?_); at_builtin; refine Kd.R_append (Kd.int .i64) (w0 := w) w.heap.size rfl (.tmp 12) (.tmp 17) 25 3 (.int .i64 0) 8 rfl Try.underlying25 info3 rfl (by decide) (by omega) u3 x3_1 (rd l0 x4_1) [.int .i64 (rd l0 x4_1)] (fun _ => True) (fun _ => False) rfl rfl ?aP (fun _ hk => hk.elim) ?aF ?aO ?aB ?aS ?aL ?_; (case aP => exact rfl); (case aB => exact (by repeat (first | (with_reducible first | exact HB.out | apply below_alloc | apply pw_below_drewN | apply below_drew1) | exact HB.out))); (case aF => exact (fun _ _ => trivial)); (case aO => exact (by (with_reducible repeat (first | apply Kd.R_alloc | apply Kd.R_drewN | apply Kd.R_drew)); exact HO_3.out)); (case aS => exact (below_size (by repeat (first | (with_reducible first | exact HB.out | apply below_alloc | apply pw_below_drewN | apply below_drew1) | exact HB.out)))); (case aL => have := LMc5.out; omega); intro v526 w6 ho hb hg hat; rw [← Ny525.out] at ho; have n0_ := Aside0.mk (hb); have n1_ := Aside0.mk (ho); clear HB; clear HO_3; have HB := n0_; have HO527 := n1_; clear n0_ n1_; clear ho hb hg hat))
              go_roundg k1
              case measure => have := HK1.out; omega
              case rel => exact ⟨(y525), (wrap64 (x4_1 - 1)), (by first | rfl | (simp; done) | (simp [*]; done)), H', ⟨by have := HK1.out; omega⟩, ⟨by (with_reducible repeat (first | apply Kd.R_alloc | apply Kd.R_drewN | apply Kd.R_drew)); exact HO527.out⟩, ⟨by repeat (first | (with_reducible first | exact HB.out | apply below_alloc | apply pw_below_drewN | apply below_drew1) | exact HB.out)⟩⟩
            · rw [if_neg c5] at H
              exact absurd H (by simp)
          · rw [if_neg c4] at H
            exact absurd H (by simp)
        · rw [if_neg c3] at H
          exact absurd H (by simp)
      · rw [if_neg c2] at H
        have c2b0 : decide (0 ≤ x4_1) = false := decide_eq_false c2
        clear c2
        obtain rfl := Option.some.inj H
        go_wp2
        go_ret
        exact ⟨_, by first | rfl | (simp [errW_none, errW_some] <;> rfl) | (simp [*, errW_none, errW_some] <;> rfl), by (with_reducible repeat (first | apply Kd.R_alloc | apply Kd.R_drewN | apply Kd.R_drew)); exact HO_3.out, by repeat (first | (with_reducible first | exact HB.out | apply below_alloc | apply pw_below_drewN | apply below_drew1) | exact HB.out)⟩

noncomputable def spec_roBack.L0 (x0 : List Int) (x3 : List Int) (x4 : Int) : Option (List Int) := lim fun k => spec_roBack.l0 k x0 x3 x4
theorem spec_roBack.L0_lim (x0 : List Int) (x3 : List Int) (x4 : Int) : Lim (fun k => spec_roBack.l0 k x0 x3 x4) (spec_roBack.L0 x0 x3 x4) := Lim.of fun k => (spec_roBack.mono_l k) x0 x3 x4
noncomputable def spec_roBack.F (l0 : List Int) : Option (List Int) := lim fun k => spec_roBack.f k l0
theorem spec_roBack.F_lim (l0 : List Int) : Lim (fun k => spec_roBack.f k l0) (spec_roBack.F l0) := Lim.of fun k => spec_roBack.mono l0 k
theorem spec_roBack.L0_eq (x0 : List Int) (x3 : List Int) (x4 : Int) : spec_roBack.L0 x0 x3 x4 = (if x4 ≥ 0 then (if 0 ≤ x4 then (if x4 < (x0.length : Int) then (if x3.length < 17592186044416 then (spec_roBack.L0 x0 (x3 ++ [rd x0 x4]) (wrap64 (x4 - 1))) else (none)) else (none)) else (none)) else (some x3)) :=
  Lim.step (f := fun k => (if x4 ≥ 0 then (if 0 ≤ x4 then (if x4 < (x0.length : Int) then (if x3.length < 17592186044416 then (spec_roBack.l0 k x0 (x3 ++ [rd x0 x4]) (wrap64 (x4 - 1))) else (none)) else (none)) else (none)) else (some x3))) (spec_roBack.L0_lim x0 x3 x4) (fun k => by first | rfl | rw [spec_roBack.l0]) (by
    repeat' first
    | (with_reducible exact Lim.const _)
    | (with_reducible exact spec_roBack.L0_lim _ _ _)
    | (with_reducible refine Lim.ite ?_ ?_)
    | (with_reducible refine Lim.bind ?_ (fun _ => ?_)))
theorem spec_roBack.F_eq (l0 : List Int) : spec_roBack.F l0 = (spec_roBack.L0 l0 ([] : List Int) (wrap64 ((l0.length : Int) - 1))) :=
  Lim.unique (spec_roBack.F_lim l0) (by
    unfold spec_roBack.f
    repeat' first
    | (with_reducible exact Lim.const _)
    | (with_reducible exact spec_roBack.L0_lim _ _ _)
    | (with_reducible refine Lim.ite ?_ ?_)
    | (with_reducible refine Lim.bind ?_ (fun _ => ?_)))

end Go.Proofs.Ytmhcgihkijiecaa.Fn
namespace Go.Proofs.Ytmhcgihkijiecaa.Fn
open Go.RowKit Go.Proofs.YtmhcgihkijiecaaW.PrintWords Go.Proofs.YtmhcgihkijiecaaW.PrintLast Go.Proofs.YtmhcgihkijiecaaW.PrintMore
attribute [local go_sem] max2_int min2_int max_two min_two max_three min_three max_four min_four   -- for this text's walks alone
set_option linter.unusedVariables false
set_option linter.unusedSimpArgs false

/-! ### spec_TurnHooked: function 42 -/
def spec_TurnHooked.f (k : Nat) (l0 : List Int) : Option (List Int × Bool) := (spec_roIs.f k l0).bind fun t528 => (if t528 = true then ((spec_roHooked.f k l0).bind fun t529 => (if t529 = true then ((spec_roBack.f k l0).bind fun t530 => (some (t530, true))) else (some (([] : List Int), false)))) else (some (([] : List Int), false)))
theorem spec_TurnHooked.mono : ∀ a0 k, LeO (spec_TurnHooked.f k a0) (spec_TurnHooked.f (k + 1) a0) := by
  intro a0 k
  unfold spec_TurnHooked.f
  repeat' first
      | (with_reducible exact spec_roBack.mono _ _)
      | (with_reducible exact spec_roHooked.mono _ _)
      | (with_reducible exact spec_roIs.mono _ _)
      | (with_reducible exact LeO.refl _)
      | (with_reducible exact LeO.none _)
      | (with_reducible refine LeO.ite ?_ ?_)
      | (with_reducible refine LeO.bind ?_ (fun _ => ?_))
      | exact spec_roBack.mono _ _
      | exact spec_roHooked.mono _ _
      | exact spec_roIs.mono _ _
      | exact LeO.none _
      | refine LeO.ite ?_ ?_
      | refine LeO.bind ?_ (fun _ => ?_)
set_option maxHeartbeats 8000000 in
set_option maxRecDepth 100000 in
theorem spec_TurnHooked.calls (k : Nat) (A0 : Option Addr) (c0 : Nat) (l0 : List Int) (r1 : List Int) (r2 : Bool) (w : World) (hr0 : Kd.C (Kd.int .i64) w A0 l0.length l0) (hc0 : l0.length ≤ c0) (h : spec_TurnHooked.f k l0 = some (r1, r2)) :
    Calls Try.prog 42 #[.slice A0 l0.length c0] w fun e w' => ∃ v0_ : Value, e = .returned (.tuple #[v0_, .bool r2]) ∧ Kd.R (Kd.int .i64) 3 w' w.heap.size (fun _ => True) v0_ r1 ∧ Below w.heap.size w w' := by
  have HR0 := Aside0.mk hr0
  have HC0 := Aside0.mk hc0
  clear hr0 hc0
  have HB := Aside0.mk (Below.refl w.heap.size w)
  have H : ((spec_roIs.f k l0).bind fun t528 => (if t528 = true then ((spec_roHooked.f k l0).bind fun t529 => (if t529 = true then ((spec_roBack.f k l0).bind fun t530 => (some (t530, true))) else (some (([] : List Int), false)))) else (some (([] : List Int), false)))) = some (r1, r2) := h
  clear h
  replace H := Option.bind_eq_some_iff.mp H
  obtain ⟨t528, A20, H⟩ := H
  replace H : (if t528 = true then ((spec_roHooked.f k l0).bind fun t529 => (if t529 = true then ((spec_roBack.f k l0).bind fun t530 => (some (t530, true))) else (some (([] : List Int), false)))) else (some (([] : List Int), false))) = some (r1, r2) := H
  have A2 := Aside0.mk A20
  clear A20
  by_cases c3 : t528 = true
  · subst c3
    have H1 : ((spec_roHooked.f k l0).bind fun t529 => (if t529 = true then ((spec_roBack.f k l0).bind fun t530 => (some (t530, true))) else (some (([] : List Int), false)))) = some (r1, r2) := by rw [if_pos rfl] at H; exact H
    clear H
    have H := H1
    clear H1
    replace H := Option.bind_eq_some_iff.mp H
    obtain ⟨t529, A40, H⟩ := H
    replace H : (if t529 = true then ((spec_roBack.f k l0).bind fun t530 => (some (t530, true))) else (some (([] : List Int), false))) = some (r1, r2) := H
    have A4 := Aside0.mk A40
    clear A40
    by_cases c5 : t529 = true
    · subst c5
      have H1 : ((spec_roBack.f k l0).bind fun t530 => (some (t530, true))) = some (r1, r2) := by rw [if_pos rfl] at H; exact H
      clear H
      have H := H1
      clear H1
      replace H := Option.bind_eq_some_iff.mp H
      obtain ⟨t530, A60, H⟩ := H
      replace H : (some (t530, true)) = some (r1, r2) := H
      have A6 := Aside0.mk A60
      clear A60
      simp only [Option.some.injEq, Prod.mk.injEq] at H
      obtain ⟨rfl, rfl⟩ := H
      go_enter Try.func42, Try.ntmps42
      go_wp2_with (first | ((with_reducible refine gate_callee (f := 60) rfl ?_); refine goesL_ (some 5) rfl rfl Try.func60 (by kernel_rfl) rfl #[.slice A0 l0.length c0] rfl (by (try simp only [List.map_toArray, List.map_cons, List.map_nil]); first | done | rfl | (simp only [List.length_drop, List.length_take]; rfl)) ?_; (with_reducible refine (spec_roIs.calls k _ _ l0 true _ ?side1 ?side2 A2.out).mono ?_); (case side1 => repeat (first | exact HR0.out | (with_reducible refine Kd.C_alloc ?_ _) | (with_reducible refine Kd.C_drewN ?_ _) | (with_reducible refine Kd.C_drew ?_))); (case side2 => exact HC0.out); rintro e w7 ⟨rfl, hb⟩; refine ⟨_, rfl, ?_⟩; have n0_ := Aside0.mk (below_step (by repeat (first | (with_reducible first | exact HB.out | apply below_alloc | apply pw_below_drewN | apply below_drew1) | exact HB.out)) hb); clear HB; have HB := n0_; clear n0_; (try clear hb); (try clear hb2); (try clear hk); (try clear hi)) | (go_at_call 71; (with_reducible refine (spec_roHooked.calls k _ _ l0 true _ ?side1 ?side2 A4.out).mono ?_); (case side1 => repeat (first | exact (Kd.C_below HR0.out HB.out) | (with_reducible refine Kd.C_alloc ?_ _) | (with_reducible refine Kd.C_drewN ?_ _) | (with_reducible refine Kd.C_drew ?_))); (case side2 => exact HC0.out); rintro e w8 ⟨rfl, hb⟩; have n0_ := Aside0.mk (below_step (by repeat (first | (with_reducible first | exact HB.out | apply below_alloc | apply pw_below_drewN | apply below_drew1) | exact HB.out)) hb); clear HB; have HB := n0_; clear n0_; (try clear hb); (try clear hb2); (try clear hk); (try clear hi)) | ((with_reducible refine gate_callee (f := 72) rfl ?_); refine goesL_ (some 13) rfl rfl Try.func72 (by kernel_rfl) rfl #[.slice A0 l0.length c0] rfl (by (try simp only [List.map_toArray, List.map_cons, List.map_nil]); first | done | rfl | (simp only [List.length_drop, List.length_take]; rfl)) ?_; (with_reducible refine (spec_roBack.calls k _ _ l0 t530 _ ?side1 ?side2 A6.out).mono ?_); (case side1 => repeat (first | exact (Kd.C_below HR0.out HB.out) | (with_reducible refine Kd.C_alloc ?_ _) | (with_reducible refine Kd.C_drewN ?_ _) | (with_reducible refine Kd.C_drew ?_))); (case side2 => exact HC0.out); rintro e w9 ⟨v531, rfl, ho0, hb⟩; refine ⟨_, rfl, ?_⟩; have n0_ := Aside0.mk (Kd.R_lower ho0 (below_size (by repeat (first | (with_reducible first | exact HB.out | apply below_alloc | apply pw_below_drewN | apply below_drew1) | exact HB.out)))); have n1_ := Aside0.mk (below_step (by repeat (first | (with_reducible first | exact HB.out | apply below_alloc | apply pw_below_drewN | apply below_drew1) | exact HB.out)) hb); clear HB; have HO532 := n0_; have HB := n1_; clear n0_ n1_; (try clear hb); (try clear hb2); (try clear hk); (try clear hi); (try clear ho0)))
      go_ret2
      exact ⟨_, by first | rfl | (simp [errW_none, errW_some] <;> rfl) | (simp [*, errW_none, errW_some] <;> rfl), by (with_reducible repeat (first | apply Kd.R_alloc | apply Kd.R_drewN | apply Kd.R_drew)); exact HO532.out, by repeat (first | (with_reducible first | exact HB.out | apply below_alloc | apply pw_below_drewN | apply below_drew1) | exact HB.out)⟩
    · replace c5 := Bool.eq_false_iff.mpr c5
      subst c5
      have H1 : (some (([] : List Int), false)) = some (r1, r2) := by rw [if_neg (show ¬ (false = true) by decide)] at H; exact H
      clear H
      have H := H1
      clear H1
      simp only [Option.some.injEq, Prod.mk.injEq] at H
      obtain ⟨rfl, rfl⟩ := H
      go_enter Try.func42, Try.ntmps42
      go_wp2_with (first | ((with_reducible refine gate_callee (f := 60) rfl ?_); refine goesL_ (some 5) rfl rfl Try.func60 (by kernel_rfl) rfl #[.slice A0 l0.length c0] rfl (by (try simp only [List.map_toArray, List.map_cons, List.map_nil]); first | done | rfl | (simp only [List.length_drop, List.length_take]; rfl)) ?_; (with_reducible refine (spec_roIs.calls k _ _ l0 true _ ?side1 ?side2 A2.out).mono ?_); (case side1 => repeat (first | exact HR0.out | (with_reducible refine Kd.C_alloc ?_ _) | (with_reducible refine Kd.C_drewN ?_ _) | (with_reducible refine Kd.C_drew ?_))); (case side2 => exact HC0.out); rintro e w10 ⟨rfl, hb⟩; refine ⟨_, rfl, ?_⟩; have n0_ := Aside0.mk (below_step (by repeat (first | (with_reducible first | exact HB.out | apply below_alloc | apply pw_below_drewN | apply below_drew1) | exact HB.out)) hb); clear HB; have HB := n0_; clear n0_; (try clear hb); (try clear hb2); (try clear hk); (try clear hi)) | (go_at_call 71; (with_reducible refine (spec_roHooked.calls k _ _ l0 false _ ?side1 ?side2 A4.out).mono ?_); (case side1 => repeat (first | exact (Kd.C_below HR0.out HB.out) | (with_reducible refine Kd.C_alloc ?_ _) | (with_reducible refine Kd.C_drewN ?_ _) | (with_reducible refine Kd.C_drew ?_))); (case side2 => exact HC0.out); rintro e w11 ⟨rfl, hb⟩; have n0_ := Aside0.mk (below_step (by repeat (first | (with_reducible first | exact HB.out | apply below_alloc | apply pw_below_drewN | apply below_drew1) | exact HB.out)) hb); clear HB; have HB := n0_; clear n0_; (try clear hb); (try clear hb2); (try clear hk); (try clear hi)))
      go_ret2
      exact ⟨_, by first | rfl | (simp [errW_none, errW_some] <;> rfl) | (simp [*, errW_none, errW_some] <;> rfl), by first | exact Kd.R_nil _ _ _ _ _ | exact Kd.N_nil _ _ _ _ _ | exact Kd.V_nil _ _ _ _ _ | exact Kd.Q_nil _ _ _ _ _ | exact Kd.S_nil _ _ _ _ _, by repeat (first | (with_reducible first | exact HB.out | apply below_alloc | apply pw_below_drewN | apply below_drew1) | exact HB.out)⟩
  · replace c3 := Bool.eq_false_iff.mpr c3
    subst c3
    have H1 : (some (([] : List Int), false)) = some (r1, r2) := by rw [if_neg (show ¬ (false = true) by decide)] at H; exact H
    clear H
    have H := H1
    clear H1
    simp only [Option.some.injEq, Prod.mk.injEq] at H
    obtain ⟨rfl, rfl⟩ := H
    go_enter Try.func42, Try.ntmps42
    go_wp2_with (first | ((with_reducible refine gate_callee (f := 60) rfl ?_); refine goesL_ (some 5) rfl rfl Try.func60 (by kernel_rfl) rfl #[.slice A0 l0.length c0] rfl (by (try simp only [List.map_toArray, List.map_cons, List.map_nil]); first | done | rfl | (simp only [List.length_drop, List.length_take]; rfl)) ?_; (with_reducible refine (spec_roIs.calls k _ _ l0 false _ ?side1 ?side2 A2.out).mono ?_); (case side1 => repeat (first | exact HR0.out | (with_reducible refine Kd.C_alloc ?_ _) | (with_reducible refine Kd.C_drewN ?_ _) | (with_reducible refine Kd.C_drew ?_))); (case side2 => exact HC0.out); rintro e w12 ⟨rfl, hb⟩; refine ⟨_, rfl, ?_⟩; have n0_ := Aside0.mk (below_step (by repeat (first | (with_reducible first | exact HB.out | apply below_alloc | apply pw_below_drewN | apply below_drew1) | exact HB.out)) hb); clear HB; have HB := n0_; clear n0_; (try clear hb); (try clear hb2); (try clear hk); (try clear hi)))
    go_ret2
    exact ⟨_, by first | rfl | (simp [errW_none, errW_some] <;> rfl) | (simp [*, errW_none, errW_some] <;> rfl), by first | exact Kd.R_nil _ _ _ _ _ | exact Kd.N_nil _ _ _ _ _ | exact Kd.V_nil _ _ _ _ _ | exact Kd.Q_nil _ _ _ _ _ | exact Kd.S_nil _ _ _ _ _, by repeat (first | (with_reducible first | exact HB.out | apply below_alloc | apply pw_below_drewN | apply below_drew1) | exact HB.out)⟩

noncomputable def spec_TurnHooked.F (l0 : List Int) : Option (List Int × Bool) := lim fun k => spec_TurnHooked.f k l0
theorem spec_TurnHooked.F_lim (l0 : List Int) : Lim (fun k => spec_TurnHooked.f k l0) (spec_TurnHooked.F l0) := Lim.of fun k => spec_TurnHooked.mono l0 k
theorem spec_TurnHooked.F_eq (l0 : List Int) : spec_TurnHooked.F l0 = ((spec_roIs.F l0).bind fun t528 => (if t528 = true then ((spec_roHooked.F l0).bind fun t529 => (if t529 = true then ((spec_roBack.F l0).bind fun t530 => (some (t530, true))) else (some (([] : List Int), false)))) else (some (([] : List Int), false)))) :=
  Lim.unique (spec_TurnHooked.F_lim l0) (by
    unfold spec_TurnHooked.f
    repeat' first
    | (with_reducible exact Lim.const _)
    | (with_reducible exact spec_roBack.F_lim _)
    | (with_reducible exact spec_roHooked.F_lim _)
    | (with_reducible exact spec_roIs.F_lim _)
    | (with_reducible refine Lim.ite ?_ ?_)
    | (with_reducible refine Lim.bind ?_ (fun _ => ?_)))

end Go.Proofs.Ytmhcgihkijiecaa.Fn
namespace Go.Proofs.Ytmhcgihkijiecaa.Fn
open Go.RowKit Go.Proofs.YtmhcgihkijiecaaW.PrintWords Go.Proofs.YtmhcgihkijiecaaW.PrintLast Go.Proofs.YtmhcgihkijiecaaW.PrintMore
attribute [local go_sem] max2_int min2_int max_two min_two max_three min_three max_four min_four   -- for this text's walks alone
set_option linter.unusedVariables false
set_option linter.unusedSimpArgs false

/-! ### impl_hooked: function 73 -/
def impl_hooked.f (k : Nat) (l0 : List Int) : Option (Int) := (impl_extended.f k l0).bind fun bt533 => (if bt533.2 = (wrap64 ((l0.length : Int) - 2)) then (some bt533.1) else (some 0))
theorem impl_hooked.mono : ∀ a0 k, LeO (impl_hooked.f k a0) (impl_hooked.f (k + 1) a0) := by
  intro a0 k
  unfold impl_hooked.f
  repeat' first
      | (with_reducible exact impl_extended.mono _ _)
      | (with_reducible exact LeO.refl _)
      | (with_reducible exact LeO.none _)
      | (with_reducible refine LeO.ite ?_ ?_)
      | (with_reducible refine LeO.bind ?_ (fun _ => ?_))
      | exact impl_extended.mono _ _
      | exact LeO.none _
      | refine LeO.ite ?_ ?_
      | refine LeO.bind ?_ (fun _ => ?_)
set_option maxHeartbeats 8000000 in
set_option maxRecDepth 100000 in
theorem impl_hooked.calls (k : Nat) (A0 : Option Addr) (c0 : Nat) (l0 : List Int) (r : Int) (w : World) (hr0 : Kd.C (Kd.int .i64) w A0 l0.length l0) (hc0 : l0.length ≤ c0) (h : impl_hooked.f k l0 = some r) :
    Calls Try.prog 73 #[.slice A0 l0.length c0] w fun e w' => e = .returned (.int .i64 r) ∧ Below w.heap.size w w' := by
  have HR0 := Aside0.mk hr0
  have HC0 := Aside0.mk hc0
  clear hr0 hc0
  have HB := Aside0.mk (Below.refl w.heap.size w)
  have H : ((impl_extended.f k l0).bind fun bt533 => (if bt533.2 = (wrap64 ((l0.length : Int) - 2)) then (some bt533.1) else (some 0))) = some r := h
  clear h
  replace H := Option.bind_eq_some_iff.mp H
  obtain ⟨⟨t533, t534⟩, A20, H⟩ := H
  replace H : (if t534 = (wrap64 ((l0.length : Int) - 2)) then (some t533) else (some 0)) = some r := H
  have A2 := Aside0.mk A20
  clear A20
  by_cases c3 : t534 = (wrap64 ((l0.length : Int) - 2))
  · rw [if_pos c3] at H
    have c3b0 : (t534 == (wrap64 ((l0.length : Int) - 2))) = true := beq_iff_eq.mpr c3
    have c3b1 : (t534 != (wrap64 ((l0.length : Int) - 2))) = false := bne_eq_false_iff_eq.mpr c3
    clear c3
    obtain rfl := Option.some.inj H
    go_enter Try.func73, Try.ntmps73
    go_wp2_with (first | ((with_reducible refine gate_callee (f := 69) rfl ?_); refine goesL_ (some 7) rfl rfl Try.func69 (by kernel_rfl) rfl #[.slice A0 l0.length c0] rfl (by (try simp only [List.map_toArray, List.map_cons, List.map_nil]); first | done | rfl | (simp only [List.length_drop, List.length_take]; rfl)) ?_; (with_reducible refine (impl_extended.calls k _ _ l0 t533 t534 _ ?side1 ?side2 A2.out).mono ?_); (case side1 => repeat (first | exact HR0.out | (with_reducible refine Kd.C_alloc ?_ _) | (with_reducible refine Kd.C_drewN ?_ _) | (with_reducible refine Kd.C_drew ?_))); (case side2 => exact HC0.out); rintro e w4 ⟨rfl, hb⟩; refine ⟨_, rfl, ?_⟩; have n0_ := Aside0.mk (below_step (by repeat (first | (with_reducible first | exact HB.out | apply below_alloc | apply pw_below_drewN | apply below_drew1) | exact HB.out)) hb); clear HB; have HB := n0_; clear n0_; (try clear hb); (try clear hb2); (try clear hk); (try clear hi)))
    go_ret
    exact ⟨by first | rfl | (simp [errW_none, errW_some] <;> rfl) | (simp [*, errW_none, errW_some] <;> rfl), by repeat (first | (with_reducible first | exact HB.out | apply below_alloc | apply pw_below_drewN | apply below_drew1) | exact HB.out)⟩
  · rw [if_neg c3] at H
    have c3b0 : (t534 == (wrap64 ((l0.length : Int) - 2))) = false := beq_eq_false_iff_ne.mpr c3
    have c3b1 : (t534 != (wrap64 ((l0.length : Int) - 2))) = true := bne_iff_ne.mpr c3
    obtain rfl := Option.some.inj H
    go_enter Try.func73, Try.ntmps73
    go_wp2_with (first | ((with_reducible refine gate_callee (f := 69) rfl ?_); refine goesL_ (some 7) rfl rfl Try.func69 (by kernel_rfl) rfl #[.slice A0 l0.length c0] rfl (by (try simp only [List.map_toArray, List.map_cons, List.map_nil]); first | done | rfl | (simp only [List.length_drop, List.length_take]; rfl)) ?_; (with_reducible refine (impl_extended.calls k _ _ l0 t533 t534 _ ?side1 ?side2 A2.out).mono ?_); (case side1 => repeat (first | exact HR0.out | (with_reducible refine Kd.C_alloc ?_ _) | (with_reducible refine Kd.C_drewN ?_ _) | (with_reducible refine Kd.C_drew ?_))); (case side2 => exact HC0.out); rintro e w5 ⟨rfl, hb⟩; refine ⟨_, rfl, ?_⟩; have n0_ := Aside0.mk (below_step (by repeat (first | (with_reducible first | exact HB.out | apply below_alloc | apply pw_below_drewN | apply below_drew1) | exact HB.out)) hb); clear HB; have HB := n0_; clear n0_; (try clear hb); (try clear hb2); (try clear hk); (try clear hi)))
    go_ret
    exact ⟨by first | rfl | (simp [errW_none, errW_some] <;> rfl) | (simp [*, errW_none, errW_some] <;> rfl), by repeat (first | (with_reducible first | exact HB.out | apply below_alloc | apply pw_below_drewN | apply below_drew1) | exact HB.out)⟩

noncomputable def impl_hooked.F (l0 : List Int) : Option (Int) := lim fun k => impl_hooked.f k l0
theorem impl_hooked.F_lim (l0 : List Int) : Lim (fun k => impl_hooked.f k l0) (impl_hooked.F l0) := Lim.of fun k => impl_hooked.mono l0 k
theorem impl_hooked.F_eq (l0 : List Int) : impl_hooked.F l0 = ((impl_extended.F l0).bind fun bt533 => (if bt533.2 = (wrap64 ((l0.length : Int) - 2)) then (some bt533.1) else (some 0))) :=
  Lim.unique (impl_hooked.F_lim l0) (by
    unfold impl_hooked.f
    repeat' first
    | (with_reducible exact Lim.const _)
    | (with_reducible exact impl_extended.F_lim _)
    | (with_reducible refine Lim.ite ?_ ?_)
    | (with_reducible refine Lim.bind ?_ (fun _ => ?_)))

end Go.Proofs.Ytmhcgihkijiecaa.Fn
namespace Go.Proofs.Ytmhcgihkijiecaa.Fn
open Go.RowKit Go.Proofs.YtmhcgihkijiecaaW.PrintWords Go.Proofs.YtmhcgihkijiecaaW.PrintLast Go.Proofs.YtmhcgihkijiecaaW.PrintMore
attribute [local go_sem] max2_int min2_int max_two min_two max_three min_three max_four min_four   -- for this text's walks alone
set_option linter.unusedVariables false
set_option linter.unusedSimpArgs false

/-! ### slices_Reverse_int_int: function 93 -/
def slices_Reverse_int_int.l0 : Nat → List Int → Int → Int → Option (List Int)
  | 0, _, _, _ => none
  | k + 1, x0, x2, x3 => if x2 < x3 then (if 0 ≤ x3 then (if x3 < (x0.length : Int) then (if 0 ≤ x2 then (if x2 < (x0.length : Int) then (slices_Reverse_int_int.l0 k ((x0.set (x2 : Int).toNat (rd x0 x3)).set (x3 : Int).toNat (rd x0 x2)) (wrap64 (x2 + 1)) (wrap64 (x3 - 1))) else (none)) else (none)) else (none)) else (none)) else (some x0)
def slices_Reverse_int_int.f (k : Nat) (l0 : List Int) : Option (List Int) := slices_Reverse_int_int.l0 k l0 0 (wrap64 ((l0.length : Int) - 1))
theorem slices_Reverse_int_int.mono_l : ∀ k, (∀ y0 y1 y2, LeO (slices_Reverse_int_int.l0 k y0 y1 y2) (slices_Reverse_int_int.l0 (k + 1) y0 y1 y2))
  | 0 => fun _ _ _ r h => by simp [slices_Reverse_int_int.l0] at h
  | k + 1 => by
    have ih0 := slices_Reverse_int_int.mono_l k
    · intro y0 y1 y2
      unfold slices_Reverse_int_int.l0
      repeat' first
      | (with_reducible exact ih0 _ _ _)
      | (with_reducible exact LeO.refl _)
      | (with_reducible exact LeO.none _)
      | (with_reducible refine LeO.ite ?_ ?_)
      | (with_reducible refine LeO.bind ?_ (fun _ => ?_))
      | exact ih0 _ _ _
      | exact LeO.none _
      | refine LeO.ite ?_ ?_
      | refine LeO.bind ?_ (fun _ => ?_)
theorem slices_Reverse_int_int.mono : ∀ a0 k, LeO (slices_Reverse_int_int.f k a0) (slices_Reverse_int_int.f (k + 1) a0) := by
  intro a0 k
  have ih0 := slices_Reverse_int_int.mono_l k
  unfold slices_Reverse_int_int.f
  repeat' first
      | (with_reducible exact ih0 _ _ _)
      | (with_reducible exact LeO.refl _)
      | (with_reducible exact LeO.none _)
      | (with_reducible refine LeO.ite ?_ ?_)
      | (with_reducible refine LeO.bind ?_ (fun _ => ?_))
      | exact ih0 _ _ _
      | exact LeO.none _
      | refine LeO.ite ?_ ?_
      | refine LeO.bind ?_ (fun _ => ?_)
def slices_Reverse_int_int.T3 : Bool × List (List Nat × List Nat) := (true, [([], []), ([], []), ([], []), ([], []), ([], []), ([], []), ([4, 5], [4, 5]), ([6], [6]), ([], []), ([], []), ([8, 9], [8, 9]), ([10], [10]), ([0, 1, 0, 1, 4, 5, 6, 7, 11], [0, 1]), ([12, 7, 0, 1, 4, 5, 6, 7, 11], [7, 12]), ([2, 3, 0, 1, 2, 3, 4, 5, 6, 7, 8, 9, 10, 11, 12, 13], [2, 3]), ([14, 11, 13, 0, 1, 2, 3, 4, 5, 6, 7, 8, 9, 10, 11, 12, 13], [11, 14])])
def slices_Reverse_int_int.B3 : List Nat := [0, 0, 0, 0, 0, 0, 48, 112, 0, 0, 768, 1792, 4083, 8179, 16383, 32767]
theorem slices_Reverse_int_int.tab3 : rtab .any (opsOf Try.f93 3) = slices_Reverse_int_int.T3 := by kernel_rfl
theorem slices_Reverse_int_int.bits3 : waitsOk slices_Reverse_int_int.T3.2 slices_Reverse_int_int.B3 = true := by kernel_rfl
set_option maxHeartbeats 8000000 in
set_option maxRecDepth 100000 in
theorem slices_Reverse_int_int.calls (k : Nat) (P0_ : Nat → Prop) (u9000_ : Value) (l0 : List Int) (r : List Int) (w0 w : World) (hB : Below w0.heap.size w0 w) (ho0 : Kd.R (Kd.int .i64) 3 w w0.heap.size P0_ u9000_ l0) (h : slices_Reverse_int_int.f k l0 = some r) :
    Calls Try.prog 93 #[u9000_] w fun e w' => e = .returned (.tuple #[]) ∧ Kd.R (Kd.int .i64) 3 w' w0.heap.size (fun k_ => (P0_ k_ ∨ w.heap.size ≤ k_)) u9000_ r ∧ Below w0.heap.size w0 w' ∧ Kept w w' (fun k_ => P0_ k_) := by
  have HO0 := Aside0.mk (show Kd.R (Kd.int .i64) 3 w w0.heap.size (fun k_ => (P0_ k_ ∨ w.heap.size ≤ k_)) u9000_ l0 from Kd.R_mono ho0 (fun k_ hk => (.inl hk)))
  have HK := Aside0.mk (Kept.refl w (fun k_ => P0_ k_))
  have HW0 := Aside0.mk hB.size
  have HB := Aside0.mk hB
  clear hB
  have H : (slices_Reverse_int_int.l0 k l0 0 (wrap64 ((l0.length : Int) - 1))) = some r := h
  clear h
  have H' := Aside0.mk H
  clear H
  obtain ⟨Ao2, co2, eo2⟩ := Kd.R_slice HO0.out
  subst eo2
  go_enter Try.func93, Try.ntmps93
  go_wp2
  go_loopg [2, 3] k (fun kq v2 v3 w' => ∃ (x0_1 : List Int) (x2_1 : Int) (x3_1 : Int), v2 = .int .i64 x2_1 ∧ v3 = .int .i64 x3_1 ∧ Aside0 (slices_Reverse_int_int.l0 kq x0_1 x2_1 x3_1 = some r) ∧ Aside0 (kq ≤ k) ∧ Aside0 (Kd.R (Kd.int .i64) 3 w' w0.heap.size (fun k_ => (P0_ k_ ∨ w.heap.size ≤ k_)) (.slice Ao2 l0.length co2) x0_1) ∧ Aside0 (Kept w w' (fun k_ => P0_ k_)) ∧ Aside0 (Below w0.heap.size w0 w'))
  case atStart => exact ⟨(l0), (0), (wrap64 ((l0.length : Int) - 1)), (by first | rfl | (simp; done) | (simp [*]; done)), (by first | rfl | (simp; done) | (simp [*]; done)), H', ⟨Nat.le_refl _⟩, ⟨by (with_reducible repeat (first | apply Kd.R_alloc | apply Kd.R_drewN | apply Kd.R_drew)); exact HO0.out⟩, ⟨by repeat (first | (with_reducible first | exact HK.out | apply Kept.alloc | apply Kept.drewN | apply Kept.drew) | exact HK.out)⟩, ⟨by repeat (first | (with_reducible first | exact HB.out | apply below_alloc | apply pw_below_drewN | apply below_drew1) | exact HB.out)⟩⟩
  case round =>
    clear H'
    try clear p2
    obtain ⟨x0_1, x2_1, x3_1, rfl, rfl, HA, HK1, HO_0, HK, HB⟩ := hrel
    have hl0_1 := (Kd.R_reads' HO_0.out).1
    rw [hl0_1] at HO_0
    (try simp only [hl0_1])
    cases gk with
    | zero => exact absurd HA.out (by simp [slices_Reverse_int_int.l0])
    | succ k1 =>
      have H := HA.out
      clear HA
      simp only [slices_Reverse_int_int.l0] at H
      by_cases c3 : x2_1 < x3_1
      · rw [if_pos c3] at H
        have c3b0 : decide (x2_1 < x3_1) = true := decide_eq_true c3
        clear c3
        by_cases c4 : 0 ≤ x3_1
        · rw [if_pos c4] at H
          have c4b0 : decide (0 ≤ x3_1) = true := decide_eq_true c4
          clear c4
          by_cases c5 : x3_1 < (x0_1.length : Int)
          · rw [if_pos c5] at H
            have c5b0 : decide (x3_1 < (x0_1.length : Int)) = true := decide_eq_true c5
            clear c5
            by_cases c6 : 0 ≤ x2_1
            · rw [if_pos c6] at H
              have c6b0 : decide (0 ≤ x2_1) = true := decide_eq_true c6
              clear c6
              by_cases c7 : x2_1 < (x0_1.length : Int)
              · rw [if_pos c7] at H
                have c7b0 : decide (x2_1 < (x0_1.length : Int)) = true := decide_eq_true c7
                clear c7
                obtain ⟨y537, hy537⟩ : ∃ y_ : List Int, y_ = (x0_1.set (x2_1 : Int).toNat (rd x0_1 x3_1)) := ⟨_, rfl⟩
                replace H : (slices_Reverse_int_int.l0 k1 (y537.set (x3_1 : Int).toNat (rd x0_1 x2_1)) (wrap64 (x2_1 + 1)) (wrap64 (x3_1 - 1))) = some r := by first | (rw [hy537]; with_reducible exact H) | (have H2_ := (Option.bind_some _ _).symm.trans H; rw [hy537]; with_reducible exact H2_) | (have H2_ := (Option.bind_some _ _).symm.trans H; with_reducible exact H2_) | with_reducible exact H | (rw [hy537]; exact H) | exact H
                have Ny537 := Aside0.mk hy537
                clear hy537
                obtain ⟨y538, hy538⟩ : ∃ y_ : List Int, y_ = (y537.set (x3_1 : Int).toNat (rd x0_1 x2_1)) := ⟨_, rfl⟩
                replace H : (slices_Reverse_int_int.l0 k1 y538 (wrap64 (x2_1 + 1)) (wrap64 (x3_1 - 1))) = some r := by first | (rw [hy538]; with_reducible exact H) | (have H2_ := (Option.bind_some _ _).symm.trans H; rw [hy538]; with_reducible exact H2_) | (have H2_ := (Option.bind_some _ _).symm.trans H; with_reducible exact H2_) | with_reducible exact H | (rw [hy538]; exact H) | exact H
                have Ny538 := Aside0.mk hy538
                clear hy538
                have H' := Aside0.mk H
                clear H
                try go_wp2
                have n0_ := Aside0.mk (Kd.R_drew HO_0.out)
                have n1_ := Aside0.mk (Kept.drew HK.out)
                have n2_ := Aside0.mk (below_drew1 HB.out)
                clear HO_0
                clear HK
                clear HB
                have HO_0 := n0_
                have HK := n1_
                have HB := n2_
                clear n0_ n1_ n2_
                have p535 : 0 ≤ (x3_1 : Int) := of_decide_eq_true (by first | (with_reducible assumption) | assumption)
                have q535 : x3_1 < (x0_1.length : Int) := of_decide_eq_true (by first | (with_reducible assumption) | assumption)
                obtain ⟨ad535, e535, hx535_0⟩ := Kd.at_int (Kd.R_reads' HO_0.out).2.2 x3_1 p535 q535
                cases e535
                replace p535 := eq_true p535
                replace q535 := eq_true q535
                have p536 : 0 ≤ (x2_1 : Int) := of_decide_eq_true (by first | (with_reducible assumption) | assumption)
                have q536 : x2_1 < (x0_1.length : Int) := of_decide_eq_true (by first | (with_reducible assumption) | assumption)
                obtain ⟨ad536, e536, hx536_0⟩ := Kd.at_int (Kd.R_reads' HO_0.out).2.2 x2_1 p536 q536
                obtain rfl : ad535 = ad536 := (by injection e536)
                replace p536 := eq_true p536
                replace q536 := eq_true q536
                have p8 : 0 ≤ (x2_1 : Int) := of_decide_eq_true (by first | (with_reducible assumption) | assumption)
                have q8 : (x2_1 : Int) < ((x0_1.length : Int) : Int) := of_decide_eq_true (by first | (with_reducible assumption) | assumption)
                obtain ⟨go8, co8, eo8, gb8, gl8, cl8, HG8⟩ := Kd.R_form HO_0.out (by omega)
                (first | cases eo8 | (injection eo8 with ea_ en_ ec_; (first | subst ea_ | (injection ea_ with ea_; subst ea_)); subst ec_; clear en_))
                have GB8 := Aside0.mk gb8
                have GG8 := Aside0.mk HG8
                clear gb8 gl8 HG8
                have HMgo8 := Aside0.mk (show (P0_ go8 ∨ w.heap.size ≤ go8) from (HO_0.out.1 _ rfl))
                (first | simp only [add_plain] at hx535_0 | skip)
                (first | simp only [add_plain] at hx536_0 | skip)
                obtain ⟨hx8_0, hf8_0⟩ := Kd.R_celln 0 HO_0.out (x2_1 : Int) p8 q8
                replace p8 := eq_true p8
                replace q8 := eq_true q8
                have HP11 := Kd.R_putn HO_0.out (x2_1 : Int) (rd x0_1 x3_1)
                rw [← Ny537.out] at HP11
                have HQ11 := Aside0.mk HP11
                clear HP11
                have p9 : 0 ≤ (x3_1 : Int) := of_decide_eq_true (by first | (with_reducible assumption) | assumption)
                have q9 : (x3_1 : Int) < ((x0_1.length : Int) : Int) := of_decide_eq_true (by first | (with_reducible assumption) | assumption)
                obtain ⟨hx9_0, hf9_0⟩ := Kd.R_celln 0 HQ11.out (x3_1 : Int) p9 q9
                replace p9 := eq_true p9
                replace q9 := eq_true q9
                have HP12 := Kd.R_putn HQ11.out (x3_1 : Int) (rd x0_1 x2_1)
                rw [← Ny538.out] at HP12
                have HQ12 := Aside0.mk HP12
                clear HP12
                refine start_ (n := 16) (S := fun w' => w'.cell? ⟨go8, (x3_1).toNat, none⟩ = some (.int .i64 (rd x0_1 x3_1)) ∧ w'.cell? ⟨go8, (x2_1).toNat, none⟩ = some (.int .i64 (rd x0_1 x2_1))) (ds := [13, 15]) #[false, false, false, false, false, false, false, false, false, false, false, false, false, false, false, false] (by kernel_rfl) rfl rfl ⟨hx535_0, hx536_0⟩ (fun hHeld => ?_); refine with_tabW slices_Reverse_int_int.tab3 slices_Reverse_int_int.bits3 (fun HT_ HW_ => ?_)
                generalize wr.drew = w10 at HO_0 HK HB GG8 HQ11 HQ12 hf8_0 hf9_0 hx535_0 hx536_0 hx8_0 hx9_0 hHeld ⊢
                refine pure_ (i := 0) (N := some 14) (v := ?_) (a' := ?_) #[true, false, false, false, false, false, false, false, false, false, false, false, false, false, false, false] rfl rfl (any_of HT_.out (by kernel_rfl)) (fun _ _ _ h => h) (Or.inl ⟨by rfl, ?_⟩) ?_ ?_
                rotate_left
                · intro w'
                  go_simp
                  with_reducible rfl
                rotate_left
                · simp only [Act.put, List.setIfInBounds_toArray, List.set_cons_zero, List.set_cons_succ, i64_w, i32_w]
                  rfl
                refine pure_ (i := 1) (N := some 15) (v := ?_) (a' := ?_) #[true, true, false, false, false, false, false, false, false, false, false, false, false, false, false, false] rfl rfl (any_of HT_.out (by kernel_rfl)) (fun _ _ _ h => h) (Or.inl ⟨by rfl, ?_⟩) ?_ ?_
                rotate_left
                · intro w'
                  go_simp
                  with_reducible rfl
                rotate_left
                · simp only [Act.put, List.setIfInBounds_toArray, List.set_cons_zero, List.set_cons_succ, i64_w, i32_w]
                  rfl
                refine pure_ (i := 2) (N := some 16) (v := ?_) (a' := ?_) #[true, true, true, false, false, false, false, false, false, false, false, false, false, false, false, false] rfl rfl (any_of HT_.out (by kernel_rfl)) (fun _ _ _ h => h) (Or.inl ⟨by rfl, ?_⟩) ?_ ?_
                rotate_left
                · intro w'
                  go_simp
                  with_reducible rfl
                rotate_left
                · simp only [Act.put, List.setIfInBounds_toArray, List.set_cons_zero, List.set_cons_succ, i64_w, i32_w]
                  rfl
                refine pure_ (i := 3) (N := some 17) (v := ?_) (a' := ?_) #[true, true, true, true, false, false, false, false, false, false, false, false, false, false, false, false] rfl rfl (any_of HT_.out (by kernel_rfl)) (fun _ _ _ h => h) (Or.inl ⟨by rfl, ?_⟩) ?_ ?_
                rotate_left
                · intro w'
                  go_simp
                  with_reducible rfl
                rotate_left
                · simp only [Act.put, List.setIfInBounds_toArray, List.set_cons_zero, List.set_cons_succ, i64_w, i32_w]
                  rfl
                refine pure_ (i := 4) (N := some 18) (v := ?_) (a' := ?_) #[true, true, true, true, true, false, false, false, false, false, false, false, false, false, false, false] rfl rfl (any_of HT_.out (by kernel_rfl)) (fun _ _ _ h => h) (Or.inl ⟨by rfl, ?_⟩) ?_ ?_
                rotate_left
                · intro w'
                  go_simp
                  with_reducible rfl
                rotate_left
                · simp only [Act.put, List.setIfInBounds_toArray, List.set_cons_zero, List.set_cons_succ, i64_w, i32_w]
                  rfl
                refine pure_ (i := 5) (N := some 19) (v := ?_) (a' := ?_) #[true, true, true, true, true, true, false, false, false, false, false, false, false, false, false, false] rfl rfl (any_of HT_.out (by kernel_rfl)) (fun _ _ _ h => h) (Or.inl ⟨by rfl, ?_⟩) ?_ ?_
                rotate_left
                · intro w'
                  go_simp
                  with_reducible rfl
                rotate_left
                · simp only [Act.put, List.setIfInBounds_toArray, List.set_cons_zero, List.set_cons_succ, i64_w, i32_w]
                  rfl
                refine pure_ (i := 6) (N := some 20) (v := ?_) (a' := ?_) #[true, true, true, true, true, true, true, false, false, false, false, false, false, false, false, false] rfl rfl (any_of HT_.out (by kernel_rfl)) (fun _ _ _ h => h) (Or.inl ⟨by rfl, ?_⟩) ?_ ?_
                rotate_left
                · intro w'
                  go_simp
                  with_reducible rfl
                rotate_left
                · simp only [Act.put, List.setIfInBounds_toArray, List.set_cons_zero, List.set_cons_succ, i64_w, i32_w]
                  rfl
                refine pure_ (i := 8) (N := some 22) (v := ?_) (a' := ?_) #[true, true, true, true, true, true, true, false, true, false, false, false, false, false, false, false] rfl rfl (any_of HT_.out (by kernel_rfl)) (fun _ _ _ h => h) (Or.inl ⟨by rfl, ?_⟩) ?_ ?_
                rotate_left
                · intro w'
                  go_simp
                  with_reducible rfl
                rotate_left
                · simp only [Act.put, List.setIfInBounds_toArray, List.set_cons_zero, List.set_cons_succ, i64_w, i32_w]
                  rfl
                refine pure_ (i := 9) (N := some 23) (v := ?_) (a' := ?_) #[true, true, true, true, true, true, true, false, true, true, false, false, false, false, false, false] rfl rfl (any_of HT_.out (by kernel_rfl)) (fun _ _ _ h => h) (Or.inl ⟨by rfl, ?_⟩) ?_ ?_
                rotate_left
                · intro w'
                  go_simp
                  with_reducible rfl
                rotate_left
                · simp only [Act.put, List.setIfInBounds_toArray, List.set_cons_zero, List.set_cons_succ, i64_w, i32_w]
                  rfl
                refine pure_ (i := 10) (N := some 24) (v := ?_) (a' := ?_) #[true, true, true, true, true, true, true, false, true, true, true, false, false, false, false, false] rfl rfl (any_of HT_.out (by kernel_rfl)) (fun _ _ _ h => h) (Or.inl ⟨by rfl, ?_⟩) ?_ ?_
                rotate_left
                · intro w'
                  go_simp
                  with_reducible rfl
                rotate_left
                · simp only [Act.put, List.setIfInBounds_toArray, List.set_cons_zero, List.set_cons_succ, i64_w, i32_w]
                  rfl
                refine take_ (i := 7) (N := some 21) (v := ?_) (a' := ?_) #[true, true, true, true, true, true, true, true, true, true, true, false, false, false, false, false] rfl rfl (take_ofW HT_.out HW_.out (by kernel_rfl)) (fun _ _ _ h => h) (Or.inl ⟨by rfl, ?_⟩) hHeld ?_ ?_
                rotate_left
                · rintro w' ⟨s0, s1⟩
                  go_simp
                  with_reducible rfl
                rotate_left
                · simp only [Act.put, List.setIfInBounds_toArray, List.set_cons_zero, List.set_cons_succ, i64_w, i32_w]
                  rfl
                refine take_ (i := 11) (N := some 25) (v := ?_) (a' := ?_) #[true, true, true, true, true, true, true, true, true, true, true, true, false, false, false, false] rfl rfl (take_ofW HT_.out HW_.out (by kernel_rfl)) (fun _ _ _ h => h) (Or.inl ⟨by rfl, ?_⟩) hHeld ?_ ?_
                rotate_left
                · rintro w' ⟨s0, s1⟩
                  go_simp
                  with_reducible rfl
                rotate_left
                · simp only [Act.put, List.setIfInBounds_toArray, List.set_cons_zero, List.set_cons_succ, i64_w, i32_w]
                  rfl
                refine pure_ (i := 12) (N := some 26) (v := ?_) (a' := ?_) #[true, true, true, true, true, true, true, true, true, true, true, true, true, false, false, false] rfl rfl (any_of HT_.out (by kernel_rfl)) (fun _ _ _ h => h) (Or.inl ⟨by rfl, ?_⟩) ?_ ?_
                rotate_left
                · intro w'
                  go_simp
                  with_reducible rfl
                rotate_left
                · simp only [Act.put, List.setIfInBounds_toArray, List.set_cons_zero, List.set_cons_succ, i64_w, i32_w]
                  rfl
                refine last_ (i := 13) (N := none) #[true, true, true, true, true, true, true, true, true, true, true, true, true, true, false, false] rfl rfl (one_of HT_.out (by kernel_rfl)) (by decide) (fun K hK => ?_)
                refine skip_ (w1 := ?_) (by rfl) rfl ?_ ?_
                rotate_left
                · go_simp
                  rfl
                refine hK.out _ _ ?_
                clear hK K
                refine pure_ (i := 14) (N := some 27) (v := ?_) (a' := ?_) #[true, true, true, true, true, true, true, true, true, true, true, true, true, true, true, false] rfl rfl (any_of HT_.out (by kernel_rfl)) (fun _ _ _ h => h) (Or.inl ⟨by rfl, ?_⟩) ?_ ?_
                rotate_left
                · intro w'
                  go_simp
                  with_reducible rfl
                rotate_left
                · simp only [Act.put, List.setIfInBounds_toArray, List.set_cons_zero, List.set_cons_succ, i64_w, i32_w]
                  rfl
                refine last_ (i := 15) (N := none) #[true, true, true, true, true, true, true, true, true, true, true, true, true, true, true, true] rfl rfl (one_of HT_.out (by kernel_rfl)) (by decide) (fun K hK => ?_)
                refine skip_ (w1 := ?_) (by rfl) rfl ?_ ?_
                rotate_left
                · go_simp
                  rfl
                refine hK.out _ _ ?_
                clear hK K
                refine done_ (done_of HT_.out (by kernel_rfl)) ?_
                try go_wp2
                (try simp only [← hl0_1])
                go_roundg k1
                case measure => have := HK1.out; omega
                case rel => exact ⟨(y538), (wrap64 (x2_1 + 1)), (wrap64 (x3_1 - 1)), (by first | rfl | (simp; done) | (simp [*]; done)), (by first | rfl | (simp; done) | (simp [*]; done)), H', ⟨by have := HK1.out; omega⟩, ⟨by (try simp only [hl0_1]); (with_reducible repeat (first | apply Kd.R_alloc | apply Kd.R_drewN | apply Kd.R_drew)); exact HQ12.out⟩, ⟨by repeat (first | (with_reducible first | exact HK.out | apply Kept.alloc | apply Kept.drewN | apply Kept.drew | refine Kept.setCell ?_ HMgo8.out _ | refine Kept.setCell ?_ HMgo8.out _) | exact HK.out)⟩, ⟨by repeat (first | (with_reducible first | exact HB.out | apply below_alloc | apply pw_below_drewN | apply below_drew1 | refine below_set ?_ GB8.out | refine below_set ?_ GB8.out) | exact HB.out)⟩⟩
              · rw [if_neg c7] at H
                exact absurd H (by simp)
            · rw [if_neg c6] at H
              exact absurd H (by simp)
          · rw [if_neg c5] at H
            exact absurd H (by simp)
        · rw [if_neg c4] at H
          exact absurd H (by simp)
      · rw [if_neg c3] at H
        have c3b0 : decide (x2_1 < x3_1) = false := decide_eq_false c3
        clear c3
        obtain rfl := Option.some.inj H
        go_wp2
        first | go_end0 | ((try simp only [Exit.inBlock, Exit.then]); refine bodyPost_ret (results_none rfl _ _ _) rfl ?_)
        exact ⟨by first | rfl | (simp [errW_none, errW_some] <;> rfl) | (simp [*, errW_none, errW_some] <;> rfl), (by first | exact (by (with_reducible repeat (first | apply Kd.R_alloc | apply Kd.R_drewN | apply Kd.R_drew)); exact HO_0.out) | (simp only [hl0_1]; exact (by (with_reducible repeat (first | apply Kd.R_alloc | apply Kd.R_drewN | apply Kd.R_drew)); exact HO_0.out))), by repeat (first | (with_reducible first | exact HB.out | apply below_alloc | apply pw_below_drewN | apply below_drew1) | exact HB.out), by repeat (first | (with_reducible first | exact HK.out | apply Kept.alloc | apply Kept.drewN | apply Kept.drew) | exact HK.out)⟩

noncomputable def slices_Reverse_int_int.L0 (x0 : List Int) (x2 : Int) (x3 : Int) : Option (List Int) := lim fun k => slices_Reverse_int_int.l0 k x0 x2 x3
theorem slices_Reverse_int_int.L0_lim (x0 : List Int) (x2 : Int) (x3 : Int) : Lim (fun k => slices_Reverse_int_int.l0 k x0 x2 x3) (slices_Reverse_int_int.L0 x0 x2 x3) := Lim.of fun k => (slices_Reverse_int_int.mono_l k) x0 x2 x3
noncomputable def slices_Reverse_int_int.F (l0 : List Int) : Option (List Int) := lim fun k => slices_Reverse_int_int.f k l0
theorem slices_Reverse_int_int.F_lim (l0 : List Int) : Lim (fun k => slices_Reverse_int_int.f k l0) (slices_Reverse_int_int.F l0) := Lim.of fun k => slices_Reverse_int_int.mono l0 k
theorem slices_Reverse_int_int.L0_eq (x0 : List Int) (x2 : Int) (x3 : Int) : slices_Reverse_int_int.L0 x0 x2 x3 = (if x2 < x3 then (if 0 ≤ x3 then (if x3 < (x0.length : Int) then (if 0 ≤ x2 then (if x2 < (x0.length : Int) then (slices_Reverse_int_int.L0 ((x0.set (x2 : Int).toNat (rd x0 x3)).set (x3 : Int).toNat (rd x0 x2)) (wrap64 (x2 + 1)) (wrap64 (x3 - 1))) else (none)) else (none)) else (none)) else (none)) else (some x0)) :=
  Lim.step (f := fun k => (if x2 < x3 then (if 0 ≤ x3 then (if x3 < (x0.length : Int) then (if 0 ≤ x2 then (if x2 < (x0.length : Int) then (slices_Reverse_int_int.l0 k ((x0.set (x2 : Int).toNat (rd x0 x3)).set (x3 : Int).toNat (rd x0 x2)) (wrap64 (x2 + 1)) (wrap64 (x3 - 1))) else (none)) else (none)) else (none)) else (none)) else (some x0))) (slices_Reverse_int_int.L0_lim x0 x2 x3) (fun k => by first | rfl | rw [slices_Reverse_int_int.l0]) (by
    repeat' first
    | (with_reducible exact Lim.const _)
    | (with_reducible exact slices_Reverse_int_int.L0_lim _ _ _)
    | (with_reducible refine Lim.ite ?_ ?_)
    | (with_reducible refine Lim.bind ?_ (fun _ => ?_)))
theorem slices_Reverse_int_int.F_eq (l0 : List Int) : slices_Reverse_int_int.F l0 = (slices_Reverse_int_int.L0 l0 0 (wrap64 ((l0.length : Int) - 1))) :=
  Lim.unique (slices_Reverse_int_int.F_lim l0) (by
    unfold slices_Reverse_int_int.f
    repeat' first
    | (with_reducible exact Lim.const _)
    | (with_reducible exact slices_Reverse_int_int.L0_lim _ _ _)
    | (with_reducible refine Lim.ite ?_ ?_)
    | (with_reducible refine Lim.bind ?_ (fun _ => ?_)))

end Go.Proofs.Ytmhcgihkijiecaa.Fn
namespace Go.Proofs.Ytmhcgihkijiecaa.Fn
open Go.RowKit Go.Proofs.YtmhcgihkijiecaaW.PrintWords Go.Proofs.YtmhcgihkijiecaaW.PrintLast Go.Proofs.YtmhcgihkijiecaaW.PrintMore
attribute [local go_sem] max2_int min2_int max_two min_two max_three min_three max_four min_four   -- for this text's walks alone
set_option linter.unusedVariables false
set_option linter.unusedSimpArgs false

/-! ### impl_back: function 74 -/
def impl_back.f (k : Nat) (l0 : List Int) : Option (List Int) := (slices_Clone_int_int.f l0).bind fun t539 => ((slices_Reverse_int_int.f k t539).bind fun t542 => (some t542))
theorem impl_back.mono : ∀ a0 k, LeO (impl_back.f k a0) (impl_back.f (k + 1) a0) := by
  intro a0 k
  unfold impl_back.f
  repeat' first
      | (with_reducible exact slices_Reverse_int_int.mono _ _)
      | (with_reducible exact LeO.refl _)
      | (with_reducible exact LeO.none _)
      | (with_reducible refine LeO.ite ?_ ?_)
      | (with_reducible refine LeO.bind ?_ (fun _ => ?_))
      | exact slices_Reverse_int_int.mono _ _
      | exact LeO.none _
      | refine LeO.ite ?_ ?_
      | refine LeO.bind ?_ (fun _ => ?_)
set_option maxHeartbeats 8000000 in
set_option maxRecDepth 100000 in
theorem impl_back.calls (k : Nat) (A0 : Option Addr) (c0 : Nat) (l0 : List Int) (r : List Int) (w : World) (hr0 : Kd.C (Kd.int .i64) w A0 l0.length l0) (hc0 : l0.length ≤ c0) (h : impl_back.f k l0 = some r) :
    Calls Try.prog 74 #[.slice A0 l0.length c0] w fun e w' => ∃ v0_ : Value, e = .returned (v0_) ∧ Kd.R (Kd.int .i64) 3 w' w.heap.size (fun _ => True) v0_ r ∧ Below w.heap.size w w' := by
  have HR0 := Aside0.mk hr0
  have HC0 := Aside0.mk hc0
  clear hr0 hc0
  have HB := Aside0.mk (Below.refl w.heap.size w)
  have H : ((slices_Clone_int_int.f l0).bind fun t539 => ((slices_Reverse_int_int.f k t539).bind fun t542 => (some t542))) = some r := h
  clear h
  replace H := Option.bind_eq_some_iff.mp H
  obtain ⟨t539, A20, H⟩ := H
  replace H : ((slices_Reverse_int_int.f k t539).bind fun t542 => (some t542)) = some r := H
  have A2 := Aside0.mk A20
  clear A20
  replace H := Option.bind_eq_some_iff.mp H
  obtain ⟨t542, A30, H⟩ := H
  replace H : (some t542) = some r := H
  have A3 := Aside0.mk A30
  clear A30
  obtain rfl := Option.some.inj H
  go_enter Try.func74, Try.ntmps74
  go_wp2_with (first | ((with_reducible refine gate_callee (f := 53) rfl ?_); refine goesL_ (some 5) rfl rfl Try.func53 (by kernel_rfl) rfl #[.slice A0 l0.length c0] rfl (by (try simp only [List.map_toArray, List.map_cons, List.map_nil]); first | done | rfl | (simp only [List.length_drop, List.length_take]; rfl)) ?_; (with_reducible refine (slices_Clone_int_int.calls _ _ l0 t539 _ ?side1 ?side2 A2.out).mono ?_); (case side1 => repeat (first | exact HR0.out | (with_reducible refine Kd.C_alloc ?_ _) | (with_reducible refine Kd.C_drewN ?_ _) | (with_reducible refine Kd.C_drew ?_))); (case side2 => exact HC0.out); rintro e w4 ⟨v540, rfl, ho0, hb⟩; refine ⟨_, rfl, ?_⟩; have n0_ := Aside0.mk (Kd.R_lower ho0 (below_size (by repeat (first | (with_reducible first | exact HB.out | apply below_alloc | apply pw_below_drewN | apply below_drew1) | exact HB.out)))); have n1_ := Aside0.mk (below_step (by repeat (first | (with_reducible first | exact HB.out | apply below_alloc | apply pw_below_drewN | apply below_drew1) | exact HB.out)) hb); clear HB; have HO541 := n0_; have HB := n1_; clear n0_ n1_; (try clear hb); (try clear hb2); (try clear hk); (try clear hi); (try clear ho0); obtain ⟨Ao5, co5, eo5⟩ := Kd.R_slice HO541.out; subst eo5) | ((with_reducible refine gate_callee (f := 93) rfl ?_); refine goesL_ (some 7) rfl rfl Try.func93 (by kernel_rfl) rfl #[.slice Ao5 t539.length co5] rfl (by (try simp only [List.map_toArray, List.map_cons, List.map_nil]); first | done | rfl | (simp only [List.length_drop, List.length_take]; rfl)) ?_; (with_reducible refine (slices_Reverse_int_int.calls k (fun k_ => some k_ = (.slice Ao5 t539.length co5 : Value).ownBlock) (.slice Ao5 t539.length co5) t539 t542 w _ ?side1 ?side2 A3.out).mono ?_); (case side1 => repeat (first | (with_reducible first | exact HB.out | apply below_alloc | apply pw_below_drewN | apply below_drew1) | exact HB.out)); (case side2 => exact Kd.R_tight rfl HO541.out); rintro e w6 ⟨rfl, hy0, hb, hkp⟩; refine ⟨_, rfl, ?_⟩; have n0_ := Aside0.mk (Kd.R_reok rfl hy0 (fun k_ e_ => HO541.out.1 k_ e_)); have n1_ := Aside0.mk (hb); clear HO541; clear HB; have HO541 := n0_; have HB := n1_; clear n0_ n1_; (try clear hb); (try clear hkp); (try clear hy0)))
  go_ret
  exact ⟨_, by first | rfl | (simp [errW_none, errW_some] <;> rfl) | (simp [*, errW_none, errW_some] <;> rfl), by (with_reducible repeat (first | apply Kd.R_alloc | apply Kd.R_drewN | apply Kd.R_drew)); exact HO541.out, by repeat (first | (with_reducible first | exact HB.out | apply below_alloc | apply pw_below_drewN | apply below_drew1) | exact HB.out)⟩

noncomputable def impl_back.F (l0 : List Int) : Option (List Int) := lim fun k => impl_back.f k l0
theorem impl_back.F_lim (l0 : List Int) : Lim (fun k => impl_back.f k l0) (impl_back.F l0) := Lim.of fun k => impl_back.mono l0 k
theorem impl_back.F_eq (l0 : List Int) : impl_back.F l0 = ((slices_Clone_int_int.f l0).bind fun t539 => ((slices_Reverse_int_int.F t539).bind fun t542 => (some t542))) :=
  Lim.unique (impl_back.F_lim l0) (by
    unfold impl_back.f
    repeat' first
    | (with_reducible exact Lim.const _)
    | (with_reducible exact slices_Reverse_int_int.F_lim _)
    | (with_reducible refine Lim.ite ?_ ?_)
    | (with_reducible refine Lim.bind ?_ (fun _ => ?_)))

end Go.Proofs.Ytmhcgihkijiecaa.Fn
namespace Go.Proofs.Ytmhcgihkijiecaa.Fn
open Go.RowKit Go.Proofs.YtmhcgihkijiecaaW.PrintWords Go.Proofs.YtmhcgihkijiecaaW.PrintLast Go.Proofs.YtmhcgihkijiecaaW.PrintMore
attribute [local go_sem] max2_int min2_int max_two min_two max_three min_three max_four min_four   -- for this text's walks alone
set_option linter.unusedVariables false
set_option linter.unusedSimpArgs false

/-! ### impl_TurnHooked: function 43 -/
def impl_TurnHooked.f (k : Nat) (l0 : List Int) : Option (List Int × Bool) := (impl_hooked.f k l0).bind fun t543 => (if t543 = 0 then (some (([] : List Int), false)) else ((impl_back.f k l0).bind fun t544 => (some (t544, true))))
theorem impl_TurnHooked.mono : ∀ a0 k, LeO (impl_TurnHooked.f k a0) (impl_TurnHooked.f (k + 1) a0) := by
  intro a0 k
  unfold impl_TurnHooked.f
  repeat' first
      | (with_reducible exact impl_back.mono _ _)
      | (with_reducible exact impl_hooked.mono _ _)
      | (with_reducible exact LeO.refl _)
      | (with_reducible exact LeO.none _)
      | (with_reducible refine LeO.ite ?_ ?_)
      | (with_reducible refine LeO.bind ?_ (fun _ => ?_))
      | exact impl_back.mono _ _
      | exact impl_hooked.mono _ _
      | exact LeO.none _
      | refine LeO.ite ?_ ?_
      | refine LeO.bind ?_ (fun _ => ?_)
set_option maxHeartbeats 8000000 in
set_option maxRecDepth 100000 in
theorem impl_TurnHooked.calls (k : Nat) (A0 : Option Addr) (c0 : Nat) (l0 : List Int) (r1 : List Int) (r2 : Bool) (w : World) (hr0 : Kd.C (Kd.int .i64) w A0 l0.length l0) (hc0 : l0.length ≤ c0) (h : impl_TurnHooked.f k l0 = some (r1, r2)) :
    Calls Try.prog 43 #[.slice A0 l0.length c0] w fun e w' => ∃ v0_ : Value, e = .returned (.tuple #[v0_, .bool r2]) ∧ Kd.R (Kd.int .i64) 3 w' w.heap.size (fun _ => True) v0_ r1 ∧ Below w.heap.size w w' := by
  have HR0 := Aside0.mk hr0
  have HC0 := Aside0.mk hc0
  clear hr0 hc0
  have HB := Aside0.mk (Below.refl w.heap.size w)
  have H : ((impl_hooked.f k l0).bind fun t543 => (if t543 = 0 then (some (([] : List Int), false)) else ((impl_back.f k l0).bind fun t544 => (some (t544, true))))) = some (r1, r2) := h
  clear h
  replace H := Option.bind_eq_some_iff.mp H
  obtain ⟨t543, A20, H⟩ := H
  replace H : (if t543 = 0 then (some (([] : List Int), false)) else ((impl_back.f k l0).bind fun t544 => (some (t544, true)))) = some (r1, r2) := H
  have A2 := Aside0.mk A20
  clear A20
  by_cases c3 : t543 = 0
  · rw [if_pos c3] at H
    have c3b0 : (t543 == 0) = true := beq_iff_eq.mpr c3
    have c3b1 : (t543 != 0) = false := bne_eq_false_iff_eq.mpr c3
    clear c3
    simp only [Option.some.injEq, Prod.mk.injEq] at H
    obtain ⟨rfl, rfl⟩ := H
    go_enter Try.func43, Try.ntmps43
    go_wp2_with (first | ((with_reducible refine gate_callee (f := 73) rfl ?_); refine goesL_ (some 5) rfl rfl Try.func73 (by kernel_rfl) rfl #[.slice A0 l0.length c0] rfl (by (try simp only [List.map_toArray, List.map_cons, List.map_nil]); first | done | rfl | (simp only [List.length_drop, List.length_take]; rfl)) ?_; (with_reducible refine (impl_hooked.calls k _ _ l0 t543 _ ?side1 ?side2 A2.out).mono ?_); (case side1 => repeat (first | exact HR0.out | (with_reducible refine Kd.C_alloc ?_ _) | (with_reducible refine Kd.C_drewN ?_ _) | (with_reducible refine Kd.C_drew ?_))); (case side2 => exact HC0.out); rintro e w4 ⟨rfl, hb⟩; refine ⟨_, rfl, ?_⟩; have n0_ := Aside0.mk (below_step (by repeat (first | (with_reducible first | exact HB.out | apply below_alloc | apply pw_below_drewN | apply below_drew1) | exact HB.out)) hb); clear HB; have HB := n0_; clear n0_; (try clear hb); (try clear hb2); (try clear hk); (try clear hi)))
    go_ret2
    exact ⟨_, by first | rfl | (simp [errW_none, errW_some] <;> rfl) | (simp [*, errW_none, errW_some] <;> rfl), by first | exact Kd.R_nil _ _ _ _ _ | exact Kd.N_nil _ _ _ _ _ | exact Kd.V_nil _ _ _ _ _ | exact Kd.Q_nil _ _ _ _ _ | exact Kd.S_nil _ _ _ _ _, by repeat (first | (with_reducible first | exact HB.out | apply below_alloc | apply pw_below_drewN | apply below_drew1) | exact HB.out)⟩
  · rw [if_neg c3] at H
    have c3b0 : (t543 == 0) = false := beq_eq_false_iff_ne.mpr c3
    have c3b1 : (t543 != 0) = true := bne_iff_ne.mpr c3
    replace H := Option.bind_eq_some_iff.mp H
    obtain ⟨t544, A50, H⟩ := H
    replace H : (some (t544, true)) = some (r1, r2) := H
    have A5 := Aside0.mk A50
    clear A50
    simp only [Option.some.injEq, Prod.mk.injEq] at H
    obtain ⟨rfl, rfl⟩ := H
    go_enter Try.func43, Try.ntmps43
    go_wp2_with (first | ((with_reducible refine gate_callee (f := 73) rfl ?_); refine goesL_ (some 5) rfl rfl Try.func73 (by kernel_rfl) rfl #[.slice A0 l0.length c0] rfl (by (try simp only [List.map_toArray, List.map_cons, List.map_nil]); first | done | rfl | (simp only [List.length_drop, List.length_take]; rfl)) ?_; (with_reducible refine (impl_hooked.calls k _ _ l0 t543 _ ?side1 ?side2 A2.out).mono ?_); (case side1 => repeat (first | exact HR0.out | (with_reducible refine Kd.C_alloc ?_ _) | (with_reducible refine Kd.C_drewN ?_ _) | (with_reducible refine Kd.C_drew ?_))); (case side2 => exact HC0.out); rintro e w6 ⟨rfl, hb⟩; refine ⟨_, rfl, ?_⟩; have n0_ := Aside0.mk (below_step (by repeat (first | (with_reducible first | exact HB.out | apply below_alloc | apply pw_below_drewN | apply below_drew1) | exact HB.out)) hb); clear HB; have HB := n0_; clear n0_; (try clear hb); (try clear hb2); (try clear hk); (try clear hi)) | ((with_reducible refine gate_callee (f := 74) rfl ?_); refine goesL_ (some 8) rfl rfl Try.func74 (by kernel_rfl) rfl #[.slice A0 l0.length c0] rfl (by (try simp only [List.map_toArray, List.map_cons, List.map_nil]); first | done | rfl | (simp only [List.length_drop, List.length_take]; rfl)) ?_; (with_reducible refine (impl_back.calls k _ _ l0 t544 _ ?side1 ?side2 A5.out).mono ?_); (case side1 => repeat (first | exact (Kd.C_below HR0.out HB.out) | (with_reducible refine Kd.C_alloc ?_ _) | (with_reducible refine Kd.C_drewN ?_ _) | (with_reducible refine Kd.C_drew ?_))); (case side2 => exact HC0.out); rintro e w7 ⟨v545, rfl, ho0, hb⟩; refine ⟨_, rfl, ?_⟩; have n0_ := Aside0.mk (Kd.R_lower ho0 (below_size (by repeat (first | (with_reducible first | exact HB.out | apply below_alloc | apply pw_below_drewN | apply below_drew1) | exact HB.out)))); have n1_ := Aside0.mk (below_step (by repeat (first | (with_reducible first | exact HB.out | apply below_alloc | apply pw_below_drewN | apply below_drew1) | exact HB.out)) hb); clear HB; have HO546 := n0_; have HB := n1_; clear n0_ n1_; (try clear hb); (try clear hb2); (try clear hk); (try clear hi); (try clear ho0)))
    go_ret2
    exact ⟨_, by first | rfl | (simp [errW_none, errW_some] <;> rfl) | (simp [*, errW_none, errW_some] <;> rfl), by (with_reducible repeat (first | apply Kd.R_alloc | apply Kd.R_drewN | apply Kd.R_drew)); exact HO546.out, by repeat (first | (with_reducible first | exact HB.out | apply below_alloc | apply pw_below_drewN | apply below_drew1) | exact HB.out)⟩

noncomputable def impl_TurnHooked.F (l0 : List Int) : Option (List Int × Bool) := lim fun k => impl_TurnHooked.f k l0
theorem impl_TurnHooked.F_lim (l0 : List Int) : Lim (fun k => impl_TurnHooked.f k l0) (impl_TurnHooked.F l0) := Lim.of fun k => impl_TurnHooked.mono l0 k
theorem impl_TurnHooked.F_eq (l0 : List Int) : impl_TurnHooked.F l0 = ((impl_hooked.F l0).bind fun t543 => (if t543 = 0 then (some (([] : List Int), false)) else ((impl_back.F l0).bind fun t544 => (some (t544, true))))) :=
  Lim.unique (impl_TurnHooked.F_lim l0) (by
    unfold impl_TurnHooked.f
    repeat' first
    | (with_reducible exact Lim.const _)
    | (with_reducible exact impl_back.F_lim _)
    | (with_reducible exact impl_hooked.F_lim _)
    | (with_reducible refine Lim.ite ?_ ?_)
    | (with_reducible refine Lim.bind ?_ (fun _ => ?_)))

end Go.Proofs.Ytmhcgihkijiecaa.Fn
namespace Go.Proofs.Ytmhcgihkijiecaa.Fn
open Go.RowKit Go.Proofs.YtmhcgihkijiecaaW.PrintWords Go.Proofs.YtmhcgihkijiecaaW.PrintLast Go.Proofs.YtmhcgihkijiecaaW.PrintMore
set_option linter.unusedVariables false
set_option linter.unusedSimpArgs false
/-- Each number m of a list is as great as its place and k together. -/
def fromOf (k : Int) : Nat → List Int → Bool
  | _, [] => true
  | i, x :: l => decide (x = k + (i : Int)) && fromOf k (i + 1) l
/-- The first hole's place; -1 where there is none. -/
def holeFrom : Nat → List Int → Int
  | _, [] => -1
  | i, x :: l => if x = 0 then (i : Int) else holeFrom (i + 1) l
theorem holeFrom_places : ∀ (l : List Int) (i : Nat), 0 < (placesFrom 0 i l).length → holeFrom i l = rd (placesFrom 0 i l) 0
  | [], i, h => by simp [placesFrom] at h
  | x :: l, i, h => by
    by_cases hx : x = 0
    · simp [placesFrom, holeFrom, hx, rd]
    · simp only [placesFrom, holeFrom, hx, if_false] at h ⊢
      exact holeFrom_places l (i + 1) h
/-- The row's order, if its numbers are those from 1 on. -/
def orderOf (l : List Int) : Int := if fromOf 1 0 (numbersOf l) = true then ((numbersOf l).length : Int) else 0
/-- A row with one hole whose pairs fit. -/
def oneHole (l : List Int) : Bool := isPairs l && fitsAt l 0 && decide ((placesOf l 0).length = 1)
def extendedOf (l : List Int) : Int × Int := if oneHole l = true then (orderOf l, rd (placesOf l 0) 0) else (0, 0)
theorem fromOf_mem (k : Int) : ∀ (l : List Int) (i : Nat) (x : Int), fromOf k i l = true → x ∈ l → x < k + (i : Int) + l.length
  | [], i, x, h, hx => by cases hx
  | y :: l, i, x, h, hx => by
    simp only [fromOf, Bool.and_eq_true, decide_eq_true_eq] at h
    rcases List.mem_cons.1 hx with rfl | hx
    · rw [List.length_cons]
      omega
    · have := fromOf_mem k l (i + 1) x h.2 hx
      rw [List.length_cons]
      omega
/-- Numbers that grow, from k + i on, and none of them behind the last place: each is as great as its place. -/
theorem fromOf_of (k : Int) : ∀ (l : List Int) (i : Nat), (l.Pairwise (· < ·)) → (∀ x ∈ l, k + (i : Int) ≤ x ∧ x < k + (i : Int) + l.length) → fromOf k i l = true
  | [], i, hp, hx => rfl
  | y :: l, i, hp, hx => by
    obtain ⟨h1, h2⟩ := List.pairwise_cons.1 hp
    have hy := hx y (by simp)
    have hall : ∀ x ∈ l, k + ((i + 1 : Nat) : Int) ≤ x ∧ x < k + ((i + 1 : Nat) : Int) + l.length := fun x hxl => by
      have a := h1 x hxl
      have b := hx x (by simp [hxl])
      rw [List.length_cons] at b
      omega
    have hrec := fromOf_of k l (i + 1) h2 hall
    simp only [fromOf, hrec, Bool.and_true, decide_eq_true_eq]
    -- the first one: were it greater, the others had no room
    have room : ∀ (l : List Int) (b : Int), l.Pairwise (· < ·) → (∀ x ∈ l, b < x) → ∀ x ∈ l, ∀ c, (∀ x ∈ l, x < c) → b + l.length < c := by
      intro l
      induction l with
      | nil => intro b _ _ x hx; cases hx
      | cons z t ih =>
        intro b hp hb x _ c hc
        obtain ⟨g1, g2⟩ := List.pairwise_cons.1 hp
        have hz := hb z (by simp)
        cases t with
        | nil => have := hc z (by simp); simp; omega
        | cons u v =>
          have := ih z g2 g1 u (by simp) c (fun x hx => hc x (by simp [hx]))
          simp at this ⊢
          omega
    cases l with
    | nil => simp at hy; omega
    | cons u v =>
      have := room (u :: v) y h2 h1 u (by simp) (k + (i : Int) + ((y :: u :: v).length : Nat)) (fun x hxl => (hx x (by simp [hxl])).2)
      simp at this
      omega
theorem numbersOf_sorted (l : List Int) : (numbersOf l).Pairwise (· < ·) := by
  unfold numbersOf numbersFrom
  rw [List.pairwise_map]
  exact (List.Pairwise.filter _ (List.pairwise_lt_range' (s := 1) (n := 20))).imp (fun h => by omega)
theorem numbersFrom_count (l : List Int) : ∀ (m n : Nat), (∀ k, n ≤ k → k < n + m → l.count (k : Int) = 0 ∨ l.count (k : Int) = 2) → ((List.range' n m).map fun k : Nat => l.count (k : Int)).sum = 2 * (numbersFrom l n m).length
  | 0, n, h => rfl
  | m + 1, n, h => by
    have ih := numbersFrom_count l m (n + 1) (fun k h1 h2 => h k (by omega) (by omega))
    rw [List.range'_succ, List.map_cons, List.sum_cons, ih]
    have e : numbersFrom l n (m + 1) = (if (n : Int) ∈ l then [(n : Int)] else []) ++ numbersFrom l (n + 1) m := by
      unfold numbersFrom
      rw [List.range'_succ]
      by_cases hn : (n : Int) ∈ l <;> simp [hn]
    rw [e, List.length_append]
    by_cases hn : (n : Int) ∈ l
    · have h5 : 0 < l.count (n : Int) := List.count_pos_iff.2 hn
      rcases h n (by omega) (by omega) with h4 | h4
      · omega
      · rw [if_pos hn, h4]
        simp
        omega
    · have h5 : l.count (n : Int) = 0 := List.count_eq_zero.2 hn
      rw [if_neg hn, h5]
      simp
theorem count_sum : ∀ (l : List Int) (m n : Nat), (∀ x ∈ l, (n : Int) ≤ x ∧ x < (n : Int) + m) → ((List.range' n m).map fun k : Nat => l.count (k : Int)).sum = l.length
  | [], m, n, h => by
    have : ∀ ks : List Nat, (ks.map fun k : Nat => ([] : List Int).count (k : Int)).sum = 0 := fun ks => by induction ks with | nil => rfl | cons a t ih => rw [List.map_cons, List.sum_cons, ih]; rfl
    exact this _
  | x :: l, m, n, h => by
    have ih := count_sum l m n (fun y hy => h y (by simp [hy]))
    have hx := h x (by simp)
    have key : ∀ (m n : Nat), ((n : Int) ≤ x ∧ x < (n : Int) + m → ((List.range' n m).map fun k : Nat => (x :: l).count (k : Int)).sum = ((List.range' n m).map fun k : Nat => l.count (k : Int)).sum + 1) ∧ (¬ ((n : Int) ≤ x ∧ x < (n : Int) + m) → ((List.range' n m).map fun k : Nat => (x :: l).count (k : Int)).sum = ((List.range' n m).map fun k : Nat => l.count (k : Int)).sum) := by
      intro m
      induction m with
      | zero => intro n; exact ⟨fun h => by omega, fun _ => rfl⟩
      | succ m ih =>
        intro n
        obtain ⟨i1, i2⟩ := ih (n + 1)
        rw [List.range'_succ, List.map_cons, List.sum_cons, List.map_cons, List.sum_cons, List.count_cons]
        by_cases hn : x = (n : Int)
        · have := i2 (by omega)
          have hb : (x == (n : Int)) = true := by simpa using hn
          rw [this, hb]
          exact ⟨fun _ => by rw [if_pos rfl]; omega, fun hh => absurd ⟨by omega, by omega⟩ hh⟩
        · have hb : (x == (n : Int)) = false := by simpa using hn
          rw [hb]
          constructor
          · intro hh
            rw [i1 (by omega)]
            simp
            omega
          · intro hh
            rw [i2 (by omega)]
            simp
    rw [(key m n).1 hx, ih, List.length_cons]
/-- A row's length: its holes and twice its numbers. -/
theorem row_length {l : List Int} (h : isPairs l = true) : l.length = l.count 0 + 2 * (numbersOf l).length := by
  have h1 := count_sum l 21 0 (fun x hx => by have := isRow_mem (isPairs_row h) hx; omega)
  have h2 := numbersFrom_count l 20 1 (fun k h3 h4 => pairsOk_count (isPairs_ok h) k h3 (by omega))
  rw [show List.range' 0 21 = 0 :: List.range' 1 20 from rfl, List.map_cons, List.sum_cons, h2] at h1
  unfold numbersOf
  simp at h1
  omega
/-- What the law's own form of an extended row asks: an odd length of three or more, one hole, no number above half of it. -/
def extendedSpec (l : List Int) : Bool := decide (3 ≤ l.length) && decide (l.length % 2 = 1) && fitsAt l 0 && decide (l.count 0 = 1) && l.all (fun x => decide (x ≤ (l.length : Int) / 2))
theorem extended_same {l : List Int} (h : isPairs l = true) : extendedSpec l = decide ((extendedOf l).1 > 0) := by
  have hlen := row_length h
  have hc : (placesOf l 0).length = l.count 0 := placesOf_count l 0
  unfold extendedSpec extendedOf oneHole
  rw [h, Bool.true_and, hc]
  by_cases hf : fitsAt l 0 = true
  · by_cases h1 : l.count 0 = 1
    · have e1 : (fitsAt l 0 && decide (l.count 0 = 1)) = true := by simp [hf, h1]
      rw [if_pos e1, hf]
      simp only [h1, decide_true, Bool.and_true]
      have hsort := numbersOf_sorted l
      by_cases hn : (numbersOf l).length = 0
      · have hl3 : ¬ 3 ≤ l.length := by omega
        have ho : orderOf l = 0 := by unfold orderOf; rw [hn]; split <;> rfl
        rw [ho]
        simp [hl3]
      · have hl3 : 3 ≤ l.length := by omega
        have hodd : l.length % 2 = 1 := by omega
        have hhalf : (l.length : Int) / 2 = ((numbersOf l).length : Int) := by omega
        simp only [hl3, hodd, decide_true, Bool.true_and, hhalf]
        rw [Bool.eq_iff_iff, List.all_eq_true, decide_eq_true_eq]
        constructor
        · intro H
          have hfr : fromOf 1 0 (numbersOf l) = true := fromOf_of 1 _ 0 hsort (fun x hx => by
            obtain ⟨g1, g2, g3⟩ := (mem_numbersOf l x).1 hx
            have := H x g1
            simp only [decide_eq_true_eq] at this
            omega)
          unfold orderOf
          rw [if_pos hfr]
          omega
        · intro H x hx
          by_cases hfr : fromOf 1 0 (numbersOf l) = true
          · have hr := isRow_mem (isPairs_row h) hx
            simp only [decide_eq_true_eq]
            by_cases hx0 : x = 0
            · omega
            · have := fromOf_mem 1 _ 0 x hfr ((mem_numbersOf l x).2 ⟨hx, by omega, by omega⟩)
              omega
          · unfold orderOf at H
            rw [if_neg hfr] at H
            exact absurd H (by decide)
    · have e1 : ¬ (fitsAt l 0 && decide (l.count 0 = 1)) = true := by simp [h1]
      rw [if_neg e1]
      simp [h1]
  · have e1 : ¬ (fitsAt l 0 && decide (l.count 0 = 1)) = true := by simp [hf]
    rw [if_neg e1]
    simp [hf]
theorem impl_holes.L0_val : ∀ (suf pre acc : List Int), (pre ++ suf).length < 4611686018427387904 → acc.length + suf.length < 17592186044416 → impl_holes.L0 acc (pre ++ suf) ((pre ++ suf).length : Int) (pre.length : Int) = some (acc ++ placesFrom 0 pre.length suf)
  | [], pre, acc, h, ha => by
    rw [impl_holes.L0_eq, range_end]
    simp [placesFrom]
  | x :: suf, pre, acc, h, ha => by
    have ha' : acc.length + (suf.length + 1) < 17592186044416 := by simpa using ha
    have e : (pre ++ [x]).length = pre.length + 1 := by simp
    rw [impl_holes.L0_eq, range_step, rd_mid, wrap_mid h, app_mid pre x suf]
    by_cases h1 : x = 0
    · rw [if_pos h1, if_pos (by omega), impl_holes.L0_val suf (pre ++ [x]) _ (by simpa using h) (by simp; omega), e]
      simp [placesFrom, h1]
    · rw [if_neg h1, impl_holes.L0_val suf (pre ++ [x]) _ (by simpa using h) (by omega), e]
      simp [placesFrom, h1]
theorem impl_holes.F_val (l : List Int) (h : l.length < 17592186044416) : impl_holes.F l = some (placesOf l 0) := by
  rw [impl_holes.F_eq]
  have := impl_holes.L0_val l [] [] (by simp; omega) (by simpa using h)
  simpa [placesOf] using this
theorem impl_isFrom.L0_val (k : Int) (hk : -1000 ≤ k ∧ k ≤ 1000) (ns : List Int) : ∀ (suf pre : List Int), (pre ++ suf).length ≤ 1000 → impl_isFrom.L0 k ns (pre ++ suf) ((pre ++ suf).length : Int) (pre.length : Int) = some (if fromOf k pre.length suf = true then ((ns.length : Int), decide ((ns.length : Int) > 0)) else (0, false))
  | [], pre, h => by
    rw [impl_isFrom.L0_eq, range_end]
    rfl
  | x :: suf, pre, h => by
    have h' : pre.length + (suf.length + 1) ≤ 1000 := by simpa using h
    have e : (pre ++ [x]).length = pre.length + 1 := by simp
    rw [impl_isFrom.L0_eq, range_step, rd_mid, wrap_mid (pre := pre) (x := x) (suf := suf) (by omega), app_mid pre x suf, wrap_in (n := k + (pre.length : Int)) (by omega) (by omega), impl_isFrom.L0_val k hk ns suf (pre ++ [x]) (by simpa using h), e, fromOf]
    by_cases h1 : x = k + (pre.length : Int)
    · rw [if_pos h1]
      simp [h1]
    · rw [if_neg h1]
      simp [h1]
theorem impl_isFrom.F_val (l : List Int) (k : Int) (hk : -1000 ≤ k ∧ k ≤ 1000) (h : l.length < 4611686018427387904) : impl_isFrom.F l k = some (if fromOf k 0 (numbersOf l) = true then (((numbersOf l).length : Int), decide (((numbersOf l).length : Int) > 0)) else (0, false)) := by
  rw [impl_isFrom.F_eq, impl_numbers.F_val l h]
  simp only [Option.bind_some]
  have hn := numbersFrom_length l 1 20
  have := impl_isFrom.L0_val k hk (numbersOf l) (numbersOf l) [] (by simp only [List.nil_append, numbersOf]; omega)
  simpa using this
theorem impl_extended.F_val (l : List Int) (h : l.length < 17592186044416) : impl_extended.F l = some (extendedOf l) := by
  rw [impl_extended.F_eq, impl_fits.F_val l 0 (by omega), impl_holes.F_val l h]
  simp only [Option.bind_some, impl_extended.J0_eq]
  unfold extendedOf oneHole orderOf
  rw [impl_isFrom.F_val l 1 (by omega) (by omega), impl_holes.F_val l h]
  simp only [Option.bind_some]
  by_cases h1 : (isPairs l && fitsAt l 0) = true
  · rw [if_pos h1, h1]
    by_cases h2 : (placesOf l 0).length = 1
    · have h3 : (((placesOf l 0).length : Int) != 1) = false := by rw [h2]; rfl
      have h4 : (0 : Int) < ((placesOf l 0).length : Int) := by omega
      have h6 : decide ((placesOf l 0).length = 1) = true := decide_eq_true h2
      by_cases h5 : fromOf 1 0 (numbersOf l) = true
      · simp only [h3, h4, h5, h6, if_true, Bool.and_self, Bool.false_eq_true, if_false]
      · simp only [h3, h4, h5, h6, if_true, Bool.and_self, Bool.false_eq_true, if_false]
    · have h3 : (((placesOf l 0).length : Int) != 1) = true := by simp; omega
      simp only [h3, if_true, h2, decide_false, Bool.and_false, Bool.false_eq_true, if_false]
  · rw [if_neg h1, Bool.eq_false_iff.2 h1]
    simp only [if_true, Bool.false_and, Bool.false_eq_true, if_false]
def isExtended (l : List Int) : Bool × Bool := if isPairs l = true then (decide ((extendedOf l).1 > 0), true) else (false, false)
theorem impl_IsExtended.F_val (l : List Int) (h : l.length < 17592186044416) : impl_IsExtended.F l = some (isExtended l) := by
  rw [impl_IsExtended.F_eq, impl_isPairs.F_val l (by omega), impl_extended.F_val l h]
  simp only [Option.bind_some]
  unfold isExtended
  split <;> rfl
theorem spec_hoExtended.L0_val (l : List Int) (hl : l.length ≤ 1000) : ∀ (suf pre : List Int) (n : Int), (pre ++ suf).length ≤ 1000 → 0 ≤ n → n + suf.length ≤ 1000 → spec_hoExtended.L0 l n (pre ++ suf) ((pre ++ suf).length : Int) (pre.length : Int) = some (decide (n + suf.count 0 = 1) && suf.all (fun x => decide (x ≤ (l.length : Int) / 2)))
  | [], pre, n, h, h0, hn => by
    rw [spec_hoExtended.L0_eq, range_end]
    simp
    rfl
  | x :: suf, pre, n, h, h0, hn => by
    have h' : pre.length + (suf.length + 1) ≤ 1000 := by simpa using h
    have hn' : n + (suf.length + 1 : Nat) ≤ 1000 := by simpa using hn
    have w : wrap64 ((l.length : Int) / 2) = (l.length : Int) / 2 := wrap_in (by omega) (by omega)
    rw [spec_hoExtended.L0_eq, range_step, rd_mid, w, wrap_mid (pre := pre) (x := x) (suf := suf) (by omega), app_mid pre x suf]
    by_cases h1 : x > (l.length : Int) / 2
    · have h2 : ¬ x ≤ (l.length : Int) / 2 := by omega
      simp only [h1, if_true, ite_self, List.all_cons, h2, decide_false, Bool.false_and, Bool.and_false]
    · have h2 : x ≤ (l.length : Int) / 2 := by omega
      by_cases h3 : x = 0
      · subst h3
        rw [if_pos rfl, if_neg h1, wrap_in (n := n + 1) (by omega) (by omega), spec_hoExtended.L0_val l hl suf (pre ++ [0]) (n + 1) (by simpa using h) (by omega) (by omega)]
        simp only [List.all_cons, h2, decide_true, Bool.true_and, List.count_cons_self]
        congr 2
        rw [decide_eq_decide]
        omega
      · rw [if_neg h3, if_neg h1, spec_hoExtended.L0_val l hl suf (pre ++ [x]) n (by simpa using h) h0 (by omega)]
        simp only [List.all_cons, h2, decide_true, Bool.true_and, List.count_cons_of_ne h3]
theorem spec_hoExtended.F_val (l : List Int) (h : isPairs l = true) : spec_hoExtended.F l = some (decide ((extendedOf l).1 > 0)) := by
  have hl := isRow_len (isPairs_row h)
  rw [← extended_same h, spec_hoExtended.F_eq]
  unfold extendedSpec
  by_cases h1 : 3 ≤ l.length
  · by_cases h2 : l.length % 2 = 1
    · rw [if_neg (by omega), if_neg (by omega), spec_roFits.F_val l 0 (by omega) (isPairs_ok h)]
      simp only [Option.bind_some]
      rw [spec_hoExtended.J0_eq]
      by_cases h3 : fitsAt l 0 = true
      · have := spec_hoExtended.L0_val l (by omega) l [] 0 (by simp; omega) (by omega) (by omega)
        rw [if_neg (by simp [h3])]
        refine Eq.trans this ?_
        simp only [h1, h2, h3, decide_true, Bool.true_and]
        congr 2
        rw [decide_eq_decide]
        omega
      · rw [if_pos (by simp [h3])]
        simp [h3]
    · rw [if_neg (by omega), if_pos (by omega), spec_hoExtended.J0_eq, if_pos rfl]
      simp [h2]
  · rw [if_pos (by omega), spec_hoExtended.J0_eq, if_pos rfl]
    simp [h1]
theorem spec_IsExtended.F_val (l : List Int) (h : l.length < 17592186044416) : spec_IsExtended.F l = some (isExtended l) := by
  rw [spec_IsExtended.F_eq, spec_roIs.F_val l h]
  simp only [Option.bind_some]
  unfold isExtended
  by_cases h1 : isPairs l = true
  · rw [if_pos h1, spec_hoExtended.F_val l h1, if_pos h1]
    rfl
  · rw [if_neg h1, if_neg h1]
theorem spec_hoHole.L0_val : ∀ (suf pre : List Int), (pre ++ suf).length < 4611686018427387904 → spec_hoHole.L0 (pre ++ suf) ((pre ++ suf).length : Int) (pre.length : Int) = some (holeFrom pre.length suf)
  | [], pre, h => by
    rw [spec_hoHole.L0_eq, range_end]
    rfl
  | x :: suf, pre, h => by
    have e : (pre ++ [x]).length = pre.length + 1 := by simp
    rw [spec_hoHole.L0_eq, range_step, rd_mid, wrap_mid h, app_mid pre x suf, spec_hoHole.L0_val suf (pre ++ [x]) (by simpa using h), e, holeFrom]
    split <;> rfl
theorem spec_hoHole.F_val (l : List Int) (h : l.length < 4611686018427387904) : spec_hoHole.F l = some (holeFrom 0 l) := by
  rw [spec_hoHole.F_eq]
  have := spec_hoHole.L0_val l [] (by simpa using h)
  simpa using this
def holeOf (l : List Int) : Int × Bool := if (extendedOf l).1 = 0 then (0, false) else ((extendedOf l).2, true)
theorem impl_HoleOf.F_val (l : List Int) (h : l.length < 17592186044416) : impl_HoleOf.F l = some (holeOf l) := by
  rw [impl_HoleOf.F_eq, impl_extended.F_val l h]
  simp only [Option.bind_some]
  unfold holeOf
  split <;> rfl
theorem extendedOf_pos {l : List Int} (h : ¬ (extendedOf l).1 = 0) : oneHole l = true ∧ (extendedOf l).1 > 0 ∧ (extendedOf l).2 = rd (placesOf l 0) 0 := by
  unfold extendedOf at h ⊢
  by_cases h1 : oneHole l = true
  · rw [if_pos h1] at h ⊢
    refine ⟨h1, ?_, rfl⟩
    simp only [orderOf] at h ⊢
    split at h
    · rename_i h2
      rw [if_pos h2]
      omega
    · exact absurd rfl h
  · rw [if_neg h1] at h
    exact absurd rfl h
theorem oneHole_pairs {l : List Int} (h : oneHole l = true) : isPairs l = true ∧ fitsAt l 0 = true ∧ (placesOf l 0).length = 1 := by
  unfold oneHole at h
  simpa [and_assoc] using h
theorem spec_HoleOf.F_val (l : List Int) (h : l.length < 17592186044416) : spec_HoleOf.F l = some (holeOf l) := by
  rw [spec_HoleOf.F_eq, spec_roIs.F_val l h]
  simp only [Option.bind_some]
  unfold holeOf
  by_cases h1 : isPairs l = true
  · rw [if_pos h1, spec_hoExtended.F_val l h1]
    simp only [Option.bind_some]
    by_cases h2 : (extendedOf l).1 = 0
    · rw [if_neg (by simp [h2]), if_pos h2]
    · obtain ⟨g1, g2, g3⟩ := extendedOf_pos h2
      have g4 := (oneHole_pairs g1).2.2
      rw [if_pos (by simpa using g2), if_neg h2, spec_hoHole.F_val l (by omega), g3, holeFrom_places l 0 (by rw [show placesFrom 0 0 l = placesOf l 0 from rfl]; omega)]
      rfl
  · have h2 : (extendedOf l).1 = 0 := by
      refine Classical.byContradiction fun h2 => h1 (oneHole_pairs (extendedOf_pos h2).1).1
    rw [if_neg h1, if_pos h2]
theorem spec_roFrom.L0_val (k : Int) (hk : -1000 ≤ k ∧ k ≤ 1000) (ns : List Int) : ∀ (suf pre : List Int), (pre ++ suf).length ≤ 1000 → spec_roFrom.L0 k ns (pre ++ suf) ((pre ++ suf).length : Int) (pre.length : Int) = some (fromOf k pre.length suf && decide ((ns.length : Int) > 0))
  | [], pre, h => by
    rw [spec_roFrom.L0_eq, range_end]
    rfl
  | x :: suf, pre, h => by
    have h' : pre.length + (suf.length + 1) ≤ 1000 := by simpa using h
    have e : (pre ++ [x]).length = pre.length + 1 := by simp
    rw [spec_roFrom.L0_eq, range_step, rd_mid, wrap_mid (pre := pre) (x := x) (suf := suf) (by omega), app_mid pre x suf, wrap_in (n := k + (pre.length : Int)) (by omega) (by omega), spec_roFrom.L0_val k hk ns suf (pre ++ [x]) (by simpa using h), e, fromOf]
    by_cases h1 : x = k + (pre.length : Int)
    · rw [if_pos h1]
      simp [h1]
    · rw [if_neg h1]
      simp [h1]
theorem spec_roFrom.F_val (l : List Int) (k : Int) (hk : -1000 ≤ k ∧ k ≤ 1000) (h : l.length < 4611686018427387904) : spec_roFrom.F l k = some (fromOf k 0 (numbersOf l) && decide (((numbersOf l).length : Int) > 0)) := by
  rw [spec_roFrom.F_eq, spec_roNumbers.F_val l h]
  simp only [Option.bind_some]
  have hn := numbersFrom_length l 1 20
  have := spec_roFrom.L0_val k hk (numbersOf l) (numbersOf l) [] (by simp only [List.nil_append, numbersOf]; omega)
  simpa using this
def hookedOf (l : List Int) : Int := if (extendedOf l).2 = (l.length : Int) - 2 then (extendedOf l).1 else 0
theorem impl_hooked.F_val (l : List Int) (h : l.length < 17592186044416) : impl_hooked.F l = some (hookedOf l) := by
  rw [impl_hooked.F_eq, impl_extended.F_val l h]
  simp only [Option.bind_some]
  rw [wrap_in (by omega) (by omega)]
  unfold hookedOf
  split <;> rfl
theorem spec_roHooked.F_val (l : List Int) (h : isPairs l = true) : spec_roHooked.F l = some (decide (hookedOf l ≠ 0)) := by
  have hl := isRow_len (isPairs_row h)
  rw [spec_roHooked.F_eq, spec_roPlaces.F_val l 0 (by omega), spec_roFits.F_val l 0 (by omega) (isPairs_ok h), spec_roFrom.F_val l 1 (by omega) (by omega), wrap_in (n := (l.length : Int) - 2) (by omega) (by omega)]
  simp only [Option.bind_some]
  unfold hookedOf extendedOf oneHole orderOf
  rw [h]
  by_cases h1 : fitsAt l 0 = true
  · by_cases h2 : fromOf 1 0 (numbersOf l) = true
    · by_cases h3 : (numbersOf l).length = 0
      · simp [h1, h2, h3]
        intro _
        split <;> simp
      · have h3' : ((numbersOf l).length : Int) > 0 := by omega
        by_cases h4 : (placesOf l 0).length = 1
        · have h5 : (0 : Int) < ((placesOf l 0).length : Int) := by omega
          have h6 : ((placesOf l 0).length : Int) = 1 := by omega
          simp only [h1, h2, h3', h4, h5, h6, if_true, decide_true, Bool.and_self]
          by_cases h7 : rd (placesOf l 0) 0 = (l.length : Int) - 2
          · simp [h7, h3]
          · simp [h7]
        · have h6 : ¬ ((placesOf l 0).length : Int) = 1 := by omega
          simp [h1, h2, h3', h4, h6]
    · simp [h1, h2]
      split <;> simp
  · simp [h1]
theorem spec_roBack.L0_val (l : List Int) (hl : l.length < 4611686018427387904) : ∀ (n : Nat) (acc : List Int), n ≤ l.length → acc.length + n < 17592186044416 → spec_roBack.L0 l acc ((n : Int) - 1) = some (acc ++ (l.take n).reverse)
  | 0, acc, h, ha => by
    rw [spec_roBack.L0_eq, if_neg (by omega)]
    simp
  | n + 1, acc, h, ha => by
    have e : ((n + 1 : Nat) : Int) - 1 = (n : Int) := by omega
    rw [e, spec_roBack.L0_eq, if_pos (by omega), if_pos (by omega), if_pos (by omega), if_pos (by omega), wrap_in (n := (n : Int) - 1) (by omega) (by omega), spec_roBack.L0_val l hl n _ (by omega) (by simp; omega), rd_nat l n (by omega), List.take_succ_eq_append_getElem (by omega), List.reverse_append]
    simp
theorem spec_roBack.F_val (l : List Int) (h : l.length < 17592186044416) : spec_roBack.F l = some l.reverse := by
  rw [spec_roBack.F_eq, wrap_in (by omega) (by omega)]
  have := spec_roBack.L0_val l (by omega) l.length [] (Nat.le_refl _) (by simpa using h)
  simpa using this
theorem slices_Reverse_int_int.L0_val : ∀ (n : Nat) (mid pre suf : List Int), mid.length = n → (pre ++ mid ++ suf).length < 4611686018427387904 → slices_Reverse_int_int.L0 (pre ++ mid ++ suf) (pre.length : Int) ((pre.length : Int) + mid.length - 1) = some (pre ++ mid.reverse ++ suf)
  | 0, mid, pre, suf, hn, h => by
    obtain rfl : mid = [] := List.eq_nil_of_length_eq_zero hn
    rw [slices_Reverse_int_int.L0_eq, if_neg (by simp; omega)]
    simp
  | 1, mid, pre, suf, hn, h => by
    obtain ⟨x, rfl⟩ := List.length_eq_one_iff.1 hn
    rw [slices_Reverse_int_int.L0_eq, if_neg (by simp)]
    simp
  | n + 2, mid, pre, suf, hn, h => by
    obtain ⟨x, m, rfl⟩ : ∃ x m, mid = x :: m := by cases mid with | nil => simp at hn | cons x m => exact ⟨x, m, rfl⟩
    obtain ⟨m, y, rfl⟩ : ∃ m' y, m = m' ++ [y] := by
      rcases List.eq_nil_or_concat m with rfl | ⟨m', y, rfl⟩
      · simp at hn
      · exact ⟨m', y, by simp⟩
    have hm : m.length = n := by simp at hn; omega
    have hl : pre.length + (m.length + 2) + suf.length < 4611686018427387904 := by simp at h; omega
    have e1 : pre ++ x :: (m ++ [y]) ++ suf = pre ++ x :: (m ++ y :: suf) := by simp
    have e2 : pre ++ x :: (m ++ [y]) ++ suf = (pre ++ x :: m) ++ y :: suf := by simp
    have e3 : (pre.length : Int) + ((x :: (m ++ [y])).length : Int) - 1 = ((pre ++ x :: m).length : Int) := by simp; omega
    have r1 : rd (pre ++ x :: (m ++ [y]) ++ suf) (pre.length : Int) = x := by rw [e1]; exact rd_mid pre x _
    have r2 : rd (pre ++ x :: (m ++ [y]) ++ suf) ((pre ++ x :: m).length : Int) = y := by rw [e2]; exact rd_mid _ y suf
    have l1 : ((pre ++ x :: m).length : Int) = (pre.length : Int) + m.length + 1 := by simp; omega
    have ll : ((pre ++ x :: (m ++ [y]) ++ suf).length : Int) = (pre.length : Int) + m.length + 2 + suf.length := by simp; omega
    rw [e3, slices_Reverse_int_int.L0_eq, if_pos (by omega), if_pos (by omega), if_pos (by omega), if_pos (by omega), if_pos (by omega), r1, r2, Int.toNat_natCast, Int.toNat_natCast]
    have es : ((pre ++ x :: (m ++ [y]) ++ suf).set pre.length y).set (pre ++ x :: m).length x = (pre ++ [y]) ++ m ++ ([x] ++ suf) := by
      rw [e1, List.set_append_right _ _ (Nat.le_refl _), Nat.sub_self, List.set_cons_zero]
      rw [show pre ++ y :: (m ++ y :: suf) = (pre ++ y :: m) ++ y :: suf by simp, List.set_append_right _ _ (by simp), show (pre ++ x :: m).length - (pre ++ y :: m).length = 0 by simp, List.set_cons_zero]
      simp
    have w1 : wrap64 ((pre.length : Int) + 1) = ((pre ++ [y]).length : Int) := by rw [wrap_in (by omega) (by omega)]; simp
    have w2 : wrap64 (((pre ++ x :: m).length : Int) - 1) = ((pre ++ [y]).length : Int) + m.length - 1 := by rw [wrap_in (by omega) (by omega), l1]; simp; omega
    rw [es, w1, w2, slices_Reverse_int_int.L0_val n m (pre ++ [y]) ([x] ++ suf) hm (by simp; omega)]
    simp
theorem slices_Reverse_int_int.F_val (l : List Int) (h : l.length < 4611686018427387904) : slices_Reverse_int_int.F l = some l.reverse := by
  rw [slices_Reverse_int_int.F_eq, wrap_in (by omega) (by omega)]
  have := slices_Reverse_int_int.L0_val l.length l [] [] rfl (by simpa using h)
  simpa using this
theorem impl_back.F_val (l : List Int) (h : l.length < 17592186044416) : impl_back.F l = some l.reverse := by
  rw [impl_back.F_eq, slices_Clone_int_int.f_val l h]
  simp only [Option.bind_some]
  rw [slices_Reverse_int_int.F_val l (by omega)]
  rfl
def turnHooked (l : List Int) : List Int × Bool := if hookedOf l = 0 then ([], false) else (l.reverse, true)
theorem turnHooked_len (l : List Int) : (turnHooked l).1.length ≤ l.length := by
  unfold turnHooked
  split <;> simp
theorem hookedOf_pairs {l : List Int} (h : ¬ hookedOf l = 0) : isPairs l = true := by
  refine (oneHole_pairs (extendedOf_pos (l := l) fun h2 => h ?_).1).1
  unfold hookedOf
  rw [h2]
  split <;> rfl
theorem impl_TurnHooked.F_val (l : List Int) (h : l.length < 17592186044416) : impl_TurnHooked.F l = some (turnHooked l) := by
  rw [impl_TurnHooked.F_eq, impl_hooked.F_val l h]
  simp only [Option.bind_some]
  unfold turnHooked
  split
  · rfl
  · rw [impl_back.F_val l h]
    rfl
theorem spec_TurnHooked.F_val (l : List Int) (h : l.length < 17592186044416) : spec_TurnHooked.F l = some (turnHooked l) := by
  rw [spec_TurnHooked.F_eq, spec_roIs.F_val l h]
  simp only [Option.bind_some]
  unfold turnHooked
  by_cases h1 : isPairs l = true
  · rw [if_pos h1, spec_roHooked.F_val l h1]
    simp only [Option.bind_some]
    by_cases h2 : hookedOf l = 0
    · rw [if_neg (by simp [h2]), if_pos h2]
    · rw [if_pos (by simpa using h2), if_neg h2, spec_roBack.F_val l h]
      rfl
  · have h2 : hookedOf l = 0 := Classical.byContradiction fun h2 => h1 (hookedOf_pairs h2)
    rw [if_neg h1, if_pos h2]
end Go.Proofs.Ytmhcgihkijiecaa.Fn
namespace Go.Proofs.Ytmhcgihkijiecaa.Pure
open Go.RowKit Go.Proofs.Ytmhcgihkijiecaa.Fn Go.Proofs.YtmhcgihkijiecaaW.PrintWords Go.Proofs.YtmhcgihkijiecaaW.PrintLast Go.Proofs.YtmhcgihkijiecaaW.PrintMore
set_option linter.unusedVariables false
set_option linter.unusedSimpArgs false
theorem FnExactHoleOf : laws_FnExactHoleOf.Pure := by
  intro l0 _ _ _
  refine Lim.rounds (laws_FnExactHoleOf.F_lim l0) ?_
  rw [laws_FnExactHoleOf.F_eq]
  by_cases h0 : (l0.length : Int) > 1048576
  · rw [if_pos h0]
  have e0 := laws_toIntS.F_val l0 (by omega)
  have s := spec_HoleOf.F_val l0 (by omega)
  have i := impl_HoleOf.F_val l0 (by omega)
  have q0 := laws_eqIntS.F_same l0 (by omega)
  rw [if_neg h0]
  simp only [e0, s, i, Option.bind_some, if_true, bne_self_eq_false, laws_FnExactHoleOf.J0_eq, q0, if_false, Bool.false_eq_true]
end Go.Proofs.Ytmhcgihkijiecaa.Pure
