/- The machine's side and plain lemmas for FnRowsThere: texts of this session, merged by its program (part 4). -/
import Derived.Test.YtaohgllnoomaeaaMFnRowsThere0
import Derived.Test.YtaohgllnoomaeaaMFnRowsThere1
import Derived.Test.YtaohgllnoomaeaaMFnRowsThere2
import Derived.Test.YtaohgllnoomaeaaMFnRowsThere3
namespace Go.Proofs.Ytaohgllnoomaeaa.Fn
open Go.RowKit Go.Proofs.YtaohgllnoomaeaaW.PrintWords Go.Proofs.YtaohgllnoomaeaaW.PrintLast Go.Proofs.YtaohgllnoomaeaaW.PrintMore
set_option linter.unusedVariables false
set_option linter.unusedSimpArgs false
/-- A list of at most 40 numbers in 0..20. -/
def isRow (l : List Int) : Bool := decide (l.length ≤ 40) && l.all (fun x => decide (0 ≤ x) && decide (x ≤ 20))
theorem isRow_len {l : List Int} (h : isRow l = true) : l.length ≤ 40 := by
  unfold isRow at h
  simp only [Bool.and_eq_true, decide_eq_true_eq] at h
  exact h.1
theorem isRow_mem {l : List Int} (h : isRow l = true) {x : Int} (hx : x ∈ l) : 0 ≤ x ∧ x ≤ 20 := by
  unfold isRow at h
  simp only [Bool.and_eq_true, decide_eq_true_eq, List.all_eq_true] at h
  exact h.2 x hx
theorem impl_IsRow.L0_val (l : List Int) : ∀ (suf pre : List Int), (pre ++ suf).length < 4611686018427387904 → impl_IsRow.L0 l (pre ++ suf) ((pre ++ suf).length : Int) (pre.length : Int) = some (suf.all (fun x => decide (0 ≤ x) && decide (x ≤ 20)) && decide (l.length ≤ 40))
  | [], pre, h => by
    rw [impl_IsRow.L0_eq, range_end]
    simp
    omega
  | x :: suf, pre, h => by
    rw [impl_IsRow.L0_eq, range_step, rd_mid, wrap_mid h]
    by_cases h1 : x < 0
    · have : ¬ 0 ≤ x := by omega
      rw [if_pos h1]
      simp [this]
    · have h1' : 0 ≤ x := by omega
      rw [if_neg h1]
      by_cases h2 : x > 20
      · have : ¬ x ≤ 20 := by omega
        rw [if_pos h2]
        simp [this]
      · have h2' : x ≤ 20 := by omega
        rw [if_neg h2, app_mid, impl_IsRow.L0_val l suf (pre ++ [x]) (by simpa using h)]
        simp [h1', h2']
theorem impl_IsRow.F_val (l : List Int) (h : l.length < 4611686018427387904) : impl_IsRow.F l = some (isRow l) := by
  rw [impl_IsRow.F_eq]
  have := impl_IsRow.L0_val l l [] (by simpa using h)
  simp only [List.nil_append, List.length_nil] at this
  rw [isRow, Bool.and_comm]
  exact this
end Go.Proofs.Ytaohgllnoomaeaa.Fn
namespace Go.Proofs.Ytaohgllnoomaeaa.Fn
open Go.RowKit Go.Proofs.YtaohgllnoomaeaaW.PrintWords Go.Proofs.YtaohgllnoomaeaaW.PrintLast Go.Proofs.YtaohgllnoomaeaaW.PrintMore
set_option linter.unusedVariables false
set_option linter.unusedSimpArgs false
theorem placesFrom_count (n : Int) : ∀ (l : List Int) (i : Nat), (placesFrom n i l).length = l.count n
  | [], i => by simp [placesFrom]
  | x :: l, i => by
    have ih := placesFrom_count n l (i + 1)
    by_cases h : x = n
    · subst h
      simp [placesFrom, ih]
    · simp [placesFrom, h, ih]
theorem placesOf_count (l : List Int) (n : Int) : (placesOf l n).length = l.count n := placesFrom_count n l 0
theorem pairsOk_eq (l : List Int) : pairsOk l = (List.range' 1 20).all fun k => (placesOf l (k : Nat)).length == 0 || (placesOf l (k : Nat)).length == 2 := by
  unfold pairsOk
  rw [show List.range 21 = 0 :: List.range' 1 20 from rfl, List.all_cons]
  simp only [atOf, if_true, List.length_nil, beq_self_eq_true, Bool.true_or, Bool.true_and]
  rw [Bool.eq_iff_iff, List.all_eq_true, List.all_eq_true]
  have hk : ∀ k, k ∈ List.range' 1 20 → ¬ k = 0 := fun k hk => by have := List.mem_range'_1.1 hk; omega
  exact ⟨fun H k h => by have := H k h; rw [if_neg (hk k h)] at this; exact this, fun H k h => by rw [if_neg (hk k h)]; exact H k h⟩
theorem pairsOk_count {l : List Int} (h : pairsOk l = true) (k : Nat) (h1 : 1 ≤ k) (h2 : k ≤ 20) : l.count (k : Int) = 0 ∨ l.count (k : Int) = 2 := by
  rw [pairsOk_eq, List.all_eq_true] at h
  have := h k (List.mem_range'_1.2 (by omega))
  rw [placesOf_count] at this
  simpa using this
/-- The numbers of a row, from n on, m of them looked at. -/
def numbersFrom (l : List Int) (n m : Nat) : List Int := ((List.range' n m).filter (fun k : Nat => decide ((k : Int) ∈ l))).map (fun k : Nat => (k : Int))
def numbersOf (l : List Int) : List Int := numbersFrom l 1 20
theorem numbersFrom_length (l : List Int) (n m : Nat) : (numbersFrom l n m).length ≤ m := by
  unfold numbersFrom
  have := List.length_filter_le (fun k : Nat => decide ((k : Int) ∈ l)) (List.range' n m)
  simp at this ⊢
  exact this
theorem mem_numbersOf (l : List Int) (v : Int) : v ∈ numbersOf l ↔ v ∈ l ∧ 1 ≤ v ∧ v ≤ 20 := by
  simp only [numbersOf, numbersFrom, List.mem_map, List.mem_filter, List.mem_range'_1, decide_eq_true_eq]
  constructor
  · rintro ⟨k, ⟨hi, hk⟩, rfl⟩
    exact ⟨hk, by omega, by omega⟩
  · rintro ⟨h, h1, h2⟩
    refine ⟨v.toNat, ⟨by omega, ?_⟩, by omega⟩
    rwa [Int.toNat_of_nonneg (by omega)]
theorem fitsAt_eq (l : List Int) (s : Int) (h : pairsOk l = true) : fitsAt l s = (numbersOf l).all fun v => wrap64 (rd (placesOf l v) 1 - rd (placesOf l v) 0) == wrap64 (v + s) := by
  unfold fitsAt
  rw [Bool.eq_iff_iff, List.all_eq_true, List.all_eq_true]
  constructor
  · intro H v hv
    obtain ⟨h1, h2, h3⟩ := (mem_numbersOf l v).1 hv
    obtain ⟨k, rfl⟩ : ∃ k : Nat, v = (k : Int) := ⟨v.toNat, by omega⟩
    have hk := H k (by simp; omega)
    have hz : ¬ k = 0 := by omega
    rw [atOf, if_neg hz, placesOf_count] at hk
    have h5 : 0 < l.count (k : Int) := List.count_pos_iff.2 h1
    rcases pairsOk_count h k (by omega) (by omega) with h4 | h4
    · omega
    · rw [h4] at hk
      simpa using hk
  · intro H k hk
    by_cases hz : k = 0
    · subst hz
      rfl
    · rw [atOf, if_neg hz, placesOf_count]
      by_cases h4 : l.count (k : Int) = 2
      · have h5 : (k : Int) ∈ l := List.count_pos_iff.1 (by omega)
        have := H k ((mem_numbersOf l k).2 ⟨h5, by omega, by simp at hk; omega⟩)
        rw [h4]
        simpa using this
      · rw [beq_false_of_ne h4]
        rfl
/-- A row in which each number stands twice or not at all. -/
def isPairs (l : List Int) : Bool := isRow l && pairsOk l
theorem isPairs_row {l : List Int} (h : isPairs l = true) : isRow l = true := by
  unfold isPairs at h
  exact (Bool.and_eq_true_iff.1 h).1
theorem isPairs_ok {l : List Int} (h : isPairs l = true) : pairsOk l = true := by
  unfold isPairs at h
  exact (Bool.and_eq_true_iff.1 h).2
theorem spec_roPlaces.L0_val (n : Int) : ∀ (suf pre acc : List Int), (pre ++ suf).length < 4611686018427387904 → acc.length + suf.length < 17592186044416 → spec_roPlaces.L0 n acc (pre ++ suf) ((pre ++ suf).length : Int) (pre.length : Int) = some (acc ++ placesFrom n pre.length suf)
  | [], pre, acc, h, ha => by
    rw [spec_roPlaces.L0_eq, range_end]
    simp [placesFrom]
  | x :: suf, pre, acc, h, ha => by
    have ha' : acc.length + (suf.length + 1) < 17592186044416 := by simpa using ha
    have e : (pre ++ [x]).length = pre.length + 1 := by simp
    rw [spec_roPlaces.L0_eq, range_step, rd_mid, wrap_mid h, app_mid pre x suf]
    by_cases h1 : x = n
    · rw [if_pos h1, if_pos (by omega), spec_roPlaces.L0_val n suf (pre ++ [x]) _ (by simpa using h) (by simp; omega), e]
      simp [placesFrom, h1]
    · rw [if_neg h1, spec_roPlaces.L0_val n suf (pre ++ [x]) _ (by simpa using h) (by omega), e]
      simp [placesFrom, h1]
theorem spec_roPlaces.F_val (l : List Int) (n : Int) (h : l.length < 17592186044416) : spec_roPlaces.F l n = some (placesOf l n) := by
  rw [spec_roPlaces.F_eq]
  have := spec_roPlaces.L0_val n l [] [] (by simp; omega) (by simpa using h)
  simpa [placesOf] using this
theorem impl_isPairs.F_val (l : List Int) (h : l.length < 4611686018427387904) : impl_isPairs.F l = some (isPairs l) := by
  rw [impl_isPairs.F_eq, impl_IsRow.F_val l h]
  simp only [Option.bind_some]
  unfold isPairs
  by_cases h1 : isRow l = true
  · rw [if_pos h1, h1]
    rfl
  · rw [if_neg h1, Bool.eq_false_iff.2 h1]
    rfl
theorem impl_fits.F_val (l : List Int) (s : Int) (h : l.length < 4611686018427387904) : impl_fits.F l s = some (isPairs l && fitsAt l s) := by
  rw [impl_fits.F_eq, impl_isPairs.F_val l h]
  simp only [Option.bind_some]
  by_cases h1 : isPairs l = true
  · rw [if_pos h1, h1]
    rfl
  · rw [if_neg h1, Bool.eq_false_iff.2 h1]
    rfl
theorem spec_l1Has.L0_val (n : Int) : ∀ (suf pre : List Int), (pre ++ suf).length < 4611686018427387904 → spec_l1Has.L0 n (pre ++ suf) ((pre ++ suf).length : Int) (pre.length : Int) = some (decide (n ∈ suf))
  | [], pre, h => by
    rw [spec_l1Has.L0_eq, range_end]
    simp
  | x :: suf, pre, h => by
    rw [spec_l1Has.L0_eq, range_step, rd_mid, wrap_mid h, app_mid pre x suf, spec_l1Has.L0_val n suf (pre ++ [x]) (by simpa using h)]
    by_cases h1 : x = n
    · rw [if_pos h1]
      simp [h1]
    · rw [if_neg h1]
      have : ¬ n = x := fun h => h1 h.symm
      simp [this]
theorem spec_l1Has.F_val (l : List Int) (n : Int) (h : l.length < 4611686018427387904) : spec_l1Has.F l n = some (decide (n ∈ l)) := by
  rw [spec_l1Has.F_eq]
  have := spec_l1Has.L0_val n l [] (by simpa using h)
  simpa using this
/-- The first place of a number, the first one counted as i; -1 where it does not stand. -/
def indexFrom (n : Int) : Nat → List Int → Int
  | _, [] => -1
  | i, x :: l => if n = x then (i : Int) else indexFrom n (i + 1) l
theorem indexFrom_mem (n : Int) : ∀ (l : List Int) (i : Nat), 0 ≤ indexFrom n i l ↔ n ∈ l
  | [], i => by simp [indexFrom]
  | x :: l, i => by
    have ih := indexFrom_mem n l (i + 1)
    by_cases h : n = x
    · simp [indexFrom, h]
    · simp [indexFrom, h, ih]
theorem slices_Index_int_int.L0_val (n : Int) : ∀ (suf pre : List Int), (pre ++ suf).length < 4611686018427387904 → slices_Index_int_int.L0 (pre ++ suf) n ((pre ++ suf).length : Int) (pre.length : Int) = some (indexFrom n pre.length suf)
  | [], pre, h => by
    rw [slices_Index_int_int.L0_eq, range_end]
    rfl
  | x :: suf, pre, h => by
    have e : (pre ++ [x]).length = pre.length + 1 := by simp
    rw [slices_Index_int_int.L0_eq, range_step, rd_mid, wrap_mid h, app_mid pre x suf, slices_Index_int_int.L0_val n suf (pre ++ [x]) (by simpa using h), e, indexFrom]
    split <;> rfl
theorem slices_Index_int_int.F_val (l : List Int) (n : Int) (h : l.length < 4611686018427387904) : slices_Index_int_int.F l n = some (indexFrom n 0 l) := by
  rw [slices_Index_int_int.F_eq]
  have := slices_Index_int_int.L0_val n l [] (by simpa using h)
  simpa using this
theorem slices_Contains_int_int.F_val (l : List Int) (n : Int) (h : l.length < 4611686018427387904) : slices_Contains_int_int.F l n = some (decide (n ∈ l)) := by
  rw [slices_Contains_int_int.F_eq, slices_Index_int_int.F_val l n h]
  simp only [Option.bind_some]
  have := indexFrom_mem n l 0
  congr 1
  rw [decide_eq_decide]
  exact this
theorem spec_roNumbers.L0_val (l : List Int) (hl : l.length < 4611686018427387904) : ∀ (m n : Nat) (acc : List Int), n + m = 21 → acc.length + m < 100 → spec_roNumbers.L0 l acc (n : Int) = some (acc ++ numbersFrom l n m)
  | 0, n, acc, h, ha => by
    rw [spec_roNumbers.L0_eq, if_neg (by omega)]
    simp [numbersFrom]
  | m + 1, n, acc, h, ha => by
    have e : wrap64 ((n : Int) + 1) = ((n + 1 : Nat) : Int) := by rw [wrap_in (by omega) (by omega)]; omega
    rw [spec_roNumbers.L0_eq, if_pos (by omega), spec_l1Has.F_val l n hl]
    simp only [Option.bind_some]
    by_cases h1 : (n : Int) ∈ l
    · rw [if_pos (by simpa using h1), if_pos (by omega), e, spec_roNumbers.L0_val l hl m (n + 1) _ (by omega) (by simp; omega)]
      simp [numbersFrom, List.range'_succ, h1]
    · rw [if_neg (by simpa using h1), e, spec_roNumbers.L0_val l hl m (n + 1) _ (by omega) (by omega)]
      simp [numbersFrom, List.range'_succ, h1]
theorem spec_roNumbers.F_val (l : List Int) (hl : l.length < 4611686018427387904) : spec_roNumbers.F l = some (numbersOf l) := by
  rw [spec_roNumbers.F_eq]
  exact spec_roNumbers.L0_val l hl 20 1 [] (by omega) (by simp)
theorem impl_numbers.L0_val (l : List Int) (hl : l.length < 4611686018427387904) : ∀ (m n : Nat) (acc : List Int), n + m = 21 → acc.length + m < 100 → impl_numbers.L0 l acc (n : Int) = some (acc ++ numbersFrom l n m)
  | 0, n, acc, h, ha => by
    rw [impl_numbers.L0_eq, if_neg (by omega)]
    simp [numbersFrom]
  | m + 1, n, acc, h, ha => by
    have e : wrap64 ((n : Int) + 1) = ((n + 1 : Nat) : Int) := by rw [wrap_in (by omega) (by omega)]; omega
    rw [impl_numbers.L0_eq, if_pos (by omega), slices_Contains_int_int.F_val l n hl]
    simp only [Option.bind_some]
    by_cases h1 : (n : Int) ∈ l
    · rw [if_pos (by simpa using h1), if_pos (by omega), e, impl_numbers.L0_val l hl m (n + 1) _ (by omega) (by simp; omega)]
      simp [numbersFrom, List.range'_succ, h1]
    · rw [if_neg (by simpa using h1), e, impl_numbers.L0_val l hl m (n + 1) _ (by omega) (by omega)]
      simp [numbersFrom, List.range'_succ, h1]
theorem impl_numbers.F_val (l : List Int) (hl : l.length < 4611686018427387904) : impl_numbers.F l = some (numbersOf l) := by
  rw [impl_numbers.F_eq]
  exact impl_numbers.L0_val l hl 20 1 [] (by omega) (by simp)
theorem spec_roFits.L0_val (l : List Int) (s : Int) (hl : l.length < 17592186044416) : ∀ (suf pre : List Int), (pre ++ suf).length < 4611686018427387904 → (∀ v ∈ suf, (placesOf l v).length = 2) → spec_roFits.L0 l s (pre ++ suf) ((pre ++ suf).length : Int) (pre.length : Int) = some (suf.all fun v => wrap64 (rd (placesOf l v) 1 - rd (placesOf l v) 0) == wrap64 (v + s))
  | [], pre, h, hv => by
    rw [spec_roFits.L0_eq, range_end]
    simp
  | x :: suf, pre, h, hv => by
    have h2 := hv x (by simp)
    rw [spec_roFits.L0_eq, range_step, rd_mid, wrap_mid h, app_mid pre x suf, spec_roPlaces.F_val l x hl]
    simp only [Option.bind_some]
    rw [if_pos (by omega), if_pos (by omega), spec_roFits.L0_val l s hl suf (pre ++ [x]) (by simpa using h) (fun v h => hv v (by simp [h])), List.all_cons]
    by_cases h1 : wrap64 (rd (placesOf l x) 1 - rd (placesOf l x) 0) = wrap64 (x + s)
    · rw [if_pos h1, beq_iff_eq.2 h1]
      rfl
    · rw [if_neg h1, beq_false_of_ne h1]
      rfl
theorem numbersOf_two {l : List Int} (h : pairsOk l = true) {v : Int} (hv : v ∈ numbersOf l) : (placesOf l v).length = 2 := by
  obtain ⟨h1, h2, h3⟩ := (mem_numbersOf l v).1 hv
  obtain ⟨k, rfl⟩ : ∃ k : Nat, v = (k : Int) := ⟨v.toNat, by omega⟩
  have h5 : 0 < l.count (k : Int) := List.count_pos_iff.2 h1
  rw [placesOf_count]
  rcases pairsOk_count h k (by omega) (by omega) with h4 | h4 <;> omega
theorem spec_roFits.F_val (l : List Int) (s : Int) (hl : l.length < 17592186044416) (h : pairsOk l = true) : spec_roFits.F l s = some (fitsAt l s) := by
  rw [spec_roFits.F_eq, spec_roNumbers.F_val l (by omega)]
  simp only [Option.bind_some]
  rw [fitsAt_eq l s h]
  have hn := numbersFrom_length l 1 20
  have := spec_roFits.L0_val l s hl (numbersOf l) [] (by simp only [List.nil_append, numbersOf]; omega) (fun v hv => numbersOf_two h hv)
  simpa using this
end Go.Proofs.Ytaohgllnoomaeaa.Fn
namespace Go.Proofs.Ytaohgllnoomaeaa.Fn
open Go.RowKit Go.Proofs.YtaohgllnoomaeaaW.PrintWords Go.Proofs.YtaohgllnoomaeaaW.PrintLast Go.Proofs.YtaohgllnoomaeaaW.PrintMore
set_option linter.unusedVariables false
set_option linter.unusedSimpArgs false
/-- Each number m of a list is as great as its place and k together. -/
def fromOf (k : Int) : Nat → List Int → Bool
  | _, [] => true
  | i, x :: l => decide (x = k + (i : Int)) && fromOf k (i + 1) l
/-- The first hole's place; -1 where there is none. -/
def holeFrom : Nat → List Int → Int
  | _, [] => -1
  | i, x :: l => if x = 0 then (i : Int) else holeFrom (i + 1) l
theorem holeFrom_places : ∀ (l : List Int) (i : Nat), 0 < (placesFrom 0 i l).length → holeFrom i l = rd (placesFrom 0 i l) 0
  | [], i, h => by simp [placesFrom] at h
  | x :: l, i, h => by
    by_cases hx : x = 0
    · simp [placesFrom, holeFrom, hx, rd]
    · simp only [placesFrom, holeFrom, hx, if_false] at h ⊢
      exact holeFrom_places l (i + 1) h
/-- The row's order, if its numbers are those from 1 on. -/
def orderOf (l : List Int) : Int := if fromOf 1 0 (numbersOf l) = true then ((numbersOf l).length : Int) else 0
/-- A row with one hole whose pairs fit. -/
def oneHole (l : List Int) : Bool := isPairs l && fitsAt l 0 && decide ((placesOf l 0).length = 1)
def extendedOf (l : List Int) : Int × Int := if oneHole l = true then (orderOf l, rd (placesOf l 0) 0) else (0, 0)
theorem fromOf_mem (k : Int) : ∀ (l : List Int) (i : Nat) (x : Int), fromOf k i l = true → x ∈ l → x < k + (i : Int) + l.length
  | [], i, x, h, hx => by cases hx
  | y :: l, i, x, h, hx => by
    simp only [fromOf, Bool.and_eq_true, decide_eq_true_eq] at h
    rcases List.mem_cons.1 hx with rfl | hx
    · rw [List.length_cons]
      omega
    · have := fromOf_mem k l (i + 1) x h.2 hx
      rw [List.length_cons]
      omega
/-- Numbers that grow, from k + i on, and none of them behind the last place: each is as great as its place. -/
theorem fromOf_of (k : Int) : ∀ (l : List Int) (i : Nat), (l.Pairwise (· < ·)) → (∀ x ∈ l, k + (i : Int) ≤ x ∧ x < k + (i : Int) + l.length) → fromOf k i l = true
  | [], i, hp, hx => rfl
  | y :: l, i, hp, hx => by
    obtain ⟨h1, h2⟩ := List.pairwise_cons.1 hp
    have hy := hx y (by simp)
    have hall : ∀ x ∈ l, k + ((i + 1 : Nat) : Int) ≤ x ∧ x < k + ((i + 1 : Nat) : Int) + l.length := fun x hxl => by
      have a := h1 x hxl
      have b := hx x (by simp [hxl])
      rw [List.length_cons] at b
      omega
    have hrec := fromOf_of k l (i + 1) h2 hall
    simp only [fromOf, hrec, Bool.and_true, decide_eq_true_eq]
    -- the first one: were it greater, the others had no room
    have room : ∀ (l : List Int) (b : Int), l.Pairwise (· < ·) → (∀ x ∈ l, b < x) → ∀ x ∈ l, ∀ c, (∀ x ∈ l, x < c) → b + l.length < c := by
      intro l
      induction l with
      | nil => intro b _ _ x hx; cases hx
      | cons z t ih =>
        intro b hp hb x _ c hc
        obtain ⟨g1, g2⟩ := List.pairwise_cons.1 hp
        have hz := hb z (by simp)
        cases t with
        | nil => have := hc z (by simp); simp; omega
        | cons u v =>
          have := ih z g2 g1 u (by simp) c (fun x hx => hc x (by simp [hx]))
          simp at this ⊢
          omega
    cases l with
    | nil => simp at hy; omega
    | cons u v =>
      have := room (u :: v) y h2 h1 u (by simp) (k + (i : Int) + ((y :: u :: v).length : Nat)) (fun x hxl => (hx x (by simp [hxl])).2)
      simp at this
      omega
theorem numbersOf_sorted (l : List Int) : (numbersOf l).Pairwise (· < ·) := by
  unfold numbersOf numbersFrom
  rw [List.pairwise_map]
  exact (List.Pairwise.filter _ (List.pairwise_lt_range' (s := 1) (n := 20))).imp (fun h => by omega)
theorem numbersFrom_count (l : List Int) : ∀ (m n : Nat), (∀ k, n ≤ k → k < n + m → l.count (k : Int) = 0 ∨ l.count (k : Int) = 2) → ((List.range' n m).map fun k : Nat => l.count (k : Int)).sum = 2 * (numbersFrom l n m).length
  | 0, n, h => rfl
  | m + 1, n, h => by
    have ih := numbersFrom_count l m (n + 1) (fun k h1 h2 => h k (by omega) (by omega))
    rw [List.range'_succ, List.map_cons, List.sum_cons, ih]
    have e : numbersFrom l n (m + 1) = (if (n : Int) ∈ l then [(n : Int)] else []) ++ numbersFrom l (n + 1) m := by
      unfold numbersFrom
      rw [List.range'_succ]
      by_cases hn : (n : Int) ∈ l <;> simp [hn]
    rw [e, List.length_append]
    by_cases hn : (n : Int) ∈ l
    · have h5 : 0 < l.count (n : Int) := List.count_pos_iff.2 hn
      rcases h n (by omega) (by omega) with h4 | h4
      · omega
      · rw [if_pos hn, h4]
        simp
        omega
    · have h5 : l.count (n : Int) = 0 := List.count_eq_zero.2 hn
      rw [if_neg hn, h5]
      simp
theorem count_sum : ∀ (l : List Int) (m n : Nat), (∀ x ∈ l, (n : Int) ≤ x ∧ x < (n : Int) + m) → ((List.range' n m).map fun k : Nat => l.count (k : Int)).sum = l.length
  | [], m, n, h => by
    have : ∀ ks : List Nat, (ks.map fun k : Nat => ([] : List Int).count (k : Int)).sum = 0 := fun ks => by induction ks with | nil => rfl | cons a t ih => rw [List.map_cons, List.sum_cons, ih]; rfl
    exact this _
  | x :: l, m, n, h => by
    have ih := count_sum l m n (fun y hy => h y (by simp [hy]))
    have hx := h x (by simp)
    have key : ∀ (m n : Nat), ((n : Int) ≤ x ∧ x < (n : Int) + m → ((List.range' n m).map fun k : Nat => (x :: l).count (k : Int)).sum = ((List.range' n m).map fun k : Nat => l.count (k : Int)).sum + 1) ∧ (¬ ((n : Int) ≤ x ∧ x < (n : Int) + m) → ((List.range' n m).map fun k : Nat => (x :: l).count (k : Int)).sum = ((List.range' n m).map fun k : Nat => l.count (k : Int)).sum) := by
      intro m
      induction m with
      | zero => intro n; exact ⟨fun h => by omega, fun _ => rfl⟩
      | succ m ih =>
        intro n
        obtain ⟨i1, i2⟩ := ih (n + 1)
        rw [List.range'_succ, List.map_cons, List.sum_cons, List.map_cons, List.sum_cons, List.count_cons]
        by_cases hn : x = (n : Int)
        · have := i2 (by omega)
          have hb : (x == (n : Int)) = true := by simpa using hn
          rw [this, hb]
          exact ⟨fun _ => by rw [if_pos rfl]; omega, fun hh => absurd ⟨by omega, by omega⟩ hh⟩
        · have hb : (x == (n : Int)) = false := by simpa using hn
          rw [hb]
          constructor
          · intro hh
            rw [i1 (by omega)]
            simp
            omega
          · intro hh
            rw [i2 (by omega)]
            simp
    rw [(key m n).1 hx, ih, List.length_cons]
/-- A row's length: its holes and twice its numbers. -/
theorem row_length {l : List Int} (h : isPairs l = true) : l.length = l.count 0 + 2 * (numbersOf l).length := by
  have h1 := count_sum l 21 0 (fun x hx => by have := isRow_mem (isPairs_row h) hx; omega)
  have h2 := numbersFrom_count l 20 1 (fun k h3 h4 => pairsOk_count (isPairs_ok h) k h3 (by omega))
  rw [show List.range' 0 21 = 0 :: List.range' 1 20 from rfl, List.map_cons, List.sum_cons, h2] at h1
  unfold numbersOf
  simp at h1
  omega
/-- What the law's own form of an extended row asks: an odd length of three or more, one hole, no number above half of it. -/
def extendedSpec (l : List Int) : Bool := decide (3 ≤ l.length) && decide (l.length % 2 = 1) && fitsAt l 0 && decide (l.count 0 = 1) && l.all (fun x => decide (x ≤ (l.length : Int) / 2))
theorem extended_same {l : List Int} (h : isPairs l = true) : extendedSpec l = decide ((extendedOf l).1 > 0) := by
  have hlen := row_length h
  have hc : (placesOf l 0).length = l.count 0 := placesOf_count l 0
  unfold extendedSpec extendedOf oneHole
  rw [h, Bool.true_and, hc]
  by_cases hf : fitsAt l 0 = true
  · by_cases h1 : l.count 0 = 1
    · have e1 : (fitsAt l 0 && decide (l.count 0 = 1)) = true := by simp [hf, h1]
      rw [if_pos e1, hf]
      simp only [h1, decide_true, Bool.and_true]
      have hsort := numbersOf_sorted l
      by_cases hn : (numbersOf l).length = 0
      · have hl3 : ¬ 3 ≤ l.length := by omega
        have ho : orderOf l = 0 := by unfold orderOf; rw [hn]; split <;> rfl
        rw [ho]
        simp [hl3]
      · have hl3 : 3 ≤ l.length := by omega
        have hodd : l.length % 2 = 1 := by omega
        have hhalf : (l.length : Int) / 2 = ((numbersOf l).length : Int) := by omega
        simp only [hl3, hodd, decide_true, Bool.true_and, hhalf]
        rw [Bool.eq_iff_iff, List.all_eq_true, decide_eq_true_eq]
        constructor
        · intro H
          have hfr : fromOf 1 0 (numbersOf l) = true := fromOf_of 1 _ 0 hsort (fun x hx => by
            obtain ⟨g1, g2, g3⟩ := (mem_numbersOf l x).1 hx
            have := H x g1
            simp only [decide_eq_true_eq] at this
            omega)
          unfold orderOf
          rw [if_pos hfr]
          omega
        · intro H x hx
          by_cases hfr : fromOf 1 0 (numbersOf l) = true
          · have hr := isRow_mem (isPairs_row h) hx
            simp only [decide_eq_true_eq]
            by_cases hx0 : x = 0
            · omega
            · have := fromOf_mem 1 _ 0 x hfr ((mem_numbersOf l x).2 ⟨hx, by omega, by omega⟩)
              omega
          · unfold orderOf at H
            rw [if_neg hfr] at H
            exact absurd H (by decide)
    · have e1 : ¬ (fitsAt l 0 && decide (l.count 0 = 1)) = true := by simp [h1]
      rw [if_neg e1]
      simp [h1]
  · have e1 : ¬ (fitsAt l 0 && decide (l.count 0 = 1)) = true := by simp [hf]
    rw [if_neg e1]
    simp [hf]
theorem extendedOf_pos {l : List Int} (h : ¬ (extendedOf l).1 = 0) : oneHole l = true ∧ (extendedOf l).1 > 0 ∧ (extendedOf l).2 = rd (placesOf l 0) 0 := by
  unfold extendedOf at h ⊢
  by_cases h1 : oneHole l = true
  · rw [if_pos h1] at h ⊢
    refine ⟨h1, ?_, rfl⟩
    simp only [orderOf] at h ⊢
    split at h
    · rename_i h2
      rw [if_pos h2]
      omega
    · exact absurd rfl h
  · rw [if_neg h1] at h
    exact absurd rfl h
theorem oneHole_pairs {l : List Int} (h : oneHole l = true) : isPairs l = true ∧ fitsAt l 0 = true ∧ (placesOf l 0).length = 1 := by
  unfold oneHole at h
  simpa [and_assoc] using h
theorem impl_holes.L0_val : ∀ (suf pre acc : List Int), (pre ++ suf).length < 4611686018427387904 → acc.length + suf.length < 17592186044416 → impl_holes.L0 acc (pre ++ suf) ((pre ++ suf).length : Int) (pre.length : Int) = some (acc ++ placesFrom 0 pre.length suf)
  | [], pre, acc, h, ha => by
    rw [impl_holes.L0_eq, range_end]
    simp [placesFrom]
  | x :: suf, pre, acc, h, ha => by
    have ha' : acc.length + (suf.length + 1) < 17592186044416 := by simpa using ha
    have e : (pre ++ [x]).length = pre.length + 1 := by simp
    rw [impl_holes.L0_eq, range_step, rd_mid, wrap_mid h, app_mid pre x suf]
    by_cases h1 : x = 0
    · rw [if_pos h1, if_pos (by omega), impl_holes.L0_val suf (pre ++ [x]) _ (by simpa using h) (by simp; omega), e]
      simp [placesFrom, h1]
    · rw [if_neg h1, impl_holes.L0_val suf (pre ++ [x]) _ (by simpa using h) (by omega), e]
      simp [placesFrom, h1]
theorem impl_holes.F_val (l : List Int) (h : l.length < 17592186044416) : impl_holes.F l = some (placesOf l 0) := by
  rw [impl_holes.F_eq]
  have := impl_holes.L0_val l [] [] (by simp; omega) (by simpa using h)
  simpa [placesOf] using this
theorem impl_isFrom.L0_val (k : Int) (hk : -1000 ≤ k ∧ k ≤ 1000) (ns : List Int) : ∀ (suf pre : List Int), (pre ++ suf).length ≤ 1000 → impl_isFrom.L0 k ns (pre ++ suf) ((pre ++ suf).length : Int) (pre.length : Int) = some (if fromOf k pre.length suf = true then ((ns.length : Int), decide ((ns.length : Int) > 0)) else (0, false))
  | [], pre, h => by
    rw [impl_isFrom.L0_eq, range_end]
    rfl
  | x :: suf, pre, h => by
    have h' : pre.length + (suf.length + 1) ≤ 1000 := by simpa using h
    have e : (pre ++ [x]).length = pre.length + 1 := by simp
    rw [impl_isFrom.L0_eq, range_step, rd_mid, wrap_mid (pre := pre) (x := x) (suf := suf) (by omega), app_mid pre x suf, wrap_in (n := k + (pre.length : Int)) (by omega) (by omega), impl_isFrom.L0_val k hk ns suf (pre ++ [x]) (by simpa using h), e, fromOf]
    by_cases h1 : x = k + (pre.length : Int)
    · rw [if_pos h1]
      simp [h1]
    · rw [if_neg h1]
      simp [h1]
theorem impl_isFrom.F_val (l : List Int) (k : Int) (hk : -1000 ≤ k ∧ k ≤ 1000) (h : l.length < 4611686018427387904) : impl_isFrom.F l k = some (if fromOf k 0 (numbersOf l) = true then (((numbersOf l).length : Int), decide (((numbersOf l).length : Int) > 0)) else (0, false)) := by
  rw [impl_isFrom.F_eq, impl_numbers.F_val l h]
  simp only [Option.bind_some]
  have hn := numbersFrom_length l 1 20
  have := impl_isFrom.L0_val k hk (numbersOf l) (numbersOf l) [] (by simp only [List.nil_append, numbersOf]; omega)
  simpa using this
theorem impl_extended.F_val (l : List Int) (h : l.length < 17592186044416) : impl_extended.F l = some (extendedOf l) := by
  rw [impl_extended.F_eq, impl_fits.F_val l 0 (by omega), impl_holes.F_val l h]
  simp only [Option.bind_some, impl_extended.J0_eq]
  unfold extendedOf oneHole orderOf
  rw [impl_isFrom.F_val l 1 (by omega) (by omega), impl_holes.F_val l h]
  simp only [Option.bind_some]
  by_cases h1 : (isPairs l && fitsAt l 0) = true
  · rw [if_pos h1, h1]
    by_cases h2 : (placesOf l 0).length = 1
    · have h3 : (((placesOf l 0).length : Int) != 1) = false := by rw [h2]; rfl
      have h4 : (0 : Int) < ((placesOf l 0).length : Int) := by omega
      have h6 : decide ((placesOf l 0).length = 1) = true := decide_eq_true h2
      by_cases h5 : fromOf 1 0 (numbersOf l) = true
      · simp only [h3, h4, h5, h6, if_true, Bool.and_self, Bool.false_eq_true, if_false]
      · simp only [h3, h4, h5, h6, if_true, Bool.and_self, Bool.false_eq_true, if_false]
    · have h3 : (((placesOf l 0).length : Int) != 1) = true := by simp; omega
      simp only [h3, if_true, h2, decide_false, Bool.and_false, Bool.false_eq_true, if_false]
  · rw [if_neg h1, Bool.eq_false_iff.2 h1]
    simp only [if_true, Bool.false_and, Bool.false_eq_true, if_false]
def hookedOf (l : List Int) : Int := if (extendedOf l).2 = (l.length : Int) - 2 then (extendedOf l).1 else 0
theorem hookedOf_pairs {l : List Int} (h : ¬ hookedOf l = 0) : isPairs l = true := by
  refine (oneHole_pairs (extendedOf_pos (l := l) fun h2 => h ?_).1).1
  unfold hookedOf
  rw [h2]
  split <;> rfl
theorem impl_hooked.F_val (l : List Int) (h : l.length < 17592186044416) : impl_hooked.F l = some (hookedOf l) := by
  rw [impl_hooked.F_eq, impl_extended.F_val l h]
  simp only [Option.bind_some]
  rw [wrap_in (by omega) (by omega)]
  unfold hookedOf
  split <;> rfl
end Go.Proofs.Ytaohgllnoomaeaa.Fn
namespace Go.Proofs.Ytaohgllnoomaeaa.Fn
open Go.RowKit Go.Proofs.YtaohgllnoomaeaaW.PrintWords Go.Proofs.YtaohgllnoomaeaaW.PrintLast Go.Proofs.YtaohgllnoomaeaaW.PrintMore
set_option linter.unusedVariables false
set_option linter.unusedSimpArgs false
/-- A row with no hole whose pairs fit, and the order of its numbers from 1 on; 0 where it is none. -/
def skolemOf (l : List Int) : Int := if isPairs l = true ∧ fitsAt l 0 = true ∧ l.count 0 = 0 then (if fromOf 1 0 (numbersOf l) = true then ((numbersOf l).length : Int) else 0) else 0
theorem skolemOf_no {l : List Int} (h : ¬ (isPairs l = true ∧ fitsAt l 0 = true ∧ l.count 0 = 0)) : skolemOf l = 0 := if_neg h
theorem skolemOf_yes {l : List Int} (h1 : isPairs l = true) (h2 : fitsAt l 0 = true) (h3 : l.count 0 = 0) : skolemOf l = if fromOf 1 0 (numbersOf l) = true then ((numbersOf l).length : Int) else 0 := if_pos ⟨h1, h2, h3⟩
theorem skolemOf_pos {l : List Int} (h : ¬ skolemOf l = 0) : isPairs l = true ∧ fitsAt l 0 = true ∧ l.count 0 = 0 ∧ fromOf 1 0 (numbersOf l) = true ∧ ¬ (numbersOf l).length = 0 ∧ skolemOf l = ((l.length / 2 : Nat) : Int) := by
  unfold skolemOf at h ⊢
  by_cases h1 : isPairs l = true ∧ fitsAt l 0 = true ∧ l.count 0 = 0
  · rw [if_pos h1] at h ⊢
    by_cases h2 : fromOf 1 0 (numbersOf l) = true
    · rw [if_pos h2] at h ⊢
      have := row_length h1.1
      exact ⟨h1.1, h1.2.1, h1.2.2, h2, by omega, by omega⟩
    · rw [if_neg h2] at h
      exact absurd rfl h
  · rw [if_neg h1] at h
    exact absurd rfl h
/-- A row with no hole whose pairs lie one further apart, and its first number; 0 where it is none. -/
def langfordOf (l : List Int) : Int := if isPairs l = true ∧ fitsAt l 1 = true ∧ l.count 0 = 0 ∧ fromOf (rd (numbersOf l) 0) 0 (numbersOf l) = true ∧ ¬ (numbersOf l).length = 0 then rd (numbersOf l) 0 else 0
theorem rd_mem (l : List Int) (h : ¬ l.length = 0) : rd l 0 ∈ l := by
  cases l with
  | nil => exact absurd rfl h
  | cons x t => simp [rd]
theorem langfordOf_pos {l : List Int} (h : ¬ langfordOf l = 0) : isPairs l = true ∧ fitsAt l 1 = true ∧ l.count 0 = 0 ∧ fromOf (rd (numbersOf l) 0) 0 (numbersOf l) = true ∧ ¬ (numbersOf l).length = 0 ∧ langfordOf l = rd (numbersOf l) 0 := by
  unfold langfordOf at h ⊢
  by_cases h1 : isPairs l = true ∧ fitsAt l 1 = true ∧ l.count 0 = 0 ∧ fromOf (rd (numbersOf l) 0) 0 (numbersOf l) = true ∧ ¬ (numbersOf l).length = 0
  · rw [if_pos h1]
    exact ⟨h1.1, h1.2.1, h1.2.2.1, h1.2.2.2.1, h1.2.2.2.2, rfl⟩
  · rw [if_neg h1] at h
    exact absurd rfl h
theorem first_number {l : List Int} (h : ¬ (numbersOf l).length = 0) : 1 ≤ rd (numbersOf l) 0 ∧ rd (numbersOf l) 0 ≤ 20 := ((mem_numbersOf l _).1 (rd_mem _ h)).2
/-- What a Langford row asks, on a list of pairs. -/
def isLangford (l : List Int) : Prop := fitsAt l 1 = true ∧ l.count 0 = 0 ∧ fromOf (rd (numbersOf l) 0) 0 (numbersOf l) = true ∧ ¬ (numbersOf l).length = 0
theorem langfordOf_eq {l : List Int} (h : isPairs l = true) : (isLangford l → langfordOf l = rd (numbersOf l) 0 ∧ ¬ langfordOf l = 0) ∧ (¬ isLangford l → langfordOf l = 0) := by
  refine ⟨fun h1 => ?_, fun h1 => ?_⟩
  · have e : langfordOf l = rd (numbersOf l) 0 := if_pos ⟨h, h1⟩
    have := first_number h1.2.2.2
    exact ⟨e, by omega⟩
  · exact if_neg (fun h2 => h1 h2.2)
theorem impl_skolem.F_val (l : List Int) (h : l.length < 17592186044416) : impl_skolem.F l = some (skolemOf l) := by
  rw [impl_skolem.F_eq, impl_fits.F_val l 0 (by omega), impl_holes.F_val l h, impl_isFrom.F_val l 1 (by omega) (by omega)]
  simp only [Option.bind_some, placesOf_count]
  by_cases h1 : isPairs l = true
  · by_cases h2 : fitsAt l 0 = true
    · rw [if_pos (by simp [h1, h2])]
      by_cases h3 : l.count 0 = 0
      · rw [if_neg (by omega), skolemOf_yes h1 h2 h3]
        by_cases h4 : fromOf 1 0 (numbersOf l) = true
        · simp only [h4, if_true]
        · simp only [h4, if_false]
          rfl
      · rw [skolemOf_no (fun h => h3 h.2.2), if_pos (by omega)]
    · rw [if_neg (by simp [h2]), skolemOf_no (fun h => h2 h.2.1)]
  · rw [if_neg (by simp [h1]), skolemOf_no (fun h => h1 h.1)]
end Go.Proofs.Ytaohgllnoomaeaa.Fn
namespace Go.Proofs.Ytaohgllnoomaeaa.Fn
open Go.RowKit Go.Proofs.YtaohgllnoomaeaaW.PrintWords Go.Proofs.YtaohgllnoomaeaaW.PrintLast Go.Proofs.YtaohgllnoomaeaaW.PrintMore
set_option linter.unusedVariables false
set_option linter.unusedSimpArgs false
/-- All rows, in order. -/
def extsLoop (rec : List Int → Nat → List (List Int)) (hole shift : Int) (row : List Int) (used a : Nat) : Nat → Int → List (List Int)
  | 0, _ => []
  | m + 1, n => (if sePassed hole row used n ((a : Int) + n + shift) then [] else rec ((row.set a n).set ((a : Int) + n + shift).toNat n) (used ||| 2 ^ n.toNat)) ++ extsLoop rec hole shift row used a m (n + 1)
def exts (from_ : Int) (N : Nat) (shift hole : Int) : Nat → List Int → Nat → List (List Int)
  | 0, _, _ => []
  | k + 1, row, used => if seAt hole row = row.length then [row] else extsLoop (exts from_ N shift hole k) hole shift row used (seAt hole row) N from_
/-- A function called for rows, one after the other, until it ends. -/
def foldE {σ : Type} (each : σ → List Int → Option (σ × Bool)) : σ → List (List Int) → Option (σ × Bool)
  | s, [] => some (s, false)
  | s, x :: l => (each s x).bind fun p => if p.2 = true then some (p.1, true) else foldE each p.1 l
theorem foldE_append {σ : Type} (each : σ → List Int → Option (σ × Bool)) : ∀ (a b : List (List Int)) (s : σ), foldE each s (a ++ b) = (foldE each s a).bind fun p => if p.2 = true then some (p.1, true) else foldE each p.1 b
  | [], b, s => by simp [foldE]
  | x :: a, b, s => by
    simp only [List.cons_append, foldE]
    cases each s x with
    | none => rfl
    | some p =>
      simp only [Option.bind_some]
      by_cases h : p.2 = true
      · simp [h]
      · simp only [if_neg h]
        exact foldE_append each a b p.1
/-- The row as the program's search has it. -/
def freeH (hole : Int) (row : List Int) : List Int := (List.range row.length).map fun j : Nat => if rd row j = 0 ∧ (j : Int) ≠ hole then -1 else rd row j
theorem freeH_len (hole : Int) (row : List Int) : (freeH hole row).length = row.length := by simp [freeH]
theorem freeH_rd {hole : Int} {row : List Int} (j : Nat) (h : j < row.length) : rd (freeH hole row) j = if rd row j = 0 ∧ (j : Int) ≠ hole then -1 else rd row j := by
  rw [rd_nat _ j (by rw [freeH_len]; exact h)]
  simp [freeH]
theorem ext_rd {a b : List Int} (hl : a.length = b.length) (h : ∀ j : Nat, j < a.length → rd a j = rd b j) : a = b := by
  apply List.ext_getElem hl
  intro j h1 h2
  have := h j h1
  rwa [rd_nat a j h1, rd_nat b j h2] at this
theorem rd_set (l : List Int) (a : Nat) (v : Int) (j : Nat) (hj : j < l.length) : rd (l.set a v) j = if a = j then v else rd l j := by
  rw [rd_nat _ j (by rw [List.length_set]; exact hj), rd_nat l j hj, List.getElem_set]
theorem freeH_set {hole : Int} {row : List Int} {a : Nat} {n : Int} (hn : n ≠ 0) : (freeH hole row).set a n = freeH hole (row.set a n) := by
  apply ext_rd (by simp [freeH_len])
  intro j hj
  have hj' : j < row.length := by simpa [freeH_len] using hj
  rw [rd_set (freeH hole row) a n j (by rw [freeH_len]; exact hj'), freeH_rd (row := row) j hj', freeH_rd (row := row.set a n) j (by rw [List.length_set]; exact hj'), rd_set row a n j hj']
  by_cases e : a = j
  · simp [e, hn]
  · simp [e]
theorem freeAt_is : ∀ (l : List Int) (a : Nat), a ≤ l.length → (∀ j : Nat, j < a → rd l j ≠ -1) → (a < l.length → rd l a = -1) → freeAt l = a
  | [], a, h, _, _ => by
    simp at h
    simp [freeAt, h]
  | x :: l, 0, _, _, h => by
    have := h (by simp)
    simp [rd] at this
    simp [freeAt, this]
  | x :: l, a + 1, h, h1, h2 => by
    have hx := h1 0 (by omega)
    simp [rd] at hx
    have ih := freeAt_is l a (by simpa using h) (fun j hj => by
      have := h1 (j + 1) (by omega)
      simpa [rd] using this) (fun ha => by
      have := h2 (by simpa using ha)
      simpa [rd] using this)
    simp [freeAt, hx, ih]
theorem seAtFrom_spec (hole : Int) : ∀ (l : List Int) (i : Nat), ∃ a, seAtFrom hole l i = i + a ∧ a ≤ l.length ∧ (∀ j : Nat, j < a → rd l j ≠ 0 ∨ ((i + j : Nat) : Int) = hole) ∧ (a < l.length → rd l a = 0 ∧ ((i + a : Nat) : Int) ≠ hole)
  | [], i => ⟨0, rfl, Nat.le_refl _, fun j hj => by omega, fun h => by simp at h⟩
  | x :: l, i => by
    by_cases h : x = 0 ∧ (i : Int) ≠ hole
    · exact ⟨0, by rw [seAtFrom, if_pos h]; rfl, Nat.zero_le _, fun j hj => by omega, fun _ => ⟨by simpa [rd] using h.1, by simpa using h.2⟩⟩
    · obtain ⟨a, h1, h2, h3, h4⟩ := seAtFrom_spec hole l (i + 1)
      refine ⟨a + 1, by rw [seAtFrom, if_neg h, h1]; omega, by simpa using h2, fun j hj => ?_, fun ha => ?_⟩
      · cases j with
        | zero =>
          by_cases hx : x = 0
          · exact .inr (by simpa using Classical.byContradiction fun e => h ⟨hx, e⟩)
          · exact .inl (by simpa [rd] using hx)
        | succ j =>
          have := h3 j (by omega)
          rw [show i + (j + 1) = i + 1 + j by omega]
          simpa [rd] using this
      · have := h4 (by simpa using ha)
        rw [show i + (a + 1) = i + 1 + a by omega]
        simpa [rd] using this
theorem seAt_spec (hole : Int) (l : List Int) : seAt hole l ≤ l.length ∧ (∀ j : Nat, j < seAt hole l → rd l j ≠ 0 ∨ (j : Int) = hole) ∧ (seAt hole l < l.length → rd l (seAt hole l) = 0 ∧ ((seAt hole l : Nat) : Int) ≠ hole) := by
  obtain ⟨a, h1, h2, h3, h4⟩ := seAtFrom_spec hole l 0
  have e : seAt hole l = a := by rw [seAt, h1, Nat.zero_add]
  rw [e]
  exact ⟨h2, fun j hj => by simpa using h3 j hj, fun ha => by simpa using h4 ha⟩
theorem freeH_free {hole : Int} {row : List Int} (hp : ∀ j : Nat, j < row.length → 0 ≤ rd row j) : freeAt (freeH hole row) = seAt hole row := by
  obtain ⟨h1, h2, h3⟩ := seAt_spec hole row
  refine freeAt_is _ _ (by rw [freeH_len]; exact h1) (fun j hj => ?_) (fun ha => ?_)
  · rw [freeH_rd j (by omega)]
    have := hp j (by omega)
    split
    · rename_i h
      rcases h2 j hj with h4 | h4
      · exact absurd h.1 h4
      · exact absurd h4 h.2
    · omega
  · rw [freeH_len] at ha
    rw [freeH_rd _ ha, if_pos (h3 ha)]
theorem freeH_full {hole : Int} {row : List Int} (h : seAt hole row = row.length) : freeH hole row = row := by
  refine ext_rd (freeH_len _ _) (fun j hj => ?_)
  rw [freeH_len] at hj
  have := (seAt_spec hole row).2.1 j (by omega)
  rw [freeH_rd j hj, if_neg (fun e => this.elim (fun h => h e.1) (fun h => e.2 h))]
/-- What is left of the numbers from_, .., N of them. -/
def leftH (from_ : Int) (N used : Nat) : List Int := (List.range N).map fun i => if used.testBit (from_.toNat + i) = true then 0 else from_ + (i : Int)
theorem leftH_len (from_ : Int) (N used : Nat) : (leftH from_ N used).length = N := by simp [leftH]
theorem leftH_rd {from_ : Int} {N used i : Nat} (h : i < N) : rd (leftH from_ N used) i = if used.testBit (from_.toNat + i) = true then 0 else from_ + (i : Int) := by
  rw [rd_nat _ i (by rw [leftH_len]; exact h)]
  simp [leftH]
theorem leftH_set {from_ : Int} {N used i : Nat} (h : i < N) : (leftH from_ N used).set i 0 = leftH from_ N (used ||| 2 ^ (from_.toNat + i)) := by
  apply List.ext_getElem?
  intro j
  rw [List.getElem?_set, leftH_len]
  by_cases hj : i = j
  · subst hj
    rw [if_pos rfl, if_pos h]
    simp [leftH, h, Nat.testBit_or, Nat.testBit_two_pow]
  · rw [if_neg hj]
    rcases Nat.lt_or_ge j N with h2 | h2
    · simp [leftH, h2, Nat.testBit_or, Nat.testBit_two_pow, hj]
    · rw [List.getElem?_eq_none (by rw [leftH_len]; exact h2), List.getElem?_eq_none (by rw [leftH_len]; exact h2)]
theorem count_free {r : List Int} {a : Nat} {n : Int} (t : Nat) (ha : a < r.length) (h0 : rd r a = -1) (hn : n ≠ -1) : ((r.set a n).set t n).count (-1) < r.count (-1) := by
  have hmem : (-1 : Int) ∈ r := by
    rw [rd_nat r a ha] at h0
    rw [← h0]
    exact List.getElem_mem ha
  have hpos := List.count_pos_iff.2 hmem
  have h1 : (r.set a n).count (-1) = r.count (-1) - 1 := by
    rw [List.count_set ha]
    rw [rd_nat r a ha] at h0
    simp [h0, hn]
  rcases Nat.lt_or_ge t (r.set a n).length with h | h
  · rw [List.count_set h, h1]
    simp only [beq_iff_eq, hn, if_false, Nat.add_zero]
    omega
  · rw [List.set_eq_of_length_le h, h1]
    omega
theorem fillLoop_exts {σ : Type} {each : σ → List Int → Option (σ × Bool)} {row told : List Int} {from_ shift hole : Int} {N used k : Nat} {rec : σ → List Int → List Int → Option (σ × Bool)} {recE : List Int → Nat → List (List Int)} (hz : ∀ j : Int, rd told j = 0) (hf : 1 ≤ from_) (hs : 0 ≤ shift) (hpos : ∀ j : Nat, j < row.length → 0 ≤ rd row j)
    (hrec : ∀ s row' used', row'.length = row.length → (freeH hole row').count (-1) < k → (∀ j : Nat, j < row'.length → 0 ≤ rd row' j) → rec s (freeH hole row') (leftH from_ N used') = foldE each s (recE row' used')) (hk : (freeH hole row).count (-1) < k + 1) (ha : seAt hole row < row.length) :
    ∀ (m i : Nat) (s : σ), i + m = N → fillLoop rec (freeH hole row) told (leftH from_ N used) shift m i s = foldE each s (extsLoop recE hole shift row used (seAt hole row) m (from_ + (i : Int)))
  | 0, i, s, hi => rfl
  | m + 1, i, s, hi => by
    have hfa := freeH_free (hole := hole) hpos
    have hn := leftH_rd (from_ := from_) (N := N) (used := used) (i := i) (by omega)
    have hnx : from_ + (i : Int) + 1 = from_ + ((i + 1 : Nat) : Int) := by omega
    have hb : (from_ + (i : Int)).toNat = from_.toNat + i := by omega
    by_cases hbit : used.testBit (from_.toNat + i) = true
    · rw [if_pos hbit] at hn
      have hp : sePassed hole row used (from_ + (i : Int)) ((seAt hole row : Int) + (from_ + (i : Int)) + shift) := .inl (by rw [hb]; exact hbit)
      rw [fillLoop_pass hfa hn rfl (.inl rfl), fillLoop_exts hz hf hs hpos hrec hk ha m (i + 1) s (by omega), extsLoop, if_pos hp, List.nil_append, hnx]
    · rw [if_neg hbit] at hn
      obtain ⟨n, hne⟩ : ∃ n, from_ + (i : Int) = n := ⟨_, rfl⟩
      rw [hne] at hn hnx hb ⊢
      obtain ⟨t, ht⟩ : ∃ t, (seAt hole row : Int) + n + shift = t := ⟨_, rfl⟩
      have hn1 : 1 ≤ n := by omega
      obtain ⟨tn, htn⟩ : ∃ tn : Nat, t = (tn : Int) := ⟨t.toNat, by omega⟩
      have hcond : passed (freeH hole row) told (seAt hole row) n t ↔ sePassed hole row used n t := by
        have hb2 : ¬ used.testBit n.toNat = true := by rw [hb]; exact hbit
        have hrd : tn < row.length → (rd (freeH hole row) t ≠ -1 ↔ (t = hole ∨ rd row t ≠ 0)) := fun h => by
          rw [htn, freeH_rd tn h]
          have h6 := hpos tn h
          by_cases h3 : rd row (tn : Int) = 0 ∧ (tn : Int) ≠ hole
          · rw [if_pos h3]
            simp [h3]
          · rw [if_neg h3]
            constructor
            · intro _
              by_cases h7 : rd row (tn : Int) = 0
              · exact .inl (Classical.byContradiction fun e => h3 ⟨h7, e⟩)
              · exact .inr h7
            · intro _; omega
        unfold passed
        rw [freeH_len, hz, hz]
        constructor
        · rintro (h | h | h | h | h)
          · omega
          · exact .inr (.inl h)
          · by_cases h5 : (row.length : Int) ≤ t
            · exact .inr (.inl h5)
            · exact .inr (.inr ((hrd (by omega)).1 h))
          · exact absurd rfl h.1
          · exact absurd rfl h.1
        · rintro (h | h | h)
          · exact absurd h hb2
          · exact .inr (.inl h)
          · by_cases h5 : (row.length : Int) ≤ t
            · exact .inr (.inl h5)
            · exact .inr (.inr (.inl ((hrd (by omega)).2 h)))
      by_cases hp : sePassed hole row used n t
      · rw [fillLoop_pass hfa hn ht (hcond.2 hp), fillLoop_exts hz hf hs hpos hrec hk ha m (i + 1) s (by omega), extsLoop, ht, if_pos hp, List.nil_append, hnx]
      · have hat := (seAt_spec hole row).2.2 ha
        have hfr : rd (freeH hole row) (seAt hole row) = -1 := by rw [freeH_rd _ ha, if_pos hat]
        have hc := count_free (n := n) t.toNat (by rw [freeH_len]; exact ha) hfr (by omega)
        rw [fillLoop_put hfa hn ht (fun h => hp (hcond.1 h)), freeH_set (show n ≠ 0 by omega), freeH_set (show n ≠ 0 by omega), leftH_set (show i < N by omega), hrec s _ _ (by simp) (by rw [freeH_set (show n ≠ 0 by omega), freeH_set (show n ≠ 0 by omega)] at hc; omega) (fun j hj => by
          have hj' : j < row.length := by simpa using hj
          rw [rd_set _ _ _ _ (by simpa using hj'), rd_set _ _ _ _ hj']
          have := hpos j hj'
          split
          · omega
          · split
            · omega
            · exact this), extsLoop, ht, if_neg hp, foldE_append, ← hb]
        cases foldE each s (recE ((row.set (seAt hole row) n).set t.toNat n) (used ||| 2 ^ n.toNat)) with
        | none => rfl
        | some p =>
          simp only [Option.bind_some]
          by_cases h8 : p.2 = true
          · rw [if_pos h8, if_pos h8]
          · rw [if_neg h8, if_neg h8, fillLoop_exts hz hf hs hpos hrec hk ha m (i + 1) p.1 (by omega), hnx]
theorem fillF_exts {σ : Type} (each : σ → List Int → Option (σ × Bool)) (told : List Int) (from_ shift hole : Int) (N : Nat) (hz : ∀ j : Int, rd told j = 0) (hf : 1 ≤ from_) (hs : 0 ≤ shift) : ∀ (k : Nat) (s : σ) (row : List Int) (used : Nat), (freeH hole row).count (-1) < k → (∀ j : Nat, j < row.length → 0 ≤ rd row j) → fillF each told shift k s (freeH hole row) (leftH from_ N used) = foldE each s (exts from_ N shift hole k row used)
  | 0, s, row, used, h, hp => by omega
  | k + 1, s, row, used, h, hp => by
    have hfa := freeH_free (hole := hole) hp
    unfold fillF exts
    rw [hfa, freeH_len]
    by_cases h2 : seAt hole row = row.length
    · rw [if_pos h2, if_pos h2, freeH_full h2]
      simp only [foldE]
      cases each s row with
      | none => rfl
      | some p =>
        simp only [Option.bind_some]
        by_cases h8 : p.2 = true
        · rw [if_pos h8, ← h8]
        · rw [if_neg h8]
          rw [Bool.not_eq_true] at h8
          rw [← h8]
    · have := (seAt_spec hole row).1
      rw [if_neg h2, if_neg h2, leftH_len, fillLoop_exts hz hf hs hp (fun s row' used' h1 h2 h3 => fillF_exts each told from_ shift hole N hz hf hs k s row' used' h2 h3) h (by omega) N 0 s (by omega)]
      simp
theorem take_more' {α : Type} (a b : List α) (n : Nat) : (a.take n ++ b).take n = (a ++ b).take n := by
  rcases Nat.le_total n a.length with h | h
  · rw [List.take_append_of_le_length (by rw [List.length_take]; omega), List.take_append_of_le_length h, List.take_take, Nat.min_self]
  · rw [List.take_of_length_le h]
theorem seLoop_exts {row : List Int} {from_ shift hole : Int} {used k most : Nat} {rec : SeSt → List Int → Nat → Option SeSt} {recE : List Int → Nat → List (List Int)} (hf : 1 ≤ from_) (hs : 0 ≤ shift) (hpos : ∀ j : Nat, j < row.length → 0 ≤ rd row j)
    (hrec : ∀ c xs row' used', (freeH hole row').count (-1) < k → (∀ j : Nat, j < row'.length → 0 ≤ rd row' j) → xs.length ≤ most → c + (recE row' used').length ≤ 1000000000000 → rec (c, xs) row' used' = some (c + (recE row' used').length, (xs ++ recE row' used').take most)) (hk : (freeH hole row).count (-1) < k + 1) (ha : seAt hole row < row.length) :
    ∀ (m : Nat) (n : Int) (c : Nat) (xs : List (List Int)), 1 ≤ n → xs.length ≤ most → c + (extsLoop recE hole shift row used (seAt hole row) m n).length ≤ 1000000000000 → seLoop rec hole shift row used (seAt hole row) m n (c, xs) = some (c + (extsLoop recE hole shift row used (seAt hole row) m n).length, (xs ++ extsLoop recE hole shift row used (seAt hole row) m n).take most)
  | 0, n, c, xs, hn, hx, hc => by
    simp only [seLoop, extsLoop, List.append_nil, List.length_nil, Nat.add_zero]
    rw [List.take_of_length_le hx]
  | m + 1, n, c, xs, hn, hx, hc => by
    obtain ⟨t, ht⟩ : ∃ t, (seAt hole row : Int) + n + shift = t := ⟨_, rfl⟩
    by_cases hp : sePassed hole row used n t
    · have e : extsLoop recE hole shift row used (seAt hole row) (m + 1) n = extsLoop recE hole shift row used (seAt hole row) m (n + 1) := by
        rw [extsLoop, ht, if_pos hp, List.nil_append]
      rw [e] at hc ⊢
      rw [seLoop_pass ht hp, seLoop_exts hf hs hpos hrec hk ha m (n + 1) c xs (by omega) hx hc]
    · have e : extsLoop recE hole shift row used (seAt hole row) (m + 1) n = recE ((row.set (seAt hole row) n).set t.toNat n) (used ||| 2 ^ n.toNat) ++ extsLoop recE hole shift row used (seAt hole row) m (n + 1) := by
        rw [extsLoop, ht, if_neg hp]
      have hat := (seAt_spec hole row).2.2 ha
      have hfr : rd (freeH hole row) (seAt hole row) = -1 := by rw [freeH_rd _ ha, if_pos hat]
      have hc2 := count_free (n := n) t.toNat (by rw [freeH_len]; exact ha) hfr (by omega)
      rw [freeH_set (show n ≠ 0 by omega), freeH_set (show n ≠ 0 by omega)] at hc2
      rw [e] at hc ⊢
      rw [List.length_append] at hc ⊢
      rw [seLoop_put ht hp, hrec c xs _ _ (by omega) (fun j hj => by
          have hj' : j < row.length := by simpa using hj
          rw [rd_set _ _ _ _ (by simpa using hj'), rd_set _ _ _ _ hj']
          have := hpos j hj'
          split
          · omega
          · split
            · omega
            · exact this) hx (by omega), Option.bind_some, seLoop_exts hf hs hpos hrec hk ha m (n + 1) _ _ (by omega) (by rw [List.length_take]; omega) (by omega), take_more', List.append_assoc, Nat.add_assoc]
theorem seF_exts (from_ to_ shift hole : Int) (most : Nat) (hm : most ≤ 1000000) (hf : 1 ≤ from_) (hs : 0 ≤ shift) : ∀ (k c : Nat) (xs : List (List Int)) (row : List Int) (used : Nat), (freeH hole row).count (-1) < k → (∀ j : Nat, j < row.length → 0 ≤ rd row j) → xs.length ≤ most → c + (exts from_ (to_ + 1 - from_).toNat shift hole k row used).length ≤ 1000000000000 → seF from_ to_ shift hole (most : Int) k (c, xs) row used = some (c + (exts from_ (to_ + 1 - from_).toNat shift hole k row used).length, (xs ++ exts from_ (to_ + 1 - from_).toNat shift hole k row used).take most)
  | 0, c, xs, row, used, h, hp, hx, hc => by omega
  | k + 1, c, xs, row, used, h, hp, hx, hc => by
    unfold seF
    by_cases h2 : seAt hole row = row.length
    · have e : exts from_ (to_ + 1 - from_).toNat shift hole (k + 1) row used = [row] := by rw [exts, if_pos h2]
      rw [e] at hc ⊢
      have hc' : c + 1 ≤ 1000000000000 := hc
      rw [if_pos h2, if_pos ⟨by show c < _; omega, by show xs.length < _; omega⟩]
      show some (c + 1, if (xs.length : Int) < (most : Int) then xs ++ [row] else xs) = _
      by_cases h3 : (xs.length : Int) < (most : Int)
      · rw [if_pos h3, List.take_of_length_le (by simp; omega)]
        rfl
      · rw [if_neg h3, List.take_append_of_le_length (by omega), List.take_of_length_le (by omega)]
        rfl
    · have e : exts from_ (to_ + 1 - from_).toNat shift hole (k + 1) row used = extsLoop (exts from_ (to_ + 1 - from_).toNat shift hole k) hole shift row used (seAt hole row) (to_ + 1 - from_).toNat from_ := by rw [exts, if_neg h2]
      rw [e] at hc ⊢
      have := (seAt_spec hole row).1
      rw [if_neg h2]
      exact seLoop_exts hf hs hp (fun c xs row' used' h1 h3 h4 h5 => seF_exts from_ to_ shift hole most hm hf hs k c xs row' used' h1 h3 h4 h5) h (by omega) _ _ c xs hf hx hc
/-- So many of the numbers are not used. -/
def unset (used : Nat) : Nat → Nat → Nat
  | _, 0 => 0
  | b, m + 1 => (if used.testBit b = true then 0 else 1) + unset used (b + 1) m
theorem unset_same {u v : Nat} : ∀ (m b : Nat), (∀ j, b ≤ j → u.testBit j = v.testBit j) → unset u b m = unset v b m
  | 0, b, h => rfl
  | m + 1, b, h => by
    rw [unset, unset, h b (Nat.le_refl _), unset_same m (b + 1) (fun j hj => h j (by omega))]
theorem unset_or {u c : Nat} (hu : u.testBit c = false) : ∀ (m b : Nat), b ≤ c → c < b + m → unset (u ||| 2 ^ c) b m + 1 = unset u b m
  | 0, b, h1, h2 => by omega
  | m + 1, b, h1, h2 => by
    by_cases e : c = b
    · subst e
      have h3 := unset_same (u := u ||| 2 ^ c) (v := u) m (c + 1) (fun j hj => by
        rw [Nat.testBit_or, Nat.testBit_two_pow]
        have : ¬ c = j := by omega
        simp [this])
      rw [unset, unset, h3]
      simp [Nat.testBit_or, Nat.testBit_two_pow, hu]
      omega
    · have ih := unset_or hu m (b + 1) (by omega) (by omega)
      rw [unset, unset, Nat.testBit_or, Nat.testBit_two_pow]
      simp only [e, decide_false, Bool.or_false]
      omega
def fct : Nat → Nat
  | 0 => 1
  | n + 1 => (n + 1) * fct n
theorem fct_pos : ∀ n, 1 ≤ fct n
  | 0 => Nat.le_refl _
  | n + 1 => by
    have := fct_pos n
    rw [fct]
    exact Nat.le_trans this (Nat.le_mul_of_pos_left _ (Nat.succ_pos n))
theorem extsLoop_len {recE : List Int → Nat → List (List Int)} {hole shift : Int} {row : List Int} {used a B : Nat} {from_ : Int} {N : Nat} (hf : 1 ≤ from_) (hB : ∀ i, i < N → used.testBit (from_.toNat + i) = false → ∀ row', (recE row' (used ||| 2 ^ (from_.toNat + i))).length ≤ B) : ∀ (m i : Nat), i + m = N → (extsLoop recE hole shift row used a m (from_ + (i : Int))).length ≤ unset used (from_.toNat + i) m * B
  | 0, i, h => by simp [extsLoop]
  | m + 1, i, h => by
    have ih := extsLoop_len (recE := recE) (hole := hole) (shift := shift) (row := row) (a := a) hf hB m (i + 1) (by omega)
    have hnx : from_ + (i : Int) + 1 = from_ + ((i + 1 : Nat) : Int) := by omega
    have hb : (from_ + (i : Int)).toNat = from_.toNat + i := by omega
    rw [extsLoop, unset, List.length_append, hnx]
    rw [show from_.toNat + (i + 1) = from_.toNat + i + 1 by omega] at ih
    by_cases hbit : used.testBit (from_.toNat + i) = true
    · rw [if_pos hbit, if_pos (.inl (by rw [hb]; exact hbit))]
      simpa using ih
    · rw [if_neg hbit, Nat.add_mul, Nat.one_mul]
      refine Nat.add_le_add ?_ ih
      split
      · exact Nat.zero_le _
      · rw [hb]
        exact hB i (by omega) (Bool.eq_false_iff.mpr hbit) _
theorem exts_len (from_ : Int) (N : Nat) (shift hole : Int) (hf : 1 ≤ from_) : ∀ (k : Nat) (row : List Int) (used : Nat), (exts from_ N shift hole k row used).length ≤ fct (unset used from_.toNat N)
  | 0, row, used => Nat.zero_le _
  | k + 1, row, used => by
    rw [exts]
    split
    · exact fct_pos _
    · have h := extsLoop_len (recE := exts from_ N shift hole k) (hole := hole) (shift := shift) (row := row) (used := used) (a := seAt hole row) (B := fct (unset used from_.toNat N - 1)) (N := N) hf (fun i hi hb row' => by
        have h1 := exts_len from_ N shift hole hf k row' (used ||| 2 ^ (from_.toNat + i))
        have h2 := unset_or hb N from_.toNat (by omega) (by omega)
        have h3 : unset (used ||| 2 ^ (from_.toNat + i)) from_.toNat N = unset used from_.toNat N - 1 := by omega
        rw [h3] at h1
        exact h1) N 0 (by omega)
      have e0 : from_ + ((0 : Nat) : Int) = from_ := by simp
      rw [e0, Nat.add_zero] at h
      refine Nat.le_trans h ?_
      generalize unset used from_.toNat N = U
      cases U with
      | zero => simp
      | succ U => exact Nat.le_refl _
theorem unset_zero : ∀ (m b : Nat), unset 0 b m = m
  | 0, _ => rfl
  | m + 1, b => by
    rw [unset, unset_zero m (b + 1), Nat.zero_testBit]
    simp
    omega
theorem fct_small {n : Nat} (h : n ≤ 7) : fct n ≤ 5040 := by
  have : n = 0 ∨ n = 1 ∨ n = 2 ∨ n = 3 ∨ n = 4 ∨ n = 5 ∨ n = 6 ∨ n = 7 := by omega
  rcases this with rfl | rfl | rfl | rfl | rfl | rfl | rfl | rfl <;> decide
end Go.Proofs.Ytaohgllnoomaeaa.Fn
namespace Go.Proofs.Ytaohgllnoomaeaa.Fn
open Go.RowKit Go.Proofs.YtaohgllnoomaeaaW.PrintWords Go.Proofs.YtaohgllnoomaeaaW.PrintLast Go.Proofs.YtaohgllnoomaeaaW.PrintMore
set_option linter.unusedVariables false
set_option linter.unusedSimpArgs false
/-- 0 + 1 + .. + (n - 1). -/
def tri : Nat → Int
  | 0 => 0
  | n + 1 => tri n + (n : Int)
theorem tri_four : ∀ q : Nat, tri (4 * q) % 2 = 0 ∧ tri (4 * q + 1) % 2 = 0 ∧ tri (4 * q + 2) % 2 = 1 ∧ tri (4 * q + 3) % 2 = 1
  | 0 => by simp [tri]
  | q + 1 => by
    obtain ⟨h0, h1, h2, h3⟩ := tri_four q
    have e : 4 * (q + 1) = 4 * q + 3 + 1 := by omega
    simp only [e, tri] at h0 h1 h2 h3 ⊢
    omega
theorem tri_even (n : Nat) : tri n % 2 = 0 ↔ n % 4 ≤ 1 := by
  obtain ⟨h0, h1, h2, h3⟩ := tri_four (n / 4)
  rcases (by omega : n % 4 = 0 ∨ n % 4 = 1 ∨ n % 4 = 2 ∨ n % 4 = 3) with h | h | h | h
  · rw [show 4 * (n / 4) = n from by omega] at h0
    omega
  · rw [show 4 * (n / 4) + 1 = n from by omega] at h1
    omega
  · rw [show 4 * (n / 4) + 2 = n from by omega] at h2
    omega
  · rw [show 4 * (n / 4) + 3 = n from by omega] at h3
    omega
theorem tri_odd (n : Nat) : tri n % 2 = 0 ∨ tri n % 2 = 1 := by omega
theorem tri_nonneg : ∀ n, 0 ≤ tri n
  | 0 => by simp [tri]
  | n + 1 => by
    have := tri_nonneg n
    simp only [tri]
    omega
theorem tri_add (a : Nat) : ∀ b : Nat, tri (a + b) = tri a + tri b + (a : Int) * b
  | 0 => by simp [tri]
  | b + 1 => by
    rw [← Nat.add_assoc, tri, tri, tri_add a b]
    push_cast
    rw [Int.mul_add]
    omega
/-- The sum of the places of all numbers, counted from i on. -/
def sumPos : Nat → List Int → Int
  | _, [] => 0
  | i, x :: l => (if x > 0 then (i : Int) else 0) + sumPos (i + 1) l
/-- The sum of the places of the numbers n, .., n + m - 1. -/
def placeSum (i : Nat) (l : List Int) : Nat → Nat → Int
  | 0, _ => 0
  | m + 1, n => (placesFrom (n : Int) i l).sum + placeSum i l m (n + 1)
theorem placeSum_nil (i : Nat) : ∀ m n, placeSum i [] m n = 0
  | 0, n => rfl
  | m + 1, n => by simp [placeSum, placesFrom, placeSum_nil i m]
theorem placeSum_cons (x : Int) (l : List Int) (i : Nat) : ∀ m n, placeSum i (x :: l) m n = (if (n : Int) ≤ x ∧ x < (n : Int) + m then (i : Int) else 0) + placeSum (i + 1) l m n
  | 0, n => by simp [placeSum]; omega
  | m + 1, n => by
    rw [placeSum, placeSum, placeSum_cons x l i m (n + 1), placesFrom]
    by_cases h : x = (n : Int)
    · subst h
      rw [if_pos rfl, if_neg (by omega), if_pos (by omega), List.sum_cons]
      omega
    · rw [if_neg h]
      by_cases h1 : (n : Int) ≤ x ∧ x < (n : Int) + (m + 1 : Nat)
      · rw [if_pos h1, if_pos (by omega)]
        omega
      · rw [if_neg h1, if_neg (by omega)]
        omega
theorem sumPos_eq : ∀ (l : List Int) (i : Nat), (∀ x ∈ l, 0 ≤ x ∧ x ≤ 20) → sumPos i l = placeSum i l 20 1
  | [], i, h => by rw [placeSum_nil, sumPos]
  | x :: l, i, h => by
    have hx := h x (by simp)
    rw [sumPos, placeSum_cons, sumPos_eq l (i + 1) (fun y hy => h y (by simp [hy]))]
    by_cases h0 : x > 0
    · rw [if_pos h0, if_pos (by omega)]
    · rw [if_neg h0, if_neg (by omega)]
theorem sumPos_holes : ∀ (l : List Int) (i : Nat), (∀ x ∈ l, 0 ≤ x) → sumPos i l + (placesFrom 0 i l).sum + tri i = tri (i + l.length)
  | [], i, h => by simp [sumPos, placesFrom]
  | x :: l, i, h => by
    have ih := sumPos_holes l (i + 1) (fun y hy => h y (by simp [hy]))
    have hx := h x (by simp)
    rw [sumPos, placesFrom, List.length_cons]
    have e : tri (i + 1) = tri i + (i : Int) := rfl
    rw [show i + 1 + l.length = i + (l.length + 1) from by omega, e] at ih
    by_cases h0 : x = 0
    · rw [if_pos h0, if_neg (by omega), List.sum_cons]
      omega
    · rw [if_neg h0, if_pos (by omega)]
      omega
/-- Both places of a number. -/
def firstOf (l : List Int) (v : Int) : Int := rd (placesOf l v) 0
def otherOf (l : List Int) (v : Int) : Int := rd (placesOf l v) 1
theorem two_places {l : List Int} {v : Int} (h : (placesOf l v).length = 2) : placesOf l v = [firstOf l v, otherOf l v] := by
  unfold firstOf otherOf
  match hp : placesOf l v, h with
  | [a, b], _ => rfl
theorem placeSum_numbers (l : List Int) (hk : ∀ k : Nat, l.count (k : Int) = 2 ∨ ¬ (k : Int) ∈ l ∨ k = 0) : ∀ m n, 0 < n → placeSum 0 l m n = ((numbersFrom l n m).map fun v => firstOf l v + otherOf l v).sum
  | 0, n, h => rfl
  | m + 1, n, h => by
    have ih := placeSum_numbers l hk m (n + 1) (by omega)
    have e : numbersFrom l n (m + 1) = (if (n : Int) ∈ l then [(n : Int)] else []) ++ numbersFrom l (n + 1) m := by
      unfold numbersFrom
      rw [List.range'_succ]
      by_cases hn : (n : Int) ∈ l <;> simp [hn]
    rw [placeSum, ih, e]
    by_cases hn : (n : Int) ∈ l
    · have h2 : (placesOf l (n : Int)).length = 2 := by
        rw [placesOf_count]
        rcases hk n with h1 | h1 | h1
        · exact h1
        · exact absurd hn h1
        · omega
      have e2 : placesFrom (n : Int) 0 l = [firstOf l n, otherOf l n] := two_places h2
      rw [if_pos hn, e2]
      simp
    · have h0 : placesFrom (n : Int) 0 l = [] := by
        apply List.eq_nil_of_length_eq_zero
        rw [placesFrom_count, List.count_eq_zero]
        exact hn
      rw [if_neg hn, h0]
      simp
theorem sumPos_numbers {l : List Int} (h : isPairs l = true) : sumPos 0 l = ((numbersOf l).map fun v => firstOf l v + otherOf l v).sum := by
  rw [sumPos_eq l 0 (fun x hx => isRow_mem (isPairs_row h) hx)]
  refine placeSum_numbers l (fun k => ?_) 20 1 (by omega)
  by_cases hk : (k : Int) ∈ l
  · by_cases h0 : k = 0
    · exact .inr (.inr h0)
    · have hm := isRow_mem (isPairs_row h) hk
      have := List.count_pos_iff.2 hk
      rcases pairsOk_count (isPairs_ok h) k (by omega) (by omega) with h1 | h1
      · omega
      · exact .inl h1
  · exact .inr (.inl hk)
theorem places_lt (n : Int) : ∀ (l : List Int) (i : Nat), ∀ x ∈ placesFrom n i l, (i : Int) ≤ x ∧ x < (i : Int) + l.length
  | [], i, x, h => by simp [placesFrom] at h
  | y :: l, i, x, h => by
    have ih := places_lt n l (i + 1) x
    rw [placesFrom] at h
    rw [List.length_cons]
    by_cases h0 : y = n
    · rw [if_pos h0] at h
      rcases List.mem_cons.1 h with rfl | h1
      · omega
      · have := ih h1
        omega
    · rw [if_neg h0] at h
      have := ih h
      omega
theorem first_bounds {l : List Int} {v : Int} (h : (placesOf l v).length = 2) : 0 ≤ firstOf l v ∧ firstOf l v < (l.length : Int) ∧ 0 ≤ otherOf l v ∧ otherOf l v < (l.length : Int) := by
  have e := two_places h
  have a := places_lt v l 0 (firstOf l v) (by rw [show placesFrom v 0 l = _ from e]; simp)
  have b := places_lt v l 0 (otherOf l v) (by rw [show placesFrom v 0 l = _ from e]; simp)
  omega
/-- In a pair row that fits a shift, the other place is the number and the shift behind the first one. -/
theorem fits_other {l : List Int} {s : Int} (hp : isPairs l = true) (hs : 0 ≤ s ∧ s ≤ 1) (h : fitsAt l s = true) {v : Int} (hv : v ∈ numbersOf l) : otherOf l v = firstOf l v + v + s := by
  obtain ⟨h1, h2, h3⟩ := (mem_numbersOf l v).1 hv
  rw [fitsAt_eq l s (isPairs_ok hp), List.all_eq_true] at h
  have g := h v hv
  have hc : (placesOf l v).length = 2 := numbersOf_two (isPairs_ok hp) hv
  have hb := first_bounds hc
  have hl := isRow_len (isPairs_row hp)
  rw [beq_iff_eq] at g
  unfold firstOf otherOf at *
  rw [wrap_in (by omega) (by omega), wrap_in (by omega) (by omega)] at g
  omega
theorem from_sum (k : Int) : ∀ (l : List Int) (i : Nat), fromOf k i l = true → l.sum + tri i = tri (i + l.length) + k * l.length
  | [], i, h => by simp
  | x :: l, i, h => by
    simp only [fromOf, Bool.and_eq_true, decide_eq_true_eq] at h
    have ih := from_sum k l (i + 1) h.2
    rw [show i + 1 + l.length = i + (l.length + 1) from by omega] at ih
    have e : tri (i + 1) = tri i + (i : Int) := rfl
    rw [e] at ih
    rw [List.sum_cons, List.length_cons, show ((l.length + 1 : Nat) : Int) = (l.length : Int) + 1 from rfl, Int.mul_add, Int.mul_one]
    omega
theorem sum_pairs {l : List Int} {s : Int} : ∀ (vs : List Int), (∀ v ∈ vs, otherOf l v = firstOf l v + v + s) → (vs.map fun v => firstOf l v + otherOf l v).sum = 2 * (vs.map (firstOf l)).sum + vs.sum + s * vs.length
  | [], h => by simp
  | v :: vs, h => by
    have ih := sum_pairs vs (fun x hx => h x (by simp [hx]))
    have hv := h v (by simp)
    rw [List.map_cons, List.sum_cons, ih, List.map_cons, List.sum_cons, List.sum_cons, List.length_cons, hv, show ((vs.length + 1 : Nat) : Int) = (vs.length : Int) + 1 from rfl, Int.mul_add s, Int.mul_one]
    omega
/-- All places of a row with the numbers from k on: the first ones twice, the numbers, the shifts and the holes. -/
theorem row_sum {l : List Int} {s k : Int} (hp : isPairs l = true) (hs : 0 ≤ s ∧ s ≤ 1) (h : fitsAt l s = true) (hf : fromOf k 0 (numbersOf l) = true) : 2 * ((numbersOf l).map (firstOf l)).sum + tri (numbersOf l).length + (k + s) * (numbersOf l).length + (placesOf l 0).sum = tri l.length := by
  have h1 := sumPos_holes l 0 (fun x hx => (isRow_mem (isPairs_row hp) hx).1)
  have h2 := sumPos_numbers hp
  have h3 := sum_pairs (l := l) (s := s) (numbersOf l) (fun v hv => fits_other hp hs h hv)
  have h4 := from_sum k (numbersOf l) 0 hf
  rw [h2, h3] at h1
  simp only [tri, Nat.zero_add] at h1 h4
  unfold placesOf
  rw [Int.add_mul]
  omega
theorem row_parity {l : List Int} {s k : Int} (hp : isPairs l = true) (hs : 0 ≤ s ∧ s ≤ 1) (h : fitsAt l s = true) (hf : fromOf k 0 (numbersOf l) = true) : (tri (numbersOf l).length + (k + s) * (numbersOf l).length + (placesOf l 0).sum) % 2 = tri l.length % 2 := by
  have := row_sum hp hs h hf
  omega
end Go.Proofs.Ytaohgllnoomaeaa.Fn
namespace Go.Proofs.Ytaohgllnoomaeaa.Fn
open Go.RowKit Go.Proofs.YtaohgllnoomaeaaW.PrintWords Go.Proofs.YtaohgllnoomaeaaW.PrintLast Go.Proofs.YtaohgllnoomaeaaW.PrintMore
set_option linter.unusedVariables false
set_option linter.unusedSimpArgs false
theorem rd_of (l : List Int) (i : Nat) (h : i < l.length) : rd l (i : Int) = l[i] := rd_nat l i h
theorem mem_placesFrom (n : Int) : ∀ (l : List Int) (i : Nat) (p : Int), p ∈ placesFrom n i l ↔ ∃ j : Nat, ∃ h : j < l.length, p = ((i + j : Nat) : Int) ∧ l[j] = n
  | [], i, p => by simp [placesFrom]
  | x :: l, i, p => by
    have ih := mem_placesFrom n l (i + 1) p
    rw [placesFrom]
    have hs : (∃ j : Nat, ∃ h : j < (x :: l).length, p = ((i + j : Nat) : Int) ∧ (x :: l)[j] = n) ↔ (p = (i : Int) ∧ x = n) ∨ ∃ j : Nat, ∃ h : j < l.length, p = ((i + 1 + j : Nat) : Int) ∧ l[j] = n := by
      constructor
      · rintro ⟨j, h, e, g⟩
        cases j with
        | zero => exact .inl ⟨by simpa using e, by simpa using g⟩
        | succ j => exact .inr ⟨j, by simpa using h, by rw [e]; congr 1; omega, by simpa using g⟩
      · rintro (⟨e, g⟩ | ⟨j, h, e, g⟩)
        · exact ⟨0, by simp, by simpa using e, by simpa using g⟩
        · exact ⟨j + 1, by simpa using h, by rw [e]; congr 1; omega, by simpa using g⟩
    rw [hs]
    by_cases h0 : x = n
    · rw [if_pos h0, List.mem_cons, ih]
      simp [h0]
    · rw [if_neg h0, ih]
      simp [h0]
theorem mem_placesOf (l : List Int) (n p : Int) : p ∈ placesOf l n ↔ 0 ≤ p ∧ p < (l.length : Int) ∧ rd l p = n := by
  unfold placesOf
  rw [mem_placesFrom]
  constructor
  · rintro ⟨j, h, rfl, g⟩
    rw [Nat.zero_add, rd_nat l j h]
    exact ⟨by omega, by omega, g⟩
  · rintro ⟨h0, h1, h2⟩
    have h3 : p.toNat < l.length := by omega
    refine ⟨p.toNat, h3, by omega, ?_⟩
    rw [← rd_nat l p.toNat h3, Int.toNat_of_nonneg h0, h2]
theorem places_sorted (n : Int) : ∀ (l : List Int) (i : Nat), (placesFrom n i l).Pairwise (· < ·)
  | [], i => by simp [placesFrom]
  | x :: l, i => by
    rw [placesFrom]
    by_cases h0 : x = n
    · rw [if_pos h0, List.pairwise_cons]
      exact ⟨fun p hp => by have := places_lt n l (i + 1) p hp; omega, places_sorted n l (i + 1)⟩
    · rw [if_neg h0]
      exact places_sorted n l (i + 1)
theorem first_lt {l : List Int} {v : Int} (h : (placesOf l v).length = 2) : firstOf l v < otherOf l v := by
  have e := two_places h
  have := places_sorted v l 0
  rw [show placesFrom v 0 l = _ from e] at this
  simpa using this
/-- A number that stands twice stands at its two places and nowhere else. -/
theorem rd_places {l : List Int} {v : Int} (h : (placesOf l v).length = 2) (p : Int) (h0 : 0 ≤ p) (h1 : p < (l.length : Int)) : rd l p = v ↔ p = firstOf l v ∨ p = otherOf l v := by
  have g := mem_placesOf l v p
  rw [two_places h] at g
  simp only [List.mem_cons, List.not_mem_nil, or_false] at g
  rw [g]
  exact ⟨fun e => ⟨h0, h1, e⟩, fun e => e.2.2⟩
theorem places_back (n : Int) : ∀ (l : List Int) (i : Nat), placesFrom n 0 l.reverse = ((placesFrom n i l).map (fun p => (i : Int) + l.length - 1 - p)).reverse
  | [], i => by simp [placesFrom]
  | x :: l, i => by
    rw [List.reverse_cons, placesFrom_snoc, places_back n l (i + 1), placesFrom, List.length_reverse, Nat.zero_add]
    have e : (fun p : Int => ((i + 1 : Nat) : Int) + l.length - 1 - p) = fun p : Int => (i : Int) + (x :: l).length - 1 - p := by
      funext p
      rw [List.length_cons]
      omega
    rw [e]
    by_cases h0 : x = n
    · rw [if_pos h0, if_pos h0, List.map_cons, List.reverse_cons]
      congr 2
      rw [List.length_cons]
      omega
    · rw [if_neg h0, if_neg h0, List.append_nil]
theorem back_places (l : List Int) (n : Int) : placesOf l.reverse n = ((placesOf l n).map (fun p => (l.length : Int) - 1 - p)).reverse := by
  unfold placesOf
  rw [places_back n l 0]
  simp
theorem back_two {l : List Int} {v : Int} (h : (placesOf l v).length = 2) : firstOf l.reverse v = (l.length : Int) - 1 - otherOf l v ∧ otherOf l.reverse v = (l.length : Int) - 1 - firstOf l v := by
  have e := back_places l v
  rw [two_places h] at e
  unfold firstOf otherOf at *
  rw [e]
  exact ⟨rfl, rfl⟩
theorem isRow_back (l : List Int) : isRow l.reverse = isRow l := by
  unfold isRow
  rw [List.length_reverse, List.all_reverse]
theorem isPairs_back (l : List Int) : isPairs l.reverse = isPairs l := by
  unfold isPairs
  rw [isRow_back, pairsOk_eq, pairsOk_eq]
  simp only [placesOf_count, List.count_reverse]
theorem numbersOf_back (l : List Int) : numbersOf l.reverse = numbersOf l := by
  unfold numbersOf numbersFrom
  simp only [List.mem_reverse]
/-- The pairs of a row: each number with both of its places. -/
def pairsOf (l : List Int) : List (List Int) := (numbersOf l).map fun v => v :: placesOf l v
theorem pairsOf_eq {l : List Int} (h : isPairs l = true) : pairsOf l = (numbersOf l).map fun v => [v, firstOf l v, otherOf l v] := by
  unfold pairsOf
  refine List.map_congr_left fun v hv => ?_
  rw [two_places (numbersOf_two (isPairs_ok h) hv)]
/-- One pair is put into a row; none where it does not fit. -/
def putPair (out p : List Int) : Option (List Int) :=
  if p.length = 3 ∧ (1 ≤ rd p 0 ∧ rd p 0 ≤ 20) ∧ ¬ rd p 0 ∈ out ∧ 0 ≤ rd p 1 ∧ rd p 2 < (out.length : Int) ∧ rd p 1 < rd p 2 ∧ rd out (rd p 1) = 0 ∧ rd out (rd p 2) = 0 then some ((out.set (rd p 1).toNat (rd p 0)).set (rd p 2).toNat (rd p 0)) else none
theorem putPair_length {out p r : List Int} (h : putPair out p = some r) : r.length = out.length := by
  unfold putPair at h
  split at h
  · cases h
    simp
  · cases h
def putPairs : List Int → List (List Int) → Option (List Int)
  | out, [] => some out
  | out, p :: ps => (putPair out p).bind fun r => putPairs r ps
theorem putPairs_length : ∀ {ps : List (List Int)} {out r : List Int}, putPairs out ps = some r → r.length = out.length
  | [], out, r, h => by cases h; rfl
  | p :: ps, out, r, h => by
    rw [putPairs] at h
    obtain ⟨x, hx, hr⟩ := Option.bind_eq_some_iff.1 h
    rw [putPairs_length hr, putPair_length hx]
/-- A row with only some of its numbers. -/
def onlyOf (l vs : List Int) : List Int := l.map fun x => if x ∈ vs then x else 0
theorem onlyOf_length (l vs : List Int) : (onlyOf l vs).length = l.length := by simp [onlyOf]
theorem onlyOf_rd (l vs : List Int) (p : Int) (h0 : 0 ≤ p) (h1 : p < (l.length : Int)) : rd (onlyOf l vs) p = if rd l p ∈ vs then rd l p else 0 := by
  obtain ⟨i, rfl⟩ : ∃ i : Nat, p = i := ⟨p.toNat, by omega⟩
  have h : i < l.length := by omega
  rw [rd_nat _ i (by rw [onlyOf_length]; exact h), rd_nat l i h]
  simp [onlyOf]
theorem onlyOf_put {l vs : List Int} {v : Int} (h : (placesOf l v).length = 2) : ((onlyOf l vs).set (firstOf l v).toNat v).set (otherOf l v).toNat v = onlyOf l (vs ++ [v]) := by
  have hb := first_bounds h
  apply List.ext_getElem
  · simp [onlyOf]
  · intro i h1 h2
    have hi : i < l.length := by simpa [onlyOf] using h2
    have g := rd_places h (i : Int) (by omega) (by omega)
    rw [rd_nat l i hi] at g
    simp only [List.getElem_set, onlyOf, List.getElem_map, List.mem_append, List.mem_cons, List.not_mem_nil, or_false]
    by_cases e : l[i] = v
    · rw [if_pos (show l[i] ∈ vs ∨ l[i] = v from .inr e), e]
      rcases g.1 e with h3 | h3
      · by_cases h4 : (otherOf l v).toNat = i
        · rw [if_pos h4]
        · rw [if_neg h4, if_pos (by omega)]
      · rw [if_pos (by omega)]
    · have h3 : ¬ ((i : Int) = firstOf l v ∨ (i : Int) = otherOf l v) := fun h => e (g.2 h)
      rw [if_neg (by omega), if_neg (by omega)]
      simp [e]
theorem putPairs_row {l : List Int} (hp : isPairs l = true) : ∀ (ws vs : List Int), (∀ v ∈ ws, v ∈ numbersOf l) → (vs ++ ws).Nodup → putPairs (onlyOf l vs) (ws.map fun v => [v, firstOf l v, otherOf l v]) = some (onlyOf l (vs ++ ws))
  | [], vs, h, hn => by simp [putPairs]
  | v :: ws, vs, h, hn => by
    have hv := h v (by simp)
    have h2 := numbersOf_two (isPairs_ok hp) hv
    have hb := first_bounds h2
    have hl := first_lt h2
    obtain ⟨m1, m2, m3⟩ := (mem_numbersOf l v).1 hv
    have hvs : ¬ v ∈ vs := fun hx => by
      have := (List.nodup_append.1 hn).2.2 v hx v (by simp)
      exact this rfl
    have e1 : rd l (firstOf l v) = v := (rd_places h2 _ hb.1 hb.2.1).2 (.inl rfl)
    have e2 : rd l (otherOf l v) = v := (rd_places h2 _ hb.2.2.1 hb.2.2.2).2 (.inr rfl)
    have e : putPair (onlyOf l vs) [v, firstOf l v, otherOf l v] = some (onlyOf l (vs ++ [v])) := by
      unfold putPair
      have r0 : rd [v, firstOf l v, otherOf l v] 0 = v := rfl
      have r1 : rd [v, firstOf l v, otherOf l v] 1 = firstOf l v := rfl
      have r2 : rd [v, firstOf l v, otherOf l v] 2 = otherOf l v := rfl
      rw [r0, r1, r2, if_pos, onlyOf_put h2]
      refine ⟨rfl, ⟨m2, m3⟩, ?_, hb.1, by rw [onlyOf_length]; exact hb.2.2.2, hl, ?_, ?_⟩
      · intro hx
        obtain ⟨x, hx1, hx2⟩ := List.mem_map.1 hx
        by_cases hxv : x ∈ vs
        · rw [if_pos hxv] at hx2
          exact hvs (hx2 ▸ hxv)
        · rw [if_neg hxv] at hx2
          omega
      · rw [onlyOf_rd l vs _ hb.1 hb.2.1, e1, if_neg hvs]
      · rw [onlyOf_rd l vs _ hb.2.2.1 hb.2.2.2, e2, if_neg hvs]
    have ih := putPairs_row hp ws (vs ++ [v]) (fun x hx => h x (by simp [hx])) (by simpa using hn)
    rw [List.map_cons, putPairs, e]
    simp only [Option.bind_some]
    rw [ih]
    simp
theorem onlyOf_nil (l : List Int) : onlyOf l [] = List.replicate l.length 0 := by
  unfold onlyOf
  simp [List.map_const']
theorem onlyOf_all {l : List Int} (hp : isPairs l = true) : onlyOf l (numbersOf l) = l := by
  unfold onlyOf
  conv => rhs; rw [← List.map_id l]
  refine List.map_congr_left fun x hx => ?_
  have h1 := isRow_mem (isPairs_row hp) hx
  by_cases h : x ∈ numbersOf l
  · rw [if_pos h]; rfl
  · rw [if_neg h]
    have : ¬ (1 ≤ x ∧ x ≤ 20) := fun h2 => h ((mem_numbersOf l x).2 ⟨hx, h2.1, h2.2⟩)
    show (0 : Int) = x
    omega
theorem numbersOf_nodup (l : List Int) : (numbersOf l).Nodup := by
  have := numbersOf_sorted l
  exact this.imp (fun h => by omega)
/-- The pairs of a row tell the row. -/
theorem putPairs_pairsOf {l : List Int} (hp : isPairs l = true) : putPairs (List.replicate l.length 0) (pairsOf l) = some l := by
  rw [pairsOf_eq hp, ← onlyOf_nil]
  have := putPairs_row hp (numbersOf l) [] (fun v hv => hv) (by simpa using numbersOf_nodup l)
  rw [this, List.nil_append, onlyOf_all hp]
end Go.Proofs.Ytaohgllnoomaeaa.Fn
namespace Go.Proofs.Ytaohgllnoomaeaa.Fn
open Go.RowKit Go.Proofs.YtaohgllnoomaeaaW.PrintWords Go.Proofs.YtaohgllnoomaeaaW.PrintLast Go.Proofs.YtaohgllnoomaeaaW.PrintMore
set_option linter.unusedVariables false
set_option linter.unusedSimpArgs false
/-- A row that is filled in part. -/
structure PartRow (from_ : Int) (N : Nat) (s hole : Int) (row : List Int) (used : Nat) : Prop where
  zero : ∀ j : Nat, (j : Int) = hole → rd row j = 0
  rng : ∀ j : Nat, j < row.length → rd row j = 0 ∨ (from_ ≤ rd row j ∧ rd row j < from_ + N)
  off : ∀ i : Nat, i < N → used.testBit (from_.toNat + i) = false → ∀ j : Nat, j < row.length → rd row j ≠ from_ + i
  on : ∀ i : Nat, i < N → used.testBit (from_.toNat + i) = true → ∃ a : Nat, (a : Int) + (from_ + i) + s < row.length ∧ ∀ j : Nat, j < row.length → (rd row j = from_ + i ↔ (j = a ∨ (j : Int) = a + (from_ + i) + s))
/-- A row that is filled: each number has its two places, and there is no other hole. -/
structure GoodRow (from_ : Int) (N : Nat) (s hole : Int) (p : Nat) (r : List Int) : Prop where
  len : r.length = p
  zero : ∀ j : Nat, (j : Int) = hole → rd r j = 0
  rng : ∀ j : Nat, j < p → (j : Int) ≠ hole → from_ ≤ rd r j ∧ rd r j < from_ + N
  on : ∀ i : Nat, i < N → ∃ a : Nat, (a : Int) + (from_ + i) + s < p ∧ ∀ j : Nat, j < p → (rd r j = from_ + i ↔ (j = a ∨ (j : Int) = a + (from_ + i) + s))
theorem rd_out (l : List Int) (j : Nat) (h : l.length ≤ j) : rd l j = 0 := by
  unfold rd
  rw [Int.toNat_natCast, List.getD_eq_getElem?_getD, List.getElem?_eq_none h]
  rfl
theorem unset_none {used : Nat} : ∀ (m b : Nat), unset used b m = 0 → ∀ i, i < m → used.testBit (b + i) = true
  | 0, b, h, i, hi => by omega
  | m + 1, b, h, i, hi => by
    rw [unset] at h
    by_cases e : used.testBit b = true
    · rw [if_pos e] at h
      cases i with
      | zero => simpa using e
      | succ i =>
        have := unset_none (used := used) m (b + 1) (by omega) i (by omega)
        rw [show b + (i + 1) = b + 1 + i from by omega]
        exact this
    · rw [if_neg e] at h
      omega
theorem count_set1 {r : List Int} {a : Nat} {n : Int} (ha : a < r.length) (h0 : rd r a = -1) (hn : n ≠ -1) : (r.set a n).count (-1) + 1 = r.count (-1) := by
  have hmem : (-1 : Int) ∈ r := by
    rw [rd_nat r a ha] at h0
    rw [← h0]
    exact List.getElem_mem ha
  have hpos := List.count_pos_iff.2 hmem
  have h1 : (r.set a n).count (-1) = r.count (-1) - 1 := by
    rw [List.count_set ha]
    rw [rd_nat r a ha] at h0
    simp [h0, hn]
  omega
theorem freeH_none {hole : Int} {row : List Int} (hp : ∀ j : Nat, j < row.length → 0 ≤ rd row j) (h : seAt hole row = row.length) : (freeH hole row).count (-1) = 0 := by
  rw [List.count_eq_zero, freeH_full h]
  intro hm
  obtain ⟨j, hj, e⟩ := List.getElem_of_mem hm
  have := hp j hj
  rw [rd_nat row j hj, e] at this
  omega
/-- A number is put at two places. -/
theorem PartRow.put {from_ : Int} {N : Nat} {s hole : Int} {row : List Int} {used a i t : Nat} (hf : 1 ≤ from_) (hs : 0 ≤ s) (h : PartRow from_ N s hole row used) (hi : i < N) (hu : used.testBit (from_.toNat + i) = false) (ha : a < row.length) (ht : (t : Int) = a + (from_ + i) + s) (htl : t < row.length) (h0 : rd row a = 0) (h1 : rd row t = 0) (hah : (a : Int) ≠ hole) (hth : (t : Int) ≠ hole) :
    PartRow from_ N s hole ((row.set a (from_ + i)).set t (from_ + i)) (used ||| 2 ^ (from_.toNat + i)) := by
  have hr : ∀ j : Nat, j < row.length → rd ((row.set a (from_ + i)).set t (from_ + i)) j = if t = j then from_ + (i : Int) else if a = j then from_ + (i : Int) else rd row j := fun j hj => by
    rw [rd_set _ _ _ _ (by simpa using hj), rd_set _ _ _ _ hj]
  have hlen : ((row.set a (from_ + (i : Int))).set t (from_ + (i : Int))).length = row.length := by simp
  refine ⟨fun j hj => ?_, fun j hj => ?_, fun i' hi' hu' j hj => ?_, fun i' hi' hu' => ?_⟩
  · rcases Nat.lt_or_ge j row.length with hl | hl
    · rw [hr j hl, if_neg (by omega), if_neg (by omega)]
      exact h.zero j hj
    · exact rd_out _ _ (by rw [hlen]; exact hl)
  · rw [hlen] at hj
    rw [hr j hj]
    by_cases e : t = j
    · rw [if_pos e]
      exact .inr (by omega)
    · rw [if_neg e]
      by_cases e2 : a = j
      · rw [if_pos e2]
        exact .inr (by omega)
      · rw [if_neg e2]
        exact h.rng j hj
  · rw [hlen] at hj
    rw [Nat.testBit_or, Bool.or_eq_false_iff, Nat.testBit_two_pow] at hu'
    have hne : i' ≠ i := fun e => by simp [e] at hu'
    have := h.off i' hi' hu'.1 j hj
    rw [hr j hj]
    split
    · omega
    · split
      · omega
      · exact this
  · rw [hlen]
    by_cases hii : i' = i
    · subst hii
      refine ⟨a, by omega, fun j hj => ?_⟩
      rw [hr j hj]
      have := h.off i' hi' hu j hj
      by_cases e : t = j
      · rw [if_pos e]
        exact ⟨fun _ => .inr (by omega), fun _ => rfl⟩
      · rw [if_neg e]
        by_cases e2 : a = j
        · rw [if_pos e2]
          exact ⟨fun _ => .inl e2.symm, fun _ => rfl⟩
        · rw [if_neg e2]
          exact ⟨fun hx => absurd hx this, fun hx => by omega⟩
    · have hu2 : used.testBit (from_.toNat + i') = true := by
        rw [Nat.testBit_or, Nat.testBit_two_pow, decide_eq_false (show ¬ (from_.toNat + i = from_.toNat + i') from by omega), Bool.or_false] at hu'
        exact hu'
      obtain ⟨a', ha', hx⟩ := h.on i' hi' hu2
      refine ⟨a', ha', fun j hj => ?_⟩
      rw [hr j hj, ← hx j hj]
      by_cases e : t = j
      · subst e
        rw [if_pos rfl, h1]
        omega
      · rw [if_neg e]
        by_cases e2 : a = j
        · subst e2
          rw [if_pos rfl, h0]
          omega
        · rw [if_neg e2]
/-- Entries that are filled stay. -/
def Keeps (row x : List Int) : Prop := x.length = row.length ∧ ∀ j : Nat, rd row j ≠ 0 → rd x j = rd row j
theorem Keeps.set {row x : List Int} {a t : Nat} {n : Int} (h0 : rd row a = 0) (h1 : rd row t = 0) (hn : n ≠ 0) (h : Keeps ((row.set a n).set t n) x) : Keeps row x := by
  refine ⟨by simpa using h.1, fun j hj => ?_⟩
  have hl : j < row.length := by
    rcases Nat.lt_or_ge j row.length with hl | hl
    · exact hl
    · exact absurd (rd_out _ _ hl) hj
  have hr : rd ((row.set a n).set t n) j = rd row j := by
    rw [rd_set _ _ _ _ (by simpa using hl), rd_set _ _ _ _ hl, if_neg (fun e => hj (by rw [← e]; exact h1)), if_neg (fun e => hj (by rw [← e]; exact h0))]
  rw [h.2 j (by rw [hr]; exact hj), hr]
/-- What is found is of the kind. -/
theorem extsLoop_sound {from_ : Int} {N : Nat} {s hole : Int} {row : List Int} {used : Nat} {Q : List Int → Prop} (hf : 1 ≤ from_) (hs : 0 ≤ s) (h : PartRow from_ N s hole row used) (ha : seAt hole row < row.length)
    (rec : List Int → Nat → List (List Int)) (hrec : ∀ i : Nat, i < N → ∀ t : Nat, (t : Int) = (seAt hole row : Nat) + (from_ + i) + s → used.testBit (from_.toNat + i) = false → t < row.length → (t : Int) ≠ hole → rd row t = 0 → ∀ x ∈ rec ((row.set (seAt hole row) (from_ + i)).set t (from_ + i)) (used ||| 2 ^ (from_.toNat + i)), Q x) : ∀ (m i : Nat), i + m = N → ∀ x ∈ extsLoop rec hole s row used (seAt hole row) m (from_ + (i : Int)), Q x
  | 0, i, hm, x, hx => by simp [extsLoop] at hx
  | m + 1, i, hm, x, hx => by
    rw [extsLoop] at hx
    rcases List.mem_append.1 hx with hx | hx
    · split at hx
      · simp at hx
      · rename_i hp
        have e1 : (from_ + (i : Int)).toNat = from_.toNat + i := by omega
        simp only [not_or, e1] at hp
        have ht : 0 ≤ ((seAt hole row : Nat) : Int) + (from_ + i) + s := by omega
        rw [e1] at hx
        refine hrec i (by omega) (((seAt hole row : Nat) : Int) + (from_ + i) + s).toNat (by omega) (by simpa using hp.1) (by omega) (by omega) ?_ x hx
        rw [Int.toNat_of_nonneg ht]
        exact Decidable.not_not.1 hp.2.2.2
    · have e : from_ + (i : Int) + 1 = from_ + ((i + 1 : Nat) : Int) := by omega
      rw [e] at hx
      exact extsLoop_sound hf hs h ha rec hrec m (i + 1) (by omega) x hx
theorem exts_sound {from_ : Int} {N : Nat} {s hole : Int} {p : Nat} (hf : 1 ≤ from_) (hs : 0 ≤ s) : ∀ (k : Nat) (row : List Int) (used : Nat), row.length = p → PartRow from_ N s hole row used → (freeH hole row).count (-1) = 2 * unset used from_.toNat N → ∀ x ∈ exts from_ N s hole k row used, GoodRow from_ N s hole p x ∧ Keeps row x
  | 0, row, used, hl, h, hc, x, hx => by simp [exts] at hx
  | k + 1, row, used, hl, h, hc, x, hx => by
    have hsp := seAt_spec hole row
    have hpos : ∀ j : Nat, j < row.length → 0 ≤ rd row j := fun j hj => by rcases h.rng j hj with h1 | h1 <;> omega
    rw [exts] at hx
    split at hx
    · rename_i hfull
      rw [List.mem_singleton] at hx
      subst hx
      have hc0 := freeH_none hpos hfull
      have hall := unset_none (used := used) N from_.toNat (by omega)
      refine ⟨⟨hl, h.zero, fun j hj hjh => ?_, fun i hi => ?_⟩, rfl, fun j hj => rfl⟩
      · rcases hsp.2.1 j (by omega) with h1 | h1
        · rcases h.rng j (by omega) with h2 | h2
          · exact absurd h2 h1
          · exact h2
        · exact absurd h1 hjh
      · obtain ⟨a, ha, hx⟩ := h.on i hi (hall i hi)
        exact ⟨a, by omega, fun j hj => hx j (by omega)⟩
    · rename_i hfull
      have ha : seAt hole row < row.length := by omega
      have h0 := hsp.2.2 ha
      refine extsLoop_sound (Q := fun x => GoodRow from_ N s hole p x ∧ Keeps row x) hf hs h ha _ (fun i hi t ht hu htl hth hrt x hx => ?_) N 0 (by omega) x (by simpa using hx)
      have hput := h.put hf hs hi hu ha ht htl h0.1 hrt h0.2 hth
      have hcnt : (freeH hole ((row.set (seAt hole row) (from_ + i)).set t (from_ + i))).count (-1) = 2 * unset (used ||| 2 ^ (from_.toNat + i)) from_.toNat N := by
        have hn0 : from_ + (i : Int) ≠ 0 := by omega
        have hn1 : from_ + (i : Int) ≠ -1 := by omega
        have c1 := count_set1 (r := freeH hole row) (a := seAt hole row) (n := from_ + i) (by rw [freeH_len]; exact ha) (by rw [freeH_rd _ ha, if_pos h0]) hn1
        have hne : seAt hole row ≠ t := by omega
        have c2 := count_set1 (r := freeH hole (row.set (seAt hole row) (from_ + i))) (a := t) (n := from_ + i) (by rw [freeH_len]; simpa using htl) (by
          rw [freeH_rd _ (by simpa using htl), rd_set _ _ _ _ htl, if_neg hne, if_pos ⟨hrt, hth⟩]) hn1
        rw [freeH_set hn0] at c1 c2
        have c3 := unset_or hu N from_.toNat (by omega) (by omega)
        omega
      have ih := exts_sound hf hs k _ _ (by simpa using hl) hput hcnt x hx
      exact ⟨ih.1, ih.2.set h0.1 hrt (by omega)⟩
theorem extsLoop_has {rec : List Int → Nat → List (List Int)} {hole s : Int} {row : List Int} {used a : Nat} {from_ : Int} {i : Nat} {x : List Int} (hp : ¬ sePassed hole row used (from_ + (i : Int)) ((a : Int) + (from_ + (i : Int)) + s)) (hx : x ∈ rec ((row.set a (from_ + (i : Int))).set ((a : Int) + (from_ + (i : Int)) + s).toNat (from_ + (i : Int))) (used ||| 2 ^ (from_ + (i : Int)).toNat)) : ∀ (m i0 : Nat), i0 ≤ i → i < i0 + m → x ∈ extsLoop rec hole s row used a m (from_ + (i0 : Int))
  | 0, i0, h1, h2 => by omega
  | m + 1, i0, h1, h2 => by
    rw [extsLoop, List.mem_append]
    by_cases e : i0 = i
    · subst e
      rw [if_neg hp]
      exact .inl hx
    · have e2 : from_ + (i0 : Int) + 1 = from_ + ((i0 + 1 : Nat) : Int) := by omega
      rw [e2]
      exact .inr (extsLoop_has hp hx m (i0 + 1) (by omega) (by omega))
/-- Each row of the kind is found. -/
theorem exts_complete {from_ : Int} {N : Nat} {s hole : Int} {p : Nat} (hf : 1 ≤ from_) (hs : 0 ≤ s) {r : List Int} (hr : GoodRow from_ N s hole p r) : ∀ (k : Nat) (row : List Int) (used : Nat), row.length = p → PartRow from_ N s hole row used → Keeps row r → (freeH hole row).count (-1) < k → r ∈ exts from_ N s hole k row used
  | 0, row, used, hl, h, hk, hc => by omega
  | k + 1, row, used, hl, h, hk, hc => by
    have hsp := seAt_spec hole row
    rw [exts]
    split
    · rename_i hfull
      rw [List.mem_singleton]
      refine ext_rd (hr.len.trans hl.symm) (fun j hj => ?_)
      rw [hr.len] at hj
      by_cases h0 : rd row j = 0
      · rcases hsp.2.1 j (by omega) with h1 | h1
        · exact absurd h0 h1
        · rw [h0, hr.zero j h1]
      · exact hk.2 j h0
    · rename_i hfull
      have ha : seAt hole row < row.length := by omega
      have h0 := hsp.2.2 ha
      generalize hav : seAt hole row = a at *
      have hv := hr.rng a (by omega) h0.2
      obtain ⟨i, hi⟩ : ∃ i : Nat, rd r a = from_ + (i : Int) := ⟨(rd r a - from_).toNat, by omega⟩
      have hiN : i < N := by omega
      obtain ⟨b, hb, hbx⟩ := hr.on i hiN
      have hu : used.testBit (from_.toNat + i) = false := by
        by_cases hu : used.testBit (from_.toNat + i) = true
        · exfalso
          obtain ⟨c, hc2, hcx⟩ := h.on i hiN hu
          have g1 : rd row c = from_ + (i : Int) := (hcx c (by omega)).2 (.inl rfl)
          have g2 : rd row ((c : Int) + (from_ + i) + s) = from_ + (i : Int) := by
            have := (hcx ((c : Int) + (from_ + i) + s).toNat (by omega)).2 (.inr (by omega))
            rwa [Int.toNat_of_nonneg (by omega)] at this
          have k1 := hk.2 c (by omega)
          have k2 := hk.2 ((c : Int) + (from_ + i) + s).toNat (by rw [Int.toNat_of_nonneg (by omega)]; omega)
          rw [Int.toNat_of_nonneg (by omega)] at k2
          have q1 := (hbx c (by omega)).1 (by omega)
          have q2 := (hbx ((c : Int) + (from_ + i) + s).toNat (by omega)).1 (by rw [Int.toNat_of_nonneg (by omega)]; omega)
          have q3 := (hbx a (by omega)).1 hi
          have hac : a = c ∨ (a : Int) = c + (from_ + i) + s := by omega
          have := (hcx a (by omega)).2 hac
          omega
        · simpa using hu
      have hoff := h.off i hiN hu
      have hba : b = a := by
        rcases (hbx a (by omega)).1 hi with e | e
        · exact e.symm
        · exfalso
          have hbr : rd r b = from_ + (i : Int) := (hbx b (by omega)).2 (.inl rfl)
          rcases hsp.2.1 b (by omega) with h1 | h1
          · have := hk.2 b h1
            exact hoff b (by omega) (by omega)
          · have := hr.zero b h1
            omega
      subst hba
      obtain ⟨t, ht⟩ : ∃ t : Nat, (t : Int) = (b : Int) + (from_ + i) + s := ⟨((b : Int) + (from_ + i) + s).toNat, by omega⟩
      have htr : rd r t = from_ + (i : Int) := (hbx t (by omega)).2 (.inr ht)
      have ht0 : rd row t = 0 := by
        by_cases e : rd row t = 0
        · exact e
        · have := hk.2 t e
          exact absurd (this.symm.trans htr) (hoff t (by omega))
      have hth : (t : Int) ≠ hole := fun e => by have := hr.zero t e; omega
      have hn0 : from_ + (i : Int) ≠ 0 := by omega
      have hn1 : from_ + (i : Int) ≠ -1 := by omega
      have e1 : (from_ + (i : Int)).toNat = from_.toNat + i := by omega
      have hput := h.put hf hs hiN hu ha ht (by omega) h0.1 ht0 h0.2 hth
      have hkeep : Keeps ((row.set b (from_ + i)).set t (from_ + i)) r := by
        refine ⟨by simp [hr.len, hl], fun j hj => ?_⟩
        have hjl : j < row.length := by
          rcases Nat.lt_or_ge j row.length with hjl | hjl
          · exact hjl
          · exact absurd (rd_out _ _ (by simpa using hjl)) hj
        rw [rd_set _ _ _ _ (by simpa using hjl), rd_set _ _ _ _ hjl] at hj ⊢
        by_cases e : t = j
        · subst e
          rw [if_pos rfl]
          exact htr
        · rw [if_neg e] at hj ⊢
          by_cases e2 : b = j
          · subst e2
            rw [if_pos rfl]
            exact hi
          · rw [if_neg e2] at hj ⊢
            exact hk.2 j hj
      have hcnt : (freeH hole ((row.set b (from_ + i)).set t (from_ + i))).count (-1) < k := by
        have hrow : rd (freeH hole row) b = -1 := by rw [freeH_rd _ ha, if_pos h0]
        have := count_free (r := freeH hole row) (a := b) (n := from_ + i) t (by rw [freeH_len]; exact ha) hrow hn1
        rw [freeH_set hn0, freeH_set hn0] at this
        omega
      have hmem := exts_complete hf hs hr k _ _ (by simpa using hl) hput hkeep hcnt
      have hp1 : ¬ sePassed hole row used (from_ + (i : Int)) ((b : Int) + (from_ + (i : Int)) + s) := by
        simp only [not_or, e1, ← ht]
        exact ⟨by simpa using hu, by omega, hth, fun hx => hx ht0⟩
      have hp2 : r ∈ exts from_ N s hole k ((row.set b (from_ + (i : Int))).set ((b : Int) + (from_ + (i : Int)) + s).toNat (from_ + (i : Int))) (used ||| 2 ^ (from_ + (i : Int)).toNat) := by
        rw [e1, ← ht]
        exact hmem
      have hp3 := extsLoop_has hp1 hp2 N 0 (by omega) (by omega)
      simpa using hp3
def LexLt (x y : List Int) : Prop := ∃ i : Nat, (∀ j : Nat, j < i → rd x j = rd y j) ∧ rd x i < rd y i ∧ i < x.length ∧ i < y.length
theorem LexLt.ne {x y : List Int} (h : LexLt x y) : x ≠ y := by
  rintro rfl
  obtain ⟨i, _, h2, _⟩ := h
  omega
/-- What the loop finds from a number on has that number or a greater one at the place. -/
theorem extsLoop_sorted {from_ : Int} {N : Nat} {s hole : Int} {row : List Int} {used : Nat} (hf : 1 ≤ from_) (hs : 0 ≤ s) (ha : seAt hole row < row.length) (hz : ∀ j : Nat, (j : Int) = hole → rd row j = 0)
    (rec : List Int → Nat → List (List Int))
    (hS : ∀ i : Nat, i < N → ∀ t : Nat, (t : Int) = (seAt hole row : Nat) + (from_ + i) + s → used.testBit (from_.toNat + i) = false → t < row.length → (t : Int) ≠ hole → rd row t = 0 → (rec ((row.set (seAt hole row) (from_ + i)).set t (from_ + i)) (used ||| 2 ^ (from_.toNat + i))).Pairwise LexLt ∧ ∀ x ∈ rec ((row.set (seAt hole row) (from_ + i)).set t (from_ + i)) (used ||| 2 ^ (from_.toNat + i)), Keeps ((row.set (seAt hole row) (from_ + i)).set t (from_ + i)) x ∧ ∀ j : Nat, (j : Int) = hole → rd x j = 0) : ∀ (m i : Nat), i + m = N → (extsLoop rec hole s row used (seAt hole row) m (from_ + (i : Int))).Pairwise LexLt ∧ ∀ x ∈ extsLoop rec hole s row used (seAt hole row) m (from_ + (i : Int)), x.length = row.length ∧ from_ + (i : Int) ≤ rd x (seAt hole row) ∧ ∀ j : Nat, j < seAt hole row → rd x j = rd row j
  | 0, i, hm => by simp [extsLoop]
  | m + 1, i, hm => by
    have ih := extsLoop_sorted hf hs ha hz rec hS m (i + 1) (by omega)
    have e2 : from_ + (i : Int) + 1 = from_ + ((i + 1 : Nat) : Int) := by omega
    have e1 : (from_ + (i : Int)).toNat = from_.toNat + i := by omega
    have hsp := seAt_spec hole row
    have h0 := hsp.2.2 ha
    rw [extsLoop, e2]
    have hfirst : ((if sePassed hole row used (from_ + (i : Int)) ((seAt hole row : Nat) + (from_ + (i : Int)) + s) then [] else rec ((row.set (seAt hole row) (from_ + (i : Int))).set (((seAt hole row : Nat) : Int) + (from_ + (i : Int)) + s).toNat (from_ + (i : Int))) (used ||| 2 ^ (from_ + (i : Int)).toNat)) : List (List Int)).Pairwise LexLt ∧ ∀ x ∈ (if sePassed hole row used (from_ + (i : Int)) ((seAt hole row : Nat) + (from_ + (i : Int)) + s) then [] else rec ((row.set (seAt hole row) (from_ + (i : Int))).set (((seAt hole row : Nat) : Int) + (from_ + (i : Int)) + s).toNat (from_ + (i : Int))) (used ||| 2 ^ (from_ + (i : Int)).toNat) : List (List Int)), x.length = row.length ∧ rd x (seAt hole row) = from_ + (i : Int) ∧ ∀ j : Nat, j < seAt hole row → rd x j = rd row j := by
      split
      · simp
      · rename_i hp
        simp only [not_or, e1] at hp
        have ht : 0 ≤ ((seAt hole row : Nat) : Int) + (from_ + i) + s := by omega
        obtain ⟨t, htt⟩ : ∃ t : Nat, (t : Int) = ((seAt hole row : Nat) : Int) + (from_ + i) + s := ⟨_, Int.toNat_of_nonneg ht⟩
        rw [e1]
        simp only [← htt, Int.toNat_natCast] at hp ⊢
        obtain ⟨g1, g2⟩ := hS i (by omega) t htt (by simpa using hp.1) (by omega) (by omega) (Decidable.not_not.1 hp.2.2.2)
        refine ⟨g1, fun x hx => ?_⟩
        obtain ⟨hk, hh⟩ := g2 x hx
        have hr : ∀ j : Nat, j < row.length → rd ((row.set (seAt hole row) (from_ + i)).set t (from_ + i)) j = if t = j then from_ + (i : Int) else if seAt hole row = j then from_ + (i : Int) else rd row j := fun j hj => by
          rw [rd_set _ _ _ _ (by simpa using hj), rd_set _ _ _ _ hj]
        refine ⟨by simpa using hk.1, ?_, fun j hj => ?_⟩
        · have := hr _ ha
          rw [if_neg (by omega), if_pos rfl] at this
          rw [hk.2 _ (by omega), this]
        · have := hr j (by omega)
          rw [if_neg (by omega), if_neg (by omega)] at this
          rcases hsp.2.1 j hj with h1 | h1
          · rw [hk.2 j (by omega), this]
          · rw [hh j h1, hz j h1]
    refine ⟨List.pairwise_append.2 ⟨hfirst.1, ih.1, fun x hx y hy => ?_⟩, fun x hx => ?_⟩
    · obtain ⟨x1, x2, x3⟩ := hfirst.2 x hx
      obtain ⟨y1, y2, y3⟩ := ih.2 y hy
      exact ⟨seAt hole row, fun j hj => (x3 j hj).trans (y3 j hj).symm, by omega, by omega, by omega⟩
    · rcases List.mem_append.1 hx with hx | hx
      · obtain ⟨x1, x2, x3⟩ := hfirst.2 x hx
        exact ⟨x1, by omega, x3⟩
      · obtain ⟨x1, x2, x3⟩ := ih.2 x hx
        exact ⟨x1, by omega, x3⟩
theorem exts_sorted {from_ : Int} {N : Nat} {s hole : Int} {p : Nat} (hf : 1 ≤ from_) (hs : 0 ≤ s) : ∀ (k : Nat) (row : List Int) (used : Nat), row.length = p → PartRow from_ N s hole row used → (freeH hole row).count (-1) = 2 * unset used from_.toNat N → (exts from_ N s hole k row used).Pairwise LexLt
  | 0, row, used, hl, h, hc => by simp [exts]
  | k + 1, row, used, hl, h, hc => by
    have hsp := seAt_spec hole row
    rw [exts]
    split
    · simp
    · rename_i hfull
      have ha : seAt hole row < row.length := by omega
      have h0 := hsp.2.2 ha
      have := extsLoop_sorted (N := N) (used := used) hf hs ha h.zero (exts from_ N s hole k) (fun i hi t ht hu htl hth hrt => ?_) N 0 (by omega)
      · simpa using this.1
      · have hput := h.put hf hs hi hu ha ht htl h0.1 hrt h0.2 hth
        have hcnt : (freeH hole ((row.set (seAt hole row) (from_ + i)).set t (from_ + i))).count (-1) = 2 * unset (used ||| 2 ^ (from_.toNat + i)) from_.toNat N := by
          have hn0 : from_ + (i : Int) ≠ 0 := by omega
          have hn1 : from_ + (i : Int) ≠ -1 := by omega
          have c1 := count_set1 (r := freeH hole row) (a := seAt hole row) (n := from_ + i) (by rw [freeH_len]; exact ha) (by rw [freeH_rd _ ha, if_pos h0]) hn1
          have hne : seAt hole row ≠ t := by omega
          have c2 := count_set1 (r := freeH hole (row.set (seAt hole row) (from_ + i))) (a := t) (n := from_ + i) (by rw [freeH_len]; simpa using htl) (by
            rw [freeH_rd _ (by simpa using htl), rd_set _ _ _ _ htl, if_neg hne, if_pos ⟨hrt, hth⟩]) hn1
          rw [freeH_set hn0] at c1 c2
          have c3 := unset_or hu N from_.toNat (by omega) (by omega)
          omega
        refine ⟨exts_sorted (p := p) hf hs k _ _ (by simpa using hl) hput hcnt, fun x hx => ?_⟩
        have hsnd := exts_sound (p := p) hf hs k _ _ (by simpa using hl) hput hcnt x hx
        exact ⟨hsnd.2, hsnd.1.zero⟩
/-- All rows with the numbers from_, .., N of them, at so many places, in order. -/
def rowsOf (p N : Nat) (from_ s hole : Int) : List (List Int) := exts from_ N s hole (p + 1) (List.replicate p 0) 0
theorem zeros_at (p j : Nat) : rd (List.replicate p (0 : Int)) (j : Int) = 0 := by
  unfold rd
  rw [Int.toNat_natCast, List.getD_eq_getElem?_getD, List.getElem?_replicate]
  split <;> rfl
theorem part_start (p N : Nat) (from_ s hole : Int) (hf : 1 ≤ from_) : PartRow from_ N s hole (List.replicate p 0) 0 :=
  ⟨fun j _ => zeros_at p j, fun j _ => .inl (zeros_at p j), fun i _ _ j _ => by rw [zeros_at]; omega, fun i _ h => by simp at h⟩
theorem freeH_start (p : Nat) (hole : Int) (hh : hole < p) : (freeH hole (List.replicate p 0)).count (-1) = if 0 ≤ hole then p - 1 else p := by
  by_cases h : 0 ≤ hole
  · obtain ⟨h', rfl⟩ : ∃ h' : Nat, hole = (h' : Int) := ⟨hole.toNat, by omega⟩
    have e : freeH (h' : Int) (List.replicate p 0) = (List.replicate p (-1)).set h' 0 := by
      refine ext_rd (by simp [freeH_len]) (fun j hj => ?_)
      rw [freeH_len, List.length_replicate] at hj
      rw [freeH_rd j (by simpa using hj), zeros_at, rd_set _ _ _ _ (by simpa using hj)]
      have h1 : rd (List.replicate p (-1)) (j : Int) = -1 := by
        rw [rd_nat _ j (by simpa using hj)]
        simp
      rw [h1]
      by_cases e : h' = j
      · subst e
        simp
      · rw [if_pos ⟨rfl, by omega⟩, if_neg e]
    rw [e, List.count_set (by simpa using hh), List.count_replicate, if_pos h]
    simp
  · have e : freeH hole (List.replicate p 0) = List.replicate p (-1) := by
      refine ext_rd (by simp [freeH_len]) (fun j hj => ?_)
      rw [freeH_len, List.length_replicate] at hj
      rw [freeH_rd j (by simpa using hj), zeros_at, if_pos ⟨rfl, by omega⟩, rd_nat _ j (by simpa using hj)]
      simp
    rw [e, List.count_replicate, if_neg h]
    simp
/-- The places are just those for all numbers and the hole. -/
def PlacesFit (p N : Nat) (hole : Int) : Prop := hole < p ∧ (p : Int) = 2 * N + (if 0 ≤ hole then 1 else 0)
theorem PlacesFit.count {p N : Nat} {hole : Int} (h : PlacesFit p N hole) : (freeH hole (List.replicate p 0)).count (-1) = 2 * N := by
  obtain ⟨h1, h2⟩ := h
  rw [freeH_start p hole h1]
  split at h2 <;> rename_i h3
  · rw [if_pos h3]
    omega
  · rw [if_neg h3]
    omega
theorem rowsOf_good {p N : Nat} {from_ s hole : Int} (hp : PlacesFit p N hole) (hf : 1 ≤ from_) (hs : 0 ≤ s) (x : List Int) : x ∈ rowsOf p N from_ s hole ↔ GoodRow from_ N s hole p x := by
  have hc := hp.count
  constructor
  · intro h
    exact (exts_sound (p := p) hf hs _ _ _ (by simp) (part_start p N from_ s hole hf) (by rw [hc, unset_zero]) x h).1
  · intro h
    refine exts_complete hf hs h _ _ _ (by simp) (part_start p N from_ s hole hf) ⟨by simp [h.len], fun j hj => absurd (zeros_at p j) hj⟩ ?_
    rw [hc]
    have := hp.2
    split at this <;> omega
theorem rowsOf_sorted {p N : Nat} {from_ s hole : Int} (hp : PlacesFit p N hole) (hf : 1 ≤ from_) (hs : 0 ≤ s) : (rowsOf p N from_ s hole).Pairwise LexLt :=
  exts_sorted (p := p) hf hs _ _ _ (by simp) (part_start p N from_ s hole hf) (by rw [hp.count, unset_zero])
theorem rowsOf_len (p N : Nat) (from_ s hole : Int) (hf : 1 ≤ from_) : (rowsOf p N from_ s hole).length ≤ fct N := by
  have h1 := exts_len from_ N s hole hf (p + 1) (List.replicate p 0) 0
  rw [unset_zero] at h1
  exact h1
end Go.Proofs.Ytaohgllnoomaeaa.Fn
namespace Go.Proofs.Ytaohgllnoomaeaa.Fn
open Go.RowKit Go.Proofs.YtaohgllnoomaeaaW.PrintWords Go.Proofs.YtaohgllnoomaeaaW.PrintLast Go.Proofs.YtaohgllnoomaeaaW.PrintMore
set_option linter.unusedVariables false
set_option linter.unusedSimpArgs false
theorem pw_ext : ∀ (l m : List Int), l.Pairwise (· < ·) → m.Pairwise (· < ·) → (∀ x, x ∈ l ↔ x ∈ m) → l = m
  | [], [], _, _, _ => rfl
  | [], y :: m, _, _, h => absurd ((h y).2 (by simp)) (by simp)
  | x :: l, [], _, _, h => absurd ((h x).1 (by simp)) (by simp)
  | x :: l, y :: m, hl, hm, h => by
    obtain ⟨l1, l2⟩ := List.pairwise_cons.1 hl
    obtain ⟨m1, m2⟩ := List.pairwise_cons.1 hm
    have e : x = y := by
      rcases List.mem_cons.1 ((h x).1 (by simp)) with e | e
      · exact e
      · rcases List.mem_cons.1 ((h y).2 (by simp)) with e2 | e2
        · exact e2.symm
        · have := m1 x e
          have := l1 y e2
          omega
    subst e
    congr 1
    refine pw_ext l m l2 m2 (fun z => ⟨fun hz => ?_, fun hz => ?_⟩)
    · rcases List.mem_cons.1 ((h z).1 (by simp [hz])) with e | e
      · have := l1 z hz
        omega
      · exact e
    · rcases List.mem_cons.1 ((h z).2 (by simp [hz])) with e | e
      · have := m1 z hz
        omega
      · exact e
theorem numbersUp_sorted (a : Int) (n : Nat) : (numbersUp a n).Pairwise (· < ·) := by
  unfold numbersUp
  rw [List.pairwise_map]
  exact List.pairwise_lt_range.imp (fun h => by omega)
theorem mem_up {a x : Int} {n : Nat} : x ∈ numbersUp a n ↔ a ≤ x ∧ x < a + n := by
  refine ⟨mem_numbersUp, fun h => List.mem_map.2 ⟨(x - a).toNat, List.mem_range.2 (by omega), by omega⟩⟩
theorem fromOf_append (k : Int) : ∀ (l : List Int) (i : Nat) (x : Int), fromOf k i (l ++ [x]) = (fromOf k i l && decide (x = k + ((i + l.length : Nat) : Int)))
  | [], i, x => by simp [fromOf]
  | y :: l, i, x => by
    rw [List.cons_append, fromOf, fromOf, fromOf_append k l (i + 1) x, List.length_cons, show i + 1 + l.length = i + (l.length + 1) from by omega, Bool.and_assoc]
theorem fromOf_up (k : Int) : ∀ n : Nat, fromOf k 0 (numbersUp k n) = true
  | 0 => rfl
  | n + 1 => by
    rw [numbersUp_succ, fromOf_append, fromOf_up k n, numbersUp_len]
    simp
/-- A row of the kind, told by its pairs. -/
def rowOk (p N : Nat) (from_ s hole : Int) (r : List Int) : Bool := decide (r.length = p) && isPairs r && fitsAt r s && decide (numbersOf r = numbersUp from_ N) && decide (placesOf r 0 = if 0 ≤ hole then [hole] else [])
structure RowOk (p N : Nat) (from_ s hole : Int) (r : List Int) : Prop where
  len : r.length = p
  pairs : isPairs r = true
  fits : fitsAt r s = true
  nums : numbersOf r = numbersUp from_ N
  holes : placesOf r 0 = if 0 ≤ hole then [hole] else []
theorem rowOk_iff {p N : Nat} {from_ s hole : Int} {r : List Int} : rowOk p N from_ s hole r = true ↔ RowOk p N from_ s hole r := by
  unfold rowOk
  simp only [Bool.and_eq_true, decide_eq_true_eq]
  exact ⟨fun ⟨⟨⟨⟨a, b⟩, c⟩, d⟩, e⟩ => ⟨a, b, c, d, e⟩, fun ⟨a, b, c, d, e⟩ => ⟨⟨⟨⟨a, b⟩, c⟩, d⟩, e⟩⟩
/-- What a kind of rows asks of its measures. -/
structure KindFit (p N : Nat) (from_ s hole : Int) : Prop where
  fit : PlacesFit p N hole
  f1 : 1 ≤ from_
  f2 : from_ + N ≤ 21
  s1 : 0 ≤ s
  s2 : s ≤ 1
  p1 : p ≤ 40
  h1 : -1 ≤ hole
theorem good_place {p N : Nat} {from_ s hole : Int} {r : List Int} (k : KindFit p N from_ s hole) (h : GoodRow from_ N s hole p r) {i : Nat} (hi : i < N) : ∃ a : Nat, placesOf r (from_ + i) = [(a : Int), (a : Int) + (from_ + i) + s] ∧ (a : Int) + (from_ + i) + s < p := by
  obtain ⟨a, ha, hx⟩ := h.on i hi
  have := k.f1
  have := k.s1
  refine ⟨a, pw_ext _ _ (places_sorted _ r 0) (by simp; omega) (fun q => ?_), ha⟩
  show q ∈ placesOf r (from_ + i) ↔ _
  rw [mem_placesOf, h.len]
  simp only [List.mem_cons, List.not_mem_nil, or_false]
  constructor
  · rintro ⟨h0, h1, h2⟩
    have := (hx q.toNat (by omega)).1 (by rw [Int.toNat_of_nonneg h0]; exact h2)
    omega
  · intro hq
    have h0 : 0 ≤ q := by omega
    have := (hx q.toNat (by omega)).2 (by omega)
    rw [Int.toNat_of_nonneg h0] at this
    exact ⟨h0, by omega, this⟩
theorem goodRow_ok {p N : Nat} {from_ s hole : Int} {r : List Int} (k : KindFit p N from_ s hole) (h : GoodRow from_ N s hole p r) : RowOk p N from_ s hole r := by
  have kf := k.f1
  have kf2 := k.f2
  have ks := k.s1
  have ks2 := k.s2
  have kp := k.p1
  have kh := k.h1
  have hv : ∀ x ∈ r, x = 0 ∨ (from_ ≤ x ∧ x < from_ + N) := fun x hx => by
    obtain ⟨j, hj, e⟩ := List.getElem_of_mem hx
    have hr := rd_nat r j hj
    rw [e] at hr
    by_cases hh : (j : Int) = hole
    · left
      rw [← hr]
      exact h.zero j hh
    · right
      rw [← hr]
      exact h.rng j (by rw [← h.len]; exact hj) hh
  have hrow : isRow r = true := by
    unfold isRow
    rw [Bool.and_eq_true, decide_eq_true_eq, List.all_eq_true]
    refine ⟨by rw [h.len]; exact kp, fun x hx => ?_⟩
    have := hv x hx
    simp only [Bool.and_eq_true, decide_eq_true_eq]
    omega
  have hnum : ∀ v : Int, v ∈ numbersOf r ↔ v ∈ numbersUp from_ N := fun v => by
    rw [mem_numbersOf, mem_up]
    constructor
    · rintro ⟨h1, h2, h3⟩
      have := hv v h1
      omega
    · rintro ⟨h1, h2⟩
      obtain ⟨i, rfl⟩ : ∃ i : Nat, v = from_ + (i : Int) := ⟨(v - from_).toNat, by omega⟩
      obtain ⟨a, ha, _⟩ := good_place k h (i := i) (by omega)
      have hc := placesOf_count r (from_ + i)
      rw [ha] at hc
      refine ⟨List.count_pos_iff.1 ?_, by omega, by omega⟩
      rw [← hc]
      simp
  have hnums : numbersOf r = numbersUp from_ N := pw_ext _ _ (numbersOf_sorted r) (numbersUp_sorted from_ N) hnum
  have hpairs : pairsOk r = true := by
    rw [pairsOk_eq, List.all_eq_true]
    intro q hq
    have hq := List.mem_range'_1.1 hq
    rw [placesOf_count]
    by_cases hm : (q : Int) ∈ numbersUp from_ N
    · have hb := mem_up.1 hm
      obtain ⟨i, hi⟩ : ∃ i : Nat, (q : Int) = from_ + (i : Int) := ⟨((q : Int) - from_).toNat, by omega⟩
      obtain ⟨a, ha, _⟩ := good_place k h (i := i) (by omega)
      have hc := placesOf_count r (from_ + i)
      rw [ha] at hc
      rw [hi, ← hc]
      rfl
    · have : r.count (q : Int) = 0 := by
        rw [List.count_eq_zero]
        intro hx
        exact hm ((hnum _).1 ((mem_numbersOf r _).2 ⟨hx, by omega, by omega⟩))
      rw [this]
      rfl
  refine ⟨h.len, by unfold isPairs; rw [hrow, hpairs]; rfl, ?_, hnums, ?_⟩
  · rw [fitsAt_eq r s hpairs, List.all_eq_true]
    intro v hm
    rw [hnums] at hm
    have hb := mem_up.1 hm
    obtain ⟨i, rfl⟩ : ∃ i : Nat, v = from_ + (i : Int) := ⟨(v - from_).toNat, by omega⟩
    obtain ⟨a, ha, hap⟩ := good_place k h (i := i) (by omega)
    rw [ha, beq_iff_eq]
    have e0 : rd [(a : Int), (a : Int) + (from_ + i) + s] 0 = a := rfl
    have e1 : rd [(a : Int), (a : Int) + (from_ + i) + s] 1 = (a : Int) + (from_ + i) + s := rfl
    rw [e0, e1]
    congr 1
    omega
  · refine pw_ext _ _ (places_sorted 0 r 0) (by split <;> simp) (fun q => ?_)
    show q ∈ placesOf r 0 ↔ _
    rw [mem_placesOf, h.len]
    constructor
    · rintro ⟨h0, h1, h2⟩
      have hq : q = hole := by
        by_cases e : q = hole
        · exact e
        · have := h.rng q.toNat (by omega) (by omega)
          rw [Int.toNat_of_nonneg h0] at this
          omega
      rw [if_pos (by omega), hq]
      simp
    · intro hq
      have hlt := k.fit.1
      split at hq
      · rename_i h0
        rw [List.mem_singleton] at hq
        subst hq
        have := h.zero q.toNat (by omega)
        rw [Int.toNat_of_nonneg h0] at this
        exact ⟨h0, by omega, this⟩
      · simp at hq
theorem rowOk_good {p N : Nat} {from_ s hole : Int} {r : List Int} (k : KindFit p N from_ s hole) (h : RowOk p N from_ s hole r) : GoodRow from_ N s hole p r := by
  have kf := k.f1
  have kf2 := k.f2
  have ks := k.s1
  have ks2 := k.s2
  have kh := k.h1
  refine ⟨h.len, fun j hj => ?_, fun j hj hne => ?_, fun i hi => ?_⟩
  · rcases Nat.lt_or_ge j r.length with hl | hl
    · have hm : (j : Int) ∈ placesOf r 0 := by
        rw [h.holes, if_pos (by omega), hj]
        simp
      exact ((mem_placesOf r 0 _).1 hm).2.2
    · exact rd_out _ _ hl
  · have hl : j < r.length := by rw [h.len]; exact hj
    have hmem : rd r j ∈ r := by
      rw [rd_nat r j hl]
      exact List.getElem_mem hl
    have hb := isRow_mem (isPairs_row h.pairs) hmem
    have h0 : ¬ rd r j = 0 := fun e => by
      have hm : (j : Int) ∈ placesOf r 0 := (mem_placesOf r 0 _).2 ⟨by omega, by omega, e⟩
      rw [h.holes] at hm
      split at hm
      · exact hne (List.mem_singleton.1 hm)
      · simp at hm
    have := (mem_numbersOf r (rd r j)).2 ⟨hmem, by omega, hb.2⟩
    rw [h.nums] at this
    exact mem_up.1 this
  · have hv : from_ + (i : Int) ∈ numbersOf r := by
      rw [h.nums]
      exact mem_up.2 (by omega)
    have h2 := numbersOf_two (isPairs_ok h.pairs) hv
    have hb := first_bounds h2
    have ho := fits_other h.pairs ⟨ks, ks2⟩ h.fits hv
    rw [h.len] at hb
    refine ⟨(firstOf r (from_ + i)).toNat, by omega, fun j hj => ?_⟩
    rw [rd_places h2 j (by omega) (by rw [h.len]; omega)]
    omega
theorem rowsOf_ok {p N : Nat} {from_ s hole : Int} (k : KindFit p N from_ s hole) (x : List Int) : x ∈ rowsOf p N from_ s hole ↔ RowOk p N from_ s hole x :=
  (rowsOf_good k.fit k.f1 k.s1 x).trans ⟨goodRow_ok k, rowOk_good k⟩
theorem fits_back {l : List Int} {s : Int} (hp : isPairs l = true) (hs : 0 ≤ s ∧ s ≤ 1) (h : fitsAt l s = true) : fitsAt l.reverse s = true := by
  have hp' : isPairs l.reverse = true := by rw [isPairs_back]; exact hp
  rw [fitsAt_eq _ s (isPairs_ok hp'), List.all_eq_true]
  intro v hv
  rw [numbersOf_back] at hv
  have h2 := numbersOf_two (isPairs_ok hp) hv
  have ho := fits_other hp hs h hv
  have hb := back_two h2
  unfold firstOf otherOf at hb ho
  rw [hb.1, hb.2, ho, beq_iff_eq]
  congr 1
  omega
/-- A row backwards is of the kind with the hole at the other side. -/
theorem RowOk.back {p N : Nat} {from_ s hole : Int} {r : List Int} (hs : 0 ≤ s ∧ s ≤ 1) (h : RowOk p N from_ s hole r) : RowOk p N from_ s (if 0 ≤ hole then (p : Int) - 1 - hole else hole) r.reverse := by
  refine ⟨by rw [List.length_reverse]; exact h.len, by rw [isPairs_back]; exact h.pairs, fits_back h.pairs hs h.fits, by rw [numbersOf_back]; exact h.nums, ?_⟩
  rw [back_places, h.holes, h.len]
  by_cases h0 : 0 ≤ hole
  · have hm : hole ∈ placesOf r 0 := by rw [h.holes, if_pos h0]; simp
    have hb := (mem_placesOf r 0 hole).1 hm
    rw [h.len] at hb
    rw [if_pos h0, if_pos h0, if_pos (by omega)]
    rfl
  · rw [if_neg h0, if_neg h0, if_neg h0]
    rfl
/-- Where there is a row, the parities are these. -/
theorem RowOk.parity {p N : Nat} {from_ s hole : Int} {r : List Int} (hs : 0 ≤ s ∧ s ≤ 1) (h : RowOk p N from_ s hole r) : (tri N + (from_ + s) * N + (if 0 ≤ hole then hole else 0)) % 2 = tri p % 2 := by
  have := row_parity (k := from_) h.pairs hs h.fits (by rw [h.nums]; exact fromOf_up from_ N)
  rw [h.nums, numbersUp_len, h.len, h.holes] at this
  by_cases h0 : 0 ≤ hole
  · rw [if_pos h0] at this ⊢
    simpa using this
  · rw [if_neg h0] at this ⊢
    simpa using this
end Go.Proofs.Ytaohgllnoomaeaa.Fn
namespace Go.Proofs.Ytaohgllnoomaeaa.Fn
open Go.RowKit Go.Proofs.YtaohgllnoomaeaaW.PrintWords Go.Proofs.YtaohgllnoomaeaaW.PrintLast Go.Proofs.YtaohgllnoomaeaaW.PrintMore
set_option linter.unusedVariables false
set_option linter.unusedSimpArgs false
theorem rowsRun_rows {p N : Nat} {d s hole : Int} (hp : PlacesFit p N hole) (hd : 1 ≤ d) (hs : 0 ≤ s) (hh : -1 ≤ hole) {σ : Type} (each : σ → List Int → Option (σ × Bool)) (st : σ) : rowsRun p N d s hole each st = foldE each st (rowsOf p N d s hole) := by
  have h1 := hp.1
  have e1 : rowStart p hole = freeH hole (List.replicate p 0) := by
    refine ext_rd (by rw [rowStart_len, freeH_len, List.length_replicate]) (fun j hj => ?_)
    rw [rowStart_len] at hj
    have hm : rd (List.replicate p (-1)) (j : Int) = -1 := by
      rw [rd_nat _ j (by simpa using hj)]
      simp
    rw [freeH_rd j (by simpa using hj), zeros_at]
    unfold rowStart
    by_cases h0 : 0 ≤ hole
    · rw [if_pos h0, rd_set _ _ _ _ (by simpa using hj), hm]
      by_cases e : hole.toNat = j
      · have e2 : (j : Int) = hole := by omega
        simp [e, e2]
      · have e2 : ¬ (j : Int) = hole := by omega
        simp [e, e2]
    · have e2 : ¬ (j : Int) = hole := by omega
      rw [if_neg h0, hm]
      simp [e2]
  have e2 : numbersUp d N = leftH d N 0 := by simp [numbersUp, leftH]
  rw [rowsRun, e1, e2, fillF_exts each _ d s hole N (fun j => by
    unfold rd
    rw [List.getD_eq_getElem?_getD, List.getElem?_replicate]
    split <;> rfl) hd hs _ st _ 0 (by
      have := List.count_le_length (a := (-1 : Int)) (l := freeH hole (List.replicate p 0))
      rw [freeH_len, List.length_replicate] at this
      omega) (fun j hj => by rw [zeros_at]; omega)]
  rfl
theorem fct_nine {n : Nat} (h : n ≤ 9) : fct n ≤ 362880 := by
  match n, h with
  | 0, _ | 1, _ | 2, _ | 3, _ | 4, _ | 5, _ | 6, _ | 7, _ | 8, _ | 9, _ => decide
theorem rowsOf_nine {p N : Nat} {d s hole : Int} (hd : 1 ≤ d) (hN : N ≤ 9) : (rowsOf p N d s hole).length ≤ 362880 := Nat.le_trans (rowsOf_len p N d s hole hd) (fct_nine hN)
theorem seF_rowsOf {p N : Nat} {d to_ s hole : Int} (hd : 1 ≤ d) (ht : to_ = d + N - 1) (hs : 0 ≤ s) (hN : N ≤ 9) (most : Nat) (hm : most ≤ 1000000) : seF d to_ s hole (most : Int) (p + 1) (0, []) (List.replicate p 0) 0 = some ((rowsOf p N d s hole).length, (rowsOf p N d s hole).take most) := by
  have hl := rowsOf_nine (p := p) (N := N) (d := d) (s := s) (hole := hole) hd hN
  unfold rowsOf at hl ⊢
  have e : (to_ + 1 - d).toNat = N := by omega
  have := seF_exts d to_ s hole most hm hd hs (p + 1) 0 [] (List.replicate p 0) 0 (by
      have := List.count_le_length (a := (-1 : Int)) (l := freeH hole (List.replicate p 0))
      rw [freeH_len, List.length_replicate] at this
      omega) (fun j hj => by rw [zeros_at]; omega) (Nat.zero_le _) (by rw [e]; omega)
  rw [e] at this
  simpa using this
/-- The number of rows, the first one, all of them if they are not too many. -/
def kindCount (l : List (List Int)) : Int × Bool := ((l.length : Int), true)
def kindFirst (l : List (List Int)) : List Int × Bool := match l with | [] => ([], false) | x :: _ => (x, true)
def kindAll (l : List (List Int)) : List (List Int) × Bool := if l.length ≤ 600 then (l, true) else ([], false)
theorem foldE_counted : ∀ (l : List (List Int)) (m : Nat), m + l.length ≤ 1000000000000 → foldE eachCount m l = some (m + l.length, false)
  | [], m, h => rfl
  | x :: l, m, h => by
    have h' : m + (l.length + 1) ≤ 1000000000000 := by simpa using h
    simp only [foldE, eachCount]
    rw [if_pos (by omega)]
    simp only [Option.bind_some, Bool.false_eq_true, if_false]
    rw [foldE_counted l (m + 1) (by omega), List.length_cons]
    congr 2
    omega
theorem foldE_alls (most : Nat) (hmm : most ≤ 1000000) : ∀ (l xs : List (List Int)), xs.length ≤ most → foldE (eachAll most) xs l = some ((xs ++ l).take (most + 1), decide (most < xs.length + l.length))
  | [], xs, h => by
    have e : decide (most < xs.length + ([] : List (List Int)).length) = false := decide_eq_false (by simp; omega)
    rw [e, List.append_nil, List.take_of_length_le (by omega)]
    rfl
  | x :: l, xs, h => by
    simp only [foldE, eachAll]
    rw [if_pos (by omega)]
    simp only [Option.bind_some]
    by_cases e : (most : Int) < ((xs.length + 1 : Nat) : Int)
    · rw [if_pos (by rw [decide_eq_true e]), decide_eq_true (show most < xs.length + (x :: l).length by rw [List.length_cons]; omega)]
      have e2 : xs ++ x :: l = (xs ++ [x]) ++ l := by simp
      rw [e2, List.take_append_of_le_length (by simp; omega), List.take_of_length_le (by simp; omega)]
    · rw [if_neg (by rw [decide_eq_false e]; decide), foldE_alls most hmm l (xs ++ [x]) (by simp; omega)]
      have e2 : (xs ++ [x]) ++ l = xs ++ x :: l := by simp
      have e3 : (xs ++ [x]).length + l.length = xs.length + (x :: l).length := by simp; omega
      rw [e2, e3]
theorem foldE_six (l : List (List Int)) : (foldE (eachAll 600) [] l).bind (fun p => some (if (p.1.length : Int) ≤ 600 then p.1 else [], decide ((p.1.length : Int) ≤ 600))) = some (kindAll l) := by
  have := foldE_alls 600 (by omega) l [] (by simp)
  rw [show ((600 : Nat) : Int) = 600 from rfl] at this
  rw [this]
  simp only [Option.bind_some, List.nil_append, kindAll]
  by_cases h : l.length ≤ 600
  · rw [if_pos h, List.take_of_length_le (by omega), if_pos (by omega), decide_eq_true (by omega)]
  · rw [if_neg h, List.length_take, if_neg (by omega), decide_eq_false (by omega)]
theorem foldE_first (l : List (List Int)) (h : ∀ x ∈ l, 0 < x.length) : (foldE eachFirst [] l).bind (fun p => some (p.1, decide ((0 : Int) < (p.1.length : Int)))) = some (kindFirst l) := by
  cases l with
  | nil => rfl
  | cons x l =>
    have := h x (by simp)
    have e : decide ((0 : Int) < (x.length : Int)) = true := decide_eq_true (by omega)
    simp only [foldE, eachFirst, Option.bind_some, if_true, e, kindFirst]
theorem seFirst_rows (l : List (List Int)) : seFirstOf (l.length, l.take 1) = some (kindFirst l) := by
  cases l with
  | nil => rfl
  | cons x l => simp [seFirstOf, kindFirst]
theorem seListed_rows (l : List (List Int)) : seListedOf (l.length, l.take 600) = kindAll l := by
  unfold seListedOf kindAll
  by_cases h : l.length ≤ 600
  · rw [if_neg (by simp; omega), if_pos h, List.take_of_length_le h]
  · rw [if_pos (by simp; omega), if_neg h]
/-- All Skolem rows. -/
def skolemRows (n : Nat) : List (List Int) := rowsOf (2 * n) n 1 0 (-1)
theorem skolem_fit (n : Nat) (hn : 1 ≤ n) : PlacesFit (2 * n) n (-1) := by
  unfold PlacesFit
  refine ⟨by omega, ?_⟩
  split <;> omega
theorem skolemRun_rows (n : Nat) (hn : 1 ≤ n) {σ : Type} (each : σ → List Int → Option (σ × Bool)) (st : σ) : skolemRun n each st = foldE each st (skolemRows n) :=
  rowsRun_rows (skolem_fit n hn) (by omega) (by omega) (by omega) each st
theorem seSkolemRun_rows (n : Nat) (hn : n ≤ 9) (most : Nat) (hm : most ≤ 1000000) : seSkolemRun n (most : Int) = some ((skolemRows n).length, (skolemRows n).take most) :=
  seF_rowsOf (by omega) (by omega) (by omega) hn most hm
def skolemOk (n : Int) : Bool := decide (1 ≤ n ∧ n ≤ 9)
def countSkolem (n : Int) : Int × Bool := if skolemOk n = true then kindCount (skolemRows n.toNat) else (0, false)
def firstSkolem (n : Int) : List Int × Bool := if skolemOk n = true then kindFirst (skolemRows n.toNat) else ([], false)
def allSkolem (n : Int) : List (List Int) × Bool := if skolemOk n = true then kindAll (skolemRows n.toNat) else ([], false)
theorem skolemRows_mem {n : Nat} (hn : 1 ≤ n) : ∀ x ∈ skolemRows n, x.length = 2 * n := fun x hx => ((rowsOf_good (skolem_fit n hn) (by omega) (by omega) x).1 hx).len
theorem skolem_sought_val (n : Int) : impl_sought.f n = some (skolemOk n) := by
  unfold skolemOk
  unfold impl_sought.f
  by_cases h1 : n ≥ 1 <;> by_cases h2 : n ≤ 9 <;> simp [h1, h2] <;> omega
theorem impl_CountSkolem.f_val (n : Int) : impl_CountSkolem.f n = some (countSkolem n) := by
  unfold impl_CountSkolem.f countSkolem
  rw [skolem_sought_val]
  by_cases h : skolemOk n = true
  · have hd := of_decide_eq_true h
    rw [h, if_pos rfl, if_pos rfl, skolemRun_rows n.toNat (by omega)]
    have hl := rowsOf_nine (p := 2 * n.toNat) (N := n.toNat) (d := 1) (s := 0) (hole := (-1)) (by omega) (by omega)
    rw [foldE_counted _ 0 (by unfold skolemRows; omega)]
    simp [kindCount]
  · rw [if_neg h, if_neg (fun e => h (Option.some.inj e))]
theorem spec_CountSkolem.f_val (n : Int) : spec_CountSkolem.f n = some (countSkolem n) := by
  unfold spec_CountSkolem.f countSkolem
  by_cases h : skolemOk n = true
  · have hd := of_decide_eq_true h
    have hr := seSkolemRun_rows n.toNat (by omega) 0 (by omega)
    rw [show ((0 : Nat) : Int) = 0 from rfl] at hr
    rw [if_pos h, if_pos hd, hr]
    rfl
  · rw [if_neg h, if_neg (fun e => h (decide_eq_true e))]
theorem impl_FirstSkolem.f_val (n : Int) : impl_FirstSkolem.f n = some (firstSkolem n) := by
  unfold impl_FirstSkolem.f firstSkolem
  rw [skolem_sought_val]
  by_cases h : skolemOk n = true
  · have hd := of_decide_eq_true h
    rw [h, if_pos rfl, if_pos rfl, skolemRun_rows n.toNat (by omega)]
    exact foldE_first _ (fun x hx => by rw [skolemRows_mem (by omega) x hx]; omega)
  · rw [if_neg h, if_neg (fun e => h (Option.some.inj e))]
theorem spec_FirstSkolem.f_val (n : Int) : spec_FirstSkolem.f n = some (firstSkolem n) := by
  unfold spec_FirstSkolem.f firstSkolem
  by_cases h : skolemOk n = true
  · have hd := of_decide_eq_true h
    have hr := seSkolemRun_rows n.toNat (by omega) 1 (by omega)
    rw [show ((1 : Nat) : Int) = 1 from rfl] at hr
    rw [if_pos h, if_pos hd, hr]
    simp only [Option.bind_some]
    exact seFirst_rows _
  · rw [if_neg h, if_neg (fun e => h (decide_eq_true e))]
theorem impl_AllSkolem.f_val (n : Int) : impl_AllSkolem.f n = some (allSkolem n) := by
  unfold impl_AllSkolem.f allSkolem
  rw [skolem_sought_val]
  by_cases h : skolemOk n = true
  · have hd := of_decide_eq_true h
    rw [h, if_pos rfl, if_pos rfl, skolemRun_rows n.toNat (by omega)]
    exact foldE_six _
  · rw [if_neg h, if_neg (fun e => h (Option.some.inj e))]
theorem spec_AllSkolem.f_val (n : Int) : spec_AllSkolem.f n = some (allSkolem n) := by
  unfold spec_AllSkolem.f allSkolem
  by_cases h : skolemOk n = true
  · have hd := of_decide_eq_true h
    have hr := seSkolemRun_rows n.toNat (by omega) 600 (by omega)
    rw [show ((600 : Nat) : Int) = 600 from rfl] at hr
    rw [if_pos h, if_pos hd, hr]
    simp only [Option.bind_some]
    rw [seListed_rows]
  · rw [if_neg h, if_neg (fun e => h (decide_eq_true e))]
/-- All Hooked rows. -/
def hookedRows (n : Nat) : List (List Int) := rowsOf (2 * n + 1) n 1 0 (2 * (n : Int) - 1)
theorem hooked_fit (n : Nat) (hn : 1 ≤ n) : PlacesFit (2 * n + 1) n (2 * (n : Int) - 1) := by
  unfold PlacesFit
  refine ⟨by omega, ?_⟩
  split <;> omega
theorem hookedRun_rows (n : Nat) (hn : 1 ≤ n) {σ : Type} (each : σ → List Int → Option (σ × Bool)) (st : σ) : hookedRun n each st = foldE each st (hookedRows n) :=
  rowsRun_rows (hooked_fit n hn) (by omega) (by omega) (by omega) each st
theorem seHookedRun_rows (n : Nat) (hn : n ≤ 9) (most : Nat) (hm : most ≤ 1000000) : seHookedRun n (most : Int) = some ((hookedRows n).length, (hookedRows n).take most) :=
  seF_rowsOf (by omega) (by omega) (by omega) hn most hm
def hookedOk (n : Int) : Bool := decide (1 ≤ n ∧ n ≤ 9)
def countHooked (n : Int) : Int × Bool := if hookedOk n = true then kindCount (hookedRows n.toNat) else (0, false)
def firstHooked (n : Int) : List Int × Bool := if hookedOk n = true then kindFirst (hookedRows n.toNat) else ([], false)
def allHooked (n : Int) : List (List Int) × Bool := if hookedOk n = true then kindAll (hookedRows n.toNat) else ([], false)
theorem hookedRows_mem {n : Nat} (hn : 1 ≤ n) : ∀ x ∈ hookedRows n, x.length = 2 * n + 1 := fun x hx => ((rowsOf_good (hooked_fit n hn) (by omega) (by omega) x).1 hx).len
theorem hooked_sought_val (n : Int) : impl_sought.f n = some (hookedOk n) := by
  unfold hookedOk
  unfold impl_sought.f
  by_cases h1 : n ≥ 1 <;> by_cases h2 : n ≤ 9 <;> simp [h1, h2] <;> omega
theorem impl_CountHooked.f_val (n : Int) : impl_CountHooked.f n = some (countHooked n) := by
  unfold impl_CountHooked.f countHooked
  rw [hooked_sought_val]
  by_cases h : hookedOk n = true
  · have hd := of_decide_eq_true h
    rw [h, if_pos rfl, if_pos rfl, hookedRun_rows n.toNat (by omega)]
    have hl := rowsOf_nine (p := 2 * n.toNat + 1) (N := n.toNat) (d := 1) (s := 0) (hole := (2 * (n.toNat : Int) - 1)) (by omega) (by omega)
    rw [foldE_counted _ 0 (by unfold hookedRows; omega)]
    simp [kindCount]
  · rw [if_neg h, if_neg (fun e => h (Option.some.inj e))]
theorem spec_CountHooked.f_val (n : Int) : spec_CountHooked.f n = some (countHooked n) := by
  unfold spec_CountHooked.f countHooked
  by_cases h : hookedOk n = true
  · have hd := of_decide_eq_true h
    have hr := seHookedRun_rows n.toNat (by omega) 0 (by omega)
    rw [show ((0 : Nat) : Int) = 0 from rfl] at hr
    rw [if_pos h, if_pos hd, hr]
    rfl
  · rw [if_neg h, if_neg (fun e => h (decide_eq_true e))]
theorem impl_FirstHooked.f_val (n : Int) : impl_FirstHooked.f n = some (firstHooked n) := by
  unfold impl_FirstHooked.f firstHooked
  rw [hooked_sought_val]
  by_cases h : hookedOk n = true
  · have hd := of_decide_eq_true h
    rw [h, if_pos rfl, if_pos rfl, hookedRun_rows n.toNat (by omega)]
    exact foldE_first _ (fun x hx => by rw [hookedRows_mem (by omega) x hx]; omega)
  · rw [if_neg h, if_neg (fun e => h (Option.some.inj e))]
theorem spec_FirstHooked.f_val (n : Int) : spec_FirstHooked.f n = some (firstHooked n) := by
  unfold spec_FirstHooked.f firstHooked
  by_cases h : hookedOk n = true
  · have hd := of_decide_eq_true h
    have hr := seHookedRun_rows n.toNat (by omega) 1 (by omega)
    rw [show ((1 : Nat) : Int) = 1 from rfl] at hr
    rw [if_pos h, if_pos hd, hr]
    simp only [Option.bind_some]
    exact seFirst_rows _
  · rw [if_neg h, if_neg (fun e => h (decide_eq_true e))]
theorem impl_AllHooked.f_val (n : Int) : impl_AllHooked.f n = some (allHooked n) := by
  unfold impl_AllHooked.f allHooked
  rw [hooked_sought_val]
  by_cases h : hookedOk n = true
  · have hd := of_decide_eq_true h
    rw [h, if_pos rfl, if_pos rfl, hookedRun_rows n.toNat (by omega)]
    exact foldE_six _
  · rw [if_neg h, if_neg (fun e => h (Option.some.inj e))]
theorem spec_AllHooked.f_val (n : Int) : spec_AllHooked.f n = some (allHooked n) := by
  unfold spec_AllHooked.f allHooked
  by_cases h : hookedOk n = true
  · have hd := of_decide_eq_true h
    have hr := seHookedRun_rows n.toNat (by omega) 600 (by omega)
    rw [show ((600 : Nat) : Int) = 600 from rfl] at hr
    rw [if_pos h, if_pos hd, hr]
    simp only [Option.bind_some]
    rw [seListed_rows]
  · rw [if_neg h, if_neg (fun e => h (decide_eq_true e))]
/-- All Langford rows. -/
def langfordRows (n : Nat) (d : Int) : List (List Int) := rowsOf (2 * n) n d 1 (-1)
theorem langford_fit (n : Nat) (hn : 1 ≤ n) : PlacesFit (2 * n) n (-1) := by
  unfold PlacesFit
  refine ⟨by omega, ?_⟩
  split <;> omega
end Go.Proofs.Ytaohgllnoomaeaa.Fn
namespace Go.Proofs.Ytaohgllnoomaeaa.Fn
open Go.RowKit Go.Proofs.YtaohgllnoomaeaaW.PrintWords Go.Proofs.YtaohgllnoomaeaaW.PrintLast Go.Proofs.YtaohgllnoomaeaaW.PrintMore
set_option linter.unusedVariables false
set_option linter.unusedSimpArgs false
/-- The input's bytes are bytes. -/
def BytesOk (l : List Int) : Prop := ∀ x ∈ l, 0 ≤ x ∧ x ≤ 255
theorem wrap_u64 (n : Int) : IntKind.u64.wrap n = n % 18446744073709551616 := by simp [IntKind.wrap, IntKind.bits, IntKind.signed]
theorem low_byte (x : Int) (h0 : 0 ≤ x) (h1 : x < 18446744073709551616) : Go.bits .and .u64 x 255 = x % 256 := by
  have := bits_mask .u64 64 (by decide) (fun n h0 h1 => by rw [wrap_u64]; omega) 8 (by decide) x h0 (by omega)
  simpa using this
theorem top_byte (n : Int) : ∃ b, wrap64 (Go.bits .and .u64 (IntKind.u64.wrap n / 1099511627776) 255) = b ∧ 0 ≤ b ∧ b ≤ 255 := by
  have h := wrap_u64 n
  generalize IntKind.u64.wrap n = m at *
  rw [low_byte _ (by omega) (by omega), wrap_in (by omega) (by omega)]
  exact ⟨_, rfl, by omega, by omega⟩
theorem spec_l1Cur_next.ok {l : List Int} (hl : BytesOk l) (hn : l.length < 4611686018427387904) (at_ seed : Int) (h0 : 0 ≤ at_) (h1 : at_ < 4611686018427387904) : ∃ b z, spec_l1Cur_next.f l at_ seed = some (b, at_ + 1, z) ∧ 0 ≤ b ∧ b ≤ 255 := by
  unfold spec_l1Cur_next.f
  rw [wrap_in (n := at_ + 1) (by omega) (by omega)]
  by_cases ha : at_ < (l.length : Int)
  · have hm : rd l at_ ∈ l := by
      obtain ⟨i, rfl⟩ : ∃ i : Nat, at_ = i := ⟨at_.toNat, by omega⟩
      rw [rd_nat l i (by omega)]
      exact List.getElem_mem _
    have hb := hl _ hm
    rw [if_pos ha, if_pos h0, if_pos (by omega), wrap_in (n := rd l at_) (by omega) (by omega)]
    exact ⟨_, _, rfl, hb.1, hb.2⟩
  · rw [if_neg ha]
    by_cases hb : at_ + 1 ≤ (l.length : Int)
    · rw [if_pos hb]
      exact ⟨_, _, rfl, by omega, by omega⟩
    · rw [if_neg hb]
      obtain ⟨b, e, h2, h3⟩ := top_byte (IntKind.u64.wrap (IntKind.u64.wrap (seed * 6364136223846793005)) + 1442695040888963407)
      exact ⟨b, _, by rw [e], h2, h3⟩
/-- The state of a draw: the input, and a place that is no greater than m. -/
structure DrawSt (l : List Int) (m at_ : Int) : Prop where
  bytes : BytesOk l
  len : l.length < 4611686018427387904
  at0 : 0 ≤ at_
  atm : at_ ≤ m
theorem DrawSt.more {l : List Int} {m m' a : Int} (h : DrawSt l m a) (hm : m ≤ m') : DrawSt l m' a := ⟨h.1, h.2, h.3, Int.le_trans h.4 hm⟩
theorem tmod_range {x n : Int} (hx : 0 ≤ x) (hn : 0 < n) : 0 ≤ Int.tmod x n ∧ Int.tmod x n < n := ⟨Int.tmod_nonneg n hx, Int.tmod_lt_of_pos x hn⟩
theorem spec_l1Cur_pick.ok {l : List Int} {m at_ : Int} (seed n : Int) (h : DrawSt l m at_) (hm : m ≤ 4000000000000000000) : ∃ r a z, spec_l1Cur_pick.f l at_ seed n = some (r, a, z) ∧ 0 ≤ r ∧ (r < n ∨ r = 0) ∧ DrawSt l (m + 2) a := by
  obtain ⟨hl, hn, h0, h1⟩ := h
  unfold spec_l1Cur_pick.f
  by_cases hn1 : n ≤ 1
  · rw [if_pos hn1]
    exact ⟨0, _, _, rfl, by omega, .inr rfl, hl, hn, h0, by omega⟩
  · rw [if_neg hn1]
    obtain ⟨b, z, e, b0, b1⟩ := spec_l1Cur_next.ok hl hn at_ seed h0 (by omega)
    rw [e]
    simp only [Option.bind_some]
    by_cases hn2 : n > 200
    · rw [if_pos hn2]
      obtain ⟨b', z', e', b0', b1'⟩ := spec_l1Cur_next.ok hl hn (at_ + 1) z (by omega) (by omega)
      rw [e']
      simp only [Option.bind_some]
      rw [if_neg (by omega), wrap_in (n := b * 256) (by omega) (by omega), wrap_in (n := b * 256 + b') (by omega) (by omega)]
      have := tmod_range (x := b * 256 + b') (n := n) (by omega) (by omega)
      exact ⟨_, _, _, rfl, this.1, .inl this.2, hl, hn, by omega, by omega⟩
    · rw [if_neg hn2, if_neg (by omega)]
      have := tmod_range (x := b) (n := n) b0 (by omega)
      exact ⟨_, _, _, rfl, this.1, .inl this.2, hl, hn, by omega, by omega⟩
theorem spec_l1Cur_one.ok {l : List Int} {m at_ : Int} (seed n : Int) (h : DrawSt l m at_) (hm : m ≤ 4000000000000000000) : ∃ r a z, spec_l1Cur_one.f l at_ seed n = some (r, a, z) ∧ DrawSt l (m + 2) a := by
  obtain ⟨r, a, z, e, _, _, hs⟩ := spec_l1Cur_pick.ok seed n h hm
  exact ⟨r == 0, a, z, by unfold spec_l1Cur_one.f; rw [e]; rfl, hs⟩
theorem spec_l1Cur_among.ok {l : List Int} {m at_ : Int} (seed : Int) (xs : List Int) (hx : 0 < xs.length) (h : DrawSt l m at_) (hm : m ≤ 4000000000000000000) : ∃ r a z, spec_l1Cur_among.f l at_ seed xs = some (r, a, z) ∧ r ∈ xs ∧ DrawSt l (m + 2) a := by
  obtain ⟨r, a, z, e, h0, h1, hs⟩ := spec_l1Cur_pick.ok seed (xs.length : Int) h hm
  have hr : r < (xs.length : Int) := by omega
  have hmem : rd xs r ∈ xs := by
    obtain ⟨i, rfl⟩ : ∃ i : Nat, r = i := ⟨r.toNat, by omega⟩
    rw [rd_nat xs i (by omega)]
    exact List.getElem_mem _
  exact ⟨rd xs r, a, z, by unfold spec_l1Cur_among.f; rw [e]; simp only [Option.bind_some]; rw [if_pos h0, if_pos hr], hmem, hs⟩
theorem spec_l1Cur_many.ok {l : List Int} {m at_ : Int} (seed : Int) (h : DrawSt l m at_) (hm : m ≤ 3000000000000000000) : ∃ r a z, spec_l1Cur_many.f l at_ seed = some (r, a, z) ∧ -1 ≤ r ∧ r ≤ 4611686018427387904 ∧ DrawSt l (m + 4) a := by
  unfold spec_l1Cur_many.f
  obtain ⟨b, a, z, e, hs⟩ := spec_l1Cur_one.ok seed 10 h (by omega)
  rw [e]
  simp only [Option.bind_some]
  cases b with
  | true =>
    rw [if_pos rfl]
    obtain ⟨r, a', z', e', hr, hs'⟩ := spec_l1Cur_among.ok z ([(-1), 0, 20, 21, 4611686018427387904] : List Int) (by decide) hs (by omega)
    rw [e']
    simp only [List.mem_cons, List.not_mem_nil, or_false] at hr
    exact ⟨r, a', z', rfl, by omega, by omega, hs'.more (by omega)⟩
  | false =>
    rw [if_neg (by decide)]
    obtain ⟨r, a', z', e', h0, h1, hs'⟩ := spec_l1Cur_pick.ok z 20 hs (by omega)
    rw [e']
    simp only [Option.bind_some]
    rw [wrap_in (n := 1 + r) (by omega) (by omega)]
    exact ⟨_, _, _, rfl, by omega, by omega, hs'.more (by omega)⟩
theorem laws_big.f_val (a b : List Int) : laws_big.f a b = some (decide (1048576 < a.length ∨ 1048576 < a.length + b.length)) := by
  unfold laws_big.f
  by_cases h : (a.length : Int) > 1048576
  · rw [if_pos h, decide_eq_true (by omega)]
  · rw [if_neg h, wrap_in (by omega) (by omega)]
    by_cases h2 : (b.length : Int) > 1048576 - (a.length : Int)
    · rw [decide_eq_true h2, decide_eq_true (by omega)]
    · rw [decide_eq_false h2, decide_eq_false (by omega)]
/-- An input of bytes, as a draw begins. -/
theorem draw_start {l : List Int} (h : l.length ≤ 1048576) (hw : ∀ x ∈ l, (Lit.int .u8 x).wf = true) : DrawSt l 0 0 := by
  refine ⟨fun x hx => ?_, by omega, by omega, by omega⟩
  have := hw x hx
  simp [Lit.wf] at this
  have h1 : IntKind.u8.min = 0 := by decide
  have h2 : IntKind.u8.max = 255 := by decide
  rw [h1, h2] at this
  omega
end Go.Proofs.Ytaohgllnoomaeaa.Fn
namespace Go.Proofs.Ytaohgllnoomaeaa.Fn
open Go.RowKit Go.Proofs.YtaohgllnoomaeaaW.PrintWords Go.Proofs.YtaohgllnoomaeaaW.PrintLast Go.Proofs.YtaohgllnoomaeaaW.PrintMore
set_option linter.unusedVariables false
set_option linter.unusedSimpArgs false
def lessOf : List Int → List Int → Bool
  | [], [] => false
  | [], _ :: _ => true
  | _ :: _, [] => false
  | x :: a, y :: b => if x = y then lessOf a b else decide (x < y)
theorem wrap_up {n i : Nat} (h : i < n) (hn : n < 4611686018427387904) : wrap64 ((i : Int) + 1) = ((i + 1 : Nat) : Int) := by
  rw [wrap_in (by omega) (by omega)]
  rfl
theorem laws_jSame.L0_val (a b : List Int) (hl : a.length = b.length) (h : a.length < 4611686018427387904) : ∀ (m i : Nat), i + m = a.length → laws_jSame.L0 a b (a.length : Int) (i : Int) = some (decide (a.drop i = b.drop i))
  | 0, i, hm => by
    rw [laws_jSame.L0_eq, if_neg (by omega), List.drop_of_length_le (by omega), List.drop_of_length_le (by omega)]
    rfl
  | m + 1, i, hm => by
    rw [laws_jSame.L0_eq, if_pos (by omega), if_pos (by omega), if_pos (by omega), if_pos (by omega), rd_nat a i (by omega), rd_nat b i (by omega), wrap_up (n := a.length) (by omega) h, laws_jSame.L0_val a b hl h m (i + 1) (by omega), List.drop_eq_getElem_cons (l := a) (i := i) (by omega), List.drop_eq_getElem_cons (l := b) (i := i) (by omega)]
    by_cases e : a[i]'(by omega) = b[i]'(by omega)
    · rw [if_pos e]
      congr 1
      rw [decide_eq_decide, e]
      exact ⟨fun h => by rw [h], fun h => (List.cons.inj h).2⟩
    · rw [if_neg e, decide_eq_false (fun h => e (List.cons.inj h).1)]
theorem laws_jSame.F_val (a b : List Int) (h : a.length < 4611686018427387904) : laws_jSame.F a b = some (decide (a = b)) := by
  rw [laws_jSame.F_eq]
  by_cases e : a.length = b.length
  · rw [if_pos (by omega)]
    have := laws_jSame.L0_val a b e h a.length 0 (by omega)
    simpa using this
  · rw [if_neg (by omega), decide_eq_false (fun hab => e (by rw [hab]))]
theorem laws_jRows.L0_val (a b : List (List Int)) (hl : a.length = b.length) (h : a.length < 4611686018427387904) (hx : ∀ x ∈ a, x.length < 4611686018427387904) : ∀ (m i : Nat), i + m = a.length → laws_jRows.L0 a b (a.length : Int) (i : Int) = some (decide (a.drop i = b.drop i))
  | 0, i, hm => by
    rw [laws_jRows.L0_eq, if_neg (by omega), List.drop_of_length_le (by omega), List.drop_of_length_le (by omega)]
    rfl
  | m + 1, i, hm => by
    have ea : rd_L2 a (i : Int) = a[i]'(by omega) := by unfold rd_L2; rw [Int.toNat_natCast, List.getD_eq_getElem?_getD, List.getElem?_eq_getElem (by omega)]; rfl
    have eb : rd_L2 b (i : Int) = b[i]'(by omega) := by unfold rd_L2; rw [Int.toNat_natCast, List.getD_eq_getElem?_getD, List.getElem?_eq_getElem (by omega)]; rfl
    rw [laws_jRows.L0_eq, if_pos (by omega), if_pos (by omega), if_pos (by omega), if_pos (by omega), ea, eb, laws_jSame.F_val _ _ (hx _ (List.getElem_mem _)), wrap_up (n := a.length) (by omega) h, laws_jRows.L0_val a b hl h hx m (i + 1) (by omega), List.drop_eq_getElem_cons (l := a) (i := i) (by omega), List.drop_eq_getElem_cons (l := b) (i := i) (by omega)]
    simp only [Option.bind_some]
    by_cases e : a[i]'(by omega) = b[i]'(by omega)
    · rw [if_pos (by simp [e])]
      congr 1
      rw [decide_eq_decide, e]
      exact ⟨fun h => by rw [h], fun h => (List.cons.inj h).2⟩
    · rw [if_neg (by simp [e]), decide_eq_false (fun h => e (List.cons.inj h).1)]
theorem laws_jRows.F_val (a b : List (List Int)) (h : a.length < 4611686018427387904) (hx : ∀ x ∈ a, x.length < 4611686018427387904) : laws_jRows.F a b = some (decide (a = b)) := by
  rw [laws_jRows.F_eq]
  by_cases e : a.length = b.length
  · rw [if_pos (by omega)]
    have := laws_jRows.L0_val a b e h hx a.length 0 (by omega)
    simpa using this
  · rw [if_neg (by omega), decide_eq_false (fun hab => e (by rw [hab]))]
theorem laws_jIn.L0_val (x : List Int) (a : List (List Int)) (h : a.length < 4611686018427387904) (hx : ∀ y ∈ a, y.length < 4611686018427387904) : ∀ (m i : Nat), i + m = a.length → laws_jIn.L0 x a (a.length : Int) (i : Int) = some (decide (x ∈ a.drop i))
  | 0, i, hm => by
    rw [laws_jIn.L0_eq, if_neg (by omega), List.drop_of_length_le (by omega)]
    rfl
  | m + 1, i, hm => by
    have ea : rd_L2 a (i : Int) = a[i]'(by omega) := by unfold rd_L2; rw [Int.toNat_natCast, List.getD_eq_getElem?_getD, List.getElem?_eq_getElem (by omega)]; rfl
    rw [laws_jIn.L0_eq, if_pos (by omega), if_pos (by omega), if_pos (by omega), ea, laws_jSame.F_val _ _ (hx _ (List.getElem_mem _)), wrap_up (n := a.length) (by omega) h, laws_jIn.L0_val x a h hx m (i + 1) (by omega), List.drop_eq_getElem_cons (l := a) (i := i) (by omega)]
    simp only [Option.bind_some]
    by_cases e : a[i]'(by omega) = x
    · rw [if_pos (by simp [e]), decide_eq_true (by rw [e]; exact List.mem_cons_self)]
    · rw [if_neg (by simp [e])]
      congr 1
      rw [decide_eq_decide, List.mem_cons]
      exact ⟨.inr, fun h => h.resolve_left (fun h => e h.symm)⟩
theorem laws_jIn.F_val (a : List (List Int)) (x : List Int) (h : a.length < 4611686018427387904) (hx : ∀ y ∈ a, y.length < 4611686018427387904) : laws_jIn.F a x = some (decide (x ∈ a)) := by
  rw [laws_jIn.F_eq]
  have := laws_jIn.L0_val x a h hx a.length 0 (by omega)
  simpa using this
theorem laws_jLess.L0_val (a b : List Int) (h : a.length < 4611686018427387904) : ∀ (m i : Nat), i + m = a.length → i ≤ b.length → laws_jLess.L0 a b (i : Int) = some (lessOf (a.drop i) (b.drop i))
  | 0, i, hm, hb => by
    rw [laws_jLess.L0_eq, if_neg (by omega), laws_jLess.J1_eq, if_neg (by decide), List.drop_of_length_le (l := a) (by omega)]
    by_cases e : i < b.length
    · rw [List.drop_eq_getElem_cons (l := b) (i := i) e, lessOf, decide_eq_true (by omega)]
    · rw [List.drop_of_length_le (l := b) (by omega), lessOf, decide_eq_false (by omega)]
  | m + 1, i, hm, hb => by
    rw [laws_jLess.L0_eq, if_pos (by omega), laws_jLess.J1_eq, List.drop_eq_getElem_cons (l := a) (i := i) (by omega)]
    by_cases e : i < b.length
    · rw [if_pos (by simpa using e), if_pos (by omega), if_pos (by omega), if_pos (by omega), rd_nat a i (by omega), rd_nat b i e, List.drop_eq_getElem_cons (l := b) (i := i) e, lessOf, wrap_up (n := a.length) (by omega) h, laws_jLess.L0_val a b h m (i + 1) (by omega) (by omega)]
      by_cases e2 : a[i]'(by omega) = b[i]
      · rw [if_pos e2, if_pos e2]
      · rw [if_neg e2, if_neg e2]
    · rw [if_neg (by simpa using e), List.drop_of_length_le (l := b) (by omega), lessOf, decide_eq_false (by omega)]
theorem laws_jLess.F_val (a b : List Int) (h : a.length < 4611686018427387904) : laws_jLess.F a b = some (lessOf a b) := by
  rw [laws_jLess.F_eq]
  have := laws_jLess.L0_val a b h a.length 0 (by omega) (by omega)
  simpa using this
theorem laws_jBack.L0_val (l : List Int) (hl : l.length < 17592186044416) : ∀ (i : Nat) (acc : List Int), i ≤ l.length → acc.length + i ≤ l.length → laws_jBack.L0 l acc ((i : Int) - 1) = some (acc ++ (l.take i).reverse)
  | 0, acc, h, ha => by
    rw [laws_jBack.L0_eq, if_neg (by omega)]
    simp
  | i + 1, acc, h, ha => by
    have e : ((i + 1 : Nat) : Int) - 1 = (i : Int) := by omega
    rw [e, laws_jBack.L0_eq, if_pos (by omega), if_pos (by omega), if_pos (by omega), if_pos (by omega), rd_nat l i (by omega), wrap_in (n := (i : Int) - 1) (by omega) (by omega), laws_jBack.L0_val l hl i (acc ++ [l[i]'(by omega)]) (by omega) (by simp; omega), List.take_add_one, List.getElem?_eq_getElem (by omega)]
    simp only [Option.toList_some, List.reverse_append, List.reverse_cons, List.reverse_nil, List.nil_append, List.append_assoc, List.singleton_append, List.cons_append]
theorem laws_jBack.F_val (l : List Int) (hl : l.length < 17592186044416) : laws_jBack.F l = some l.reverse := by
  rw [laws_jBack.F_eq, wrap_in (by omega) (by omega)]
  have := laws_jBack.L0_val l hl l.length [] (by omega) (by simp)
  simpa using this
end Go.Proofs.Ytaohgllnoomaeaa.Fn
namespace Go.Proofs.Ytaohgllnoomaeaa.Fn
open Go.RowKit Go.Proofs.YtaohgllnoomaeaaW.PrintWords Go.Proofs.YtaohgllnoomaeaaW.PrintLast Go.Proofs.YtaohgllnoomaeaaW.PrintMore
set_option linter.unusedVariables false
set_option linter.unusedSimpArgs false
theorem lessOf_lex : ∀ (x y : List Int), LexLt x y → lessOf x y = true
  | [], y, ⟨i, _, _, h, _⟩ => by simp at h
  | _ :: _, [], ⟨i, _, _, _, h⟩ => by simp at h
  | a :: x, b :: y, ⟨i, h1, h2, h3, h4⟩ => by
    have r0 : ∀ (c : Int) (l : List Int), rd (c :: l) 0 = c := fun c l => rfl
    have rs : ∀ (c : Int) (l : List Int) (j : Nat), rd (c :: l) ((j + 1 : Nat) : Int) = rd l (j : Int) := fun c l j => by
      unfold rd
      rw [Int.toNat_natCast, Int.toNat_natCast]
      rfl
    cases i with
    | zero =>
      have h2' : a < b := h2
      rw [lessOf, if_neg (by omega), decide_eq_true h2']
    | succ i =>
      have e : a = b := h1 0 (by omega)
      rw [lessOf, if_pos e]
      refine lessOf_lex x y ⟨i, fun j hj => ?_, ?_, by simpa using h3, by simpa using h4⟩
      · have := h1 (j + 1) (by omega)
        rw [rs, rs] at this
        exact this
      · rw [rs, rs] at h2
        exact h2
theorem skolem_kind (n : Nat) (h1 : 1 ≤ n) (h2 : n ≤ 9) : KindFit (2 * n) n 1 0 (-1) := ⟨skolem_fit n h1, by omega, by omega, by omega, by omega, by omega, by omega⟩
theorem hooked_kind (n : Nat) (h1 : 1 ≤ n) (h2 : n ≤ 9) : KindFit (2 * n + 1) n 1 0 (2 * (n : Int) - 1) := ⟨hooked_fit n h1, by omega, by omega, by omega, by omega, by omega, by omega⟩
theorem langford_kind (n : Nat) (d : Int) (h1 : 1 ≤ n) (h2 : n ≤ 9) (h3 : 1 ≤ d) (h4 : d + n ≤ 20) : KindFit (2 * n) n d 1 (-1) := ⟨langford_fit n h1, by omega, by omega, by omega, by omega, by omega, by omega⟩
theorem len_pos {l : List (List Int)} {x : List Int} (h : x ∈ l) : 0 < l.length := List.length_pos_of_mem h
theorem some_row {l : List (List Int)} (h : 0 < l.length) : ∃ x, x ∈ l := by
  cases l with
  | nil => simp at h
  | cons x l => exact ⟨x, by simp⟩
theorem skolem_parity {n : Nat} {x : List Int} (h : RowOk (2 * n) n 1 0 (-1) x) : n % 4 ≤ 1 := by
  have := h.parity (by omega)
  rw [if_neg (by omega)] at this
  have h1 := tri_even n
  have h2 := tri_even (2 * n)
  omega
theorem skolem_there (n : Nat) (h1 : 1 ≤ n) (h2 : n ≤ 8) : (0 < (skolemRows n).length) ↔ n % 4 ≤ 1 := by
  have k := fun (m : Nat) (h1 : 1 ≤ m) (h2 : m ≤ 9) => skolem_kind m h1 h2
  constructor
  · intro h
    obtain ⟨x, hx⟩ := some_row h
    exact skolem_parity ((rowsOf_ok (k n h1 (by omega)) x).1 hx)
  · intro h
    rcases (by omega : n = 1 ∨ n = 4 ∨ n = 5 ∨ n = 8) with rfl | rfl | rfl | rfl
    · exact len_pos ((rowsOf_ok (k 1 (by omega) (by omega)) [1, 1]).2 (rowOk_iff.1 (by decide +kernel)))
    · exact len_pos ((rowsOf_ok (k 4 (by omega) (by omega)) [1, 1, 3, 4, 2, 3, 2, 4]).2 (rowOk_iff.1 (by decide +kernel)))
    · exact len_pos ((rowsOf_ok (k 5 (by omega) (by omega)) [1, 1, 3, 4, 5, 3, 2, 4, 2, 5]).2 (rowOk_iff.1 (by decide +kernel)))
    · exact len_pos ((rowsOf_ok (k 8 (by omega) (by omega)) [1, 1, 2, 5, 2, 6, 7, 8, 5, 3, 4, 6, 3, 7, 4, 8]).2 (rowOk_iff.1 (by decide +kernel)))
theorem hooked_parity {n : Nat} {x : List Int} (hn : 1 ≤ n) (h : RowOk (2 * n + 1) n 1 0 (2 * (n : Int) - 1) x) : 2 ≤ n % 4 := by
  have := h.parity (by omega)
  rw [if_pos (by omega)] at this
  have h1 := tri_even n
  have h2 := tri_even (2 * n + 1)
  omega
theorem hooked_there (n : Nat) (h1 : 1 ≤ n) (h2 : n ≤ 7) : (0 < (hookedRows n).length) ↔ 2 ≤ n % 4 := by
  have k := fun (m : Nat) (h1 : 1 ≤ m) (h2 : m ≤ 9) => hooked_kind m h1 h2
  constructor
  · intro h
    obtain ⟨x, hx⟩ := some_row h
    exact hooked_parity h1 ((rowsOf_ok (k n h1 (by omega)) x).1 hx)
  · intro h
    rcases (by omega : n = 2 ∨ n = 3 ∨ n = 6 ∨ n = 7) with rfl | rfl | rfl | rfl
    · exact len_pos ((rowsOf_ok (k 2 (by omega) (by omega)) [1, 1, 2, 0, 2]).2 (rowOk_iff.1 (by decide +kernel)))
    · exact len_pos ((rowsOf_ok (k 3 (by omega) (by omega)) [1, 1, 2, 3, 2, 0, 3]).2 (rowOk_iff.1 (by decide +kernel)))
    · exact len_pos ((rowsOf_ok (k 6 (by omega) (by omega)) [1, 1, 2, 5, 2, 4, 6, 3, 5, 4, 3, 0, 6]).2 (rowOk_iff.1 (by decide +kernel)))
    · exact len_pos ((rowsOf_ok (k 7 (by omega) (by omega)) [1, 1, 2, 5, 2, 6, 4, 7, 5, 3, 4, 6, 3, 0, 7]).2 (rowOk_iff.1 (by decide +kernel)))
/-- What is found is a Skolem row. -/
theorem RowOk.count0 {p N : Nat} {from_ s hole : Int} {r : List Int} (h : RowOk p N from_ s hole r) : r.count 0 = if 0 ≤ hole then 1 else 0 := by
  rw [← placesOf_count, h.holes]
  split <;> rfl
theorem RowOk.skolem {p N : Nat} {r : List Int} (h : RowOk p N 1 0 (-1) r) : skolemOf r = (N : Int) := by
  have h0 := h.count0
  rw [skolemOf_yes h.pairs h.fits (by rw [h0, if_neg (by omega)]), h.nums, if_pos (fromOf_up 1 N), numbersUp_len]
theorem RowOk.oneHole {p N : Nat} {hole : Int} {r : List Int} (hh : 0 ≤ hole) (h : RowOk p N 1 0 hole r) : oneHole r = true := by
  unfold Fn.oneHole
  rw [h.pairs, h.fits, h.holes, if_pos hh]
  rfl
theorem RowOk.extended {p N : Nat} {hole : Int} {r : List Int} (hh : 0 ≤ hole) (h : RowOk p N 1 0 hole r) : extendedOf r = ((N : Int), hole) := by
  unfold extendedOf orderOf
  rw [if_pos (h.oneHole hh), h.nums, if_pos (fromOf_up 1 N), numbersUp_len, h.holes, if_pos hh]
  rfl
theorem RowOk.hooked {N : Nat} {r : List Int} (hN : 1 ≤ N) (h : RowOk (2 * N + 1) N 1 0 (2 * (N : Int) - 1) r) : hookedOf r = (N : Int) := by
  unfold hookedOf
  rw [h.extended (by omega), if_pos]
  show 2 * (N : Int) - 1 = (r.length : Int) - 2
  rw [h.len]
  omega
def isSkolem (l : List Int) : Bool × Bool := if isPairs l = true then (decide (skolemOf l > 0), true) else (false, false)
theorem impl_IsSkolem.F_val (l : List Int) (h : l.length < 17592186044416) : impl_IsSkolem.F l = some (isSkolem l) := by
  rw [impl_IsSkolem.F_eq, impl_isPairs.F_val l (by omega)]
  simp only [Option.bind_some, impl_skolem.F_val l h]
  unfold isSkolem
  by_cases h1 : isPairs l = true
  · rw [if_pos h1, if_pos h1]
  · rw [if_neg h1, if_neg h1]
def isHooked (l : List Int) : Bool × Bool := if isPairs l = true then (decide (hookedOf l > 0), true) else (false, false)
theorem impl_IsHooked.F_val (l : List Int) (h : l.length < 17592186044416) : impl_IsHooked.F l = some (isHooked l) := by
  rw [impl_IsHooked.F_eq, impl_isPairs.F_val l (by omega)]
  simp only [Option.bind_some, impl_hooked.F_val l h]
  unfold isHooked
  by_cases h1 : isPairs l = true
  · rw [if_pos h1, if_pos h1]
  · rw [if_neg h1, if_neg h1]
def numberOk (n : Int) : Bool := decide (1 ≤ n ∧ n ≤ 20)
theorem impl_isNumber.f_val (n : Int) : impl_isNumber.f n = some (numberOk n) := by
  unfold impl_isNumber.f numberOk
  by_cases h1 : n ≥ 1 <;> by_cases h2 : n ≤ 20 <;> simp [h1, h2] <;> omega
def skolemThere (n : Int) : Bool × Bool := if numberOk n = true then (decide (Int.tmod n 4 ≤ 1), true) else (false, false)
theorem impl_IsSkolemThere.f_val (n : Int) : impl_IsSkolemThere.f n = some (skolemThere n) := by
  unfold impl_IsSkolemThere.f skolemThere
  rw [impl_isNumber.f_val]
  simp only [Option.bind_some]
  split <;> rfl
def hookedThere (n : Int) : Bool × Bool := if numberOk n = true then (decide (Int.tmod n 4 ≥ 2), true) else (false, false)
theorem impl_IsHookedThere.f_val (n : Int) : impl_IsHookedThere.f n = some (hookedThere n) := by
  unfold impl_IsHookedThere.f hookedThere
  rw [impl_isNumber.f_val]
  simp only [Option.bind_some]
  split <;> rfl
theorem spec_seN.f_val (n : Int) : spec_seN.f n = some (numberOk n) := by
  unfold spec_seN.f spec_l1In.f numberOk
  by_cases h1 : n ≥ 1 <;> by_cases h2 : n ≤ 20 <;> simp [h1, h2] <;> omega
theorem spec_IsSkolemThere.f_val (n : Int) : spec_IsSkolemThere.f n = some (skolemThere n) := by
  unfold spec_IsSkolemThere.f skolemThere
  rw [spec_seN.f_val]
  simp only [Option.bind_some]
  split <;> rfl
theorem spec_IsHookedThere.f_val (n : Int) : spec_IsHookedThere.f n = some (hookedThere n) := by
  unfold spec_IsHookedThere.f hookedThere
  rw [spec_seN.f_val]
  simp only [Option.bind_some]
  split <;> rfl
def langThere (n d : Int) : Bool × Bool := if numberOk n = true ∧ numberOk d = true then (if n < 2 * d + 1 then (false, true) else if Int.tmod d 2 = 1 then (decide (Int.tmod n 4 = 0 ∨ Int.tmod n 4 = 3), true) else (decide (Int.tmod n 4 ≤ 1), true)) else (false, false)
theorem impl_IsLangfordThere.F_val (n d : Int) : impl_IsLangfordThere.F n d = some (langThere n d) := by
  rw [impl_IsLangfordThere.F_eq, impl_isNumber.f_val, impl_isNumber.f_val]
  simp only [Option.bind_some, impl_IsLangfordThere.J0_eq, langThere]
  by_cases h1 : numberOk n = true
  · by_cases h2 : numberOk d = true
    · have hd := of_decide_eq_true h2
      rw [wrap_in (n := 2 * d) (by omega) (by omega), wrap_in (n := 2 * d + 1) (by omega) (by omega)]
      simp only [h1, h2, if_true, and_self, Bool.not_true, Bool.false_eq_true, if_false]
      by_cases h3 : n < 2 * d + 1
      · rw [if_pos h3, if_pos h3]
      · rw [if_neg h3, if_neg h3]
        by_cases h4 : Int.tmod d 2 = 1
        · rw [if_pos h4, if_pos h4]
          by_cases h5 : Int.tmod n 4 = 0 <;> by_cases h6 : Int.tmod n 4 = 3 <;> simp [h5, h6]
        · rw [if_neg h4, if_neg h4]
    · simp [h1, h2]
  · simp [h1]
theorem spec_IsLangfordThere.f_val (n d : Int) : spec_IsLangfordThere.f n d = some (langThere n d) := by
  unfold spec_IsLangfordThere.f
  rw [spec_seN.f_val, spec_seN.f_val]
  simp only [Option.bind_some, langThere]
  by_cases h1 : numberOk n = true
  · by_cases h2 : numberOk d = true
    · have hd := of_decide_eq_true h2
      simp only [h1, h2, if_true, and_self]
      unfold spec_seThere.f
      rw [wrap_in (n := 2 * d) (by omega) (by omega), wrap_in (n := 2 * d + 1) (by omega) (by omega)]
      by_cases h3 : n < 2 * d + 1
      · rw [if_pos h3, if_pos h3]
        rfl
      · rw [if_neg h3, if_neg h3]
        by_cases h4 : Int.tmod d 2 = 1
        · rw [if_pos h4, if_pos h4]
          by_cases h5 : Int.tmod n 4 = 0 <;> by_cases h6 : Int.tmod n 4 = 3 <;> simp [h5, h6]
        · rw [if_neg h4, if_neg h4]
          rfl
    · simp [h1, h2]
  · simp [h1]
end Go.Proofs.Ytaohgllnoomaeaa.Fn
namespace Go.Proofs.Ytaohgllnoomaeaa.Pure
open Go.RowKit Go.Proofs.Ytaohgllnoomaeaa.Fn Go.Proofs.YtaohgllnoomaeaaW.PrintWords Go.Proofs.YtaohgllnoomaeaaW.PrintLast Go.Proofs.YtaohgllnoomaeaaW.PrintMore
set_option linter.unusedVariables false
set_option linter.unusedSimpArgs false
theorem drawn_skolem {l : List Int} (h : DrawSt l 0 0) : ∃ n, spec_DrawAllSkolem.f l = some n ∧ n ≤ 10 ∧ n ≠ 9 := by
  obtain ⟨r, a, z, e, hr, hs⟩ := spec_l1Cur_among.ok 0 ([1, 2, 3, 4, 5, 6, 7, 8, 4, 5, 0, 10, (-1)] : List Int) (by decide) h (by omega)
  simp only [List.mem_cons, List.not_mem_nil, or_false] at hr
  refine ⟨r, ?_, by omega, by omega⟩
  unfold spec_DrawAllSkolem.f spec_DrawCountSkolem.f spec_l1Cur_sought.f
  rw [e]
  rfl
theorem drawn_hooked {l : List Int} (h : DrawSt l 0 0) : ∃ n, spec_DrawAllHooked.f l = some n ∧ n ≤ 10 ∧ n ≠ 8 ∧ n ≠ 9 := by
  obtain ⟨r, a, z, e, hr, hs⟩ := spec_l1Cur_among.ok 0 ([1, 2, 3, 4, 5, 6, 7, 3, 6, 0, 10] : List Int) (by decide) h (by omega)
  simp only [List.mem_cons, List.not_mem_nil, or_false] at hr
  refine ⟨r, ?_, by omega, by omega, by omega⟩
  unfold spec_DrawAllHooked.f spec_DrawCountHooked.f
  rw [e]
  rfl
theorem drawn_there {l : List Int} (h : DrawSt l 0 0) : ∃ n, spec_DrawIsSkolemThere.f l = some n := by
  obtain ⟨r, a, z, e, _⟩ := spec_l1Cur_many.ok 0 h (by omega)
  exact ⟨r, by unfold spec_DrawIsSkolemThere.f; rw [e]; rfl⟩
theorem drawn_lang {l : List Int} (h : DrawSt l 0 0) : ∃ p, spec_DrawIsLangfordThere.f l = some p := by
  unfold spec_DrawIsLangfordThere.f
  obtain ⟨r, a, z, e, _, _, hs⟩ := spec_l1Cur_many.ok 0 h (by omega)
  rw [e]
  simp only [Option.bind_some]
  obtain ⟨b, a', z', e', hs'⟩ := spec_l1Cur_one.ok z 8 hs (by omega)
  rw [e']
  simp only [Option.bind_some]
  cases b with
  | true =>
    obtain ⟨r2, a2, z2, e2, _, _, hs2⟩ := spec_l1Cur_many.ok z' hs' (by omega)
    rw [if_pos rfl, e2]
    exact ⟨_, rfl⟩
  | false =>
    obtain ⟨r2, a2, z2, e2, _, _, hs2⟩ := spec_l1Cur_pick.ok z' 8 hs' (by omega)
    rw [if_neg (by decide), e2]
    exact ⟨_, rfl⟩
theorem apart_there (n : Int) : (if (skolemThere n).2 = true then some ((skolemThere n).1 != (hookedThere n).1) else some true) = some true := by
  unfold skolemThere hookedThere
  by_cases h : numberOk n = true
  · have hn := of_decide_eq_true h
    have h2 := tmod_range (x := n) (n := 4) (by omega) (by omega)
    simp only [h, if_true]
    by_cases h3 : Int.tmod n 4 ≤ 1
    · rw [decide_eq_true h3, decide_eq_false (by omega)]
      rfl
    · rw [decide_eq_false h3, decide_eq_true (by omega)]
      rfl
  · simp [h]
theorem there_two (n : Int) : ((hookedThere n).2 == (skolemThere n).2) = true := by
  unfold skolemThere hookedThere
  by_cases h : numberOk n = true <;> simp [h]
theorem J5_true {l : List Int} (h : DrawSt l 0 0) : laws_FnRowsThere.J5 l = some true := by
  obtain ⟨p, hp⟩ := drawn_lang h
  obtain ⟨n, hn⟩ := drawn_there h
  have a := apart_there n
  have t := there_two n
  rw [laws_FnRowsThere.J5_eq]
  simp only [hp, hn, impl_IsLangfordThere.F_val, spec_IsLangfordThere.f_val, impl_IsSkolemThere.f_val, spec_IsSkolemThere.f_val, impl_IsHookedThere.f_val, spec_IsHookedThere.f_val, Option.bind_some, beq_self_eq_true, if_true]
  rw [if_pos t]
  exact a
theorem before {L : List (List Int)} (hs : L.Pairwise LexLt) {i : Nat} (h : i + 1 < L.length) : lessOf (L[i]'(by omega)) L[i + 1] = true :=
  lessOf_lex _ _ (List.pairwise_iff_getElem.1 hs i (i + 1) (by omega) h (by omega))
theorem rdLL {L : List (List Int)} {i : Nat} (h : i < L.length) : rd_L2 L (i : Int) = L[i] := by
  unfold rd_L2
  rw [Int.toNat_natCast, List.getD_eq_getElem?_getD, List.getElem?_eq_getElem h]
  rfl
theorem first_same {L : List (List Int)} (h : 0 < L.length) : L[0] = (kindFirst L).1 := by
  cases L with
  | nil => simp at h
  | cons x l => rfl
theorem isHooked_row {N : Nat} {r : List Int} (hN : 1 ≤ N) (h : RowOk (2 * N + 1) N 1 0 (2 * (N : Int) - 1) r) : isHooked r = (true, true) := by
  unfold isHooked
  rw [if_pos h.pairs, h.hooked hN, decide_eq_true (by omega)]
theorem isSkolem_row {N : Nat} {r : List Int} (hN : 1 ≤ N) (h : RowOk (2 * N) N 1 0 (-1) r) : isSkolem r = (true, true) := by
  unfold isSkolem
  rw [if_pos h.pairs, h.skolem, decide_eq_true (by omega)]
theorem L1_val {l1 : List Int} (hJ : laws_FnRowsThere.J5 l1 = some true) {N : Nat} (hN : 1 ≤ N ∧ N ≤ 9) {L : List (List Int)} (hL : L.length ≤ 600) (hr : ∀ x ∈ L, RowOk (2 * N + 1) N 1 0 (2 * (N : Int) - 1) x) (hs : L.Pairwise LexLt) : ∀ m i : Nat, i + m = L.length → laws_FnRowsThere.L1 l1 (L.length : Int) L (kindFirst L).1 L (L.length : Int) (i : Int) = some true
  | 0, i, hm => by
    rw [laws_FnRowsThere.L1_eq, if_neg (by omega), if_pos rfl]
    by_cases h0 : 0 < L.length
    · have e := rdLL (L := L) (i := 0) h0
      rw [show ((0 : Nat) : Int) = 0 from rfl] at e
      rw [if_pos (by omega), if_pos (by omega), e, first_same h0, laws_jSame.F_val _ _ (by
        have := (hr _ (List.getElem_mem h0)).len
        rw [first_same h0] at this
        omega)]
      simp only [Option.bind_some, decide_true, if_true]
      exact hJ
    · rw [if_neg (by omega)]
      exact hJ
  | m + 1, i, hm => by
    have hi : i < L.length := by omega
    have hx := hr _ (List.getElem_mem hi)
    have hlen := hx.len
    have ih := L1_val hJ hN hL hr hs m (i + 1) (by omega)
    rw [laws_FnRowsThere.L1_eq, if_pos (by omega), if_pos (by omega), if_pos (by omega), rdLL hi, impl_IsHooked.F_val _ (by omega), isHooked_row hN.1 hx, wrap_up (n := L.length) hi (by omega)]
    simp only [Option.bind_some, if_true]
    by_cases h0 : i = 0
    · rw [if_neg (by omega)]
      exact ih
    · obtain ⟨j, rfl⟩ : ∃ j, i = j + 1 := ⟨i - 1, by omega⟩
      have hj : j < L.length := by omega
      have e : wrap64 (((j + 1 : Nat) : Int) - 1) = (j : Int) := by rw [wrap_in (by omega) (by omega)]; omega
      have hlj := (hr _ (List.getElem_mem hj)).len
      rw [if_pos (by omega), e, if_pos (by omega), if_pos (by omega), rdLL hj, laws_jLess.F_val _ _ (by omega), before hs hi]
      simp only [Option.bind_some, if_true]
      exact ih
theorem hooked_ok {n : Int} (h : hookedOk n = true) (h8 : n ≠ 8) (h9 : n ≠ 9) : hookedThere n = (decide (0 < (hookedRows n.toNat).length), true) := by
  have hd := of_decide_eq_true h
  have ht := hooked_there n.toNat (by omega) (by omega)
  unfold hookedThere numberOk
  rw [if_pos (by rw [decide_eq_true (by omega)])]
  congr 1
  rw [decide_eq_decide, ht]
  have : Int.tmod n 4 = ((n.toNat % 4 : Nat) : Int) := by
    rw [Int.tmod_eq_emod_of_nonneg (by omega)]
    omega
  omega
theorem kindAll_len {L : List (List Int)} : (kindAll L).1.length ≤ 600 := by
  unfold kindAll
  split
  · assumption
  · simp
theorem kindAll_mem {L : List (List Int)} {x : List Int} (h : x ∈ (kindAll L).1) : x ∈ L := by
  unfold kindAll at h
  split at h
  · exact h
  · simp at h
theorem kindFirst_mem {L : List (List Int)} : (kindFirst L).1 = [] ∨ (kindFirst L).1 ∈ L := by
  cases L with
  | nil => exact .inl rfl
  | cons x l => exact .inr (by simp [kindFirst])
theorem kindFirst_two {L : List (List Int)} : (kindFirst L).2 = decide (0 < L.length) := by
  cases L with
  | nil => rfl
  | cons x l => simp [kindFirst]
theorem kindAll_two {L : List (List Int)} : (kindAll L).2 = decide (L.length ≤ 600) := by
  unfold kindAll
  split <;> rename_i h
  · rw [decide_eq_true h]
  · rw [decide_eq_false h]
theorem J2_true {l : List Int} (h : DrawSt l 0 0) : laws_FnRowsThere.J2 l = some true := by
  have hJ := J5_true h
  obtain ⟨n, hn, h10, h8, h9⟩ := drawn_hooked h
  rw [laws_FnRowsThere.J2_eq]
  by_cases hok : hookedOk n = true
  · have hd := of_decide_eq_true hok
    have hr : ∀ x ∈ hookedRows n.toNat, RowOk (2 * n.toNat + 1) n.toNat 1 0 (2 * (n.toNat : Int) - 1) x := fun x hx => (rowsOf_ok (hooked_kind n.toNat (by omega) (by omega)) x).1 hx
    have hs : (hookedRows n.toNat).Pairwise LexLt := rowsOf_sorted (hooked_fit n.toNat (by omega)) (by omega) (by omega)
    have ht := hooked_ok hok h8 h9
    generalize hL : hookedRows n.toNat = L at hr hs ht
    have q1 := laws_jRows.F_val (kindAll L).1 (kindAll L).1 (by have := kindAll_len (L := L); omega) (fun x hx => by have := (hr x (kindAll_mem hx)).len; omega)
    have q2 := laws_jSame.F_val (kindFirst L).1 (kindFirst L).1 (by
      rcases kindFirst_mem (L := L) with e | e
      · rw [e]; simp
      · have := (hr _ e).len; omega)
    rw [decide_eq_true rfl] at q1 q2
    have k2 := kindAll_two (L := L)
    have f2 := kindFirst_two (L := L)
    have ec : ((L.length : Int) ≤ 600) ↔ L.length ≤ 600 := by omega
    have ec2 : ((L.length : Int) > 0) ↔ 0 < L.length := by omega
    simp only [hn, impl_IsHookedThere.f_val, impl_CountHooked.f_val, spec_CountHooked.f_val, impl_AllHooked.f_val, spec_AllHooked.f_val, impl_FirstHooked.f_val, spec_FirstHooked.f_val, countHooked, allHooked, firstHooked, if_pos hok, Option.bind_some, bne_self_eq_false, Bool.false_eq_true, if_false, if_true, ht, hL, kindCount, q1, q2, k2, f2, ec, ec2]
    rw [laws_FnRowsThere.J3_eq, if_neg (by decide)]
    by_cases h6 : L.length ≤ 600
    · rw [if_pos (decide_eq_true h6)]
      have e : (kindAll L).1 = L := by unfold kindAll; rw [if_pos h6]
      rw [e]
      exact L1_val hJ (by omega) h6 hr hs L.length 0 (by omega)
    · rw [if_neg (by rw [decide_eq_false h6]; decide)]
      exact hJ
  · simp only [hn, impl_IsHookedThere.f_val, impl_CountHooked.f_val, spec_CountHooked.f_val, impl_AllHooked.f_val, spec_AllHooked.f_val, impl_FirstHooked.f_val, spec_FirstHooked.f_val, countHooked, allHooked, firstHooked, if_neg hok, Option.bind_some, bne_self_eq_false, Bool.false_eq_true, if_false, if_true]
    have q1 := laws_jRows.F_val [] [] (by simp) (by simp)
    have q2 := laws_jSame.F_val [] [] (by simp)
    rw [decide_eq_true rfl] at q1 q2
    simp only [q1, q2, Option.bind_some, if_true, laws_FnRowsThere.J3_eq, Bool.false_eq_true, if_false]
    exact hJ
theorem L0_val {l1 : List Int} (hJ : laws_FnRowsThere.J2 l1 = some true) {N : Nat} (hN : 1 ≤ N ∧ N ≤ 9) {L : List (List Int)} (hL : L.length ≤ 600) (hr : ∀ x ∈ L, RowOk (2 * N) N 1 0 (-1) x) (hb : ∀ x ∈ L, x.reverse ∈ L) (hs : L.Pairwise LexLt) : ∀ m i : Nat, i + m = L.length → laws_FnRowsThere.L0 l1 (N : Int) (L.length : Int) L (kindFirst L).1 L (L.length : Int) (i : Int) = some true
  | 0, i, hm => by
    rw [laws_FnRowsThere.L0_eq, if_neg (by omega), if_pos rfl]
    by_cases h0 : 0 < L.length
    · have e := rdLL (L := L) (i := 0) h0
      rw [show ((0 : Nat) : Int) = 0 from rfl] at e
      rw [if_pos (by omega), if_pos (by omega), e, first_same h0, laws_jSame.F_val _ _ (by
        have := (hr _ (List.getElem_mem h0)).len
        rw [first_same h0] at this
        omega)]
      simp only [Option.bind_some, decide_true, if_true]
      exact hJ
    · rw [if_neg (by omega)]
      exact hJ
  | m + 1, i, hm => by
    have hi : i < L.length := by omega
    have hx := hr _ (List.getElem_mem hi)
    have hlen := hx.len
    have ih := L0_val hJ hN hL hr hb hs m (i + 1) (by omega)
    have hin := laws_jIn.F_val L (L[i]).reverse (by omega) (fun y hy => by have := (hr y hy).len; omega)
    rw [decide_eq_true (hb _ (List.getElem_mem hi))] at hin
    have hbk := laws_jBack.F_val L[i] (by omega)
    have ew : wrap64 (2 * (N : Int)) = 2 * (N : Int) := wrap_in (by omega) (by omega)
    rw [laws_FnRowsThere.L0_eq, if_pos (by omega), if_pos (by omega), if_pos (by omega), rdLL hi, impl_IsSkolem.F_val _ (by omega), isSkolem_row hN.1 hx, wrap_up (n := L.length) hi (by omega), ew]
    simp only [Option.bind_some, if_true]
    rw [if_pos (by omega)]
    by_cases h0 : i = 0
    · rw [if_neg (by omega), hbk]
      simp only [Option.bind_some, hin, if_true]
      exact ih
    · obtain ⟨j, rfl⟩ : ∃ j, i = j + 1 := ⟨i - 1, by omega⟩
      have hj : j < L.length := by omega
      have e : wrap64 (((j + 1 : Nat) : Int) - 1) = (j : Int) := by rw [wrap_in (by omega) (by omega)]; omega
      have hlj := (hr _ (List.getElem_mem hj)).len
      rw [if_pos (by omega), e, if_pos (by omega), if_pos (by omega), rdLL hj, laws_jLess.F_val _ _ (by omega), before hs hi]
      simp only [Option.bind_some, if_true, hbk, hin]
      exact ih
theorem skolem_ok {n : Int} (h : skolemOk n = true) (h9 : n ≠ 9) : skolemThere n = (decide (0 < (skolemRows n.toNat).length), true) := by
  have hd := of_decide_eq_true h
  have ht := skolem_there n.toNat (by omega) (by omega)
  unfold skolemThere numberOk
  rw [if_pos (by rw [decide_eq_true (by omega)])]
  congr 1
  rw [decide_eq_decide, ht]
  have : Int.tmod n 4 = ((n.toNat % 4 : Nat) : Int) := by
    rw [Int.tmod_eq_emod_of_nonneg (by omega)]
    omega
  omega
theorem FnRowsThere : laws_FnRowsThere.Pure := by
  intro l0 l1 _ _ hw0 _ _ hw1
  refine Lim.rounds (laws_FnRowsThere.F_lim l0 l1) ?_
  rw [laws_FnRowsThere.F_eq, laws_big.f_val]
  simp only [Option.bind_some]
  by_cases hbig : 1048576 < l0.length ∨ 1048576 < l0.length + l1.length
  · rw [if_pos (decide_eq_true hbig)]
  rw [if_neg (by rw [decide_eq_false hbig]; decide)]
  have h0 := draw_start (l := l0) (by omega) hw0
  have h1 := draw_start (l := l1) (by omega) hw1
  have hJ := J2_true h1
  obtain ⟨n, hn, h10, h9⟩ := drawn_skolem h0
  by_cases hok : skolemOk n = true
  · have hd := of_decide_eq_true hok
    have hr : ∀ x ∈ skolemRows n.toNat, RowOk (2 * n.toNat) n.toNat 1 0 (-1) x := fun x hx => (rowsOf_ok (skolem_kind n.toNat (by omega) (by omega)) x).1 hx
    have hb : ∀ x ∈ skolemRows n.toNat, x.reverse ∈ skolemRows n.toNat := fun x hx => by
      have := (hr x hx).back (by omega)
      rw [if_neg (by omega)] at this
      exact (rowsOf_ok (skolem_kind n.toNat (by omega) (by omega)) _).2 this
    have hs : (skolemRows n.toNat).Pairwise LexLt := rowsOf_sorted (skolem_fit n.toNat (by omega)) (by omega) (by omega)
    have ht := skolem_ok hok h9
    generalize hL : skolemRows n.toNat = L at hr hs ht hb
    have q1 := laws_jRows.F_val (kindAll L).1 (kindAll L).1 (by have := kindAll_len (L := L); omega) (fun x hx => by have := (hr x (kindAll_mem hx)).len; omega)
    have q2 := laws_jSame.F_val (kindFirst L).1 (kindFirst L).1 (by
      rcases kindFirst_mem (L := L) with e | e
      · rw [e]; simp
      · have := (hr _ e).len; omega)
    rw [decide_eq_true rfl] at q1 q2
    have k2 := kindAll_two (L := L)
    have f2 := kindFirst_two (L := L)
    have ec : ((L.length : Int) ≤ 600) ↔ L.length ≤ 600 := by omega
    have ec2 : ((L.length : Int) > 0) ↔ 0 < L.length := by omega
    simp only [hn, impl_IsSkolemThere.f_val, impl_CountSkolem.f_val, spec_CountSkolem.f_val, impl_AllSkolem.f_val, spec_AllSkolem.f_val, impl_FirstSkolem.f_val, spec_FirstSkolem.f_val, countSkolem, allSkolem, firstSkolem, if_pos hok, Option.bind_some, bne_self_eq_false, Bool.false_eq_true, if_false, if_true, ht, hL, kindCount, q1, q2, k2, f2, ec, ec2]
    rw [laws_FnRowsThere.J0_eq, if_neg (by decide)]
    by_cases h6 : L.length ≤ 600
    · rw [if_pos (decide_eq_true h6)]
      have e : (kindAll L).1 = L := by unfold kindAll; rw [if_pos h6]
      have en : n = ((n.toNat : Nat) : Int) := by omega
      rw [e]
      have := L0_val hJ (N := n.toNat) (by omega) h6 hr hb hs L.length 0 (by omega)
      rw [← en] at this
      exact this
    · rw [if_neg (by rw [decide_eq_false h6]; decide)]
      exact hJ
  · simp only [hn, impl_IsSkolemThere.f_val, impl_CountSkolem.f_val, spec_CountSkolem.f_val, impl_AllSkolem.f_val, spec_AllSkolem.f_val, impl_FirstSkolem.f_val, spec_FirstSkolem.f_val, countSkolem, allSkolem, firstSkolem, if_neg hok, Option.bind_some, bne_self_eq_false, Bool.false_eq_true, if_false, if_true]
    have q1 := laws_jRows.F_val [] [] (by simp) (by simp)
    have q2 := laws_jSame.F_val [] [] (by simp)
    rw [decide_eq_true rfl] at q1 q2
    simp only [q1, q2, Option.bind_some, if_true, laws_FnRowsThere.J0_eq, Bool.false_eq_true, if_false]
    exact hJ
end Go.Proofs.Ytaohgllnoomaeaa.Pure
