/- The machine's side and plain lemmas for FnCombsAndRings: texts of this session, merged by its program (part 10). -/
import Derived.Test.YtapffhnkfgkboaaMFnCombsAndRings0
import Derived.Test.YtapffhnkfgkboaaMFnCombsAndRings1
import Derived.Test.YtapffhnkfgkboaaMFnCombsAndRings2
import Derived.Test.YtapffhnkfgkboaaMFnCombsAndRings3
import Derived.Test.YtapffhnkfgkboaaMFnCombsAndRings4
import Derived.Test.YtapffhnkfgkboaaMFnCombsAndRings5
import Derived.Test.YtapffhnkfgkboaaMFnCombsAndRings6
import Derived.Test.YtapffhnkfgkboaaMFnCombsAndRings7
import Derived.Test.YtapffhnkfgkboaaMFnCombsAndRings8
import Derived.Test.YtapffhnkfgkboaaMFnCombsAndRings9
set_option maxHeartbeats 80000000
set_option maxRecDepth 100000
namespace Go.Proofs.Ytapffhnkfgkboaa.Fn
open Go.RowKit Go.Proofs.YtapffhnkfgkboaaW.PrintWords Go.Proofs.YtapffhnkfgkboaaW.PrintLast Go.Proofs.YtapffhnkfgkboaaW.PrintMore
set_option linter.unusedVariables false
set_option linter.unusedSimpArgs false
def isRow (l : List Int) : Bool := decide (l.length ≤ 40) && l.all (fun x => decide (0 ≤ x) && decide (x ≤ 20))
theorem isRow_len {l : List Int} (h : isRow l = true) : l.length ≤ 40 := by
  unfold isRow at h
  simp only [Bool.and_eq_true, decide_eq_true_eq] at h
  exact h.1
theorem isRow_mem {l : List Int} (h : isRow l = true) {x : Int} (hx : x ∈ l) : 0 ≤ x ∧ x ≤ 20 := by
  unfold isRow at h
  simp only [Bool.and_eq_true, decide_eq_true_eq, List.all_eq_true] at h
  exact h.2 x hx
theorem Zcf.f_val (l : List Int) (h : l.length < 17592186044416) : Zcf.f l = some l := by
  unfold Zcf.f
  simp [h]
theorem Zcc.f_val (a b c : Int) : Zcc.f a b c = some (decide (b ≤ a) && decide (a ≤ c)) := by
  unfold Zcc.f
  by_cases h : a ≥ b
  · rw [if_pos h]
    simp [show b ≤ a from h]
  · rw [if_neg h]
    simp [show ¬ b ≤ a from h]
theorem Zbf.L0_val (l : List Int) : ∀ (suf pre : List Int), (pre ++ suf).length < 4611686018427387904 → Zbf.L0 l (pre ++ suf) ((pre ++ suf).length : Int) (pre.length : Int) = some (suf.all (fun x => decide (0 ≤ x) && decide (x ≤ 20)) && decide (l.length ≤ 40))
  | [], pre, h => by
    rw [Zbf.L0_eq, range_end]
    simp
    omega
  | x :: suf, pre, h => by
    rw [Zbf.L0_eq, range_step, rd_mid, wrap_mid h]
    by_cases h1 : x < 0
    · have : ¬ 0 ≤ x := by omega
      rw [if_pos h1]
      simp [this]
    have h1' : 0 ≤ x := by omega
    rw [if_neg h1]
    by_cases h2 : x > 20
    · have : ¬ x ≤ 20 := by omega
      rw [if_pos h2]
      simp [this]
    · have h2' : x ≤ 20 := by omega
      rw [if_neg h2, app_mid, Zbf.L0_val l suf (pre ++ [x]) (by simpa using h)]
      simp [h1', h2']
theorem Zbf.F_val (l : List Int) (h : l.length < 4611686018427387904) : Zbf.F l = some (isRow l) := by
  rw [Zbf.F_eq]
  have := Zbf.L0_val l l [] (by simpa using h)
  simp only [List.nil_append, List.length_nil] at this
  rw [isRow, Bool.and_comm]
  exact this
theorem Zba.L0_val (a b : Int) : ∀ (suf pre : List Int), (pre ++ suf).length < 4611686018427387904 → Zba.L0 a b (pre ++ suf) ((pre ++ suf).length : Int) (pre.length : Int) = some (suf.all (fun x => decide (a ≤ x) && decide (x ≤ b)))
  | [], pre, h => by
    rw [Zba.L0_eq, range_end]
    simp
  | x :: suf, pre, h => by
    rw [Zba.L0_eq, range_step, rd_mid, wrap_mid h, Zcc.f_val]
    simp only [Option.bind_some]
    by_cases h1 : (decide (a ≤ x) && decide (x ≤ b)) = true
    · rw [if_pos h1, app_mid, Zba.L0_val a b suf (pre ++ [x]) (by simpa using h)]
      simp only [List.all_cons, h1, Bool.true_and]
    · rw [if_neg h1]
      simp only [List.all_cons, Bool.not_eq_true] at h1 ⊢
      rw [h1, Bool.false_and]
theorem Zba.F_val (l : List Int) (a b : Int) (h : l.length < 4611686018427387904) : Zba.F l a b = some (l.all (fun x => decide (a ≤ x) && decide (x ≤ b))) := by
  rw [Zba.F_eq]
  have := Zba.L0_val a b l [] (by simpa using h)
  simpa using this
theorem Zci.F_val (l : List Int) (h : l.length < 4611686018427387904) : Zci.F l = some (isRow l) := by
  rw [Zci.F_eq]
  unfold isRow
  by_cases h1 : (l.length : Int) ≤ 40
  · rw [if_pos h1, Zba.F_val l 0 20 h]
    have : l.length ≤ 40 := by omega
    simp [this]
  · rw [if_neg h1]
    have : ¬ l.length ≤ 40 := by omega
    simp [this]
theorem placesFrom_count (n : Int) : ∀ (l : List Int) (i : Nat), (placesFrom n i l).length = l.count n
  | [], i => by simp [placesFrom]
  | x :: l, i => by
    have ih := placesFrom_count n l (i + 1)
    by_cases h : x = n
    · subst h
      simp [placesFrom, ih]
    · simp [placesFrom, h, ih]
theorem placesOf_count (l : List Int) (n : Int) : (placesOf l n).length = l.count n := placesFrom_count n l 0
theorem pairsOk_eq (l : List Int) : pairsOk l = (List.range' 1 20).all fun k => (placesOf l (k : Nat)).length == 0 || (placesOf l (k : Nat)).length == 2 := by
  unfold pairsOk
  rw [show List.range 21 = 0 :: List.range' 1 20 from rfl, List.all_cons]
  simp only [atOf, if_true, List.length_nil, beq_self_eq_true, Bool.true_or, Bool.true_and]
  rw [Bool.eq_iff_iff, List.all_eq_true, List.all_eq_true]
  have hk : ∀ k, k ∈ List.range' 1 20 → ¬ k = 0 := fun k hk => by have := List.mem_range'_1.1 hk; omega
  exact ⟨fun H k h => by have := H k h; rw [if_neg (hk k h)] at this; exact this, fun H k h => by rw [if_neg (hk k h)]; exact H k h⟩
theorem pairsOk_count {l : List Int} (h : pairsOk l = true) (k : Nat) (h1 : 1 ≤ k) (h2 : k ≤ 20) : l.count (k : Int) = 0 ∨ l.count (k : Int) = 2 := by
  rw [pairsOk_eq, List.all_eq_true] at h
  have := h k (List.mem_range'_1.2 (by omega))
  rw [placesOf_count] at this
  simpa using this
def numbersFrom (l : List Int) (n m : Nat) : List Int := ((List.range' n m).filter (fun k : Nat => decide ((k : Int) ∈ l))).map (fun k : Nat => (k : Int))
def numbersOf (l : List Int) : List Int := numbersFrom l 1 20
theorem numbersFrom_length (l : List Int) (n m : Nat) : (numbersFrom l n m).length ≤ m := by
  unfold numbersFrom
  have := List.length_filter_le (fun k : Nat => decide ((k : Int) ∈ l)) (List.range' n m)
  simp at this ⊢
  exact this
theorem mem_numbersOf (l : List Int) (v : Int) : v ∈ numbersOf l ↔ v ∈ l ∧ 1 ≤ v ∧ v ≤ 20 := by
  simp only [numbersOf, numbersFrom, List.mem_map, List.mem_filter, List.mem_range'_1, decide_eq_true_eq]
  constructor
  · rintro ⟨k, ⟨hi, hk⟩, rfl⟩
    exact ⟨hk, by omega, by omega⟩
  · rintro ⟨h, h1, h2⟩
    refine ⟨v.toNat, ⟨by omega, ?_⟩, by omega⟩
    rwa [Int.toNat_of_nonneg (by omega)]
theorem fitsAt_eq (l : List Int) (s : Int) (h : pairsOk l = true) : fitsAt l s = (numbersOf l).all fun v => wrap64 (rd (placesOf l v) 1 - rd (placesOf l v) 0) == wrap64 (v + s) := by
  unfold fitsAt
  rw [Bool.eq_iff_iff, List.all_eq_true, List.all_eq_true]
  constructor
  · intro H v hv
    obtain ⟨h1, h2, h3⟩ := (mem_numbersOf l v).1 hv
    obtain ⟨k, rfl⟩ : ∃ k : Nat, v = (k : Int) := ⟨v.toNat, by omega⟩
    have hk := H k (by simp; omega)
    have hz : ¬ k = 0 := by omega
    rw [atOf, if_neg hz, placesOf_count] at hk
    have h5 : 0 < l.count (k : Int) := List.count_pos_iff.2 h1
    rcases pairsOk_count h k (by omega) (by omega) with h4 | h4
    · omega
    · rw [h4] at hk
      simpa using hk
  · intro H k hk
    by_cases hz : k = 0
    · subst hz
      rfl
    rw [atOf, if_neg hz, placesOf_count]
    by_cases h4 : l.count (k : Int) = 2
    · have h5 : (k : Int) ∈ l := List.count_pos_iff.1 (by omega)
      have := H k ((mem_numbersOf l k).2 ⟨h5, by omega, by simp at hk; omega⟩)
      rw [h4]
      simpa using this
    · rw [beq_false_of_ne h4]
      rfl
def isPairs (l : List Int) : Bool := isRow l && pairsOk l
theorem isPairs_row {l : List Int} (h : isPairs l = true) : isRow l = true := by
  unfold isPairs at h
  exact (Bool.and_eq_true_iff.1 h).1
theorem isPairs_ok {l : List Int} (h : isPairs l = true) : pairsOk l = true := by
  unfold isPairs at h
  exact (Bool.and_eq_true_iff.1 h).2
theorem Zai.L0_val (n : Int) : ∀ (suf pre acc : List Int), (pre ++ suf).length < 4611686018427387904 → acc.length + suf.length < 17592186044416 → Zai.L0 n acc (pre ++ suf) ((pre ++ suf).length : Int) (pre.length : Int) = some (acc ++ placesFrom n pre.length suf)
  | [], pre, acc, h, ha => by
    rw [Zai.L0_eq, range_end]
    simp [placesFrom]
  | x :: suf, pre, acc, h, ha => by
    have ha' : acc.length + (suf.length + 1) < 17592186044416 := by simpa using ha
    have e : (pre ++ [x]).length = pre.length + 1 := by simp
    rw [Zai.L0_eq, range_step, rd_mid, wrap_mid h, app_mid pre x suf]
    by_cases h1 : x = n
    · rw [if_pos h1, if_pos (by omega), Zai.L0_val n suf (pre ++ [x]) _ (by simpa using h) (by simp; omega), e]
      simp [placesFrom, h1]
    · rw [if_neg h1, Zai.L0_val n suf (pre ++ [x]) _ (by simpa using h) (by omega), e]
      simp [placesFrom, h1]
theorem Zai.F_val (l : List Int) (n : Int) (h : l.length < 17592186044416) : Zai.F l n = some (placesOf l n) := by
  rw [Zai.F_eq]
  have := Zai.L0_val n l [] [] (by simp; omega) (by simpa using h)
  simpa [placesOf] using this
theorem Zax.L0_val (l : List Int) (hl : l.length < 17592186044416) : ∀ (m n : Nat), n + m = 21 → Zax.L0 l (n : Int) = some ((List.range' n m).all fun k => (placesOf l (k : Nat)).length == 0 || (placesOf l (k : Nat)).length == 2)
  | 0, n, h => by
    rw [Zax.L0_eq, if_neg (by omega)]
    rfl
  | m + 1, n, h => by
    have e : wrap64 ((n : Int) + 1) = ((n + 1 : Nat) : Int) := by rw [wrap_in (by omega) (by omega)]; omega
    rw [Zax.L0_eq, if_pos (by omega), Zai.F_val l n hl]
    simp only [Option.bind_some]
    rw [e, Zax.L0_val l hl m (n + 1) (by omega), List.range'_succ, List.all_cons]
    by_cases h0 : (placesOf l n).length = 0
    · rw [if_pos (by omega), beq_iff_eq.2 h0]
      rfl
    rw [if_neg (by omega), beq_false_of_ne h0]
    by_cases h2 : (placesOf l n).length = 2
    · rw [if_pos (by omega), beq_iff_eq.2 h2]
      rfl
    · rw [if_neg (by omega), beq_false_of_ne h2]
      rfl
theorem Zax.F_val (l : List Int) (hl : l.length < 17592186044416) : Zax.F l = some (pairsOk l) := by
  rw [Zax.F_eq, pairsOk_eq]
  exact Zax.L0_val l hl 20 1 (by omega)
theorem Zcm.F_val (l : List Int) (h : l.length < 17592186044416) : Zcm.F l = some (isPairs l) := by
  rw [Zcm.F_eq, Zci.F_val l (by omega)]
  simp only [Option.bind_some]
  unfold isPairs
  by_cases h1 : isRow l = true
  · rw [if_pos h1, Zax.F_val l h, h1]
    rfl
  · rw [if_neg h1, Bool.eq_false_iff.2 h1]
    rfl
theorem Zcd.F_val (l : List Int) (h : l.length < 4611686018427387904) : Zcd.F l = some (isPairs l) := by
  rw [Zcd.F_eq, Zbf.F_val l h]
  simp only [Option.bind_some]
  unfold isPairs
  by_cases h1 : isRow l = true
  · rw [if_pos h1, h1]
    rfl
  · rw [if_neg h1, Bool.eq_false_iff.2 h1]
    rfl
theorem Zcn.F_val (l : List Int) (s : Int) (h : l.length < 4611686018427387904) : Zcn.F l s = some (isPairs l && fitsAt l s) := by
  rw [Zcn.F_eq, Zcd.F_val l h]
  simp only [Option.bind_some]
  by_cases h1 : isPairs l = true
  · rw [if_pos h1, h1]
    rfl
  · rw [if_neg h1, Bool.eq_false_iff.2 h1]
    rfl
theorem Zaz.L0_val (n : Int) : ∀ (suf pre : List Int), (pre ++ suf).length < 4611686018427387904 → Zaz.L0 n (pre ++ suf) ((pre ++ suf).length : Int) (pre.length : Int) = some (decide (n ∈ suf))
  | [], pre, h => by
    rw [Zaz.L0_eq, range_end]
    simp
  | x :: suf, pre, h => by
    rw [Zaz.L0_eq, range_step, rd_mid, wrap_mid h, app_mid pre x suf, Zaz.L0_val n suf (pre ++ [x]) (by simpa using h)]
    by_cases h1 : x = n
    · rw [if_pos h1]
      simp [h1]
    · rw [if_neg h1]
      have : ¬ n = x := fun h => h1 h.symm
      simp [this]
theorem Zaz.F_val (l : List Int) (n : Int) (h : l.length < 4611686018427387904) : Zaz.F l n = some (decide (n ∈ l)) := by
  rw [Zaz.F_eq]
  have := Zaz.L0_val n l [] (by simpa using h)
  simpa using this
def indexFrom (n : Int) : Nat → List Int → Int
  | _, [] => -1
  | i, x :: l => if n = x then (i : Int) else indexFrom n (i + 1) l
theorem indexFrom_mem (n : Int) : ∀ (l : List Int) (i : Nat), 0 ≤ indexFrom n i l ↔ n ∈ l
  | [], i => by simp [indexFrom]
  | x :: l, i => by
    have ih := indexFrom_mem n l (i + 1)
    by_cases h : n = x
    · simp [indexFrom, h]
    · simp [indexFrom, h, ih]
theorem Zaj.L0_val (n : Int) : ∀ (suf pre : List Int), (pre ++ suf).length < 4611686018427387904 → Zaj.L0 (pre ++ suf) n ((pre ++ suf).length : Int) (pre.length : Int) = some (indexFrom n pre.length suf)
  | [], pre, h => by
    rw [Zaj.L0_eq, range_end]
    rfl
  | x :: suf, pre, h => by
    have e : (pre ++ [x]).length = pre.length + 1 := by simp
    rw [Zaj.L0_eq, range_step, rd_mid, wrap_mid h, app_mid pre x suf, Zaj.L0_val n suf (pre ++ [x]) (by simpa using h), e, indexFrom]
    split <;> rfl
theorem Zaj.F_val (l : List Int) (n : Int) (h : l.length < 4611686018427387904) : Zaj.F l n = some (indexFrom n 0 l) := by
  rw [Zaj.F_eq]
  have := Zaj.L0_val n l [] (by simpa using h)
  simpa using this
theorem Zah.F_val (l : List Int) (n : Int) (h : l.length < 4611686018427387904) : Zah.F l n = some (decide (n ∈ l)) := by
  rw [Zah.F_eq, Zaj.F_val l n h]
  simp only [Option.bind_some]
  have := indexFrom_mem n l 0
  congr 1
  rw [decide_eq_decide]
  exact this
theorem Zal.L0_val (l : List Int) (hl : l.length < 4611686018427387904) : ∀ (m n : Nat) (acc : List Int), n + m = 21 → acc.length + m < 100 → Zal.L0 l acc (n : Int) = some (acc ++ numbersFrom l n m)
  | 0, n, acc, h, ha => by
    rw [Zal.L0_eq, if_neg (by omega)]
    simp [numbersFrom]
  | m + 1, n, acc, h, ha => by
    have e : wrap64 ((n : Int) + 1) = ((n + 1 : Nat) : Int) := by rw [wrap_in (by omega) (by omega)]; omega
    rw [Zal.L0_eq, if_pos (by omega), Zaz.F_val l n hl]
    simp only [Option.bind_some]
    by_cases h1 : (n : Int) ∈ l
    · rw [if_pos (by simpa using h1), if_pos (by omega), e, Zal.L0_val l hl m (n + 1) _ (by omega) (by simp; omega)]
      simp [numbersFrom, List.range'_succ, h1]
    · rw [if_neg (by simpa using h1), e, Zal.L0_val l hl m (n + 1) _ (by omega) (by omega)]
      simp [numbersFrom, List.range'_succ, h1]
theorem Zal.F_val (l : List Int) (hl : l.length < 4611686018427387904) : Zal.F l = some (numbersOf l) := by
  rw [Zal.F_eq]
  exact Zal.L0_val l hl 20 1 [] (by omega) (by simp)
theorem Zaw.L0_val (l : List Int) (hl : l.length < 4611686018427387904) : ∀ (m n : Nat) (acc : List Int), n + m = 21 → acc.length + m < 100 → Zaw.L0 l acc (n : Int) = some (acc ++ numbersFrom l n m)
  | 0, n, acc, h, ha => by
    rw [Zaw.L0_eq, if_neg (by omega)]
    simp [numbersFrom]
  | m + 1, n, acc, h, ha => by
    have e : wrap64 ((n : Int) + 1) = ((n + 1 : Nat) : Int) := by rw [wrap_in (by omega) (by omega)]; omega
    rw [Zaw.L0_eq, if_pos (by omega), Zah.F_val l n hl]
    simp only [Option.bind_some]
    by_cases h1 : (n : Int) ∈ l
    · rw [if_pos (by simpa using h1), if_pos (by omega), e, Zaw.L0_val l hl m (n + 1) _ (by omega) (by simp; omega)]
      simp [numbersFrom, List.range'_succ, h1]
    · rw [if_neg (by simpa using h1), e, Zaw.L0_val l hl m (n + 1) _ (by omega) (by omega)]
      simp [numbersFrom, List.range'_succ, h1]
theorem Zaw.F_val (l : List Int) (hl : l.length < 4611686018427387904) : Zaw.F l = some (numbersOf l) := by
  rw [Zaw.F_eq]
  exact Zaw.L0_val l hl 20 1 [] (by omega) (by simp)
theorem Zbc.L0_val (l : List Int) (s : Int) (hl : l.length < 17592186044416) : ∀ (suf pre : List Int), (pre ++ suf).length < 4611686018427387904 → (∀ v ∈ suf, (placesOf l v).length = 2) → Zbc.L0 l s (pre ++ suf) ((pre ++ suf).length : Int) (pre.length : Int) = some (suf.all fun v => wrap64 (rd (placesOf l v) 1 - rd (placesOf l v) 0) == wrap64 (v + s))
  | [], pre, h, hv => by
    rw [Zbc.L0_eq, range_end]
    simp
  | x :: suf, pre, h, hv => by
    have h2 := hv x (by simp)
    rw [Zbc.L0_eq, range_step, rd_mid, wrap_mid h, app_mid pre x suf, Zai.F_val l x hl]
    simp only [Option.bind_some]
    rw [if_pos (by omega), if_pos (by omega), Zbc.L0_val l s hl suf (pre ++ [x]) (by simpa using h) (fun v h => hv v (by simp [h])), List.all_cons]
    by_cases h1 : wrap64 (rd (placesOf l x) 1 - rd (placesOf l x) 0) = wrap64 (x + s)
    · rw [if_pos h1, beq_iff_eq.2 h1]
      rfl
    · rw [if_neg h1, beq_false_of_ne h1]
      rfl
theorem numbersOf_two {l : List Int} (h : pairsOk l = true) {v : Int} (hv : v ∈ numbersOf l) : (placesOf l v).length = 2 := by
  obtain ⟨h1, h2, h3⟩ := (mem_numbersOf l v).1 hv
  obtain ⟨k, rfl⟩ : ∃ k : Nat, v = (k : Int) := ⟨v.toNat, by omega⟩
  have h5 : 0 < l.count (k : Int) := List.count_pos_iff.2 h1
  rw [placesOf_count]
  rcases pairsOk_count h k (by omega) (by omega) with h4 | h4 <;> omega
theorem Zbc.F_val (l : List Int) (s : Int) (hl : l.length < 17592186044416) (h : pairsOk l = true) : Zbc.F l s = some (fitsAt l s) := by
  rw [Zbc.F_eq, Zal.F_val l (by omega)]
  simp only [Option.bind_some]
  rw [fitsAt_eq l s h]
  have hn := numbersFrom_length l 1 20
  have := Zbc.L0_val l s hl (numbersOf l) [] (by simp only [List.nil_append, numbersOf]; omega) (fun v hv => numbersOf_two h hv)
  simpa using this
def fromOf (k : Int) : Nat → List Int → Bool
  | _, [] => true
  | i, x :: l => decide (x = k + (i : Int)) && fromOf k (i + 1) l
theorem numbersFrom_count (l : List Int) : ∀ (m n : Nat), (∀ k, n ≤ k → k < n + m → l.count (k : Int) = 0 ∨ l.count (k : Int) = 2) → ((List.range' n m).map fun k : Nat => l.count (k : Int)).sum = 2 * (numbersFrom l n m).length
  | 0, n, h => rfl
  | m + 1, n, h => by
    have ih := numbersFrom_count l m (n + 1) (fun k h1 h2 => h k (by omega) (by omega))
    rw [List.range'_succ, List.map_cons, List.sum_cons, ih]
    have e : numbersFrom l n (m + 1) = (if (n : Int) ∈ l then [(n : Int)] else []) ++ numbersFrom l (n + 1) m := by
      unfold numbersFrom
      rw [List.range'_succ]
      by_cases hn : (n : Int) ∈ l <;> simp [hn]
    rw [e, List.length_append]
    by_cases hn : (n : Int) ∈ l
    rotate_left
    · have h5 : l.count (n : Int) = 0 := List.count_eq_zero.2 hn
      rw [if_neg hn, h5]
      simp
    have h5 : 0 < l.count (n : Int) := List.count_pos_iff.2 hn
    rcases h n (by omega) (by omega) with h4 | h4
    · omega
    · rw [if_pos hn, h4]
      simp
      omega
theorem count_sum : ∀ (l : List Int) (m n : Nat), (∀ x ∈ l, (n : Int) ≤ x ∧ x < (n : Int) + m) → ((List.range' n m).map fun k : Nat => l.count (k : Int)).sum = l.length
  | [], m, n, h => by
    have : ∀ ks : List Nat, (ks.map fun k : Nat => ([] : List Int).count (k : Int)).sum = 0 := fun ks => by induction ks with | nil => rfl | cons a t ih => rw [List.map_cons, List.sum_cons, ih]; rfl
    exact this _
  | x :: l, m, n, h => by
    have ih := count_sum l m n (fun y hy => h y (by simp [hy]))
    have hx := h x (by simp)
    have key : ∀ (m n : Nat), ((n : Int) ≤ x ∧ x < (n : Int) + m → ((List.range' n m).map fun k : Nat => (x :: l).count (k : Int)).sum = ((List.range' n m).map fun k : Nat => l.count (k : Int)).sum + 1) ∧ (¬ ((n : Int) ≤ x ∧ x < (n : Int) + m) → ((List.range' n m).map fun k : Nat => (x :: l).count (k : Int)).sum = ((List.range' n m).map fun k : Nat => l.count (k : Int)).sum) := by
      intro m
      induction m with
      | zero => intro n; exact ⟨fun h => by omega, fun _ => rfl⟩
      | succ m ih =>
        intro n
        obtain ⟨i1, i2⟩ := ih (n + 1)
        rw [List.range'_succ, List.map_cons, List.sum_cons, List.map_cons, List.sum_cons, List.count_cons]
        by_cases hn : x = (n : Int)
        · have := i2 (by omega)
          have hb : (x == (n : Int)) = true := by simpa using hn
          rw [this, hb]
          exact ⟨fun _ => by rw [if_pos rfl]; omega, fun hh => absurd ⟨by omega, by omega⟩ hh⟩
        have hb : (x == (n : Int)) = false := by simpa using hn
        rw [hb]
        constructor
        · intro hh
          rw [i1 (by omega)]
          simp
          omega
        · intro hh
          rw [i2 (by omega)]
          simp
    rw [(key m n).1 hx, ih, List.length_cons]
theorem row_length {l : List Int} (h : isPairs l = true) : l.length = l.count 0 + 2 * (numbersOf l).length := by
  have h1 := count_sum l 21 0 (fun x hx => by have := isRow_mem (isPairs_row h) hx; omega)
  have h2 := numbersFrom_count l 20 1 (fun k h3 h4 => pairsOk_count (isPairs_ok h) k h3 (by omega))
  rw [show List.range' 0 21 = 0 :: List.range' 1 20 from rfl, List.map_cons, List.sum_cons, h2] at h1
  unfold numbersOf
  simp at h1
  omega
theorem Zbg.L0_val : ∀ (suf pre acc : List Int), (pre ++ suf).length < 4611686018427387904 → acc.length + suf.length < 17592186044416 → Zbg.L0 acc (pre ++ suf) ((pre ++ suf).length : Int) (pre.length : Int) = some (acc ++ placesFrom 0 pre.length suf)
  | [], pre, acc, h, ha => by
    rw [Zbg.L0_eq, range_end]
    simp [placesFrom]
  | x :: suf, pre, acc, h, ha => by
    have ha' : acc.length + (suf.length + 1) < 17592186044416 := by simpa using ha
    have e : (pre ++ [x]).length = pre.length + 1 := by simp
    rw [Zbg.L0_eq, range_step, rd_mid, wrap_mid h, app_mid pre x suf]
    by_cases h1 : x = 0
    · rw [if_pos h1, if_pos (by omega), Zbg.L0_val suf (pre ++ [x]) _ (by simpa using h) (by simp; omega), e]
      simp [placesFrom, h1]
    · rw [if_neg h1, Zbg.L0_val suf (pre ++ [x]) _ (by simpa using h) (by omega), e]
      simp [placesFrom, h1]
theorem Zbg.F_val (l : List Int) (h : l.length < 17592186044416) : Zbg.F l = some (placesOf l 0) := by
  rw [Zbg.F_eq]
  have := Zbg.L0_val l [] [] (by simp; omega) (by simpa using h)
  simpa [placesOf] using this
theorem Zbe.L0_val (k : Int) (hk : -1000 ≤ k ∧ k ≤ 1000) (ns : List Int) : ∀ (suf pre : List Int), (pre ++ suf).length ≤ 1000 → Zbe.L0 k ns (pre ++ suf) ((pre ++ suf).length : Int) (pre.length : Int) = some (if fromOf k pre.length suf = true then ((ns.length : Int), decide ((ns.length : Int) > 0)) else (0, false))
  | [], pre, h => by
    rw [Zbe.L0_eq, range_end]
    rfl
  | x :: suf, pre, h => by
    have h' : pre.length + (suf.length + 1) ≤ 1000 := by simpa using h
    have e : (pre ++ [x]).length = pre.length + 1 := by simp
    rw [Zbe.L0_eq, range_step, rd_mid, wrap_mid (pre := pre) (x := x) (suf := suf) (by omega), app_mid pre x suf, wrap_in (n := k + (pre.length : Int)) (by omega) (by omega), Zbe.L0_val k hk ns suf (pre ++ [x]) (by simpa using h), e, fromOf]
    by_cases h1 : x = k + (pre.length : Int)
    · rw [if_pos h1]
      simp [h1]
    · rw [if_neg h1]
      simp [h1]
theorem Zbe.F_val (l : List Int) (k : Int) (hk : -1000 ≤ k ∧ k ≤ 1000) (h : l.length < 4611686018427387904) : Zbe.F l k = some (if fromOf k 0 (numbersOf l) = true then (((numbersOf l).length : Int), decide (((numbersOf l).length : Int) > 0)) else (0, false)) := by
  rw [Zbe.F_eq, Zaw.F_val l h]
  simp only [Option.bind_some]
  have hn := numbersFrom_length l 1 20
  have := Zbe.L0_val k hk (numbersOf l) (numbersOf l) [] (by simp only [List.nil_append, numbersOf]; omega)
  simpa using this
theorem Zbd.L0_val (k : Int) (hk : -1000 ≤ k ∧ k ≤ 1000) (ns : List Int) : ∀ (suf pre : List Int), (pre ++ suf).length ≤ 1000 → Zbd.L0 k ns (pre ++ suf) ((pre ++ suf).length : Int) (pre.length : Int) = some (fromOf k pre.length suf && decide ((ns.length : Int) > 0))
  | [], pre, h => by
    rw [Zbd.L0_eq, range_end]
    rfl
  | x :: suf, pre, h => by
    have h' : pre.length + (suf.length + 1) ≤ 1000 := by simpa using h
    have e : (pre ++ [x]).length = pre.length + 1 := by simp
    rw [Zbd.L0_eq, range_step, rd_mid, wrap_mid (pre := pre) (x := x) (suf := suf) (by omega), app_mid pre x suf, wrap_in (n := k + (pre.length : Int)) (by omega) (by omega), Zbd.L0_val k hk ns suf (pre ++ [x]) (by simpa using h), e, fromOf]
    by_cases h1 : x = k + (pre.length : Int)
    · rw [if_pos h1]
      simp [h1]
    · rw [if_neg h1]
      simp [h1]
theorem Zbd.F_val (l : List Int) (k : Int) (hk : -1000 ≤ k ∧ k ≤ 1000) (h : l.length < 4611686018427387904) : Zbd.F l k = some (fromOf k 0 (numbersOf l) && decide (((numbersOf l).length : Int) > 0)) := by
  rw [Zbd.F_eq, Zal.F_val l h]
  simp only [Option.bind_some]
  have hn := numbersFrom_length l 1 20
  have := Zbd.L0_val k hk (numbersOf l) (numbersOf l) [] (by simp only [List.nil_append, numbersOf]; omega)
  simpa using this
theorem Zar.L0_val (l : List Int) (hl : l.length < 4611686018427387904) : ∀ (n : Nat) (acc : List Int), n ≤ l.length → acc.length + n < 17592186044416 → Zar.L0 l acc ((n : Int) - 1) = some (acc ++ (l.take n).reverse)
  | 0, acc, h, ha => by
    rw [Zar.L0_eq, if_neg (by omega)]
    simp
  | n + 1, acc, h, ha => by
    have e : ((n + 1 : Nat) : Int) - 1 = (n : Int) := by omega
    rw [e, Zar.L0_eq, if_pos (by omega), if_pos (by omega), if_pos (by omega), if_pos (by omega), wrap_in (n := (n : Int) - 1) (by omega) (by omega), Zar.L0_val l hl n _ (by omega) (by simp; omega), rd_nat l n (by omega), List.take_succ_eq_append_getElem (by omega), List.reverse_append]
    simp
theorem Zar.F_val (l : List Int) (h : l.length < 17592186044416) : Zar.F l = some l.reverse := by
  rw [Zar.F_eq, wrap_in (by omega) (by omega)]
  have := Zar.L0_val l (by omega) l.length [] (Nat.le_refl _) (by simpa using h)
  simpa using this
def skolemOf (l : List Int) : Int := if isPairs l = true ∧ fitsAt l 0 = true ∧ l.count 0 = 0 then (if fromOf 1 0 (numbersOf l) = true then ((numbersOf l).length : Int) else 0) else 0
theorem skolemOf_no {l : List Int} (h : ¬ (isPairs l = true ∧ fitsAt l 0 = true ∧ l.count 0 = 0)) : skolemOf l = 0 := if_neg h
theorem skolemOf_yes {l : List Int} (h1 : isPairs l = true) (h2 : fitsAt l 0 = true) (h3 : l.count 0 = 0) : skolemOf l = if fromOf 1 0 (numbersOf l) = true then ((numbersOf l).length : Int) else 0 := if_pos ⟨h1, h2, h3⟩
theorem skolemOf_pos {l : List Int} (h : ¬ skolemOf l = 0) : isPairs l = true ∧ fitsAt l 0 = true ∧ l.count 0 = 0 ∧ fromOf 1 0 (numbersOf l) = true ∧ ¬ (numbersOf l).length = 0 ∧ skolemOf l = ((l.length / 2 : Nat) : Int) := by
  unfold skolemOf at h ⊢
  by_cases h1 : isPairs l = true ∧ fitsAt l 0 = true ∧ l.count 0 = 0
  rotate_left
  · rw [if_neg h1] at h
    exact absurd rfl h
  rw [if_pos h1] at h ⊢
  by_cases h2 : fromOf 1 0 (numbersOf l) = true
  · rw [if_pos h2] at h ⊢
    have := row_length h1.1
    exact ⟨h1.1, h1.2.1, h1.2.2, h2, by omega, by omega⟩
  · rw [if_neg h2] at h
    exact absurd rfl h
theorem Zcj.F_val (l : List Int) (h : l.length < 17592186044416) : Zcj.F l = some (skolemOf l) := by
  rw [Zcj.F_eq, Zcn.F_val l 0 (by omega), Zbg.F_val l h, Zbe.F_val l 1 (by omega) (by omega)]
  simp only [Option.bind_some, placesOf_count]
  by_cases h1 : isPairs l = true
  rotate_left
  · rw [if_neg (by simp [h1]), skolemOf_no (fun h => h1 h.1)]
  by_cases h2 : fitsAt l 0 = true
  rotate_left
  · rw [if_neg (by simp [h2]), skolemOf_no (fun h => h2 h.2.1)]
  rw [if_pos (by simp [h1, h2])]
  by_cases h3 : l.count 0 = 0
  rotate_left
  · rw [skolemOf_no (fun h => h3 h.2.2), if_pos (by omega)]
  rw [if_neg (by omega), skolemOf_yes h1 h2 h3]
  by_cases h4 : fromOf 1 0 (numbersOf l) = true
  · simp only [h4, if_true]
  · simp only [h4, if_false]
    rfl
theorem Zca.F_val (l : List Int) (h : isPairs l = true) : Zca.F l = some (decide (¬ skolemOf l = 0)) := by
  have hl := isRow_len (isPairs_row h)
  rw [Zca.F_eq, Zbc.F_val l 0 (by omega) (isPairs_ok h), Zbd.F_val l 1 (by omega) (by omega), Zai.F_val l 0 (by omega)]
  simp only [Option.bind_some, placesOf_count]
  by_cases h2 : fitsAt l 0 = true
  rotate_left
  · rw [if_neg h2, skolemOf_no (fun h => h2 h.2.1)]
    rfl
  rw [if_pos h2]
  by_cases h3 : l.count 0 = 0
  rotate_left
  · have hz : (((l.count 0 : Nat) : Int) == 0) = false := beq_false_of_ne (by omega)
    rw [skolemOf_no (fun h => h3 h.2.2), hz]
    split <;> rfl
  rw [skolemOf_yes h h2 h3, h3]
  by_cases h4 : fromOf 1 0 (numbersOf l) = true
  rotate_left
  · simp only [h4, Bool.false_and, Bool.false_eq_true, if_false]
    rfl
  by_cases h5 : (numbersOf l).length = 0
  · simp only [h4, h5, if_true]
    rfl
  · have h6 : decide (((numbersOf l).length : Int) > 0) = true := decide_eq_true (by omega)
    have h7 : ¬ ((numbersOf l).length : Int) = 0 := by omega
    simp only [h4, h6, h7, Bool.and_self, if_true, not_false_eq_true, decide_true]
    rfl
def firstOf (l : List Int) (v : Int) : Int := rd (placesOf l v) 0
def otherOf (l : List Int) (v : Int) : Int := rd (placesOf l v) 1
theorem two_places {l : List Int} {v : Int} (h : (placesOf l v).length = 2) : placesOf l v = [firstOf l v, otherOf l v] := by
  unfold firstOf otherOf
  match hp : placesOf l v, h with
  | [a, b], _ => rfl
theorem places_lt (n : Int) : ∀ (l : List Int) (i : Nat), ∀ x ∈ placesFrom n i l, (i : Int) ≤ x ∧ x < (i : Int) + l.length
  | [], i, x, h => by simp [placesFrom] at h
  | y :: l, i, x, h => by
    have ih := places_lt n l (i + 1) x
    rw [placesFrom] at h
    rw [List.length_cons]
    by_cases h0 : y = n
    rotate_left
    · rw [if_neg h0] at h
      have := ih h
      omega
    rw [if_pos h0] at h
    rcases List.mem_cons.1 h with rfl | h1
    · omega
    · have := ih h1
      omega
theorem first_bounds {l : List Int} {v : Int} (h : (placesOf l v).length = 2) : 0 ≤ firstOf l v ∧ firstOf l v < (l.length : Int) ∧ 0 ≤ otherOf l v ∧ otherOf l v < (l.length : Int) := by
  have e := two_places h
  have a := places_lt v l 0 (firstOf l v) (by rw [show placesFrom v 0 l = _ from e]; simp)
  have b := places_lt v l 0 (otherOf l v) (by rw [show placesFrom v 0 l = _ from e]; simp)
  omega
theorem mem_placesFrom (n : Int) : ∀ (l : List Int) (i : Nat) (p : Int), p ∈ placesFrom n i l ↔ ∃ j : Nat, ∃ h : j < l.length, p = ((i + j : Nat) : Int) ∧ l[j] = n
  | [], i, p => by simp [placesFrom]
  | x :: l, i, p => by
    have ih := mem_placesFrom n l (i + 1) p
    rw [placesFrom]
    have hs : (∃ j : Nat, ∃ h : j < (x :: l).length, p = ((i + j : Nat) : Int) ∧ (x :: l)[j] = n) ↔ (p = (i : Int) ∧ x = n) ∨ ∃ j : Nat, ∃ h : j < l.length, p = ((i + 1 + j : Nat) : Int) ∧ l[j] = n := by
      constructor
      · rintro ⟨j, h, e, g⟩
        cases j with
        | zero => exact .inl ⟨by simpa using e, by simpa using g⟩
        | succ j => exact .inr ⟨j, by simpa using h, by rw [e]; congr 1; omega, by simpa using g⟩
      · rintro (⟨e, g⟩ | ⟨j, h, e, g⟩)
        · exact ⟨0, by simp, by simpa using e, by simpa using g⟩
        · exact ⟨j + 1, by simpa using h, by rw [e]; congr 1; omega, by simpa using g⟩
    rw [hs]
    by_cases h0 : x = n
    · rw [if_pos h0, List.mem_cons, ih]
      simp [h0]
    · rw [if_neg h0, ih]
      simp [h0]
theorem mem_placesOf (l : List Int) (n p : Int) : p ∈ placesOf l n ↔ 0 ≤ p ∧ p < (l.length : Int) ∧ rd l p = n := by
  unfold placesOf
  rw [mem_placesFrom]
  constructor
  · rintro ⟨j, h, rfl, g⟩
    rw [Nat.zero_add, rd_nat l j h]
    exact ⟨by omega, by omega, g⟩
  · rintro ⟨h0, h1, h2⟩
    have h3 : p.toNat < l.length := by omega
    refine ⟨p.toNat, h3, by omega, ?_⟩
    rw [← rd_nat l p.toNat h3, Int.toNat_of_nonneg h0, h2]
theorem rd_places {l : List Int} {v : Int} (h : (placesOf l v).length = 2) (p : Int) (h0 : 0 ≤ p) (h1 : p < (l.length : Int)) : rd l p = v ↔ p = firstOf l v ∨ p = otherOf l v := by
  have g := mem_placesOf l v p
  rw [two_places h] at g
  simp only [List.mem_cons, List.not_mem_nil, or_false] at g
  rw [g]
  exact ⟨fun e => ⟨h0, h1, e⟩, fun e => e.2.2⟩
def BytesOk (l : List Int) : Prop := ∀ x ∈ l, 0 ≤ x ∧ x ≤ 255
theorem wrap_u64 (n : Int) : IntKind.u64.wrap n = n % 18446744073709551616 := by simp [IntKind.wrap, IntKind.bits, IntKind.signed]
theorem low_byte (x : Int) (h0 : 0 ≤ x) (h1 : x < 18446744073709551616) : Go.bits .and .u64 x 255 = x % 256 := by
  have := bits_mask .u64 64 (by decide) (fun n h0 h1 => by rw [wrap_u64]; omega) 8 (by decide) x h0 (by omega)
  simpa using this
theorem top_byte (n : Int) : ∃ b, wrap64 (Go.bits .and .u64 (IntKind.u64.wrap n / 1099511627776) 255) = b ∧ 0 ≤ b ∧ b ≤ 255 := by
  have h := wrap_u64 n
  generalize IntKind.u64.wrap n = m at *
  rw [low_byte _ (by omega) (by omega), wrap_in (by omega) (by omega)]
  exact ⟨_, rfl, by omega, by omega⟩
theorem Zcp.ok {l : List Int} (hl : BytesOk l) (hn : l.length < 4611686018427387904) (at_ seed : Int) (h0 : 0 ≤ at_) (h1 : at_ < 4611686018427387904) : ∃ b z, Zcp.f l at_ seed = some (b, at_ + 1, z) ∧ 0 ≤ b ∧ b ≤ 255 := by
  unfold Zcp.f
  rw [wrap_in (n := at_ + 1) (by omega) (by omega)]
  by_cases ha : at_ < (l.length : Int)
  rotate_left
  · rw [if_neg ha]
    by_cases hb : at_ + 1 ≤ (l.length : Int)
    · rw [if_pos hb]
      exact ⟨_, _, rfl, by omega, by omega⟩
    · rw [if_neg hb]
      obtain ⟨b, e, h2, h3⟩ := top_byte (IntKind.u64.wrap (IntKind.u64.wrap (seed * 6364136223846793005)) + 1442695040888963407)
      exact ⟨b, _, by rw [e], h2, h3⟩
  have hm : rd l at_ ∈ l := by
    obtain ⟨i, rfl⟩ : ∃ i : Nat, at_ = i := ⟨at_.toNat, by omega⟩
    rw [rd_nat l i (by omega)]
    exact List.getElem_mem _
  have hb := hl _ hm
  rw [if_pos ha, if_pos h0, if_pos (by omega), wrap_in (n := rd l at_) (by omega) (by omega)]
  exact ⟨_, _, rfl, hb.1, hb.2⟩
structure DrawSt (l : List Int) (m at_ : Int) : Prop where
  bytes : BytesOk l
  len : l.length < 4611686018427387904
  at0 : 0 ≤ at_
  atm : at_ ≤ m
theorem DrawSt.more {l : List Int} {m m' a : Int} (h : DrawSt l m a) (hm : m ≤ m') : DrawSt l m' a := ⟨h.1, h.2, h.3, Int.le_trans h.4 hm⟩
theorem tmod_range {x n : Int} (hx : 0 ≤ x) (hn : 0 < n) : 0 ≤ Int.tmod x n ∧ Int.tmod x n < n := ⟨Int.tmod_nonneg n hx, Int.tmod_lt_of_pos x hn⟩
theorem Zac.ok {l : List Int} {m at_ : Int} (seed n : Int) (h : DrawSt l m at_) (hm : m ≤ 4000000000000000000) : ∃ r a z, Zac.f l at_ seed n = some (r, a, z) ∧ 0 ≤ r ∧ (r < n ∨ r = 0) ∧ DrawSt l (m + 2) a := by
  obtain ⟨hl, hn, h0, h1⟩ := h
  unfold Zac.f
  by_cases hn1 : n ≤ 1
  · rw [if_pos hn1]
    exact ⟨0, _, _, rfl, by omega, .inr rfl, hl, hn, h0, by omega⟩
  rw [if_neg hn1]
  obtain ⟨b, z, e, b0, b1⟩ := Zcp.ok hl hn at_ seed h0 (by omega)
  rw [e]
  simp only [Option.bind_some]
  by_cases hn2 : n > 200
  rotate_left
  · rw [if_neg hn2, if_neg (by omega)]
    have := tmod_range (x := b) (n := n) b0 (by omega)
    exact ⟨_, _, _, rfl, this.1, .inl this.2, hl, hn, by omega, by omega⟩
  rw [if_pos hn2]
  obtain ⟨b', z', e', b0', b1'⟩ := Zcp.ok hl hn (at_ + 1) z (by omega) (by omega)
  rw [e']
  simp only [Option.bind_some]
  rw [if_neg (by omega), wrap_in (n := b * 256) (by omega) (by omega), wrap_in (n := b * 256 + b') (by omega) (by omega)]
  have := tmod_range (x := b * 256 + b') (n := n) (by omega) (by omega)
  exact ⟨_, _, _, rfl, this.1, .inl this.2, hl, hn, by omega, by omega⟩
theorem Zat.ok {l : List Int} {m at_ : Int} (seed n : Int) (h : DrawSt l m at_) (hm : m ≤ 4000000000000000000) : ∃ r a z, Zat.f l at_ seed n = some (r, a, z) ∧ DrawSt l (m + 2) a := by
  obtain ⟨r, a, z, e, _, _, hs⟩ := Zac.ok seed n h hm
  exact ⟨r == 0, a, z, by unfold Zat.f; rw [e]; rfl, hs⟩
theorem Zbi.ok {l : List Int} {m at_ : Int} (seed : Int) (xs : List Int) (hx : 0 < xs.length) (h : DrawSt l m at_) (hm : m ≤ 4000000000000000000) : ∃ r a z, Zbi.f l at_ seed xs = some (r, a, z) ∧ r ∈ xs ∧ DrawSt l (m + 2) a := by
  obtain ⟨r, a, z, e, h0, h1, hs⟩ := Zac.ok seed (xs.length : Int) h hm
  have hr : r < (xs.length : Int) := by omega
  have hmem : rd xs r ∈ xs := by
    obtain ⟨i, rfl⟩ : ∃ i : Nat, r = i := ⟨r.toNat, by omega⟩
    rw [rd_nat xs i (by omega)]
    exact List.getElem_mem _
  exact ⟨rd xs r, a, z, by unfold Zbi.f; rw [e]; simp only [Option.bind_some]; rw [if_pos h0, if_pos hr], hmem, hs⟩
theorem Zcz.f_val (a b : List Int) : Zcz.f a b = some (decide (1048576 < a.length ∨ 1048576 < a.length + b.length)) := by
  unfold Zcz.f
  by_cases h : (a.length : Int) > 1048576
  · rw [if_pos h, decide_eq_true (by omega)]
  · rw [if_neg h, wrap_in (by omega) (by omega)]
    by_cases h2 : (b.length : Int) > 1048576 - (a.length : Int)
    · rw [decide_eq_true h2, decide_eq_true (by omega)]
    · rw [decide_eq_false h2, decide_eq_false (by omega)]
theorem draw_start {l : List Int} (h : l.length ≤ 1048576) (hw : ∀ x ∈ l, (Lit.int .u8 x).wf = true) : DrawSt l 0 0 := by
  refine ⟨fun x hx => ?_, by omega, by omega, by omega⟩
  have := hw x hx
  simp [Lit.wf] at this
  have h1 : IntKind.u8.min = 0 := by decide
  have h2 : IntKind.u8.max = 255 := by decide
  rw [h1, h2] at this
  omega
theorem wrap_up {n i : Nat} (h : i < n) (hn : n < 4611686018427387904) : wrap64 ((i : Int) + 1) = ((i + 1 : Nat) : Int) := by
  rw [wrap_in (by omega) (by omega)]
  rfl
theorem Zam.L0_val (a b : List Int) (hl : a.length = b.length) (h : a.length < 4611686018427387904) : ∀ (m i : Nat), i + m = a.length → Zam.L0 a b (a.length : Int) (i : Int) = some (decide (a.drop i = b.drop i))
  | 0, i, hm => by
    rw [Zam.L0_eq, if_neg (by omega), List.drop_of_length_le (by omega), List.drop_of_length_le (by omega)]
    rfl
  | m + 1, i, hm => by
    rw [Zam.L0_eq, if_pos (by omega), if_pos (by omega), if_pos (by omega), if_pos (by omega), rd_nat a i (by omega), rd_nat b i (by omega), wrap_up (n := a.length) (by omega) h, Zam.L0_val a b hl h m (i + 1) (by omega), List.drop_eq_getElem_cons (l := a) (i := i) (by omega), List.drop_eq_getElem_cons (l := b) (i := i) (by omega)]
    by_cases e : a[i]'(by omega) = b[i]'(by omega)
    · rw [if_pos e]
      congr 1
      rw [decide_eq_decide, e]
      exact ⟨fun h => by rw [h], fun h => (List.cons.inj h).2⟩
    · rw [if_neg e, decide_eq_false (fun h => e (List.cons.inj h).1)]
theorem Zam.F_val (a b : List Int) (h : a.length < 4611686018427387904) : Zam.F a b = some (decide (a = b)) := by
  rw [Zam.F_eq]
  by_cases e : a.length = b.length
  · rw [if_pos (by omega)]
    have := Zam.L0_val a b e h a.length 0 (by omega)
    simpa using this
  · rw [if_neg (by omega), decide_eq_false (fun hab => e (by rw [hab]))]
theorem Zbj.L0_val (n : Int) (a : List Int) (h : a.length < 4611686018427387904) : ∀ (m i : Nat), i + m = a.length → Zbj.L0 n a (a.length : Int) (i : Int) = some (decide (n ∈ a.drop i))
  | 0, i, hm => by
    rw [Zbj.L0_eq, if_neg (by omega), List.drop_of_length_le (by omega)]
    rfl
  | m + 1, i, hm => by
    rw [Zbj.L0_eq, if_pos (by omega), if_pos (by omega), if_pos (by omega), rd_nat a i (by omega), wrap_up (n := a.length) (by omega) h, Zbj.L0_val n a h m (i + 1) (by omega), List.drop_eq_getElem_cons (l := a) (i := i) (by omega)]
    by_cases e : a[i]'(by omega) = n
    · rw [if_pos e, decide_eq_true (by rw [e]; exact List.mem_cons_self)]
    · rw [if_neg e]
      congr 1
      rw [decide_eq_decide, List.mem_cons]
      exact ⟨.inr, fun h => h.resolve_left (fun h => e h.symm)⟩
theorem Zbj.F_val (a : List Int) (n : Int) (h : a.length < 4611686018427387904) : Zbj.F a n = some (decide (n ∈ a)) := by
  rw [Zbj.F_eq]
  have := Zbj.L0_val n a h a.length 0 (by omega)
  simpa using this
theorem Zab.L0_ok {l : List Int} (s : Int) (hs : 0 ≤ s ∧ s ≤ 1) : ∀ (c : Nat) (row : List Int) (m at_ seed : Int), c ≤ 10 → row.length ≤ 100 → m + 8 * c ≤ 1000000 → DrawSt l m at_ → ∃ r a z, Zab.L0 s row (c : Int) l at_ seed = some (r, a, z) ∧ r.length = row.length ∧ DrawSt l (m + 8 * c) a
  | 0, row, m, at_, seed, _, _, _, h => by
    rw [Zab.L0_eq, if_neg (by omega)]
    exact ⟨row, at_, seed, rfl, rfl, h.more (by omega)⟩
  | c + 1, row, m, at_, seed, hc, hr, hm, h => by
    obtain ⟨p, a1, z1, e1, p0, p1, h1⟩ := Zac.ok seed 8 h (by omega)
    have ec : wrap64 (((c + 1 : Nat) : Int) - 1) = (c : Int) := by rw [wrap_in (by omega) (by omega)]; omega
    have again : ∀ (row' : List Int) (m' a z : Int), row'.length = row.length → m' ≤ m + 8 → DrawSt l m' a → ∃ r a' z', Zab.L0 s row' (wrap64 (((c + 1 : Nat) : Int) - 1)) l a z = some (r, a', z') ∧ r.length = row.length ∧ DrawSt l (m + 8 * ((c + 1 : Nat) : Int)) a' := fun row' m' a z e hm' hd => by
      rw [ec]
      obtain ⟨r, a', z', e', l', d'⟩ := Zab.L0_ok s hs c row' (m + 8) a z (by omega) (by omega) (by omega) (hd.more hm')
      exact ⟨r, a', z', e', l'.trans e, d'.more (by omega)⟩
    rw [Zab.L0_eq, if_pos (by omega), e1]
    simp only [Option.bind_some]
    rw [wrap_in (n := 1 + p) (by omega) (by omega), Zaz.F_val _ _ (by omega)]
    simp only [Option.bind_some]
    by_cases hmem : decide ((1 + p) ∈ row) = true
    · rw [if_pos hmem, Zab.J1_eq, if_pos rfl]
      exact again row (m + 2) a1 z1 rfl (by omega) h1
    rw [if_neg hmem, Zab.J1_eq]
    rw [wrap_in (n := 1 + p + s) (by omega) (by omega), wrap_in (n := 1 + p + s + 1) (by omega) (by omega)]
    by_cases hlen : (row.length : Int) < 1 + p + s + 1
    · rw [if_pos (decide_eq_true hlen)]
      exact again row (m + 2) a1 z1 rfl (by omega) h1
    rw [if_neg (by rw [decide_eq_false hlen]; decide), wrap_in (n := (row.length : Int) - (1 + p)) (by omega) (by omega), wrap_in (n := (row.length : Int) - (1 + p) - s) (by omega) (by omega)]
    obtain ⟨i, a2, z2, e2, i0, i1, h2⟩ := Zac.ok z1 ((row.length : Int) - (1 + p) - s) h1 (by omega)
    rw [e2]
    simp only [Option.bind_some]
    obtain ⟨b, a3, z3, e3, h3⟩ := Zat.ok z2 12 h2 (by omega)
    rw [e3]
    simp only [Option.bind_some]
    rw [wrap_in (n := i + (1 + p)) (by omega) (by omega), wrap_in (n := i + (1 + p) + s) (by omega) (by omega)]
    have hi : i < (row.length : Int) := by omega
    have hj : i + (1 + p) + s < (row.length : Int) := by omega
    cases b with
    | true =>
      obtain ⟨j, a4, z4, e4, j0, j1, h4⟩ := Zac.ok z3 (row.length : Int) h3 (by omega)
      have hj' : j < (row.length : Int) := by omega
      rw [if_pos rfl, e4]
      simp only [Option.bind_some]
      by_cases hij : i = j
      · rw [if_pos hij]
        exact again row _ a4 z4 rfl (by omega) h4
      rw [if_neg hij, if_pos i0, if_pos hi]
      by_cases z0 : rd row i = 0
      rotate_left
      · rw [if_neg z0]
        exact again row _ a4 z4 rfl (by omega) h4
      rw [if_pos z0, if_pos j0, if_pos hj']
      by_cases z1 : rd row j = 0
      · rw [if_pos z1]
        exact again _ _ a4 z4 (by simp) (by omega) h4
      · rw [if_neg z1]
        exact again row _ a4 z4 rfl (by omega) h4
    | false =>
      rw [if_neg (by decide), if_neg (by omega), if_pos i0, if_pos hi]
      by_cases z0 : rd row i = 0
      rotate_left
      · rw [if_neg z0]
        exact again row _ a3 z3 rfl (by omega) h3
      rw [if_pos z0, if_pos (by omega), if_pos hj]
      by_cases z1 : rd row (i + (1 + p) + s) = 0
      · rw [if_pos z1]
        exact again _ _ a3 z3 (by simp) (by omega) h3
      · rw [if_neg z1]
        exact again row _ a3 z3 rfl (by omega) h3
theorem Zab.ok {l : List Int} {m at_ : Int} (seed s : Int) (hs : 0 ≤ s ∧ s ≤ 1) (hm : m ≤ 900000) (h : DrawSt l m at_) : ∃ r a z, Zab.F l at_ seed s = some (r, a, z) ∧ r.length ≤ 14 ∧ DrawSt l (m + 60) a := by
  obtain ⟨p, a1, z1, e1, p0, p1, h1⟩ := Zac.ok seed 15 h (by omega)
  obtain ⟨q, a2, z2, e2, q0, q1, h2⟩ := Zac.ok z1 6 h1 (by omega)
  rw [Zab.F_eq, e1]
  simp only [Option.bind_some]
  rw [if_pos p0, if_pos (by omega), e2]
  simp only [Option.bind_some]
  rw [wrap_in (n := 1 + q) (by omega) (by omega)]
  obtain ⟨r, a, z, e, hl, hd⟩ := Zab.L0_ok (l := l) s hs (1 + q).toNat (List.replicate p.toNat 0) (m + 2 + 2) a2 z2 (by omega) (by simp; omega) (by omega) h2
  rw [show (((1 + q).toNat : Nat) : Int) = 1 + q from by omega] at e hd
  exact ⟨r, a, z, e, by rw [hl]; simp; omega, hd.more (by omega)⟩
theorem rd_rows {L : List (List Int)} {i : Nat} (h : i < L.length) : rd_L2 L (i : Int) = L[i] := by
  unfold rd_L2
  rw [Int.toNat_natCast, List.getD_eq_getElem?_getD, List.getElem?_eq_getElem h]
  rfl
theorem rd_rows_mem {L : List (List Int)} {i : Int} (h0 : 0 ≤ i) (h : i < (L.length : Int)) : rd_L2 L i ∈ L := by
  obtain ⟨j, rfl⟩ : ∃ j : Nat, i = j := ⟨i.toNat, by omega⟩
  rw [rd_rows (by omega)]
  exact List.getElem_mem _
theorem Zau.J0_ok {l : List Int} {m at_ : Int} (b : Bool) (seed : Int) (hm : m ≤ 800000) (h : DrawSt l m at_) : ∃ r a z, Zau.J0 b l at_ seed = some (r, a, z) ∧ r.length ≤ 14 ∧ DrawSt l (m + 80) a := by
  rw [Zau.J0_eq]
  cases b with
  | true =>
    rw [if_pos rfl]
    simp only [Option.bind_some]
    have hlen : ∀ x ∈ ([[1, 1], [3, 1, 2, 1, 3, 2], [1, 1, 2, 0, 2], [4, 2, 3, 2, 4, 3, 1, 1], [2, 3, 4, 2, 1, 3, 1, 4], [4, 1, 3, 1, 2, 4, 3, 2], [3, 1, 1, 3, 2, 0, 2], [5, 2, 4, 2, 3, 5, 4, 3, 1, 1], [2, 3, 2, 0, 3]] : List (List Int)), x.length ≤ 14 := by decide
    generalize hL : ([[1, 1], [3, 1, 2, 1, 3, 2], [1, 1, 2, 0, 2], [4, 2, 3, 2, 4, 3, 1, 1], [2, 3, 4, 2, 1, 3, 1, 4], [4, 1, 3, 1, 2, 4, 3, 2], [3, 1, 1, 3, 2, 0, 2], [5, 2, 4, 2, 3, 5, 4, 3, 1, 1], [2, 3, 2, 0, 3]] : List (List Int)) = L at hlen ⊢
    have hL9 : L.length = 9 := by rw [← hL]; rfl
    obtain ⟨p, a1, z1, e1, p0, p1, h1⟩ := Zac.ok seed (L.length : Int) h (by omega)
    have p1' : p < (L.length : Int) := by omega
    have hx := hlen _ (rd_rows_mem p0 p1')
    rw [e1]
    simp only [Option.bind_some]
    rw [if_pos p0, if_pos p1', Zcf.f_val _ (by omega)]
    simp only [Option.bind_some]
    obtain ⟨b, a2, z2, e2, h2⟩ := Zat.ok z1 3 h1 (by omega)
    rw [e2]
    simp only [Option.bind_some]
    cases b with
    | true =>
      rw [if_pos rfl, Zar.F_val _ (by omega)]
      exact ⟨_, _, _, rfl, by simpa using hx, h2.more (by omega)⟩
    | false =>
      rw [if_neg (by decide)]
      exact ⟨_, _, _, rfl, hx, h2.more (by omega)⟩
  | false =>
    rw [if_neg (by decide)]
    obtain ⟨p, a1, z1, e1, p0, p1, h1⟩ := Zac.ok seed 2 h (by omega)
    rw [e1]
    simp only [Option.bind_some]
    obtain ⟨r, a2, z2, e2, hr, h2⟩ := Zab.ok z1 p (by omega) (by omega) h1
    rw [e2]
    exact ⟨_, _, _, rfl, hr, h2.more (by omega)⟩
theorem Zau.ok {l : List Int} {m at_ : Int} (seed : Int) (hm : m ≤ 700000) (h : DrawSt l m at_) : ∃ r a z, Zau.F l at_ seed = some (r, a, z) ∧ r.length ≤ 41 ∧ DrawSt l (m + 100) a := by
  obtain ⟨p, a1, z1, e1, p0, p1, h1⟩ := Zac.ok seed 14 h (by omega)
  rw [Zau.F_eq, e1]
  simp only [Option.bind_some]
  have rest : ∀ b, ∃ r a z, Zau.J0 b l a1 z1 = some (r, a, z) ∧ r.length ≤ 41 ∧ DrawSt l (m + 100) a := fun b => by
    obtain ⟨r, a, z, e, hr, hd⟩ := Zau.J0_ok b z1 (by omega) h1
    exact ⟨r, a, z, e, by omega, hd.more (by omega)⟩
  by_cases h0 : p = 0
  · rw [if_pos h0]
    obtain ⟨q, a2, z2, e2, q0, q1, h2⟩ := Zac.ok z1 2 h1 (by omega)
    rw [e2]
    simp only [Option.bind_some]
    obtain ⟨r, a3, z3, e3, hr, h3⟩ := Zab.ok z2 q (by omega) (by omega) h2
    rw [e3]
    simp only [Option.bind_some]
    obtain ⟨x, a4, z4, e4, _, h4⟩ := Zbi.ok z3 ([(-1), 1, 20, 21, 4611686018427387904] : List Int) (by decide) h3 (by omega)
    rw [e4]
    simp only [Option.bind_some]
    rw [if_pos (by omega)]
    exact ⟨_, _, _, rfl, by simp; omega, h4.more (by omega)⟩
  rw [if_neg h0]
  by_cases h1' : p = 1
  · rw [if_pos h1']
    obtain ⟨q, a2, z2, e2, q0, q1, h2⟩ := Zac.ok z1 2 h1 (by omega)
    rw [e2]
    simp only [Option.bind_some]
    rw [wrap_in (n := 40 + q) (by omega) (by omega), if_pos (by omega), if_pos (by omega)]
    exact ⟨_, _, _, rfl, by simp; omega, h2.more (by omega)⟩
  · rw [if_neg h1']
    split
    · exact rest _
    · split
      · exact rest _
      · exact rest _
theorem fromOf_get (k : Int) : ∀ (l : List Int) (i : Nat), fromOf k i l = true → ∀ j (h : j < l.length), l[j] = k + ((i + j : Nat) : Int)
  | [], i, _, j, h => by simp at h
  | x :: l, i, hf, j, h => by
    rw [fromOf, Bool.and_eq_true, decide_eq_true_eq] at hf
    cases j with
    | zero => simpa using hf.1
    | succ j =>
      have := fromOf_get k l (i + 1) hf.2 j (by simpa using h)
      simp only [List.getElem_cons_succ, this]
      omega
theorem wrap_succ (i : Nat) (h : i < 4611686018427387904) : wrap64 ((i : Int) + 1) = ((i + 1 : Nat) : Int) := by rw [wrap_in (by omega) (by omega)]; rfl
theorem Lim.at_ {α : Type} {g : Nat → Option α} {a : Option α} {r : α} (h : Lim g a) (k : Nat) (hk : g k = some r) : a = some r := (h.comes r).2 ⟨k, hk⟩
def listsOf (xs : List Int) : Nat → List (List Int)
  | 0 => [[]]
  | n + 1 => (listsOf xs n).flatMap fun l => xs.map fun x => l ++ [x]
theorem mem_listsOf {xs l : List Int} {n : Nat} {x : Int} (h : l ∈ listsOf xs n) (hx : x ∈ xs) : l ++ [x] ∈ listsOf xs (n + 1) := List.mem_flatMap.2 ⟨l, h, List.mem_map.2 ⟨x, hx, rfl⟩⟩
theorem listsOf_len {xs : List Int} : ∀ (n : Nat) (l : List Int), l ∈ listsOf xs n → l.length = n
  | 0, l, h => by rw [List.mem_singleton.1 h]; rfl
  | n + 1, l, h => by
    obtain ⟨q, hq, h⟩ := List.mem_flatMap.1 h
    obtain ⟨x, _, rfl⟩ := List.mem_map.1 h
    rw [List.length_append, listsOf_len n q hq]
    rfl
def legsBase : List (List Int) := ([1, 2, 3, 4] : List Nat).flatMap (listsOf [0, 1, 2])
def legsDrawn : List (List Int) := [] :: (legsBase ++ legsBase.flatMap fun b => ([-1, 5, 6, 4611686018427387904] : List Int).map fun v => b.set 0 v)
theorem pick3 {r : Int} (h0 : 0 ≤ r) (h1 : r < 3 ∨ r = 0) : r ∈ ([0, 1, 2] : List Int) := by
  have : r = 0 ∨ r = 1 ∨ r = 2 := by omega
  rcases this with rfl | rfl | rfl <;> decide
theorem Zav.L0_ok {l : List Int} : ∀ (m n : Nat) (x : List Int) (M a s : Int), x ∈ listsOf [0, 1, 2] n → 1 ≤ n + m → n + m ≤ 4 → DrawSt l M a → M + 2 * m ≤ 1000 → ∃ r a' z, Zav.L0 x (m : Int) l a s = some (r, a', z) ∧ r ∈ legsDrawn
  | 0, n, x, M, a, s, hx, h1, h4, hs, hM => by
    have hlen := listsOf_len n x hx
    have hb : x ∈ legsBase := List.mem_flatMap.2 ⟨n, by
      have : n = 1 ∨ n = 2 ∨ n = 3 ∨ n = 4 := by omega
      rcases this with rfl | rfl | rfl | rfl <;> decide, hx⟩
    obtain ⟨p, a1, z1, e1, _, _, hs1⟩ := Zac.ok s 12 hs (by omega)
    rw [Zav.L0_eq, if_neg (by omega), e1]
    simp only [Option.bind_some]
    by_cases h0 : p = 0
    rotate_left
    · rw [if_neg h0]
      by_cases h2 : p = 1
      · rw [if_pos h2]
        exact ⟨_, _, _, rfl, List.mem_cons_self⟩
      · rw [if_neg h2]
        exact ⟨_, _, _, rfl, List.mem_cons_of_mem _ (List.mem_append_left _ hb)⟩
    obtain ⟨v, a2, z2, e2, hv, _⟩ := Zbi.ok z1 [-1, 5, 6, 4611686018427387904] (by decide) hs1 (by omega)
    rw [if_pos h0, e2]
    simp only [Option.bind_some]
    rw [if_pos (by omega)]
    exact ⟨_, _, _, rfl, List.mem_cons_of_mem _ (List.mem_append_right _ (List.mem_flatMap.2 ⟨x, hb, List.mem_map.2 ⟨v, hv, rfl⟩⟩))⟩
  | m + 1, n, x, M, a, s, hx, h1, h4, hs, hM => by
    have hlen := listsOf_len n x hx
    obtain ⟨p, a1, z1, e1, p0, p1, hs1⟩ := Zac.ok s 3 hs (by omega)
    rw [Zav.L0_eq, if_pos (by omega), e1]
    simp only [Option.bind_some]
    rw [if_pos (by omega), show wrap64 (((m + 1 : Nat) : Int) - 1) = (m : Int) by rw [wrap_in (by omega) (by omega)]; omega]
    exact Zav.L0_ok m (n + 1) _ (M + 2) a1 z1 (mem_listsOf hx (pick3 p0 p1)) (by omega) (by omega) hs1 (by omega)
theorem drawn_legs {l : List Int} (h : DrawSt l 0 0) : ∃ r, Zbo.F l = some r ∧ r ∈ legsDrawn := by
  obtain ⟨p, a1, z1, e1, p0, p1, hs1⟩ := Zac.ok 0 4 h (by omega)
  obtain ⟨r, a', z, e, hr⟩ := Zav.L0_ok (l := l) (1 + p).toNat 0 [] (0 + 2) a1 z1 (List.mem_singleton.2 rfl) (by omega) (by omega) hs1 (by omega)
  have hw : wrap64 (1 + p) = (((1 + p).toNat : Nat) : Int) := by rw [wrap_in (by omega) (by omega)]; omega
  refine ⟨r, ?_, hr⟩
  rw [Zbo.F_eq, Zbw.F_eq, Zav.F_eq, e1]
  simp only [Option.bind_some]
  rw [hw, e]
  rfl
def chkComb2 (c a : List Int) : Bool := match Zbq.f 300 c a, Zaf.f 300 c, Zap.f 300 c a with
  | some g, some e, some h => decide (g = (true, true)) && decide (e = (true, true)) && decide (h.2 = decide ((c.length : Int) > 1)) && (!h.2 || (decide (0 ≤ h.1) && decide (h.1 < wrap64 ((c.length : Int) - 1))))
  | _, _, _ => false
def chkComb (l : List Int) : Bool := match Zcg.f 300 l, Zas.f 300 l, Zbh.f 300 l, Zch.f 300 l with
  | some a, some b, some c, some d => decide (a = b) && decide (c = d) && decide (c.2 = a.2) && decide (a.1.length ≤ 100) && decide (c.1.length ≤ 100) && (!a.2 || chkComb2 c.1 a.1)
  | _, _, _, _ => false
theorem comb_checked : (legsDrawn.all chkComb) = true := by decide +kernel
theorem comb_known2 {c a : List Int} (h : chkComb2 c a = true) : ∃ hv : Int × Bool, Zbq.F c a = some (true, true) ∧ Zaf.F c = some (true, true) ∧ Zap.F c a = some hv ∧ hv.2 = decide ((c.length : Int) > 1) ∧ (hv.2 = true → 0 ≤ hv.1 ∧ hv.1 < wrap64 ((c.length : Int) - 1)) := by
  unfold chkComb2 at h
  split at h
  · rename_i g e hv hg he hh
    simp only [Bool.and_eq_true, decide_eq_true_eq, Bool.or_eq_true, Bool.not_eq_true'] at h
    obtain ⟨⟨⟨h1, h2⟩, h3⟩, h4⟩ := h
    subst h1
    subst h2
    refine ⟨hv, Lim.at_ (Zbq.F_lim c a) 300 hg, Lim.at_ (Zaf.F_lim c) 300 he, Lim.at_ (Zap.F_lim c a) 300 hh, h3, fun ht => ?_⟩
    rcases h4 with h4 | h4
    · rw [ht] at h4
      cases h4
    · exact h4
  · cases h
theorem comb_known {l : List Int} (h : l ∈ legsDrawn) : ∃ a c : List Int × Bool, Zcg.F l = some a ∧ Zas.F l = some a ∧ Zbh.F l = some c ∧ Zch.F l = some c ∧ c.2 = a.2 ∧ a.1.length ≤ 100 ∧ c.1.length ≤ 100 ∧ (a.2 = true → chkComb2 c.1 a.1 = true) := by
  have h := List.all_eq_true.1 comb_checked l h
  unfold chkComb at h
  split at h
  · rename_i a b c d ha hb hc hd
    simp only [Bool.and_eq_true, decide_eq_true_eq, Bool.or_eq_true, Bool.not_eq_true'] at h
    obtain ⟨⟨⟨⟨⟨h1, h2⟩, h3⟩, h4⟩, h5⟩, h6⟩ := h
    subst h1
    subst h2
    refine ⟨a, c, Lim.at_ Zcg.F_lim 300 ha, Lim.at_ (Zas.F_lim l) 300 hb, Lim.at_ (Zbh.F_lim l) 300 hc, Lim.at_ (Zch.F_lim l) 300 hd, h3, h4, h5, fun ht => ?_⟩
    rcases h6 with h6 | h6
    · rw [ht] at h6
      cases h6
    · exact h6
  · cases h
def pathDrawn : List Int := [-1, 0, 1, 2, 3, 4, 5, 6, 7, 8, 9, 10, 11]
theorem drawn_path {l : List Int} (h : DrawSt l 0 0) : ∃ n, Zct.f l = some n ∧ n ∈ pathDrawn := by
  obtain ⟨p, a1, z1, e1, p0, p1, hs1⟩ := Zac.ok 0 12 h (by omega)
  obtain ⟨q, a2, z2, e2, q0, q1, hs2⟩ := Zac.ok z1 9 hs1 (by omega)
  have hd : Int.tdiv q 8 = 0 ∨ Int.tdiv q 8 = 1 := by
    have : q = 0 ∨ q = 1 ∨ q = 2 ∨ q = 3 ∨ q = 4 ∨ q = 5 ∨ q = 6 ∨ q = 7 ∨ q = 8 := by omega
    rcases this with rfl | rfl | rfl | rfl | rfl | rfl | rfl | rfl | rfl <;> decide
  refine ⟨p - Int.tdiv q 8, ?_, ?_⟩
  · unfold Zct.f
    rw [e1]
    simp only [Option.bind_some]
    rw [e2]
    simp only [Option.bind_some]
    rw [wrap_in (n := Int.tdiv q 8) (by omega) (by omega), wrap_in (by omega) (by omega)]
  · generalize Int.tdiv q 8 = d at hd
    obtain ⟨n, hn⟩ : ∃ n, p - d = n := ⟨_, rfl⟩
    rw [hn]
    have : n = -1 ∨ n = 0 ∨ n = 1 ∨ n = 2 ∨ n = 3 ∨ n = 4 ∨ n = 5 ∨ n = 6 ∨ n = 7 ∨ n = 8 ∨ n = 9 ∨ n = 10 ∨ n = 11 := by omega
    rcases this with rfl | rfl | rfl | rfl | rfl | rfl | rfl | rfl | rfl | rfl | rfl | rfl | rfl <;> decide
def chkPath2 (n : Int) (a c : List Int) : Bool := match Zaf.f 300 a, Zaf.f 300 c, Zag.f 100 a, Zag.f 100 c with
  | some e, some g, some t, some u => decide (e = (true, true)) && decide (g = (true, true)) && t && u && decide ((a.length : Int) = n) && decide ((c.length : Int) = n)
  | _, _, _, _ => false
def chkPath (n : Int) : Bool := match Zbn.f 100 n, Zbm.f 100 n, Zcw.f n, Zcx.f n with
  | some a, some b, some c, some d => decide (a = b) && decide (c = d) && decide (a.2 = c.2) && decide (a.1.length ≤ 100) && decide (c.1.length ≤ 100) && (!a.2 || chkPath2 n a.1 c.1)
  | _, _, _, _ => false
theorem path_checked : (pathDrawn.all chkPath) = true := by decide +kernel
theorem path_known2 {n : Int} {a c : List Int} (h : chkPath2 n a c = true) : Zaf.F a = some (true, true) ∧ Zaf.F c = some (true, true) ∧ Zag.F a = some true ∧ Zag.F c = some true ∧ (a.length : Int) = n ∧ (c.length : Int) = n := by
  unfold chkPath2 at h
  split at h
  · rename_i e g t u he hg ht hu
    simp only [Bool.and_eq_true, decide_eq_true_eq] at h
    obtain ⟨⟨⟨⟨⟨h1, h2⟩, h3⟩, h4⟩, h5⟩, h6⟩ := h
    subst h1
    subst h2
    subst h3
    subst h4
    exact ⟨Lim.at_ (Zaf.F_lim a) 300 he, Lim.at_ (Zaf.F_lim c) 300 hg, Lim.at_ (Zag.F_lim a) 100 ht, Lim.at_ (Zag.F_lim c) 100 hu, h5, h6⟩
  · cases h
theorem path_known {n : Int} (h : n ∈ pathDrawn) : ∃ a c : List Int × Bool, Zbn.F n = some a ∧ Zbm.F n = some a ∧ Zcw.f n = some c ∧ Zcx.f n = some c ∧ a.2 = c.2 ∧ a.1.length ≤ 100 ∧ c.1.length ≤ 100 ∧ (a.2 = true → chkPath2 n a.1 c.1 = true) := by
  have h := List.all_eq_true.1 path_checked n h
  unfold chkPath at h
  split at h
  · rename_i a b c d ha hb hc hd
    simp only [Bool.and_eq_true, decide_eq_true_eq, Bool.or_eq_true, Bool.not_eq_true'] at h
    obtain ⟨⟨⟨⟨⟨h1, h2⟩, h3⟩, h4⟩, h5⟩, h6⟩ := h
    subst h1
    subst h2
    refine ⟨a, c, Lim.at_ (Zbn.F_lim n) 100 ha, Lim.at_ (Zbm.F_lim n) 100 hb, hc, hd, h3, h4, h5, fun ht => ?_⟩
    rcases h6 with h6 | h6
    · rw [ht] at h6
      cases h6
    · exact h6
  · cases h
def chkStar (t : Int × Int) : Bool := match Zcw.f t.1 with
  | some c => (match Zbz.f 100 c.1 with
    | some q => decide (q = (t.2, true))
    | none => false)
  | none => false
def starsKnown : List (Int × Int) := [(3, 4), (4, 12), (5, 48), (6, 240)]
theorem star_checked : (starsKnown.all chkStar) = true := by decide +kernel
theorem star_known {n q : Int} (h : (n, q) ∈ starsKnown) {c : List Int × Bool} (hc : Zcw.f n = some c) : Zbz.F c.1 = some (q, true) := by
  have h := List.all_eq_true.1 star_checked _ h
  unfold chkStar at h
  simp only [hc] at h
  split at h
  · rename_i r hr
    rw [of_decide_eq_true h] at hr
    exact Lim.at_ Zbz.F_lim 100 hr
  · cases h
def ringsDrawn : List Int := [2, 3, 4, 5, 6, 7, 8, 9]
theorem drawn_ring {l : List Int} (h : DrawSt l 0 0) : ∃ n, Zcq.f l = some n ∧ n ∈ ringsDrawn := by
  obtain ⟨p, a1, z1, e1, p0, p1, hs1⟩ := Zac.ok 0 8 h (by omega)
  refine ⟨2 + p, ?_, ?_⟩
  · unfold Zcq.f
    rw [e1]
    simp only [Option.bind_some]
    rw [wrap_in (by omega) (by omega)]
  · have : p = 0 ∨ p = 1 ∨ p = 2 ∨ p = 3 ∨ p = 4 ∨ p = 5 ∨ p = 6 ∨ p = 7 := by omega
    rcases this with rfl | rfl | rfl | rfl | rfl | rfl | rfl | rfl <;> decide
def ringB (m : Int) (r : List Int) : Nat → Nat → List Int → Bool
  | i, q + 1, seen => decide (i < r.length) && decide (0 ≤ rd r (i : Int)) && decide (rd r (i : Int) ≤ m) && decide (1 ≤ (rd r (i : Int) - rd r (Int.tmod ((i : Int) + 1) m)).natAbs) && decide (((rd r (i : Int) - rd r (Int.tmod ((i : Int) + 1) m)).natAbs : Int) ≤ m) && decide (-100 ≤ rd r (Int.tmod ((i : Int) + 1) m) ∧ rd r (Int.tmod ((i : Int) + 1) m) ≤ 100) && decide ((((rd r (i : Int) - rd r (Int.tmod ((i : Int) + 1) m)).natAbs : Nat) : Int) ∉ seen) && decide (rd r (i : Int) ∉ r.take i) && ringB m r (i + 1) q (seen ++ [(((rd r (i : Int) - rd r (Int.tmod ((i : Int) + 1) m)).natAbs : Nat) : Int)])
  | i, 0, _ => decide (i = r.length) && decide ((r.length : Int) = m) && decide (0 < r.length) && decide (rd r 0 = 0)
theorem ring_len {m : Int} {r : List Int} : ∀ {q i : Nat} {seen : List Int}, ringB m r i q seen = true → (r.length : Int) = m
  | 0, i, seen, h => by
    unfold ringB at h
    simp only [Bool.and_eq_true, decide_eq_true_eq] at h
    exact h.1.1.2
  | q + 1, i, seen, h => by
    unfold ringB at h
    simp only [Bool.and_eq_true] at h
    exact ring_len h.2
def chkRing (m : Int) : Bool := match Zbp.f 2000 m, Zce.f 2000 m, Zcl.f m with
  | some a, some b, some c => decide (a = b) && decide (a.1.length ≤ 100) && (!(decide (m ≥ 3) && decide (m ≤ 8)) || (c.2 && decide (a.2 = c.1))) && (!a.2 || (decide (3 ≤ m ∧ m ≤ 8) && ringB m a.1 0 a.1.length []))
  | _, _, _ => false
theorem ring_checked : (ringsDrawn.all chkRing) = true := by decide +kernel
theorem ring_known {m : Int} (h : m ∈ ringsDrawn) : ∃ a c, Zbp.F m = some a ∧ Zce.F m = some a ∧ Zcl.f m = some c ∧ a.1.length ≤ 100 ∧ (m ≥ 3 → m ≤ 8 → c.2 = true ∧ a.2 = c.1) ∧ (a.2 = true → (3 ≤ m ∧ m ≤ 8) ∧ ringB m a.1 0 a.1.length [] = true) := by
  have h := List.all_eq_true.1 ring_checked m h
  unfold chkRing at h
  split at h
  · rename_i a b c ha hb hc
    simp only [Bool.and_eq_true, decide_eq_true_eq, Bool.or_eq_true, Bool.not_eq_true', Bool.and_eq_false_iff, decide_eq_false_iff_not] at h
    obtain ⟨⟨⟨h1, h2⟩, h3⟩, h4⟩ := h
    subst h1
    refine ⟨a, c, Lim.at_ (Zbp.F_lim m) 2000 ha, Lim.at_ (Zce.F_lim m) 2000 hb, hc, h2, fun g1 g2 => ?_, fun ht => ?_⟩
    · rcases h3 with (h3 | h3) | h3
      · exact absurd g1 h3
      · exact absurd g2 h3
      · exact h3
    · rcases h4 with h4 | h4
      · rw [ht] at h4
        cases h4
      · exact h4
  · cases h
theorem rd_in {f : List Int} {i : Int} (h0 : 0 ≤ i) (h : i < (f.length : Int)) : rd f i ∈ f := by
  obtain ⟨n, rfl⟩ : ∃ n : Nat, i = n := ⟨i.toNat, by omega⟩
  rw [rd_nat f n (by omega)]
  exact List.getElem_mem _
theorem set_in {f : List Int} {B B' a : Int} {i : Nat} (h : ∀ v ∈ f, 0 ≤ v ∧ v ≤ B) (hB : B ≤ B') (ha : 0 ≤ a ∧ a ≤ B') : ∀ v ∈ f.set i a, 0 ≤ v ∧ v ≤ B' := fun v hv => by
  rcases List.mem_or_eq_of_mem_set hv with hv | rfl
  · have := h v hv
    omega
  · exact ha
def treeB (l : List Int) : Bool := decide (1 ≤ l.length ∧ l.length ≤ 9) && decide (rd l 0 = -1) && (List.range' 1 (l.length - 1)).all fun i => decide (0 ≤ rd l (i : Int)) && decide (rd l (i : Int) < (i : Int))
structure TreeIs (l : List Int) : Prop where
  len : 1 ≤ l.length ∧ l.length ≤ 9
  top : rd l 0 = -1
  up : ∀ i : Nat, 1 ≤ i → i < l.length → 0 ≤ rd l (i : Int) ∧ rd l (i : Int) < (i : Int)
theorem treeB_is {l : List Int} (h : treeB l = true) : TreeIs l := by
  unfold treeB at h
  simp only [Bool.and_eq_true, decide_eq_true_eq, List.all_eq_true] at h
  exact ⟨h.1.1, h.1.2, fun i h1 hi => h.2 i (List.mem_range'_1.2 (by omega))⟩
theorem Zag.L0_val (l : List Int) (hl : l.length ≤ 1000) : ∀ (m x : Nat), x + m = l.length → Zag.L0 l (x : Int) = some ((List.range' x m).all fun i => decide (0 ≤ rd l (i : Int)) && decide (rd l (i : Int) < (i : Int)))
  | 0, x, h => by rw [Zag.L0_eq, if_neg (by omega)]; rfl
  | m + 1, x, h => by
    rw [Zag.L0_eq, if_pos (by omega), if_pos (by omega), wrap_succ x (by omega), Zag.L0_val l hl m (x + 1) (by omega), List.range'_succ, List.all_cons]
    by_cases h1 : rd l (x : Int) < 0
    · rw [if_pos h1, decide_eq_false (by omega : ¬ 0 ≤ rd l (x : Int))]
      rfl
    rw [if_neg h1, decide_eq_true (by omega : 0 ≤ rd l (x : Int))]
    by_cases h2 : rd l (x : Int) ≥ (x : Int)
    · rw [if_pos h2, decide_eq_false (by omega : ¬ rd l (x : Int) < (x : Int))]
      rfl
    · rw [if_neg h2, decide_eq_true (by omega : rd l (x : Int) < (x : Int))]
      rfl
theorem Zag.F_val (l : List Int) (hl : l.length ≤ 1000) : Zag.F l = some (treeB l) := by
  have hN : Zcs.f (l.length : Int) = some (decide (1 ≤ l.length ∧ l.length ≤ 9)) := by
    unfold Zcs.f
    by_cases h1 : 1 ≤ l.length
    · rw [if_pos (by omega)]
      by_cases h2 : l.length ≤ 9
      · rw [decide_eq_true (by omega), decide_eq_true ⟨h1, h2⟩]
      · rw [decide_eq_false (by omega), decide_eq_false (by omega)]
    · rw [if_neg (by omega), decide_eq_false (by omega)]
  rw [Zag.F_eq, hN]
  unfold treeB
  simp only [Option.bind_some]
  by_cases h : 1 ≤ l.length ∧ l.length ≤ 9
  rotate_left
  · rw [decide_eq_false h, if_neg (by decide), Zag.J0_eq, if_pos rfl]
    rfl
  rw [decide_eq_true h, if_pos rfl, if_pos (by omega), Zag.J0_eq]
  by_cases h2 : rd l 0 = -1
  · rw [h2, if_neg (by decide), decide_eq_true rfl]
    have := Zag.L0_val l hl (l.length - 1) 1 (by omega)
    exact this
  · rw [if_pos (bne_iff_ne.2 h2), decide_eq_false h2]
    rfl
theorem Zao.L0_val (l : List Int) (hl : l.length ≤ 1000) : ∀ (m x : Nat), 1 ≤ x → x + m = l.length → Zao.L0 l (x : Int) = some ((List.range' x m).all fun i => decide (0 ≤ rd l (i : Int)) && decide (rd l (i : Int) < (i : Int)))
  | 0, x, h0, h => by rw [Zao.L0_eq, if_neg (by omega)]; rfl
  | m + 1, x, h0, h => by
    rw [Zao.L0_eq, if_pos (by omega), if_pos (by omega), wrap_succ x (by omega), Zao.L0_val l hl m (x + 1) (by omega) (by omega), List.range'_succ, List.all_cons, wrap_in (n := (x : Int) - 1) (by omega) (by omega), Zcc.f_val]
    simp only [Option.bind_some]
    rw [show decide (rd l (x : Int) ≤ (x : Int) - 1) = decide (rd l (x : Int) < (x : Int)) from by congr 1; exact propext ⟨fun h => by omega, fun h => by omega⟩]
    cases hb : (decide (0 ≤ rd l (x : Int)) && decide (rd l (x : Int) < (x : Int))) with
    | true => rw [if_pos rfl, Bool.true_and]
    | false => rw [if_neg (by decide), Bool.false_and]
theorem Zao.F_val (l : List Int) (hl : l.length ≤ 1000) : Zao.F l = some (treeB l) := by
  rw [Zao.F_eq, Zcc.f_val]
  unfold treeB
  simp only [Option.bind_some]
  rw [show (decide ((1 : Int) ≤ (l.length : Int)) && decide ((l.length : Int) ≤ 9)) = decide (1 ≤ l.length ∧ l.length ≤ 9) from by
    by_cases h : 1 ≤ l.length ∧ l.length ≤ 9
    · rw [decide_eq_true (by omega), decide_eq_true (by omega), decide_eq_true h]; rfl
    · rw [decide_eq_false h, Bool.and_eq_false_iff, decide_eq_false_iff_not, decide_eq_false_iff_not]
      omega]
  by_cases h : 1 ≤ l.length ∧ l.length ≤ 9
  rotate_left
  · rw [decide_eq_false h, if_neg (by decide), Zao.J0_eq, if_pos rfl]
    rfl
  rw [decide_eq_true h, if_pos rfl, if_pos (by omega), Zao.J0_eq]
  by_cases h2 : rd l 0 = -1
  · rw [h2, if_neg (by decide), decide_eq_true rfl]
    have := Zao.L0_val l hl (l.length - 1) 1 (Nat.le_refl _) (by omega)
    exact this
  · rw [if_pos (bne_iff_ne.2 h2), decide_eq_false h2]
    rfl
theorem max_ok (f : List Int) (hl : f.length ≤ 1000) : ∀ (m x : Nat) (a : Int), x + m = f.length → ∃ M, Zaq.L0 f a (x : Int) = some M ∧ (M ≤ 2 ↔ a ≤ 2 ∧ ∀ i : Nat, x ≤ i → i < f.length → rd f (i : Int) ≤ 2)
  | 0, x, a, h => ⟨a, by rw [Zaq.L0_eq, if_neg (by omega)], fun h1 => ⟨h1, fun i h2 h3 => by omega⟩, fun h1 => h1.1⟩
  | m + 1, x, a, h => by
    obtain ⟨M, e, hM⟩ := max_ok f hl m (x + 1) (mx a (rd f (x : Int))) (by omega)
    refine ⟨M, ?_, hM.trans ⟨fun h1 => ⟨?_, fun i h2 h3 => ?_⟩, fun h1 => ⟨?_, fun i h2 h3 => h1.2 i (by omega) h3⟩⟩⟩
    · rw [Zaq.L0_eq, if_pos (by omega), if_pos (by omega), wrap_succ x (by omega), e]
    · have := h1.1
      unfold mx at this
      split at this <;> omega
    · by_cases e : i = x
      · subst e
        have := h1.1
        unfold mx at this
        split at this <;> omega
      · exact h1.2 i (by omega) h3
    · have g1 := h1.1
      have g2 := h1.2 x (Nat.le_refl _) (by omega)
      unfold mx
      split <;> omega
theorem max_all {f : List Int} (h1 : 1 ≤ f.length) (hl : f.length ≤ 1000) (h0 : ∀ v ∈ f, 0 ≤ v) : ∃ M, Zaq.F f = some M ∧ decide (M ≤ 2) = f.all (fun x => decide (0 ≤ x) && decide (x ≤ 2)) := by
  obtain ⟨M, e, hM⟩ := max_ok f hl (f.length - 1) 1 (rd f 0) (by omega)
  refine ⟨M, ?_, ?_⟩
  · rw [Zaq.F_eq, if_neg (by omega), if_pos (by omega)]
    exact e
  · rw [Bool.eq_iff_iff, decide_eq_true_eq, hM, List.all_eq_true]
    constructor
    · intro h x hx
      obtain ⟨i, hi, rfl⟩ := List.getElem_of_mem hx
      rw [Bool.and_eq_true, decide_eq_true_eq, decide_eq_true_eq]
      refine ⟨h0 _ hx, ?_⟩
      rw [← rd_nat f i hi]
      by_cases e : i = 0
      · subst e
        exact h.1
      · exact h.2 i (by omega) hi
    · intro h
      have g : ∀ i : Nat, i < f.length → rd f (i : Int) ≤ 2 := fun i hi => by
        have := h _ (rd_in (f := f) (i := (i : Int)) (by omega) (by omega))
        rw [Bool.and_eq_true, decide_eq_true_eq, decide_eq_true_eq] at this
        exact this.2
      exact ⟨g 0 (by omega), fun i _ hi => g i hi⟩
theorem comb_L1 {l e : List Int} (ht : TreeIs l) (he : e.length = l.length) : ∀ (m x : Nat) (f : List Int), x + m = l.length → 1 ≤ x → f.length = l.length → (∀ v ∈ f, 0 ≤ v ∧ v ≤ 2 * (x : Int)) → ∃ b, Zaf.L1 l e f (x : Int) = some (b, true) ∧ Zak.L1 l e f (x : Int) = some (b, true)
  | 0, x, f, hm, h1, hf, hb => by
    have hl := ht.len
    obtain ⟨M, e1, e2⟩ := max_all (f := f) (by omega) (by omega) (fun v hv => (hb v hv).1)
    refine ⟨decide (M ≤ 2), ?_, ?_⟩
    · rw [Zaf.L1_eq, if_neg (by omega), e1]
      rfl
    · rw [Zak.L1_eq, if_neg (by omega), Zba.F_val f 0 2 (by omega), ← e2]
      rfl
  | m + 1, x, f, hm, h1, hf, hb => by
    have hl := ht.len
    have hu := ht.up x h1 (by omega)
    have hb' : ∀ v ∈ f, 0 ≤ v ∧ v ≤ 2 * ((x + 1 : Nat) : Int) := fun v hv => by have := hb v hv; omega
    have same := comb_L1 ht he m (x + 1) f (by omega) (by omega) hf hb'
    by_cases h2 : rd e (x : Int) > 1
    rotate_left
    · obtain ⟨b, s1, s2⟩ := same
      refine ⟨b, ?_, ?_⟩
      · rw [Zaf.L1_eq, if_pos (by omega), if_pos (by omega), if_pos (by omega), if_neg h2, wrap_succ x (by omega)]
        exact s1
      · rw [Zak.L1_eq, if_pos (by omega), if_pos (by omega), if_pos (by omega), if_neg h2, wrap_succ x (by omega)]
        exact s2
    by_cases h3 : rd e (rd l (x : Int)) > 1
    rotate_left
    · obtain ⟨b, s1, s2⟩ := same
      refine ⟨b, ?_, ?_⟩
      · rw [Zaf.L1_eq, if_pos (by omega), if_pos (by omega), if_pos (by omega), if_pos h2, if_pos hu.1, if_pos (by omega), if_neg h3, wrap_succ x (by omega)]
        exact s1
      · rw [Zak.L1_eq, if_pos (by omega), if_pos (by omega), if_pos (by omega), if_pos h2, if_pos hu.1, if_pos (by omega), if_neg h3, wrap_succ x (by omega)]
        exact s2
    have g1 := hb _ (rd_in (f := f) (i := (x : Int)) (by omega) (by omega))
    have w1 : wrap64 (rd f (x : Int) + 1) = rd f (x : Int) + 1 := wrap_in (by omega) (by omega)
    have hb2 := set_in (i := (x : Int).toNat) (a := rd f (x : Int) + 1) hb (show 2 * (x : Int) ≤ 2 * (x : Int) + 1 by omega) (by omega)
    obtain ⟨y, hy⟩ : ∃ y, f.set (x : Int).toNat (rd f (x : Int) + 1) = y := ⟨_, rfl⟩
    rw [hy] at hb2
    have hyl : y.length = l.length := by rw [← hy, List.length_set, hf]
    have g2 := hb2 _ (rd_in (f := y) (i := rd l (x : Int)) hu.1 (by omega))
    have w2 : wrap64 (rd y (rd l (x : Int)) + 1) = rd y (rd l (x : Int)) + 1 := wrap_in (by omega) (by omega)
    obtain ⟨b, s1, s2⟩ := comb_L1 ht he m (x + 1) (y.set (rd l (x : Int)).toNat (rd y (rd l (x : Int)) + 1)) (by omega) (by omega) (by rw [List.length_set, hyl]) (set_in hb2 (by omega) (by omega))
    refine ⟨b, ?_, ?_⟩
    · rw [Zaf.L1_eq, if_pos (by omega), if_pos (by omega), if_pos (by omega), if_pos h2, if_pos hu.1, if_pos (by omega), if_pos h3, if_pos (by omega)]
      simp only [Option.bind_some]
      rw [if_pos (by omega), wrap_succ x (by omega), w1, hy, w2]
      exact s1
    · rw [Zak.L1_eq, if_pos (by omega), if_pos (by omega), if_pos (by omega), if_pos h2, if_pos hu.1, if_pos (by omega), if_pos h3, if_pos (by omega)]
      simp only [Option.bind_some]
      rw [if_pos (by omega), wrap_succ x (by omega), w1, hy, w2]
      exact s2
theorem comb_L0 {l : List Int} (ht : TreeIs l) : ∀ (m x : Nat) (e : List Int), x + m = l.length → 1 ≤ x → e.length = l.length → ∃ b, Zaf.L0 l e (x : Int) = some (b, true) ∧ Zak.L0 l e (x : Int) = some (b, true)
  | 0, x, e, hm, h1, he => by
    have hl := ht.len
    obtain ⟨b, s1, s2⟩ := comb_L1 ht he (l.length - 1) 1 (List.replicate l.length 0) (by omega) (Nat.le_refl _) (List.length_replicate ..) (fun v hv => by rw [List.eq_of_mem_replicate hv]; omega)
    refine ⟨b, ?_, ?_⟩
    · rw [Zaf.L0_eq, if_neg (by omega), if_pos (by omega), Int.toNat_natCast, if_pos (by omega)]
      exact s1
    · rw [Zak.L0_eq, if_neg (by omega), if_pos (by omega), Int.toNat_natCast, if_pos (by omega)]
      exact s2
  | m + 1, x, e, hm, h1, he => by
    have hl := ht.len
    have hu := ht.up x h1 (by omega)
    have g := fun (e2 : List Int) (h : e2.length = l.length) => comb_L0 ht m (x + 1) e2 (by omega) (by omega) h
    obtain ⟨b, s1, s2⟩ := g ((e.set (x : Int).toNat (wrap64 (rd e (x : Int) + 1))).set (rd l (x : Int)).toNat (wrap64 (rd (e.set (x : Int).toNat (wrap64 (rd e (x : Int) + 1))) (rd l (x : Int)) + 1))) (by rw [List.length_set, List.length_set, he])
    refine ⟨b, ?_, ?_⟩
    · rw [Zaf.L0_eq, if_pos (by omega), if_pos (by omega), if_pos (by omega)]
      simp only [Option.bind_some]
      rw [if_pos hu.1, if_pos (by omega), wrap_succ x (by omega)]
      exact s1
    · rw [Zak.L0_eq, if_pos (by omega), if_pos (by omega), if_pos (by omega)]
      simp only [Option.bind_some]
      rw [if_pos hu.1, if_pos (by omega), wrap_succ x (by omega)]
      exact s2
theorem comb_same (l : List Int) (hl : l.length ≤ 1000) : ∃ a, Zaf.F l = some a ∧ Zak.F l = some a := by
  by_cases h : treeB l = true
  rotate_left
  · refine ⟨(false, false), ?_, ?_⟩
    · rw [Zaf.F_eq, Zag.F_val l hl]
      simp only [Option.bind_some]
      rw [if_neg h]
    · rw [Zak.F_eq, Zao.F_val l hl]
      simp only [Option.bind_some]
      rw [if_neg h]
  have ht := treeB_is h
  have h9 := ht.len
  obtain ⟨b, e1, e2⟩ := comb_L0 ht (l.length - 1) 1 (List.replicate l.length 0) (by omega) (Nat.le_refl _) (List.length_replicate ..)
  refine ⟨(b, true), ?_, ?_⟩
  · rw [Zaf.F_eq, Zag.F_val l hl]
    simp only [Option.bind_some]
    rw [if_pos h, if_pos (by omega), Int.toNat_natCast, if_pos (by omega)]
    exact e1
  · rw [Zak.F_eq, Zao.F_val l hl]
    simp only [Option.bind_some]
    rw [if_pos h, if_pos (by omega), Int.toNat_natCast, if_pos (by omega)]
    exact e2
theorem Zae.L1_ok {l : List Int} : ∀ (m : Nat) (x : List Int) (M a s : Int), x.length + m = 10 → DrawSt l M a → M + 2 * m ≤ 1000 → ∃ r a' z, Zae.L1 x l a s = some (r, a', z) ∧ r.length ≤ 10 ∧ DrawSt l (M + 2 * m + 2) a'
  | 0, x, M, a, s, hx, hs, hM => by
    obtain ⟨p, a1, z1, e1, p0, p1, hs1⟩ := Zac.ok s 2 hs (by omega)
    rw [Zae.L1_eq, e1]
    simp only [Option.bind_some]
    rw [wrap_in (n := 9 + p) (by omega) (by omega), if_neg (by omega)]
    exact ⟨_, _, _, rfl, by omega, hs1.more (by omega)⟩
  | m + 1, x, M, a, s, hx, hs, hM => by
    obtain ⟨p, a1, z1, e1, p0, p1, hs1⟩ := Zac.ok s 2 hs (by omega)
    rw [Zae.L1_eq, e1]
    simp only [Option.bind_some]
    rw [wrap_in (n := 9 + p) (by omega) (by omega)]
    split
    · rw [if_pos (by omega)]
      obtain ⟨r, a', z, e, hr, hs2⟩ := Zae.L1_ok m (x ++ [0]) (M + 2) a1 z1 (by rw [List.length_append, List.length_singleton]; omega) hs1 (by omega)
      exact ⟨r, a', z, e, hr, hs2.more (by omega)⟩
    · exact ⟨_, _, _, rfl, by omega, hs1.more (by omega)⟩
theorem Zae.L0_ok {l : List Int} : ∀ (m : Nat) (x : List Int) (M a s : Int), 1 ≤ x.length → x.length + m ≤ 7 → DrawSt l M a → M + 4 * m ≤ 500 → ∃ r a' z, Zae.L0 x (m : Int) l a s = some (r, a', z) ∧ r.length ≤ 10 ∧ DrawSt l (M + 4 * m + 100) a'
  | 0, x, M, a, s, h1, h7, hs, hM => by
    obtain ⟨p, a1, z1, e1, p0, p1, hs1⟩ := Zac.ok s 14 hs (by omega)
    rw [Zae.L0_eq, if_neg (by omega), e1]
    simp only [Option.bind_some]
    by_cases h0 : p = 0
    rotate_left
    · rw [if_neg h0]
      by_cases h2 : p = 1
      · rw [if_pos h2]
        exact ⟨_, _, _, rfl, Nat.zero_le _, hs1.more (by omega)⟩
      rw [if_neg h2]
      by_cases h3 : p = 2
      · rw [if_pos h3]
        obtain ⟨r, a', z, e, hr, hs2⟩ := Zae.L1_ok (l := l) (10 - x.length) x (M + 2) a1 z1 (by omega) hs1 (by omega)
        exact ⟨r, a', z, e, hr, hs2.more (by omega)⟩
      · rw [if_neg h3]
        exact ⟨_, _, _, rfl, by omega, hs1.more (by omega)⟩
    obtain ⟨i, a2, z2, e2, i0, i1, hs2⟩ := Zac.ok z1 (x.length : Int) hs1 (by omega)
    obtain ⟨v, a3, z3, e3, _, hs3⟩ := Zbi.ok z2 [-1, -2, 0, 5, 4611686018427387904] (by decide) hs2 (by omega)
    rw [if_pos h0, e2]
    simp only [Option.bind_some]
    rw [e3]
    simp only [Option.bind_some]
    rw [if_pos i0, if_pos (by omega)]
    exact ⟨_, _, _, rfl, by rw [List.length_set]; omega, hs3.more (by omega)⟩
  | m + 1, x, M, a, s, h1, h7, hs, hM => by
    obtain ⟨t, a1, z1, e1, hs1⟩ := Zat.ok s 3 hs (by omega)
    have w : wrap64 (((m + 1 : Nat) : Int) - 1) = (m : Int) := by rw [wrap_in (by omega) (by omega)]; omega
    rw [Zae.L0_eq, if_pos (by omega), e1]
    simp only [Option.bind_some]
    by_cases ht : t = true
    · rw [if_pos ht, if_pos (by omega), w]
      obtain ⟨r, a', z, e, hr, hs2⟩ := Zae.L0_ok m (x ++ [wrap64 ((x.length : Int) - 1)]) (M + 2) a1 z1 (by rw [List.length_append, List.length_singleton]; omega) (by rw [List.length_append, List.length_singleton]; omega) hs1 (by omega)
      exact ⟨r, a', z, e, hr, hs2.more (by omega)⟩
    obtain ⟨p, a2, z2, e2, _, _, hs2⟩ := Zac.ok z1 (x.length : Int) hs1 (by omega)
    rw [if_neg ht, e2]
    simp only [Option.bind_some]
    rw [if_pos (by omega), w]
    obtain ⟨r, a', z, e, hr, hs3⟩ := Zae.L0_ok m (x ++ [p]) (M + 2 + 2) a2 z2 (by rw [List.length_append, List.length_singleton]; omega) (by rw [List.length_append, List.length_singleton]; omega) hs2 (by omega)
    exact ⟨r, a', z, e, hr, hs3.more (by omega)⟩
theorem Zae.ok {l : List Int} {M a : Int} (s : Int) (hs : DrawSt l M a) (hM : M ≤ 300) : ∃ r a' z, Zae.F l a s = some (r, a', z) ∧ r.length ≤ 10 ∧ DrawSt l (M + 200) a' := by
  obtain ⟨p, a1, z1, e1, p0, p1, hs1⟩ := Zac.ok s 7 hs (by omega)
  obtain ⟨n, rfl⟩ : ∃ n : Nat, p = n := ⟨p.toNat, by omega⟩
  obtain ⟨r, a', z, e, hr, hs2⟩ := Zae.L0_ok (l := l) n [-1] (M + 2) a1 z1 (Nat.le_refl _) (by rw [List.length_singleton]; omega) hs1 (by omega)
  refine ⟨r, a', z, ?_, hr, hs2.more (by omega)⟩
  rw [Zae.F_eq, e1]
  exact e
theorem drawn_comb {l : List Int} (h : DrawSt l 0 0) : ∃ r, Zbx.F l = some r ∧ r.length ≤ 10 := by
  obtain ⟨t, a1, z1, e1, hs1⟩ := Zat.ok 0 4 h (by omega)
  rw [Zbx.F_eq, e1]
  simp only [Option.bind_some]
  by_cases ht : t = true
  · rw [if_pos ht]
    exact ⟨_, rfl, by decide⟩
  · obtain ⟨r, a', z, e, hr, _⟩ := Zae.ok z1 hs1 (by omega)
    rw [if_neg ht, e]
    exact ⟨_, rfl, hr⟩
theorem drawn_there {l : List Int} (h : DrawSt l 0 0) : ∃ k, Zco.f l = some k := by
  obtain ⟨t, a1, z1, e1, hs1⟩ := Zat.ok 0 8 h (by omega)
  unfold Zco.f
  rw [e1]
  simp only [Option.bind_some]
  by_cases ht : t = true
  · obtain ⟨v, a2, z2, e2, _, _⟩ := Zbi.ok z1 [2, 3, 1000, 1001, -1] (by decide) hs1 (by omega)
    rw [if_pos ht, e2]
    exact ⟨_, rfl⟩
  · obtain ⟨p, a2, z2, e2, _, _, _⟩ := Zac.ok z1 40 hs1 (by omega)
    rw [if_neg ht, e2]
    exact ⟨_, rfl⟩
theorem there_same (k : Int) : ∃ a, Zcl.f k = some a ∧ Zcv.f k = some a := by
  unfold Zcl.f Zcv.f
  rw [Zcc.f_val]
  simp only [Option.bind_some]
  by_cases h1 : k < 3
  · rw [if_pos h1, decide_eq_false (by omega : ¬ (3 : Int) ≤ k), Bool.false_and, if_neg (by decide)]
    exact ⟨_, rfl, rfl⟩
  rw [if_neg h1, decide_eq_true (by omega : (3 : Int) ≤ k), Bool.true_and]
  by_cases h2 : k > 1000
  · rw [if_pos h2, decide_eq_false (by omega : ¬ k ≤ 1000), if_neg (by decide)]
    exact ⟨_, rfl, rfl⟩
  · rw [if_neg h2, decide_eq_true (by omega : k ≤ 1000), if_pos rfl]
    split
    · exact ⟨_, rfl, rfl⟩
    · exact ⟨_, rfl, rfl⟩
theorem two_of : ∀ {p : List Int}, p.length = 2 → ∃ a b, p = [a, b]
  | [], h => by cases h
  | [_], h => by cases h
  | [a, b], _ => ⟨a, b, rfl⟩
  | _ :: _ :: _ :: _, h => by simp at h
theorem two_list {p : List Int} (h : p.length = 2) : [rd p 0, rd p 1] = p := by
  obtain ⟨a, b, rfl⟩ := two_of h
  rfl
theorem skolem_two {l : List Int} (h : ¬ skolemOf l = 0) {k : Nat} (h1 : 1 ≤ k) (hk : k ≤ l.length / 2) : (placesOf l (k : Int)).length = 2 ∧ rd (placesOf l (k : Int)) 1 - rd (placesOf l (k : Int)) 0 = (k : Int) := by
  obtain ⟨hp, hf, hc, hfr, hn, hs⟩ := skolemOf_pos h
  have hlen : ((numbersOf l).length : Int) = ((l.length / 2 : Nat) : Int) := by
    have := skolemOf_yes hp hf hc
    rw [if_pos hfr, hs] at this
    exact this.symm
  have hm : (k : Int) ∈ numbersOf l := by
    have e := fromOf_get 1 (numbersOf l) 0 hfr (k - 1) (by omega)
    have : (numbersOf l)[k - 1]'(by omega) = (k : Int) := by rw [e]; omega
    rw [← this]
    exact List.getElem_mem _
  have h2 := numbersOf_two (isPairs_ok hp) hm
  refine ⟨h2, ?_⟩
  rw [fitsAt_eq l 0 (isPairs_ok hp), List.all_eq_true] at hf
  have h3 := hf _ hm
  have hb := first_bounds h2
  have h40 := isRow_len (isPairs_row hp)
  have ev := two_places h2
  rw [beq_iff_eq, wrap_in (by rw [ev]; show -9223372036854775808 ≤ otherOf l k - firstOf l k; omega) (by rw [ev]; show otherOf l k - firstOf l k ≤ _; omega), wrap_in (by have := ((mem_numbersOf l _).1 hm).2; omega) (by have := ((mem_numbersOf l _).1 hm).2; omega)] at h3
  omega
theorem Zad.L0_val {l : List Int} (h : ¬ skolemOf l = 0) (h40 : l.length ≤ 40) : ∀ (m i : Nat), i + m = l.length / 2 → Zad.L0 l (labelsUp l i) ((i + 1 : Nat) : Int) = some (labelsUp l (l.length / 2), true)
  | 0, i, hi => by
    rw [Zad.L0_eq, wrap_in (by omega) (by omega), if_neg (by omega), show i = l.length / 2 by omega]
  | m + 1, i, hi => by
    obtain ⟨h2, _⟩ := skolem_two h (k := i + 1) (by omega) (by omega)
    have hl := labelsUp_len l i
    have hl2 : i * l.length ≤ 20 * 40 := Nat.mul_le_mul (by omega) h40
    rw [Zad.L0_eq, wrap_in (n := (l.length : Int) / 2) (by omega) (by omega), if_pos (by omega), Zai.F_val l _ (by omega)]
    simp only [Option.bind_some]
    rw [if_pos (by omega), if_pos (by omega), two_list h2, if_pos (by omega), wrap_succ (i + 1) (by omega)]
    have e : labelsUp l (i + 1) = labelsUp l i ++ placesOf l ((i + 1 : Nat) : Int) := by
      show labelsUp l i ++ atOf l (i + 1) = _
      unfold atOf
      rw [if_neg (by omega)]
    rw [← e]
    exact Zad.L0_val h h40 m (i + 1) (by omega)
def labelsF (l : List Int) : List Int × Bool := if skolemOf l = 0 then ([], false) else (labelsUp l (l.length / 2), true)
theorem Zcb.F_val (l : List Int) (hl : l.length ≤ 1000) : Zcb.F l = some (labelsF l) := by
  unfold Zcb.F labelsF
  rw [Zcj.F_val l (by omega)]
  simp only [Option.bind_some]
  by_cases h : skolemOf l = 0
  · rw [if_pos h, if_pos h]
  · obtain ⟨hp, hf, hc, hfr, hn, hs⟩ := skolemOf_pos h
    have h40 := isRow_len (isPairs_row hp)
    rw [if_neg h, if_neg h, if_pos ⟨by omega, by omega, fun x hx => isRow_mem (isPairs_row hp) hx⟩, hs, Int.toNat_natCast]
theorem Zad.F_val (l : List Int) (hl : l.length ≤ 1000) : Zad.F l = some (labelsF l) := by
  unfold labelsF
  rw [Zad.F_eq, Zcm.F_val l (by omega)]
  simp only [Option.bind_some]
  by_cases hp : isPairs l = true
  rotate_left
  · have h : skolemOf l = 0 := skolemOf_no fun h => hp h.1
    rw [if_neg hp, if_pos h, Zad.J0_eq, if_pos rfl]
  rw [if_pos hp, Zca.F_val l hp]
  simp only [Option.bind_some]
  by_cases h : skolemOf l = 0
  · rw [if_pos h, decide_eq_false (by rw [Classical.not_not]; exact h), Zad.J0_eq, Bool.not_false, if_pos rfl]
  · rw [if_neg h, decide_eq_true h, Zad.J0_eq, if_neg (by decide)]
    exact Zad.L0_val h (isRow_len (isPairs_row hp)) (l.length / 2) 0 (by omega)
theorem labels_at {l : List Int} (h : ¬ skolemOf l = 0) : ∀ (i : Nat), i ≤ l.length / 2 → (labelsUp l i).length = 2 * i ∧ ∀ k : Nat, 1 ≤ k → k ≤ i → rd (labelsUp l i) (2 * (k : Int) - 2) = rd (placesOf l (k : Int)) 0 ∧ rd (labelsUp l i) (2 * (k : Int) - 1) = rd (placesOf l (k : Int)) 1
  | 0, _ => ⟨rfl, fun k h1 h2 => by omega⟩
  | i + 1, hi => by
    obtain ⟨h1, h2⟩ := labels_at h i (by omega)
    obtain ⟨h3, _⟩ := skolem_two h (k := i + 1) (by omega) hi
    have e : labelsUp l (i + 1) = labelsUp l i ++ placesOf l ((i + 1 : Nat) : Int) := by
      show labelsUp l i ++ atOf l (i + 1) = _
      unfold atOf
      rw [if_neg (by omega)]
    refine ⟨by rw [e, List.length_append, h1, h3]; omega, fun k k1 k2 => ?_⟩
    rw [e]
    by_cases hk : k = i + 1
    rotate_left
    · obtain ⟨g1, g2⟩ := h2 k k1 (by omega)
      refine ⟨?_, ?_⟩
      · obtain ⟨n, hn⟩ : ∃ n : Nat, 2 * (k : Int) - 2 = n := ⟨(2 * (k : Int) - 2).toNat, by omega⟩
        rw [hn] at g1 ⊢
        rw [rd_nat _ n (by rw [List.length_append]; omega), List.getElem_append_left (by omega), ← rd_nat _ n (by omega), g1]
      · obtain ⟨n, hn⟩ : ∃ n : Nat, 2 * (k : Int) - 1 = n := ⟨(2 * (k : Int) - 1).toNat, by omega⟩
        rw [hn] at g2 ⊢
        rw [rd_nat _ n (by rw [List.length_append]; omega), List.getElem_append_left (by omega), ← rd_nat _ n (by omega), g2]
    subst hk
    obtain ⟨a, b, hab⟩ := two_of h3
    rw [hab]
    have e1 : (2 * ((i + 1 : Nat) : Int) - 2) = ((labelsUp l i).length : Int) := by omega
    have e2 : (2 * ((i + 1 : Nat) : Int) - 1) = ((labelsUp l i ++ [a]).length : Int) := by rw [List.length_append, List.length_singleton]; omega
    refine ⟨by rw [e1, rd_mid]; rfl, ?_⟩
    rw [e2, app_mid, rd_mid]
    rfl
def chkSk (n : Int) : Bool := match Zcu.f n 60 with
  | some L => decide (0 < L.length) && decide (L.length ≤ 100) && L.all fun y => decide (y.length ≤ 41)
  | none => false
theorem sk_checked : (([1, 4, 5, 8] : List Int).all chkSk) = true := by decide +kernel
theorem sk_known {n : Int} (h : n ∈ ([1, 4, 5, 4, 5, 8] : List Int)) : ∃ L, Zcu.f n 60 = some L ∧ 0 < L.length ∧ L.length ≤ 100 ∧ ∀ y ∈ L, y.length ≤ 41 := by
  have h' : n ∈ ([1, 4, 5, 8] : List Int) := by
    simp only [List.mem_cons, List.not_mem_nil, or_false] at h ⊢
    omega
  have h := List.all_eq_true.1 sk_checked n h'
  unfold chkSk at h
  split at h
  · rename_i L hL
    simp only [Bool.and_eq_true, decide_eq_true_eq, List.all_eq_true] at h
    exact ⟨L, hL, h.1.1, h.1.2, h.2⟩
  · cases h
theorem sought_ok {l : List Int} {m at_ : Int} (seed : Int) (hm : m ≤ 600000) (h : DrawSt l m at_) : ∃ r a z, Zbr.F l at_ seed = some (r, a, z) ∧ r.length ≤ 41 ∧ DrawSt l (m + 120) a := by
  obtain ⟨b, a1, z1, e1, h1⟩ := Zat.ok seed 6 h (by omega)
  rw [Zbr.F_eq, e1]
  simp only [Option.bind_some]
  cases b with
  | true =>
    rw [if_pos rfl]
    obtain ⟨r, a2, z2, e2, hr, h2⟩ := Zau.ok z1 (by omega) h1
    rw [e2]
    exact ⟨_, _, _, rfl, hr, h2.more (by omega)⟩
  | false =>
    rw [if_neg (by decide)]
    obtain ⟨x, a2, z2, e2, hx, h2⟩ := Zbi.ok z1 ([1, 4, 5, 4, 5, 8] : List Int) (by decide) h1 (by omega)
    obtain ⟨L, e, hl, hl2, hy⟩ := sk_known hx
    rw [e2]
    simp only [Option.bind_some]
    rw [e]
    simp only [Option.bind_some]
    obtain ⟨p, a3, z3, e3, p0, p1, h3⟩ := Zac.ok z2 (L.length : Int) h2 (by omega)
    have p1' : p < (L.length : Int) := by omega
    have hy := hy _ (rd_rows_mem p0 p1')
    rw [e3]
    simp only [Option.bind_some]
    rw [if_pos p0, if_pos p1']
    obtain ⟨b, a4, z4, e4, h4⟩ := Zat.ok z3 3 h3 (by omega)
    rw [e4]
    simp only [Option.bind_some]
    cases b with
    | true =>
      rw [if_pos rfl, Zar.F_val _ (by omega)]
      exact ⟨_, _, _, rfl, by simp; omega, h4.more (by omega)⟩
    | false =>
      rw [if_neg (by decide)]
      exact ⟨_, _, _, rfl, hy, h4.more (by omega)⟩
theorem drawn_labels {l : List Int} (h : DrawSt l 0 0) : ∃ r, Zbl.F l = some r ∧ r.length ≤ 41 := by
  obtain ⟨r, a, z, e, hr, _⟩ := sought_ok 0 (by omega) h
  rw [Zbl.F_eq, Zbv.F_eq, e]
  exact ⟨_, rfl, hr⟩
end Go.Proofs.Ytapffhnkfgkboaa.Fn
namespace Go.Proofs.Ytapffhnkfgkboaa.Pure
open Go.RowKit Go.Proofs.Ytapffhnkfgkboaa.Fn Go.Proofs.YtapffhnkfgkboaaW.PrintWords Go.Proofs.YtapffhnkfgkboaaW.PrintLast Go.Proofs.YtapffhnkfgkboaaW.PrintMore
set_option linter.unusedVariables false
set_option linter.unusedSimpArgs false
theorem jsame (x : List Int) (hx : x.length ≤ 1000) : Zam.F x x = some true := by
  rw [Zam.F_val x x (by omega), decide_eq_true rfl]
theorem L2_val {l : List Int} (h : ¬ skolemOf l = 0) : ∀ (m k : Nat), k + m = l.length / 2 + 1 → 1 ≤ k → Zaa.L2 l (labelsUp l (l.length / 2)) (k : Int) = some true
  | 0, k, hm, h1 => by
    obtain ⟨hp, _⟩ := skolemOf_pos h
    have h40 := isRow_len (isPairs_row hp)
    obtain ⟨hl, _⟩ := labels_at h (l.length / 2) (Nat.le_refl _)
    have hlen : l.length = 2 * (l.length / 2) := by
      obtain ⟨hp, hf, hc, hfr, hn, hs⟩ := skolemOf_pos h
      have := row_length hp
      omega
    rw [Zaa.L2_eq, wrap_in (n := (l.length : Int) / 2) (by omega) (by omega), if_neg (by omega), hl, ← hlen, beq_self_eq_true]
  | m + 1, k, hm, h1 => by
    obtain ⟨hp, _⟩ := skolemOf_pos h
    have h40 := isRow_len (isPairs_row hp)
    obtain ⟨hl, hg⟩ := labels_at h (l.length / 2) (Nat.le_refl _)
    obtain ⟨g1, g2⟩ := hg k h1 (by omega)
    obtain ⟨h2, hd⟩ := skolem_two h (k := k) h1 (by omega)
    have hb := first_bounds h2
    have ev := two_places h2
    have ha : rd (placesOf l (k : Int)) 0 = firstOf l k := by rw [ev]; rfl
    have hb2 : rd (placesOf l (k : Int)) 1 = otherOf l k := by rw [ev]; rfl
    have r1 := (rd_places h2 (firstOf l k) hb.1 hb.2.1).2 (.inl rfl)
    have r2 := (rd_places h2 (otherOf l k) hb.2.2.1 hb.2.2.2).2 (.inr rfl)
    have w1 : wrap64 (2 * (k : Int)) = 2 * (k : Int) := wrap_in (by omega) (by omega)
    have w2 : wrap64 (2 * (k : Int) - 2) = 2 * (k : Int) - 2 := wrap_in (by omega) (by omega)
    have w3 : wrap64 (2 * (k : Int) - 1) = 2 * (k : Int) - 1 := wrap_in (by omega) (by omega)
    rw [ha, hb2] at hd
    rw [ha] at g1
    rw [hb2] at g2
    generalize firstOf l k = a at hd g1 r1 hb
    generalize otherOf l k = b at hd g2 r2 hb
    have w4 : wrap64 (b - a) = (k : Int) := by rw [hd]; exact wrap_in (by omega) (by omega)
    rw [Zaa.L2_eq, wrap_in (n := (l.length : Int) / 2) (by omega) (by omega), if_pos (by omega), w1, w2, w3, g1, g2, w4, r1, r2, if_pos (by omega), if_pos (by omega), if_pos (by omega), if_pos (by omega), if_pos rfl, if_pos (by omega), if_pos (by omega), if_pos rfl, if_pos (by omega), if_pos (by omega), if_pos rfl, wrap_succ k (by omega)]
    exact L2_val h m (k + 1) (by omega) (by omega)
theorem J6_val (l : List Int) : Zaa.J6 l (labelsF l).1 (labelsF l).2 = some true := by
  unfold labelsF
  rw [Zaa.J6_eq]
  by_cases h : skolemOf l = 0
  · rw [if_pos h, if_neg (by decide)]
  · rw [if_neg h, if_pos rfl]
    exact L2_val h (l.length / 2) 1 (by omega) (Nat.le_refl _)
theorem L1_val {m : Int} (hm : 3 ≤ m ∧ m ≤ 8) {r : List Int} (hr : r.length ≤ 100) (x54 x55 : List Int) (x56 : Bool) : ∀ (q i : Nat) (seen : List Int), i + q = r.length → seen.length ≤ i → ringB m r i q seen = true → Zaa.L1 m r x54 x55 x56 seen r (r.length : Int) (i : Int) = Zaa.J6 x54 x55 x56
  | 0, i, seen, hi, hs, h => by
    unfold ringB at h
    simp only [Bool.and_eq_true, decide_eq_true_eq] at h
    obtain ⟨⟨⟨h1, h2⟩, h3⟩, h4⟩ := h
    rw [Zaa.L1_eq, if_neg (by omega), if_pos h2, if_pos (by omega), if_pos h4]
  | q + 1, i, seen, hi, hs, h => by
    unfold ringB at h
    simp only [Bool.and_eq_true, decide_eq_true_eq] at h
    obtain ⟨⟨⟨⟨⟨⟨⟨⟨h1, h2⟩, h3⟩, h4⟩, h5⟩, h6⟩, h7⟩, h8⟩, h9⟩ := h
    have ht := tmod_range (x := (i : Int) + 1) (n := m) (by omega) (by omega)
    have w1 : wrap64 ((i : Int) + 1) = (i : Int) + 1 := wrap_in (by omega) (by omega)
    have hlm : r.length ≤ 100 := hr
    have htl : Int.tmod ((i : Int) + 1) m < (r.length : Int) := by
      by_cases hc : Int.tmod ((i : Int) + 1) m < (r.length : Int)
      · exact hc
      · exact absurd (ring_len h9) (by omega)
    generalize hv : rd r (Int.tmod ((i : Int) + 1) m) = v at h4 h5 h6 h7 h9
    generalize hu : rd r (i : Int) = u at h2 h3 h4 h5 h7 h8 h9
    have w2 : wrap64 (u - v) = u - v := wrap_in (by omega) (by omega)
    have ha : Zda.f (u - v) = some (((u - v).natAbs : Nat) : Int) := by
      unfold Zda.f
      by_cases hn : u - v < 0
      · rw [if_pos hn, wrap_in (by omega) (by omega)]
        exact congrArg some (by omega)
      · rw [if_neg hn]
        exact congrArg some (by omega)
    rw [Zaa.L1_eq, if_pos (by omega), if_pos (by omega), if_pos (by omega), if_neg (by omega), w1, if_pos ht.1, if_pos htl, hv, hu, w2, ha]
    simp only [Option.bind_some]
    rw [if_neg (by omega), if_neg (by omega), if_neg (by omega), if_neg (by omega), Zbj.F_val seen _ (by omega), decide_eq_false h7]
    simp only [Option.bind_some]
    rw [if_neg (by decide), if_pos (by omega), Int.toNat_natCast, Zbj.F_val _ _ (by rw [List.length_take]; omega), decide_eq_false h8]
    simp only [Option.bind_some]
    rw [if_neg (by decide), if_pos (by omega)]
    exact L1_val hm hr x54 x55 x56 q (i + 1) _ (by omega) (by rw [List.length_append, List.length_singleton]; omega) h9
theorem J3_val {l1 : List Int} (h1 : DrawSt l1 0 0) : Zaa.J3 l1 = some true := by
  obtain ⟨t, et, htl⟩ := drawn_comb h1
  obtain ⟨a, ea1, ea2⟩ := comb_same t (by omega)
  obtain ⟨m, em, hm⟩ := drawn_ring h1
  obtain ⟨r, c, er1, er2, ec, hrl, hr1, hr2⟩ := ring_known hm
  obtain ⟨k, ek⟩ := drawn_there h1
  obtain ⟨b, eb1, eb2⟩ := there_same k
  obtain ⟨row, erow, hrow⟩ := drawn_labels h1
  have hlab : (labelsF row).1.length ≤ 1000 := by
    unfold labelsF
    by_cases h : skolemOf row = 0
    · rw [if_pos h]
      exact Nat.zero_le _
    · rw [if_neg h]
      have := (labels_at h (row.length / 2) (Nat.le_refl _)).1
      show (labelsUp row (row.length / 2)).length ≤ 1000
      omega
  rw [Zaa.J3_eq, et]
  simp only [Option.bind_some]
  rw [ea1]
  simp only [Option.bind_some]
  rw [ea2]
  simp only [Option.bind_some]
  rw [em]
  simp only [Option.bind_some]
  rw [er1]
  simp only [Option.bind_some]
  rw [er2]
  simp only [Option.bind_some]
  rw [ec]
  simp only [Option.bind_some]
  rw [ek]
  simp only [Option.bind_some]
  rw [eb1]
  simp only [Option.bind_some]
  rw [eb2]
  simp only [Option.bind_some]
  rw [erow]
  simp only [Option.bind_some]
  rw [Zcb.F_val row (by omega)]
  simp only [Option.bind_some]
  rw [Zad.F_val row (by omega)]
  simp only [Option.bind_some, bne_self_eq_false, Bool.false_eq_true, if_false]
  rw [jsame _ (by omega)]
  simp only [Option.bind_some, if_true]
  rw [jsame _ hlab]
  simp only [Option.bind_some, if_true]
  have hJ4 : Zaa.J4 m r.1 r.2 row (labelsF row).1 (labelsF row).2 false = some true := by
    rw [Zaa.J4_eq, if_neg (by decide)]
    by_cases hr : r.2 = true
    · obtain ⟨g1, g2⟩ := hr2 hr
      rw [if_pos hr]
      exact (L1_val g1 hrl row (labelsF row).1 (labelsF row).2 r.1.length 0 [] (by omega) (Nat.le_refl _) g2).trans (J6_val row)
    · rw [if_neg hr]
      exact J6_val row
  by_cases g3 : m ≥ 3
  rotate_left
  · rw [if_neg g3]
    exact hJ4
  rw [if_pos g3]
  by_cases g8 : m ≤ 8
  · obtain ⟨g1, g2⟩ := hr1 g3 g8
    rw [if_pos g8, if_pos g1, g2, bne_self_eq_false, ← g2]
    exact hJ4
  · rw [if_neg g8]
    exact hJ4
theorem L0_star {l1 : List Int} (h1 : DrawSt l1 0 0) {n q : Int} (h : (n, q) ∈ starsKnown) : Zaa.L0 l1 n q true 2 2 = some true := by
  have hJ := J3_val h1
  unfold starsKnown at h
  simp only [List.mem_cons, List.not_mem_nil, or_false, Prod.mk.injEq] at h
  rcases h with ⟨rfl, rfl⟩ | ⟨rfl, rfl⟩ | ⟨rfl, rfl⟩ | ⟨rfl, rfl⟩
  · rw [Zaa.L0_eq, if_pos (by decide), show wrap64 ((2 : Int) * 2) = 4 by decide +kernel, show wrap64 ((2 : Int) + 1) = 3 by decide +kernel, Zaa.L0_eq, if_neg (by decide), if_pos rfl, if_pos rfl, hJ]
  · rw [Zaa.L0_eq, if_pos (by decide), show wrap64 ((2 : Int) * 2) = 4 by decide +kernel, show wrap64 ((2 : Int) + 1) = 3 by decide +kernel, Zaa.L0_eq, if_pos (by decide), show wrap64 ((4 : Int) * 3) = 12 by decide +kernel, show wrap64 ((3 : Int) + 1) = 4 by decide +kernel, Zaa.L0_eq, if_neg (by decide), if_pos rfl, if_pos rfl, hJ]
  · rw [Zaa.L0_eq, if_pos (by decide), show wrap64 ((2 : Int) * 2) = 4 by decide +kernel, show wrap64 ((2 : Int) + 1) = 3 by decide +kernel, Zaa.L0_eq, if_pos (by decide), show wrap64 ((4 : Int) * 3) = 12 by decide +kernel, show wrap64 ((3 : Int) + 1) = 4 by decide +kernel, Zaa.L0_eq, if_pos (by decide), show wrap64 ((12 : Int) * 4) = 48 by decide +kernel, show wrap64 ((4 : Int) + 1) = 5 by decide +kernel, Zaa.L0_eq, if_neg (by decide), if_pos rfl, if_pos rfl, hJ]
  · rw [Zaa.L0_eq, if_pos (by decide), show wrap64 ((2 : Int) * 2) = 4 by decide +kernel, show wrap64 ((2 : Int) + 1) = 3 by decide +kernel, Zaa.L0_eq, if_pos (by decide), show wrap64 ((4 : Int) * 3) = 12 by decide +kernel, show wrap64 ((3 : Int) + 1) = 4 by decide +kernel, Zaa.L0_eq, if_pos (by decide), show wrap64 ((12 : Int) * 4) = 48 by decide +kernel, show wrap64 ((4 : Int) + 1) = 5 by decide +kernel, Zaa.L0_eq, if_pos (by decide), show wrap64 ((48 : Int) * 5) = 240 by decide +kernel, show wrap64 ((5 : Int) + 1) = 6 by decide +kernel, Zaa.L0_eq, if_neg (by decide), if_pos rfl, if_pos rfl, hJ]
theorem J0_val {l1 : List Int} (h1 : DrawSt l1 0 0) : Zaa.J0 l1 = some true := by
  obtain ⟨n, en, hn⟩ := drawn_path h1
  obtain ⟨a, c, e1, e2, e3, e4, h5, h6, h7, h8⟩ := path_known hn
  rw [Zaa.J0_eq, en]
  simp only [Option.bind_some]
  rw [e1]
  simp only [Option.bind_some]
  rw [e2]
  simp only [Option.bind_some]
  rw [e3]
  simp only [Option.bind_some]
  rw [e4]
  simp only [Option.bind_some, bne_self_eq_false, Bool.false_eq_true, if_false]
  rw [jsame _ (by omega)]
  simp only [Option.bind_some, if_true]
  rw [jsame _ (by omega)]
  simp only [Option.bind_some, if_true]
  rw [h5, bne_self_eq_false, if_neg (by decide), ← h5]
  by_cases ha : a.2 = true
  rotate_left
  · rw [if_neg ha]
    exact J3_val h1
  obtain ⟨k1, k2, k3, k4, k5, k6⟩ := path_known2 (h8 ha)
  rw [if_pos ha, k1]
  simp only [Option.bind_some]
  rw [k2]
  simp only [Option.bind_some]
  rw [if_pos k5, if_pos k6, k3]
  simp only [Option.bind_some, if_true]
  rw [k4]
  simp only [Option.bind_some, if_true]
  have hJ1f : Zaa.J1 l1 n c.1 false = some true := by
    rw [Zaa.J1_eq, if_neg (by decide)]
    exact J3_val h1
  by_cases g3 : n ≥ 3
  rotate_left
  · rw [if_neg g3]
    exact hJ1f
  rw [if_pos g3]
  by_cases g6 : n ≤ 6
  rotate_left
  · rw [decide_eq_false g6]
    exact hJ1f
  rw [decide_eq_true g6, Zaa.J1_eq, if_pos rfl]
  have hs : ∃ q, (n, q) ∈ starsKnown := by
    have : n = 3 ∨ n = 4 ∨ n = 5 ∨ n = 6 := by omega
    rcases this with rfl | rfl | rfl | rfl
    · exact ⟨4, by decide⟩
    · exact ⟨12, by decide⟩
    · exact ⟨48, by decide⟩
    · exact ⟨240, by decide⟩
  obtain ⟨q, hq⟩ := hs
  rw [star_known hq e3]
  simp only [Option.bind_some]
  exact L0_star h1 hq
theorem FnCombsAndRings : Zaa.Pure := by
  intro l0 l1 _ _ w0 _ _ w1
  refine Lim.rounds (Zaa.F_lim l0 l1) ?_
  rw [Zaa.F_eq, Zcz.f_val]
  simp only [Option.bind_some]
  by_cases hbig : 1048576 < l0.length ∨ 1048576 < l0.length + l1.length
  · rw [decide_eq_true hbig, if_pos rfl]
  rw [decide_eq_false hbig, if_neg (by decide)]
  have h0 := draw_start (l := l0) (by omega) w0
  have h1 := draw_start (l := l1) (by omega) w1
  have hJ0 := J0_val h1
  obtain ⟨t, et, ht⟩ := drawn_legs h0
  obtain ⟨a, c, e1, e2, e3, e4, h5, h6, h7, h8⟩ := comb_known ht
  rw [et]
  simp only [Option.bind_some]
  rw [e1]
  simp only [Option.bind_some]
  rw [e2]
  simp only [Option.bind_some]
  rw [e3]
  simp only [Option.bind_some]
  rw [e4]
  simp only [Option.bind_some, bne_self_eq_false, Bool.false_eq_true, if_false]
  rw [jsame _ (by omega)]
  simp only [Option.bind_some, if_true]
  rw [jsame _ (by omega)]
  simp only [Option.bind_some, if_true]
  rw [h5, bne_self_eq_false, if_neg (by decide)]
  by_cases ha : a.2 = true
  rotate_left
  · rw [if_neg ha]
    exact hJ0
  obtain ⟨hv, k1, k2, k3, k4, k5⟩ := comb_known2 (h8 ha)
  rw [if_pos ha, k1]
  simp only [Option.bind_some]
  rw [k2]
  simp only [Option.bind_some]
  rw [k3]
  simp only [Option.bind_some, if_true]
  rw [k4, bne_self_eq_false, if_neg (by decide), ← k4]
  by_cases hh : hv.2 = true
  · obtain ⟨g1, g2⟩ := k5 hh
    rw [if_pos hh, if_neg (by omega), if_neg (by omega)]
    exact hJ0
  · rw [if_neg hh]
    exact hJ0
end Go.Proofs.Ytapffhnkfgkboaa.Pure
