/- The machine's side and plain lemmas for FnExactSolutions: texts of this session, merged by its program (part 2). -/
import Derived.Test.YtjfhcddahahdfaaMFnExactSolutions0
import Derived.Test.YtjfhcddahahdfaaMFnExactSolutions1
namespace Go.Proofs.Ytjfhcddahahdfaa.Fn
open Go.RowKit Go.Proofs.YtjfhcddahahdfaaW.PrintWords Go.Proofs.YtjfhcddahahdfaaW.PrintLast Go.Proofs.YtjfhcddahahdfaaW.PrintMore
set_option linter.unusedVariables false
set_option linter.unusedSimpArgs false
theorem zeroAt_rd : ∀ l : List Int, zeroAt l < l.length → rd l (zeroAt l) = 0
  | [], h => by simp at h
  | x :: l, h => by
    unfold zeroAt at h ⊢
    split
    · rename_i hx
      simp [rd, hx]
    · rename_i hx
      rw [if_neg hx] at h
      have := zeroAt_rd l (by simpa using h)
      simpa [rd] using this
/-- All solutions, in order. -/
def solsLoop (rec : List Int → Nat → List (List Int)) (prow row : List Int) (shift : Int) (used a : Nat) : Nat → Int → List (List Int)
  | 0, _ => []
  | m + 1, n => (if pzPassed row used n ((a : Int) + n + shift) ∨ pzWrong prow a n ((a : Int) + n + shift) then [] else rec ((row.set a n).set ((a : Int) + n + shift).toNat n) (used ||| 2 ^ n.toNat)) ++ solsLoop rec prow row shift used a m (n + 1)
def sols (prow : List Int) (from_ shift : Int) : Nat → List Int → Nat → List (List Int)
  | 0, _, _ => []
  | k + 1, row, used => if zeroAt row = row.length then [row] else solsLoop (sols prow from_ shift k) prow row shift used (zeroAt row) (row.length / 2) from_
theorem take_more {α : Type} (a b : List α) (n : Nat) : (a.take n ++ b).take n = (a ++ b).take n := by
  rcases Nat.le_total n a.length with h | h
  · rw [List.take_append_of_le_length (by rw [List.length_take]; omega), List.take_append_of_le_length h, List.take_take, Nat.min_self]
  · rw [List.take_of_length_le h]
theorem count_put {row : List Int} {a : Nat} {n : Int} (t : Nat) (ha : a < row.length) (h0 : rd row a = 0) (hn : n ≠ 0) : ((row.set a n).set t n).count 0 < row.count 0 := by
  have hmem : (0 : Int) ∈ row := by
    rw [rd_nat row a ha] at h0
    rw [← h0]
    exact List.getElem_mem ha
  have hpos := List.count_pos_iff.2 hmem
  have hb : ((n == (0 : Int)) = true) = False := by simp [hn]
  have h1 : (row.set a n).count 0 = row.count 0 - 1 := by
    rw [List.count_set ha]
    rw [rd_nat row a ha] at h0
    simp [h0, hn]
  rcases Nat.lt_or_ge t (row.set a n).length with h | h
  · rw [List.count_set h, h1]
    simp only [beq_iff_eq, hn, if_false, Nat.add_zero]
    omega
  · rw [List.set_eq_of_length_le h, h1]
    omega
theorem pzLoop_val {prow row : List Int} {shift : Int} {used a k : Nat} {rec : List (List Int) → List Int → Nat → Option (List (List Int))} {recS : List Int → Nat → List (List Int)} (hrec : ∀ xs row' used', row'.count 0 < k → xs.length ≤ 301 → rec xs row' used' = some ((xs ++ recS row' used').take 301)) (hk : row.count 0 < k + 1) (ha : a < row.length) (h0 : rd row a = 0) : ∀ (m : Nat) (n : Int) (xs : List (List Int)), 1 ≤ n → xs.length ≤ 301 → pzLoop rec prow row shift used a m n xs = some ((xs ++ solsLoop recS prow row shift used a m n).take 301)
  | 0, n, xs, hn, hx => by
    simp only [pzLoop, solsLoop, List.append_nil]
    rw [List.take_of_length_le hx]
  | m + 1, n, xs, hn, hx => by
    by_cases hp : pzPassed row used n ((a : Int) + n + shift) ∨ pzWrong prow a n ((a : Int) + n + shift)
    · rw [pzLoop_pass rfl hp, pzLoop_val hrec hk ha h0 m (n + 1) xs (by omega) hx, solsLoop, if_pos hp, List.nil_append]
    · have hc := count_put (((a : Int) + n + shift).toNat) ha h0 (show n ≠ 0 by omega)
      rw [pzLoop_put rfl hp, hrec xs _ _ (by omega) hx, solsLoop, if_neg hp, Option.bind_some, pzLoop_val hrec hk ha h0 m (n + 1) _ (by omega) (by rw [List.length_take]; omega), take_more, List.append_assoc]
theorem pzF_val (prow : List Int) (from_ shift : Int) (hf : 1 ≤ from_) : ∀ (k : Nat) (xs : List (List Int)) (row : List Int) (used : Nat), row.count 0 < k → xs.length ≤ 301 → pzF prow from_ shift k xs row used = some ((xs ++ sols prow from_ shift k row used).take 301)
  | 0, xs, row, used, h, hx => by omega
  | k + 1, xs, row, used, h, hx => by
    unfold pzF sols
    by_cases h1 : 300 < xs.length
    · rw [if_pos h1, List.take_append_of_le_length (by omega), List.take_of_length_le hx]
    · rw [if_neg h1]
      by_cases h2 : zeroAt row = row.length
      · rw [if_pos h2, if_pos h2, List.take_of_length_le (by simp; omega)]
      · have := zeroAt_le row
        rw [if_neg h2, if_neg h2]
        exact pzLoop_val (fun xs row' used' h hx => pzF_val prow from_ shift hf k xs row' used' h hx) h (by omega) (zeroAt_rd row (by omega)) _ _ _ hf hx
/-- The row as the program's search has it: its free places. -/
def toFree (row : List Int) : List Int := row.map fun x => if x = 0 then -1 else x
def leftOf (from_ : Int) (n used : Nat) : List Int := (List.range n).map fun i => if used.testBit (from_.toNat + i) = true then 0 else from_ + (i : Int)
theorem toFree_len (row : List Int) : (toFree row).length = row.length := by simp [toFree]
theorem toFree_rd {row : List Int} {t : Int} (h0 : 0 ≤ t) (h1 : t < row.length) : rd (toFree row) t = if rd row t = 0 then -1 else rd row t := by
  obtain ⟨i, rfl⟩ : ∃ i : Nat, t = i := ⟨t.toNat, by omega⟩
  have hi : i < row.length := by omega
  rw [rd_nat _ i (by rw [toFree_len]; exact hi), rd_nat row i hi]
  simp [toFree]
theorem toFree_free : ∀ row : List Int, (∀ x ∈ row, 0 ≤ x) → freeAt (toFree row) = zeroAt row
  | [], _ => rfl
  | x :: l, h => by
    have ih := toFree_free l (fun y hy => h y (by simp [hy]))
    have hx := h x (by simp)
    have e : toFree (x :: l) = (if x = 0 then -1 else x) :: toFree l := rfl
    rw [e]
    unfold freeAt zeroAt
    by_cases h0 : x = 0
    · simp [h0]
    · rw [if_neg h0, if_neg h0, if_neg (by omega), ih]
theorem toFree_set {row : List Int} {a t : Nat} {n : Int} (hn : n ≠ 0) : ((toFree row).set a n).set t n = toFree ((row.set a n).set t n) := by
  simp [toFree, List.map_set, hn]
theorem toFree_full : ∀ row : List Int, zeroAt row = row.length → toFree row = row
  | [], _ => rfl
  | x :: l, h => by
    by_cases h0 : x = 0
    · subst h0
      simp [zeroAt] at h
    · have h2 : zeroAt l = l.length := by simpa [zeroAt, h0] using h
      have ih := toFree_full l h2
      have e : toFree (x :: l) = (if x = 0 then -1 else x) :: toFree l := rfl
      rw [e, ih, if_neg h0]
theorem leftOf_len (from_ : Int) (n used : Nat) : (leftOf from_ n used).length = n := by simp [leftOf]
theorem leftOf_rd {from_ : Int} {n used i : Nat} (h : i < n) : rd (leftOf from_ n used) i = if used.testBit (from_.toNat + i) = true then 0 else from_ + (i : Int) := by
  rw [rd_nat _ i (by rw [leftOf_len]; exact h)]
  simp [leftOf]
theorem leftOf_set {from_ : Int} {n used i : Nat} (h : i < n) : (leftOf from_ n used).set i 0 = leftOf from_ n (used ||| 2 ^ (from_.toNat + i)) := by
  apply List.ext_getElem?
  intro j
  rw [List.getElem?_set, leftOf_len]
  by_cases hj : i = j
  · subst hj
    rw [if_pos rfl, if_pos h]
    simp [leftOf, h, Nat.testBit_or, Nat.testBit_two_pow]
  · rw [if_neg hj]
    rcases Nat.lt_or_ge j n with h2 | h2
    · simp [leftOf, h2, Nat.testBit_or, Nat.testBit_two_pow, hj]
    · rw [List.getElem?_eq_none (by rw [leftOf_len]; exact h2), List.getElem?_eq_none (by rw [leftOf_len]; exact h2)]
/-- So many of the rows, and whether there are more. -/
def upTo (most : Int) (xs : List (List Int)) : List (List Int) × Bool := (xs.take (most.toNat + 1), decide (most < (xs.length : Int)))
theorem fillLoop_val {prow row : List Int} {from_ shift most : Int} {used k : Nat} {rec : List (List Int) → List Int → List Int → Option (List (List Int) × Bool)} {recS : List Int → Nat → List (List Int)} (hm0 : 0 ≤ most) (hf : 1 ≤ from_) (hs : 0 ≤ shift) (hpos : ∀ x ∈ row, 0 ≤ x)
    (hrec : ∀ xs row' used', row'.count 0 < k → (∀ x ∈ row', 0 ≤ x) → row'.length = row.length → (xs.length : Int) ≤ most → rec xs (toFree row') (leftOf from_ (row.length / 2) used') = some (upTo most (xs ++ recS row' used'))) (hk : row.count 0 < k + 1) (ha : zeroAt row < row.length) :
    ∀ (m i : Nat) (xs : List (List Int)), i + m = row.length / 2 → (xs.length : Int) ≤ most → fillLoop rec (toFree row) prow (leftOf from_ (row.length / 2) used) shift m i xs = some (upTo most (xs ++ solsLoop recS prow row shift used (zeroAt row) m (from_ + (i : Int))))
  | 0, i, xs, hi, hx => by
    simp only [fillLoop, solsLoop, List.append_nil, upTo]
    rw [List.take_of_length_le (by omega), decide_eq_false (by omega)]
  | m + 1, i, xs, hi, hx => by
    have hfa := toFree_free row hpos
    have hn := leftOf_rd (from_ := from_) (n := row.length / 2) (used := used) (i := i) (by omega)
    have hnx : from_ + (i : Int) + 1 = from_ + ((i + 1 : Nat) : Int) := by omega
    have hb : (from_ + (i : Int)).toNat = from_.toNat + i := by omega
    by_cases hbit : used.testBit (from_.toNat + i) = true
    · rw [if_pos hbit] at hn
      have hp : pzPassed row used (from_ + (i : Int)) ((zeroAt row : Int) + (from_ + (i : Int)) + shift) := .inl (by rw [hb]; exact hbit)
      rw [fillLoop_pass hfa hn rfl (.inl rfl), fillLoop_val hm0 hf hs hpos hrec hk ha m (i + 1) xs (by omega) hx, solsLoop, if_pos (.inl hp), List.nil_append, hnx]
    · rw [if_neg hbit] at hn
      obtain ⟨n, hne⟩ : ∃ n, from_ + (i : Int) = n := ⟨_, rfl⟩
      rw [hne] at hn hnx hb ⊢
      obtain ⟨t, ht⟩ : ∃ t, (zeroAt row : Int) + n + shift = t := ⟨_, rfl⟩
      have hn1 : 1 ≤ n := by omega
      have ht0 : 0 ≤ t := by omega
      have hcond : passed (toFree row) prow (zeroAt row) n t ↔ (pzPassed row used n t ∨ pzWrong prow (zeroAt row) n t) := by
        have hb2 : ¬ used.testBit n.toNat = true := by rw [hb]; exact hbit
        have hrd : t < (row.length : Int) → (rd (toFree row) t ≠ -1 ↔ rd row t ≠ 0) := fun h => by
          rw [toFree_rd ht0 h]
          by_cases h3 : rd row t = 0
          · simp [h3]
          · rw [if_neg h3]
            have : 0 ≤ rd row t := by
              obtain ⟨j, rfl⟩ : ∃ j : Nat, t = j := ⟨t.toNat, by omega⟩
              rw [rd_nat row j (by omega)]
              exact hpos _ (List.getElem_mem _)
            constructor
            · intro _; exact h3
            · intro _ h4; omega
        unfold passed
        rw [toFree_len]
        constructor
        · rintro (h | h | h | h)
          · omega
          · exact .inl (.inr (.inl h))
          · by_cases h5 : (row.length : Int) ≤ t
            · exact .inl (.inr (.inl h5))
            · exact .inl (.inr (.inr ((hrd (by omega)).1 h)))
          · exact .inr h
        · rintro ((h | h | h) | h)
          · exact absurd h hb2
          · exact .inr (.inl h)
          · by_cases h5 : (row.length : Int) ≤ t
            · exact .inr (.inl h5)
            · exact .inr (.inr (.inl ((hrd (by omega)).2 h)))
          · exact .inr (.inr (.inr h))
      by_cases hp : pzPassed row used n t ∨ pzWrong prow (zeroAt row) n t
      · rw [fillLoop_pass hfa hn ht (hcond.2 hp), fillLoop_val hm0 hf hs hpos hrec hk ha m (i + 1) xs (by omega) hx, solsLoop, ht, if_pos hp, List.nil_append, hnx]
      · have hc := count_put t.toNat ha (zeroAt_rd row ha) (show n ≠ 0 by omega)
        rw [fillLoop_put hfa hn ht (fun h => hp (hcond.1 h)), toFree_set (show n ≠ 0 by omega), leftOf_set (show i < row.length / 2 by omega), hrec xs _ _ (by omega) (fun x hx => by
          rcases List.mem_or_eq_of_mem_set hx with hx | hx
          · rcases List.mem_or_eq_of_mem_set hx with hx | hx
            · exact hpos x hx
            · omega
          · omega) (by simp) hx, solsLoop, ht, if_neg hp, Option.bind_some, ← hb]
        generalize recS ((row.set (zeroAt row) n).set t.toNat n) (used ||| 2 ^ n.toNat) = S
        by_cases hfull : most < ((xs ++ S).length : Int)
        · simp only [upTo, decide_eq_true hfull, if_true]
          have hlen : (xs ++ S ++ solsLoop recS prow row shift used (zeroAt row) m (n + 1)).length = (xs ++ S).length + (solsLoop recS prow row shift used (zeroAt row) m (n + 1)).length := List.length_append
          rw [← List.append_assoc, decide_eq_true (show most < ((xs ++ S ++ solsLoop recS prow row shift used (zeroAt row) m (n + 1)).length : Int) by omega), List.take_append_of_le_length (l₁ := xs ++ S) (by omega)]
        · simp only [upTo, decide_eq_false hfull, Bool.false_eq_true, if_false]
          rw [List.take_of_length_le (by omega), fillLoop_val hm0 hf hs hpos hrec hk ha m (i + 1) (xs ++ S) (by omega) (by omega), hnx, List.append_assoc]
          rfl
theorem fillF_val (prow : List Int) (from_ shift most : Int) (hm0 : 0 ≤ most) (hm1 : most ≤ 1000000) (hf : 1 ≤ from_) (hs : 0 ≤ shift) : ∀ (k : Nat) (xs : List (List Int)) (row : List Int) (used : Nat), row.count 0 < k → (∀ x ∈ row, 0 ≤ x) → (xs.length : Int) ≤ most → fillF (eachAll most) prow shift k xs (toFree row) (leftOf from_ (row.length / 2) used) = some (upTo most (xs ++ sols prow from_ shift k row used))
  | 0, xs, row, used, h, hp, hx => by omega
  | k + 1, xs, row, used, h, hp, hx => by
    have hfa := toFree_free row hp
    unfold fillF sols
    rw [hfa, toFree_len]
    by_cases h2 : zeroAt row = row.length
    · rw [if_pos h2, if_pos h2, toFree_full row h2]
      unfold eachAll upTo
      rw [if_pos (by omega), List.take_of_length_le (by simp; omega)]
      simp
    · have := zeroAt_le row
      rw [if_neg h2, if_neg h2, leftOf_len, fillLoop_val hm0 hf hs hp (fun xs row' used' h1 h2 h3 h4 => by
        have := fillF_val prow from_ shift most hm0 hm1 hf hs k xs row' used' h1 h2 h4
        rwa [h3] at this) h (by omega) (row.length / 2) 0 xs (by omega) hx]
      simp
/-- All solutions of a puzzle. -/
def allSols (l : List Int) (a s : Int) : List (List Int) := sols l a s (l.length + 1) (List.replicate l.length 0) 0
theorem spec_pzAll.f_val (l : List Int) (a s : Int) (h : puzzleHead l.length a s) : spec_pzAll.f l a s = some ((allSols l a s).take 301, decide ((((allSols l a s).take 301).length : Int) ≤ 300)) := by
  obtain ⟨h1, h2, h3, h4, h5, h6, h7⟩ := h
  unfold spec_pzAll.f
  rw [if_pos (by omega), pzF_val l a s h4 _ _ _ _ (by simp) (by simp)]
  rfl
theorem solveAll_val (l : List Int) (a s most : Int) (h : puzzleHead l.length a s) (hm0 : 0 ≤ most) (hm1 : most ≤ 1000000) : solveAll l a s most = some (upTo most (allSols l a s)) := by
  obtain ⟨h1, h2, h3, h4, h5, h6, h7⟩ := h
  have := fillF_val l a s most hm0 hm1 h4 (by omega) (l.length + 1) [] (List.replicate l.length 0) 0 (by simp) (fun x hx => by have := List.eq_of_mem_replicate hx; omega) (by simpa using hm0)
  have e1 : toFree (List.replicate l.length 0) = List.replicate l.length (-1) := by simp [toFree]
  have e2 : leftOf a ((List.replicate l.length (0 : Int)).length / 2) 0 = numbersUp a (l.length / 2) := by simp [leftOf, numbersUp]
  rw [e1, e2, List.nil_append] at this
  exact this
/-- The solutions, if they are not too many. -/
def foundOf (l : List Int) (a s : Int) : List (List Int) × Bool := if isPuzzle l a s = true then (if (((allSols l a s).take 301).length : Int) ≤ 300 then (allSols l a s).take 301 else [], decide ((((allSols l a s).take 301).length : Int) ≤ 300)) else ([], false)
theorem impl_Puzzle_solutions.F_val (l : List Int) (a s : Int) (hl : l.length < 4611686018427387904) : impl_Puzzle_solutions.F l a s = some (foundOf l a s) := by
  rw [impl_Puzzle_solutions.F_eq, impl_IsPuzzle.F_val l a s hl]
  simp only [Option.bind_some]
  unfold foundOf
  by_cases h : isPuzzle l a s = true
  · have hh := isPuzzle_head h
    rw [if_pos h, if_pos h, solveAll_val l a s 300 hh (by omega) (by omega)]
    obtain ⟨h1, h2, h3, h4, h5, h6, h7⟩ := hh
    rw [if_pos (by omega)]
    rfl
  · rw [if_neg h, if_neg h]
theorem spec_pzAsked.F_val (l : List Int) (a s : Int) (hl : l.length < 4611686018427387904) : spec_pzAsked.F l a s = some (if isPuzzle l a s = true then ((allSols l a s).take 301, decide ((((allSols l a s).take 301).length : Int) ≤ 300)) else ([], false)) := by
  rw [spec_pzAsked.F_eq, spec_pzGood.F_val l a s hl]
  simp only [Option.bind_some]
  by_cases h : isPuzzle l a s = true
  · rw [if_pos h, if_pos h, spec_pzAll.f_val l a s (isPuzzle_head h)]
    rfl
  · rw [if_neg h, if_neg h]
theorem solsLoop_mem {rec : List Int → Nat → List (List Int)} {prow row : List Int} {shift : Int} {used a L : Nat} (hrec : ∀ row' used' x, row'.length = L → x ∈ rec row' used' → x.length = L) (hL : row.length = L) : ∀ (m : Nat) (n : Int) (x : List Int), x ∈ solsLoop rec prow row shift used a m n → x.length = L
  | 0, n, x, h => by simp [solsLoop] at h
  | m + 1, n, x, h => by
    unfold solsLoop at h
    rcases List.mem_append.1 h with h | h
    · split at h
      · cases h
      · exact hrec _ _ x (by simpa using hL) h
    · exact solsLoop_mem hrec hL m (n + 1) x h
theorem sols_mem (prow : List Int) (from_ shift : Int) : ∀ (k : Nat) (row : List Int) (used : Nat) (x : List Int), x ∈ sols prow from_ shift k row used → x.length = row.length
  | 0, row, used, x, h => by simp [sols] at h
  | k + 1, row, used, x, h => by
    unfold sols at h
    split at h
    · rw [List.mem_singleton.1 h]
    · exact solsLoop_mem (fun row' used' x h1 h2 => (sols_mem prow from_ shift k row' used' x h2).trans h1) rfl _ _ x h
theorem allSols_mem {l : List Int} {a s : Int} {x : List Int} (h : x ∈ allSols l a s) : x.length = l.length := by
  have := sols_mem l a s _ _ _ x h
  simpa using this
theorem foundOf_mem {l : List Int} {a s : Int} {x : List Int} (h : x ∈ (foundOf l a s).1) : x.length = l.length := by
  unfold foundOf at h
  split at h
  · simp only at h
    split at h
    · exact allSols_mem (List.mem_of_mem_take h)
    · cases h
  · cases h
end Go.Proofs.Ytjfhcddahahdfaa.Fn
namespace Go.Proofs.Ytjfhcddahahdfaa.Fn
open Go.RowKit Go.Proofs.YtjfhcddahahdfaaW.PrintWords Go.Proofs.YtjfhcddahahdfaaW.PrintLast Go.Proofs.YtjfhcddahahdfaaW.PrintMore
set_option linter.unusedVariables false
set_option linter.unusedSimpArgs false
theorem markL_marks : ∀ n k, markL n k = marks n k
  | 0, _ => rfl
  | n + 1, k => by rw [markL, marks, markL_marks n (k + 1)]
theorem markSS_get : ∀ (l : List (List Int)) (k : Int) (j : Nat) (row : List Int), l[j]? = some row → (markSS l k)[j]? = some (marks row.length (k + (sumLen (l.take j) : Int)))
  | [], k, j, row, h => by simp at h
  | r :: l, k, 0, row, h => by
    have : r = row := by simpa using h
    subst this
    simp [markSS, sumLen, markL_marks]
  | r :: l, k, j + 1, row, h => by
    have ih := markSS_get l (k + r.length) j row (by simpa using h)
    simp only [markSS, List.getElem?_cons_succ, ih, List.take_succ_cons, sumLen, List.map_cons, List.sum_cons]
    congr 2
    omega
theorem laws_eqIntSS.L0_same (xs : List (List Int)) (hl : xs.length < 4611686018427387904) (hx : ∀ x ∈ xs, x.length < 4611686018427387904) : ∀ (m j : Nat), j + m = xs.length → laws_eqIntSS.L0 xs xs (j : Int) = some true
  | 0, j, hj => by rw [laws_eqIntSS.L0_eq, if_neg (by omega)]
  | m + 1, j, hj => by
    have e : rd_L1 xs (j : Int) = xs[j]'(by omega) := by unfold rd_L1; rw [Int.toNat_natCast, List.getD_eq_getElem?_getD, List.getElem?_eq_getElem (by omega)]; rfl
    rw [laws_eqIntSS.L0_eq, if_pos (by omega), if_pos (by omega), if_pos (by omega), e, laws_eqIntS.F_same _ (hx _ (List.getElem_mem _))]
    simp only [Option.bind_some, if_true]
    rw [show wrap64 ((j : Int) + 1) = ((j + 1 : Nat) : Int) by rw [wrap_in (by omega) (by omega)]; rfl, laws_eqIntSS.L0_same xs hl hx m (j + 1) (by omega)]
theorem laws_eqIntSS.F_same (xs : List (List Int)) (hl : xs.length < 4611686018427387904) (hx : ∀ x ∈ xs, x.length < 4611686018427387904) : laws_eqIntSS.F xs xs = some true := by
  rw [laws_eqIntSS.F_eq, if_pos rfl]
  exact laws_eqIntSS.L0_same xs hl hx xs.length 0 (by omega)
theorem laws_heldIntSS.L0_val (l : List (List Int)) (k : Int) (h0 : 0 ≤ k) (hk : k + (sumLen l : Int) < 4611686018427387904) (hl : l.length < 4611686018427387904) : ∀ (m j : Nat), j + m = l.length → laws_heldIntSS.L0 (markSS l k) (k + (sumLen (l.take j) : Int)) (j : Int) = some (k + (sumLen l : Int))
  | 0, j, hj => by
    rw [laws_heldIntSS.L0_eq, markSS_length, if_neg (by omega), List.take_of_length_le (by omega)]
  | m + 1, j, hj => by
    obtain ⟨row, hrow⟩ : ∃ row, l[j]? = some row := ⟨_, List.getElem?_eq_getElem (by omega)⟩
    have e : rd_L1 (markSS l k) (j : Int) = marks row.length (k + (sumLen (l.take j) : Int)) := by
      unfold rd_L1
      rw [Int.toNat_natCast, List.getD_eq_getElem?_getD, markSS_get l k j row hrow]
      rfl
    have htake : l.take (j + 1) = l.take j ++ [row] := by
      rw [List.take_add_one, hrow]
      rfl
    have hle := sumLen_take l (j + 1)
    have hs : sumLen (l.take (j + 1)) = sumLen (l.take j) + row.length := by rw [htake, sumLen_snoc]
    rw [laws_heldIntSS.L0_eq, markSS_length, if_pos (by omega), if_pos (by omega), e, laws_heldIntS.F_val row.length _ (by omega) (by omega)]
    simp only [Option.bind_some]
    rw [if_neg (by omega), show wrap64 ((j : Int) + 1) = ((j + 1 : Nat) : Int) by rw [wrap_in (by omega) (by omega)]; rfl, show k + (sumLen (l.take j) : Int) + (row.length : Int) = k + (sumLen (l.take (j + 1)) : Int) by omega, laws_heldIntSS.L0_val l k h0 hk hl m (j + 1) (by omega)]
theorem laws_heldIntSS.F_val (l : List (List Int)) (k : Int) (h0 : 0 ≤ k) (hk : k + (sumLen l : Int) < 4611686018427387904) (hl : l.length < 4611686018427387904) : laws_heldIntSS.F (markSS l k) k = some (k + (sumLen l : Int)) := by
  rw [laws_heldIntSS.F_eq]
  have := laws_heldIntSS.L0_val l k h0 hk hl l.length 0 (by omega)
  simpa [sumLen] using this
theorem sumLen_le (n : Nat) : ∀ (l : List (List Int)), (∀ x ∈ l, x.length ≤ n) → sumLen l ≤ l.length * n
  | [], _ => by simp [sumLen]
  | x :: l, h => by
    have ih := sumLen_le n l (fun y hy => h y (by simp [hy]))
    have hx := h x (by simp)
    have e : sumLen (x :: l) = x.length + sumLen l := by simp [sumLen]
    rw [e, List.length_cons, Nat.succ_mul]
    omega
end Go.Proofs.Ytjfhcddahahdfaa.Fn
namespace Go.Proofs.Ytjfhcddahahdfaa.Fn
open Go.RowKit Go.Proofs.YtjfhcddahahdfaaW.PrintWords Go.Proofs.YtjfhcddahahdfaaW.PrintLast Go.Proofs.YtjfhcddahahdfaaW.PrintMore
set_option linter.unusedVariables false
set_option linter.unusedSimpArgs false
theorem impl_Solutions.F_val (l : List Int) (a s : Int) (hl : l.length < 4611686018427387904) : impl_Solutions.F l a s = some (foundOf l a s) := by
  rw [impl_Solutions.F_eq, impl_Puzzle_solutions.F_val l a s hl]
  rfl
theorem foundOf_len (l : List Int) (a s : Int) : (foundOf l a s).1.length ≤ 301 := by
  unfold foundOf
  by_cases h : isPuzzle l a s = true
  · rw [if_pos h]
    have h3 : ((allSols l a s).take 301).length ≤ 301 := by rw [List.length_take]; omega
    generalize (allSols l a s).take 301 = xs at h3 ⊢
    by_cases h2 : (xs.length : Int) ≤ 300
    · simp only [if_pos h2]; exact h3
    · simp only [if_neg h2]; simp
  · rw [if_neg h]; simp
theorem spec_Solutions.F_val (l : List Int) (a s : Int) (hl : l.length < 4611686018427387904) : spec_Solutions.F l a s = some (foundOf l a s) := by
  rw [spec_Solutions.F_eq, spec_pzAsked.F_val l a s hl]
  unfold foundOf
  by_cases h : isPuzzle l a s = true
  · simp only [if_pos h, Option.bind_some]
    generalize (allSols l a s).take 301 = xs
    by_cases h2 : (xs.length : Int) ≤ 300
    · simp [h2]
    · simp [h2]
  · simp only [if_neg h, Option.bind_some]
    simp
end Go.Proofs.Ytjfhcddahahdfaa.Fn
namespace Go.Proofs.Ytjfhcddahahdfaa.Pure
open Go.RowKit Go.Proofs.Ytjfhcddahahdfaa.Fn Go.Proofs.YtjfhcddahahdfaaW.PrintWords Go.Proofs.YtjfhcddahahdfaaW.PrintLast Go.Proofs.YtjfhcddahahdfaaW.PrintMore
set_option linter.unusedVariables false
set_option linter.unusedSimpArgs false
theorem FnExactSolutions : laws_FnExactSolutions.Pure := by
  intro l1 x1 y1 hl _ _ _ _
  have hl' : l1.length ≤ 35184372088832 := by simp only [maxLen] at hl; omega
  have e0 := laws_szPuzzle.f_val l1 x1 y1 (by omega)
  by_cases h0 : l1.length ≤ 1048576
  case neg =>
    rw [if_neg h0] at e0
    exact ⟨_, e0, .inl (by omega)⟩
  rw [if_pos h0] at e0
  obtain ⟨k1, e1⟩ := Lim.rounds (laws_toPuzzle.F_lim l1 x1 y1) (laws_toPuzzle.F_val l1 x1 y1 (by omega))
  obtain ⟨k2, e2⟩ := Lim.rounds (spec_Solutions.F_lim l1 x1 y1) (spec_Solutions.F_val l1 x1 y1 (by omega))
  obtain ⟨k3, e3⟩ := Lim.rounds (impl_Solutions.F_lim l1 x1 y1) (impl_Solutions.F_val l1 x1 y1 (by omega))
  have hb1 := foundOf_len l1 x1 y1
  have hb2 : ∀ x ∈ (foundOf l1 x1 y1).1, x.length ≤ l1.length := fun x hx => by rw [foundOf_mem hx]; omega
  generalize foundOf l1 x1 y1 = p at e2 e3 hb1 hb2
  obtain ⟨ws, wb⟩ := p
  have hs := sumLen_le l1.length ws hb2
  have hs2 : ws.length * l1.length ≤ 301 * 1048576 := Nat.mul_le_mul hb1 h0
  have hsum : sumLen ws ≤ 315621376 := Nat.le_trans hs hs2
  have hb1' : ws.length ≤ 301 := hb1
  clear hs hs2
  obtain ⟨k4, e4⟩ := Lim.rounds (laws_eqIntSS.F_lim ws ws) (laws_eqIntSS.F_same ws (by omega) (fun x hx => by have : x.length ≤ l1.length := hb2 x hx; omega))
  obtain ⟨k5, e5⟩ := Lim.rounds (laws_eqPuzzle.F_lim l1 x1 y1 l1 x1 y1) (laws_eqPuzzle.F_same l1 x1 y1 (by omega))
  obtain ⟨k6, e6⟩ := Lim.rounds (laws_markPuzzle.F_lim l1 x1 y1 1) (laws_markPuzzle.F_val l1 x1 y1 1 (by omega) (by omega))
  obtain ⟨k7, e7⟩ := Lim.rounds (laws_heldIntSS.F_lim (markSS ws 1) 1) (laws_heldIntSS.F_val ws 1 (by omega) (by omega) (by omega))
  exact ⟨_, e0, .inr ⟨by omega, ws, wb, k1, k2, k3, k4, k5, k6, k7, _, _, e1, e2, e3, e4, e5, e6, by omega, e7, by omega, Nat.lt_of_le_of_lt hsum (by decide)⟩⟩
end Go.Proofs.Ytjfhcddahahdfaa.Pure
