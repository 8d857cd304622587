/- The machine's side and plain lemmas for FnLangfordThere: texts of this session, merged by its program (part 3). -/
import Derived.Test.YtaohgllnoomaeaaMFnLangfordThere0
import Derived.Test.YtaohgllnoomaeaaMFnLangfordThere1
import Derived.Test.YtaohgllnoomaeaaMFnLangfordThere2
namespace Go.Proofs.Ytaohgllnoomaeaa.Fn
open Go.RowKit Go.Proofs.YtaohgllnoomaeaaW.PrintWords Go.Proofs.YtaohgllnoomaeaaW.PrintLast Go.Proofs.YtaohgllnoomaeaaW.PrintMore
set_option linter.unusedVariables false
set_option linter.unusedSimpArgs false
/-- 0 + 1 + .. + (n - 1). -/
def tri : Nat → Int
  | 0 => 0
  | n + 1 => tri n + (n : Int)
theorem tri_four : ∀ q : Nat, tri (4 * q) % 2 = 0 ∧ tri (4 * q + 1) % 2 = 0 ∧ tri (4 * q + 2) % 2 = 1 ∧ tri (4 * q + 3) % 2 = 1
  | 0 => by simp [tri]
  | q + 1 => by
    obtain ⟨h0, h1, h2, h3⟩ := tri_four q
    have e : 4 * (q + 1) = 4 * q + 3 + 1 := by omega
    simp only [e, tri] at h0 h1 h2 h3 ⊢
    omega
theorem tri_even (n : Nat) : tri n % 2 = 0 ↔ n % 4 ≤ 1 := by
  obtain ⟨h0, h1, h2, h3⟩ := tri_four (n / 4)
  rcases (by omega : n % 4 = 0 ∨ n % 4 = 1 ∨ n % 4 = 2 ∨ n % 4 = 3) with h | h | h | h
  · rw [show 4 * (n / 4) = n from by omega] at h0
    omega
  · rw [show 4 * (n / 4) + 1 = n from by omega] at h1
    omega
  · rw [show 4 * (n / 4) + 2 = n from by omega] at h2
    omega
  · rw [show 4 * (n / 4) + 3 = n from by omega] at h3
    omega
theorem tri_odd (n : Nat) : tri n % 2 = 0 ∨ tri n % 2 = 1 := by omega
theorem tri_nonneg : ∀ n, 0 ≤ tri n
  | 0 => by simp [tri]
  | n + 1 => by
    have := tri_nonneg n
    simp only [tri]
    omega
theorem tri_add (a : Nat) : ∀ b : Nat, tri (a + b) = tri a + tri b + (a : Int) * b
  | 0 => by simp [tri]
  | b + 1 => by
    rw [← Nat.add_assoc, tri, tri, tri_add a b]
    push_cast
    rw [Int.mul_add]
    omega
/-- The sum of the places of all numbers, counted from i on. -/
def sumPos : Nat → List Int → Int
  | _, [] => 0
  | i, x :: l => (if x > 0 then (i : Int) else 0) + sumPos (i + 1) l
/-- The sum of the places of the numbers n, .., n + m - 1. -/
def placeSum (i : Nat) (l : List Int) : Nat → Nat → Int
  | 0, _ => 0
  | m + 1, n => (placesFrom (n : Int) i l).sum + placeSum i l m (n + 1)
theorem placeSum_nil (i : Nat) : ∀ m n, placeSum i [] m n = 0
  | 0, n => rfl
  | m + 1, n => by simp [placeSum, placesFrom, placeSum_nil i m]
theorem placeSum_cons (x : Int) (l : List Int) (i : Nat) : ∀ m n, placeSum i (x :: l) m n = (if (n : Int) ≤ x ∧ x < (n : Int) + m then (i : Int) else 0) + placeSum (i + 1) l m n
  | 0, n => by simp [placeSum]; omega
  | m + 1, n => by
    rw [placeSum, placeSum, placeSum_cons x l i m (n + 1), placesFrom]
    by_cases h : x = (n : Int)
    · subst h
      rw [if_pos rfl, if_neg (by omega), if_pos (by omega), List.sum_cons]
      omega
    · rw [if_neg h]
      by_cases h1 : (n : Int) ≤ x ∧ x < (n : Int) + (m + 1 : Nat)
      · rw [if_pos h1, if_pos (by omega)]
        omega
      · rw [if_neg h1, if_neg (by omega)]
        omega
theorem sumPos_eq : ∀ (l : List Int) (i : Nat), (∀ x ∈ l, 0 ≤ x ∧ x ≤ 20) → sumPos i l = placeSum i l 20 1
  | [], i, h => by rw [placeSum_nil, sumPos]
  | x :: l, i, h => by
    have hx := h x (by simp)
    rw [sumPos, placeSum_cons, sumPos_eq l (i + 1) (fun y hy => h y (by simp [hy]))]
    by_cases h0 : x > 0
    · rw [if_pos h0, if_pos (by omega)]
    · rw [if_neg h0, if_neg (by omega)]
theorem sumPos_holes : ∀ (l : List Int) (i : Nat), (∀ x ∈ l, 0 ≤ x) → sumPos i l + (placesFrom 0 i l).sum + tri i = tri (i + l.length)
  | [], i, h => by simp [sumPos, placesFrom]
  | x :: l, i, h => by
    have ih := sumPos_holes l (i + 1) (fun y hy => h y (by simp [hy]))
    have hx := h x (by simp)
    rw [sumPos, placesFrom, List.length_cons]
    have e : tri (i + 1) = tri i + (i : Int) := rfl
    rw [show i + 1 + l.length = i + (l.length + 1) from by omega, e] at ih
    by_cases h0 : x = 0
    · rw [if_pos h0, if_neg (by omega), List.sum_cons]
      omega
    · rw [if_neg h0, if_pos (by omega)]
      omega
/-- Both places of a number. -/
def firstOf (l : List Int) (v : Int) : Int := rd (placesOf l v) 0
def otherOf (l : List Int) (v : Int) : Int := rd (placesOf l v) 1
theorem two_places {l : List Int} {v : Int} (h : (placesOf l v).length = 2) : placesOf l v = [firstOf l v, otherOf l v] := by
  unfold firstOf otherOf
  match hp : placesOf l v, h with
  | [a, b], _ => rfl
theorem placeSum_numbers (l : List Int) (hk : ∀ k : Nat, l.count (k : Int) = 2 ∨ ¬ (k : Int) ∈ l ∨ k = 0) : ∀ m n, 0 < n → placeSum 0 l m n = ((numbersFrom l n m).map fun v => firstOf l v + otherOf l v).sum
  | 0, n, h => rfl
  | m + 1, n, h => by
    have ih := placeSum_numbers l hk m (n + 1) (by omega)
    have e : numbersFrom l n (m + 1) = (if (n : Int) ∈ l then [(n : Int)] else []) ++ numbersFrom l (n + 1) m := by
      unfold numbersFrom
      rw [List.range'_succ]
      by_cases hn : (n : Int) ∈ l <;> simp [hn]
    rw [placeSum, ih, e]
    by_cases hn : (n : Int) ∈ l
    · have h2 : (placesOf l (n : Int)).length = 2 := by
        rw [placesOf_count]
        rcases hk n with h1 | h1 | h1
        · exact h1
        · exact absurd hn h1
        · omega
      have e2 : placesFrom (n : Int) 0 l = [firstOf l n, otherOf l n] := two_places h2
      rw [if_pos hn, e2]
      simp
    · have h0 : placesFrom (n : Int) 0 l = [] := by
        apply List.eq_nil_of_length_eq_zero
        rw [placesFrom_count, List.count_eq_zero]
        exact hn
      rw [if_neg hn, h0]
      simp
theorem sumPos_numbers {l : List Int} (h : isPairs l = true) : sumPos 0 l = ((numbersOf l).map fun v => firstOf l v + otherOf l v).sum := by
  rw [sumPos_eq l 0 (fun x hx => isRow_mem (isPairs_row h) hx)]
  refine placeSum_numbers l (fun k => ?_) 20 1 (by omega)
  by_cases hk : (k : Int) ∈ l
  · by_cases h0 : k = 0
    · exact .inr (.inr h0)
    · have hm := isRow_mem (isPairs_row h) hk
      have := List.count_pos_iff.2 hk
      rcases pairsOk_count (isPairs_ok h) k (by omega) (by omega) with h1 | h1
      · omega
      · exact .inl h1
  · exact .inr (.inl hk)
theorem places_lt (n : Int) : ∀ (l : List Int) (i : Nat), ∀ x ∈ placesFrom n i l, (i : Int) ≤ x ∧ x < (i : Int) + l.length
  | [], i, x, h => by simp [placesFrom] at h
  | y :: l, i, x, h => by
    have ih := places_lt n l (i + 1) x
    rw [placesFrom] at h
    rw [List.length_cons]
    by_cases h0 : y = n
    · rw [if_pos h0] at h
      rcases List.mem_cons.1 h with rfl | h1
      · omega
      · have := ih h1
        omega
    · rw [if_neg h0] at h
      have := ih h
      omega
theorem first_bounds {l : List Int} {v : Int} (h : (placesOf l v).length = 2) : 0 ≤ firstOf l v ∧ firstOf l v < (l.length : Int) ∧ 0 ≤ otherOf l v ∧ otherOf l v < (l.length : Int) := by
  have e := two_places h
  have a := places_lt v l 0 (firstOf l v) (by rw [show placesFrom v 0 l = _ from e]; simp)
  have b := places_lt v l 0 (otherOf l v) (by rw [show placesFrom v 0 l = _ from e]; simp)
  omega
/-- In a pair row that fits a shift, the other place is the number and the shift behind the first one. -/
theorem fits_other {l : List Int} {s : Int} (hp : isPairs l = true) (hs : 0 ≤ s ∧ s ≤ 1) (h : fitsAt l s = true) {v : Int} (hv : v ∈ numbersOf l) : otherOf l v = firstOf l v + v + s := by
  obtain ⟨h1, h2, h3⟩ := (mem_numbersOf l v).1 hv
  rw [fitsAt_eq l s (isPairs_ok hp), List.all_eq_true] at h
  have g := h v hv
  have hc : (placesOf l v).length = 2 := numbersOf_two (isPairs_ok hp) hv
  have hb := first_bounds hc
  have hl := isRow_len (isPairs_row hp)
  rw [beq_iff_eq] at g
  unfold firstOf otherOf at *
  rw [wrap_in (by omega) (by omega), wrap_in (by omega) (by omega)] at g
  omega
theorem from_sum (k : Int) : ∀ (l : List Int) (i : Nat), fromOf k i l = true → l.sum + tri i = tri (i + l.length) + k * l.length
  | [], i, h => by simp
  | x :: l, i, h => by
    simp only [fromOf, Bool.and_eq_true, decide_eq_true_eq] at h
    have ih := from_sum k l (i + 1) h.2
    rw [show i + 1 + l.length = i + (l.length + 1) from by omega] at ih
    have e : tri (i + 1) = tri i + (i : Int) := rfl
    rw [e] at ih
    rw [List.sum_cons, List.length_cons, show ((l.length + 1 : Nat) : Int) = (l.length : Int) + 1 from rfl, Int.mul_add, Int.mul_one]
    omega
theorem sum_pairs {l : List Int} {s : Int} : ∀ (vs : List Int), (∀ v ∈ vs, otherOf l v = firstOf l v + v + s) → (vs.map fun v => firstOf l v + otherOf l v).sum = 2 * (vs.map (firstOf l)).sum + vs.sum + s * vs.length
  | [], h => by simp
  | v :: vs, h => by
    have ih := sum_pairs vs (fun x hx => h x (by simp [hx]))
    have hv := h v (by simp)
    rw [List.map_cons, List.sum_cons, ih, List.map_cons, List.sum_cons, List.sum_cons, List.length_cons, hv, show ((vs.length + 1 : Nat) : Int) = (vs.length : Int) + 1 from rfl, Int.mul_add s, Int.mul_one]
    omega
/-- All places of a row with the numbers from k on: the first ones twice, the numbers, the shifts and the holes. -/
theorem row_sum {l : List Int} {s k : Int} (hp : isPairs l = true) (hs : 0 ≤ s ∧ s ≤ 1) (h : fitsAt l s = true) (hf : fromOf k 0 (numbersOf l) = true) : 2 * ((numbersOf l).map (firstOf l)).sum + tri (numbersOf l).length + (k + s) * (numbersOf l).length + (placesOf l 0).sum = tri l.length := by
  have h1 := sumPos_holes l 0 (fun x hx => (isRow_mem (isPairs_row hp) hx).1)
  have h2 := sumPos_numbers hp
  have h3 := sum_pairs (l := l) (s := s) (numbersOf l) (fun v hv => fits_other hp hs h hv)
  have h4 := from_sum k (numbersOf l) 0 hf
  rw [h2, h3] at h1
  simp only [tri, Nat.zero_add] at h1 h4
  unfold placesOf
  rw [Int.add_mul]
  omega
theorem row_parity {l : List Int} {s k : Int} (hp : isPairs l = true) (hs : 0 ≤ s ∧ s ≤ 1) (h : fitsAt l s = true) (hf : fromOf k 0 (numbersOf l) = true) : (tri (numbersOf l).length + (k + s) * (numbersOf l).length + (placesOf l 0).sum) % 2 = tri l.length % 2 := by
  have := row_sum hp hs h hf
  omega
end Go.Proofs.Ytaohgllnoomaeaa.Fn
namespace Go.Proofs.Ytaohgllnoomaeaa.Fn
open Go.RowKit Go.Proofs.YtaohgllnoomaeaaW.PrintWords Go.Proofs.YtaohgllnoomaeaaW.PrintLast Go.Proofs.YtaohgllnoomaeaaW.PrintMore
set_option linter.unusedVariables false
set_option linter.unusedSimpArgs false
theorem rd_of (l : List Int) (i : Nat) (h : i < l.length) : rd l (i : Int) = l[i] := rd_nat l i h
theorem mem_placesFrom (n : Int) : ∀ (l : List Int) (i : Nat) (p : Int), p ∈ placesFrom n i l ↔ ∃ j : Nat, ∃ h : j < l.length, p = ((i + j : Nat) : Int) ∧ l[j] = n
  | [], i, p => by simp [placesFrom]
  | x :: l, i, p => by
    have ih := mem_placesFrom n l (i + 1) p
    rw [placesFrom]
    have hs : (∃ j : Nat, ∃ h : j < (x :: l).length, p = ((i + j : Nat) : Int) ∧ (x :: l)[j] = n) ↔ (p = (i : Int) ∧ x = n) ∨ ∃ j : Nat, ∃ h : j < l.length, p = ((i + 1 + j : Nat) : Int) ∧ l[j] = n := by
      constructor
      · rintro ⟨j, h, e, g⟩
        cases j with
        | zero => exact .inl ⟨by simpa using e, by simpa using g⟩
        | succ j => exact .inr ⟨j, by simpa using h, by rw [e]; congr 1; omega, by simpa using g⟩
      · rintro (⟨e, g⟩ | ⟨j, h, e, g⟩)
        · exact ⟨0, by simp, by simpa using e, by simpa using g⟩
        · exact ⟨j + 1, by simpa using h, by rw [e]; congr 1; omega, by simpa using g⟩
    rw [hs]
    by_cases h0 : x = n
    · rw [if_pos h0, List.mem_cons, ih]
      simp [h0]
    · rw [if_neg h0, ih]
      simp [h0]
theorem mem_placesOf (l : List Int) (n p : Int) : p ∈ placesOf l n ↔ 0 ≤ p ∧ p < (l.length : Int) ∧ rd l p = n := by
  unfold placesOf
  rw [mem_placesFrom]
  constructor
  · rintro ⟨j, h, rfl, g⟩
    rw [Nat.zero_add, rd_nat l j h]
    exact ⟨by omega, by omega, g⟩
  · rintro ⟨h0, h1, h2⟩
    have h3 : p.toNat < l.length := by omega
    refine ⟨p.toNat, h3, by omega, ?_⟩
    rw [← rd_nat l p.toNat h3, Int.toNat_of_nonneg h0, h2]
theorem places_sorted (n : Int) : ∀ (l : List Int) (i : Nat), (placesFrom n i l).Pairwise (· < ·)
  | [], i => by simp [placesFrom]
  | x :: l, i => by
    rw [placesFrom]
    by_cases h0 : x = n
    · rw [if_pos h0, List.pairwise_cons]
      exact ⟨fun p hp => by have := places_lt n l (i + 1) p hp; omega, places_sorted n l (i + 1)⟩
    · rw [if_neg h0]
      exact places_sorted n l (i + 1)
theorem first_lt {l : List Int} {v : Int} (h : (placesOf l v).length = 2) : firstOf l v < otherOf l v := by
  have e := two_places h
  have := places_sorted v l 0
  rw [show placesFrom v 0 l = _ from e] at this
  simpa using this
/-- A number that stands twice stands at its two places and nowhere else. -/
theorem rd_places {l : List Int} {v : Int} (h : (placesOf l v).length = 2) (p : Int) (h0 : 0 ≤ p) (h1 : p < (l.length : Int)) : rd l p = v ↔ p = firstOf l v ∨ p = otherOf l v := by
  have g := mem_placesOf l v p
  rw [two_places h] at g
  simp only [List.mem_cons, List.not_mem_nil, or_false] at g
  rw [g]
  exact ⟨fun e => ⟨h0, h1, e⟩, fun e => e.2.2⟩
theorem places_back (n : Int) : ∀ (l : List Int) (i : Nat), placesFrom n 0 l.reverse = ((placesFrom n i l).map (fun p => (i : Int) + l.length - 1 - p)).reverse
  | [], i => by simp [placesFrom]
  | x :: l, i => by
    rw [List.reverse_cons, placesFrom_snoc, places_back n l (i + 1), placesFrom, List.length_reverse, Nat.zero_add]
    have e : (fun p : Int => ((i + 1 : Nat) : Int) + l.length - 1 - p) = fun p : Int => (i : Int) + (x :: l).length - 1 - p := by
      funext p
      rw [List.length_cons]
      omega
    rw [e]
    by_cases h0 : x = n
    · rw [if_pos h0, if_pos h0, List.map_cons, List.reverse_cons]
      congr 2
      rw [List.length_cons]
      omega
    · rw [if_neg h0, if_neg h0, List.append_nil]
theorem back_places (l : List Int) (n : Int) : placesOf l.reverse n = ((placesOf l n).map (fun p => (l.length : Int) - 1 - p)).reverse := by
  unfold placesOf
  rw [places_back n l 0]
  simp
theorem back_two {l : List Int} {v : Int} (h : (placesOf l v).length = 2) : firstOf l.reverse v = (l.length : Int) - 1 - otherOf l v ∧ otherOf l.reverse v = (l.length : Int) - 1 - firstOf l v := by
  have e := back_places l v
  rw [two_places h] at e
  unfold firstOf otherOf at *
  rw [e]
  exact ⟨rfl, rfl⟩
theorem isRow_back (l : List Int) : isRow l.reverse = isRow l := by
  unfold isRow
  rw [List.length_reverse, List.all_reverse]
theorem isPairs_back (l : List Int) : isPairs l.reverse = isPairs l := by
  unfold isPairs
  rw [isRow_back, pairsOk_eq, pairsOk_eq]
  simp only [placesOf_count, List.count_reverse]
theorem numbersOf_back (l : List Int) : numbersOf l.reverse = numbersOf l := by
  unfold numbersOf numbersFrom
  simp only [List.mem_reverse]
/-- The pairs of a row: each number with both of its places. -/
def pairsOf (l : List Int) : List (List Int) := (numbersOf l).map fun v => v :: placesOf l v
theorem pairsOf_eq {l : List Int} (h : isPairs l = true) : pairsOf l = (numbersOf l).map fun v => [v, firstOf l v, otherOf l v] := by
  unfold pairsOf
  refine List.map_congr_left fun v hv => ?_
  rw [two_places (numbersOf_two (isPairs_ok h) hv)]
/-- One pair is put into a row; none where it does not fit. -/
def putPair (out p : List Int) : Option (List Int) :=
  if p.length = 3 ∧ (1 ≤ rd p 0 ∧ rd p 0 ≤ 20) ∧ ¬ rd p 0 ∈ out ∧ 0 ≤ rd p 1 ∧ rd p 2 < (out.length : Int) ∧ rd p 1 < rd p 2 ∧ rd out (rd p 1) = 0 ∧ rd out (rd p 2) = 0 then some ((out.set (rd p 1).toNat (rd p 0)).set (rd p 2).toNat (rd p 0)) else none
theorem putPair_length {out p r : List Int} (h : putPair out p = some r) : r.length = out.length := by
  unfold putPair at h
  split at h
  · cases h
    simp
  · cases h
def putPairs : List Int → List (List Int) → Option (List Int)
  | out, [] => some out
  | out, p :: ps => (putPair out p).bind fun r => putPairs r ps
theorem putPairs_length : ∀ {ps : List (List Int)} {out r : List Int}, putPairs out ps = some r → r.length = out.length
  | [], out, r, h => by cases h; rfl
  | p :: ps, out, r, h => by
    rw [putPairs] at h
    obtain ⟨x, hx, hr⟩ := Option.bind_eq_some_iff.1 h
    rw [putPairs_length hr, putPair_length hx]
/-- A row with only some of its numbers. -/
def onlyOf (l vs : List Int) : List Int := l.map fun x => if x ∈ vs then x else 0
theorem onlyOf_length (l vs : List Int) : (onlyOf l vs).length = l.length := by simp [onlyOf]
theorem onlyOf_rd (l vs : List Int) (p : Int) (h0 : 0 ≤ p) (h1 : p < (l.length : Int)) : rd (onlyOf l vs) p = if rd l p ∈ vs then rd l p else 0 := by
  obtain ⟨i, rfl⟩ : ∃ i : Nat, p = i := ⟨p.toNat, by omega⟩
  have h : i < l.length := by omega
  rw [rd_nat _ i (by rw [onlyOf_length]; exact h), rd_nat l i h]
  simp [onlyOf]
theorem onlyOf_put {l vs : List Int} {v : Int} (h : (placesOf l v).length = 2) : ((onlyOf l vs).set (firstOf l v).toNat v).set (otherOf l v).toNat v = onlyOf l (vs ++ [v]) := by
  have hb := first_bounds h
  apply List.ext_getElem
  · simp [onlyOf]
  · intro i h1 h2
    have hi : i < l.length := by simpa [onlyOf] using h2
    have g := rd_places h (i : Int) (by omega) (by omega)
    rw [rd_nat l i hi] at g
    simp only [List.getElem_set, onlyOf, List.getElem_map, List.mem_append, List.mem_cons, List.not_mem_nil, or_false]
    by_cases e : l[i] = v
    · rw [if_pos (show l[i] ∈ vs ∨ l[i] = v from .inr e), e]
      rcases g.1 e with h3 | h3
      · by_cases h4 : (otherOf l v).toNat = i
        · rw [if_pos h4]
        · rw [if_neg h4, if_pos (by omega)]
      · rw [if_pos (by omega)]
    · have h3 : ¬ ((i : Int) = firstOf l v ∨ (i : Int) = otherOf l v) := fun h => e (g.2 h)
      rw [if_neg (by omega), if_neg (by omega)]
      simp [e]
theorem putPairs_row {l : List Int} (hp : isPairs l = true) : ∀ (ws vs : List Int), (∀ v ∈ ws, v ∈ numbersOf l) → (vs ++ ws).Nodup → putPairs (onlyOf l vs) (ws.map fun v => [v, firstOf l v, otherOf l v]) = some (onlyOf l (vs ++ ws))
  | [], vs, h, hn => by simp [putPairs]
  | v :: ws, vs, h, hn => by
    have hv := h v (by simp)
    have h2 := numbersOf_two (isPairs_ok hp) hv
    have hb := first_bounds h2
    have hl := first_lt h2
    obtain ⟨m1, m2, m3⟩ := (mem_numbersOf l v).1 hv
    have hvs : ¬ v ∈ vs := fun hx => by
      have := (List.nodup_append.1 hn).2.2 v hx v (by simp)
      exact this rfl
    have e1 : rd l (firstOf l v) = v := (rd_places h2 _ hb.1 hb.2.1).2 (.inl rfl)
    have e2 : rd l (otherOf l v) = v := (rd_places h2 _ hb.2.2.1 hb.2.2.2).2 (.inr rfl)
    have e : putPair (onlyOf l vs) [v, firstOf l v, otherOf l v] = some (onlyOf l (vs ++ [v])) := by
      unfold putPair
      have r0 : rd [v, firstOf l v, otherOf l v] 0 = v := rfl
      have r1 : rd [v, firstOf l v, otherOf l v] 1 = firstOf l v := rfl
      have r2 : rd [v, firstOf l v, otherOf l v] 2 = otherOf l v := rfl
      rw [r0, r1, r2, if_pos, onlyOf_put h2]
      refine ⟨rfl, ⟨m2, m3⟩, ?_, hb.1, by rw [onlyOf_length]; exact hb.2.2.2, hl, ?_, ?_⟩
      · intro hx
        obtain ⟨x, hx1, hx2⟩ := List.mem_map.1 hx
        by_cases hxv : x ∈ vs
        · rw [if_pos hxv] at hx2
          exact hvs (hx2 ▸ hxv)
        · rw [if_neg hxv] at hx2
          omega
      · rw [onlyOf_rd l vs _ hb.1 hb.2.1, e1, if_neg hvs]
      · rw [onlyOf_rd l vs _ hb.2.2.1 hb.2.2.2, e2, if_neg hvs]
    have ih := putPairs_row hp ws (vs ++ [v]) (fun x hx => h x (by simp [hx])) (by simpa using hn)
    rw [List.map_cons, putPairs, e]
    simp only [Option.bind_some]
    rw [ih]
    simp
theorem onlyOf_nil (l : List Int) : onlyOf l [] = List.replicate l.length 0 := by
  unfold onlyOf
  simp [List.map_const']
theorem onlyOf_all {l : List Int} (hp : isPairs l = true) : onlyOf l (numbersOf l) = l := by
  unfold onlyOf
  conv => rhs; rw [← List.map_id l]
  refine List.map_congr_left fun x hx => ?_
  have h1 := isRow_mem (isPairs_row hp) hx
  by_cases h : x ∈ numbersOf l
  · rw [if_pos h]; rfl
  · rw [if_neg h]
    have : ¬ (1 ≤ x ∧ x ≤ 20) := fun h2 => h ((mem_numbersOf l x).2 ⟨hx, h2.1, h2.2⟩)
    show (0 : Int) = x
    omega
theorem numbersOf_nodup (l : List Int) : (numbersOf l).Nodup := by
  have := numbersOf_sorted l
  exact this.imp (fun h => by omega)
/-- The pairs of a row tell the row. -/
theorem putPairs_pairsOf {l : List Int} (hp : isPairs l = true) : putPairs (List.replicate l.length 0) (pairsOf l) = some l := by
  rw [pairsOf_eq hp, ← onlyOf_nil]
  have := putPairs_row hp (numbersOf l) [] (fun v hv => hv) (by simpa using numbersOf_nodup l)
  rw [this, List.nil_append, onlyOf_all hp]
end Go.Proofs.Ytaohgllnoomaeaa.Fn
namespace Go.Proofs.Ytaohgllnoomaeaa.Fn
open Go.RowKit Go.Proofs.YtaohgllnoomaeaaW.PrintWords Go.Proofs.YtaohgllnoomaeaaW.PrintLast Go.Proofs.YtaohgllnoomaeaaW.PrintMore
set_option linter.unusedVariables false
set_option linter.unusedSimpArgs false
/-- A row that is filled in part. -/
structure PartRow (from_ : Int) (N : Nat) (s hole : Int) (row : List Int) (used : Nat) : Prop where
  zero : ∀ j : Nat, (j : Int) = hole → rd row j = 0
  rng : ∀ j : Nat, j < row.length → rd row j = 0 ∨ (from_ ≤ rd row j ∧ rd row j < from_ + N)
  off : ∀ i : Nat, i < N → used.testBit (from_.toNat + i) = false → ∀ j : Nat, j < row.length → rd row j ≠ from_ + i
  on : ∀ i : Nat, i < N → used.testBit (from_.toNat + i) = true → ∃ a : Nat, (a : Int) + (from_ + i) + s < row.length ∧ ∀ j : Nat, j < row.length → (rd row j = from_ + i ↔ (j = a ∨ (j : Int) = a + (from_ + i) + s))
/-- A row that is filled: each number has its two places, and there is no other hole. -/
structure GoodRow (from_ : Int) (N : Nat) (s hole : Int) (p : Nat) (r : List Int) : Prop where
  len : r.length = p
  zero : ∀ j : Nat, (j : Int) = hole → rd r j = 0
  rng : ∀ j : Nat, j < p → (j : Int) ≠ hole → from_ ≤ rd r j ∧ rd r j < from_ + N
  on : ∀ i : Nat, i < N → ∃ a : Nat, (a : Int) + (from_ + i) + s < p ∧ ∀ j : Nat, j < p → (rd r j = from_ + i ↔ (j = a ∨ (j : Int) = a + (from_ + i) + s))
theorem rd_out (l : List Int) (j : Nat) (h : l.length ≤ j) : rd l j = 0 := by
  unfold rd
  rw [Int.toNat_natCast, List.getD_eq_getElem?_getD, List.getElem?_eq_none h]
  rfl
theorem unset_none {used : Nat} : ∀ (m b : Nat), unset used b m = 0 → ∀ i, i < m → used.testBit (b + i) = true
  | 0, b, h, i, hi => by omega
  | m + 1, b, h, i, hi => by
    rw [unset] at h
    by_cases e : used.testBit b = true
    · rw [if_pos e] at h
      cases i with
      | zero => simpa using e
      | succ i =>
        have := unset_none (used := used) m (b + 1) (by omega) i (by omega)
        rw [show b + (i + 1) = b + 1 + i from by omega]
        exact this
    · rw [if_neg e] at h
      omega
theorem count_set1 {r : List Int} {a : Nat} {n : Int} (ha : a < r.length) (h0 : rd r a = -1) (hn : n ≠ -1) : (r.set a n).count (-1) + 1 = r.count (-1) := by
  have hmem : (-1 : Int) ∈ r := by
    rw [rd_nat r a ha] at h0
    rw [← h0]
    exact List.getElem_mem ha
  have hpos := List.count_pos_iff.2 hmem
  have h1 : (r.set a n).count (-1) = r.count (-1) - 1 := by
    rw [List.count_set ha]
    rw [rd_nat r a ha] at h0
    simp [h0, hn]
  omega
theorem freeH_none {hole : Int} {row : List Int} (hp : ∀ j : Nat, j < row.length → 0 ≤ rd row j) (h : seAt hole row = row.length) : (freeH hole row).count (-1) = 0 := by
  rw [List.count_eq_zero, freeH_full h]
  intro hm
  obtain ⟨j, hj, e⟩ := List.getElem_of_mem hm
  have := hp j hj
  rw [rd_nat row j hj, e] at this
  omega
/-- A number is put at two places. -/
theorem PartRow.put {from_ : Int} {N : Nat} {s hole : Int} {row : List Int} {used a i t : Nat} (hf : 1 ≤ from_) (hs : 0 ≤ s) (h : PartRow from_ N s hole row used) (hi : i < N) (hu : used.testBit (from_.toNat + i) = false) (ha : a < row.length) (ht : (t : Int) = a + (from_ + i) + s) (htl : t < row.length) (h0 : rd row a = 0) (h1 : rd row t = 0) (hah : (a : Int) ≠ hole) (hth : (t : Int) ≠ hole) :
    PartRow from_ N s hole ((row.set a (from_ + i)).set t (from_ + i)) (used ||| 2 ^ (from_.toNat + i)) := by
  have hr : ∀ j : Nat, j < row.length → rd ((row.set a (from_ + i)).set t (from_ + i)) j = if t = j then from_ + (i : Int) else if a = j then from_ + (i : Int) else rd row j := fun j hj => by
    rw [rd_set _ _ _ _ (by simpa using hj), rd_set _ _ _ _ hj]
  have hlen : ((row.set a (from_ + (i : Int))).set t (from_ + (i : Int))).length = row.length := by simp
  refine ⟨fun j hj => ?_, fun j hj => ?_, fun i' hi' hu' j hj => ?_, fun i' hi' hu' => ?_⟩
  · rcases Nat.lt_or_ge j row.length with hl | hl
    · rw [hr j hl, if_neg (by omega), if_neg (by omega)]
      exact h.zero j hj
    · exact rd_out _ _ (by rw [hlen]; exact hl)
  · rw [hlen] at hj
    rw [hr j hj]
    by_cases e : t = j
    · rw [if_pos e]
      exact .inr (by omega)
    · rw [if_neg e]
      by_cases e2 : a = j
      · rw [if_pos e2]
        exact .inr (by omega)
      · rw [if_neg e2]
        exact h.rng j hj
  · rw [hlen] at hj
    rw [Nat.testBit_or, Bool.or_eq_false_iff, Nat.testBit_two_pow] at hu'
    have hne : i' ≠ i := fun e => by simp [e] at hu'
    have := h.off i' hi' hu'.1 j hj
    rw [hr j hj]
    split
    · omega
    · split
      · omega
      · exact this
  · rw [hlen]
    by_cases hii : i' = i
    · subst hii
      refine ⟨a, by omega, fun j hj => ?_⟩
      rw [hr j hj]
      have := h.off i' hi' hu j hj
      by_cases e : t = j
      · rw [if_pos e]
        exact ⟨fun _ => .inr (by omega), fun _ => rfl⟩
      · rw [if_neg e]
        by_cases e2 : a = j
        · rw [if_pos e2]
          exact ⟨fun _ => .inl e2.symm, fun _ => rfl⟩
        · rw [if_neg e2]
          exact ⟨fun hx => absurd hx this, fun hx => by omega⟩
    · have hu2 : used.testBit (from_.toNat + i') = true := by
        rw [Nat.testBit_or, Nat.testBit_two_pow, decide_eq_false (show ¬ (from_.toNat + i = from_.toNat + i') from by omega), Bool.or_false] at hu'
        exact hu'
      obtain ⟨a', ha', hx⟩ := h.on i' hi' hu2
      refine ⟨a', ha', fun j hj => ?_⟩
      rw [hr j hj, ← hx j hj]
      by_cases e : t = j
      · subst e
        rw [if_pos rfl, h1]
        omega
      · rw [if_neg e]
        by_cases e2 : a = j
        · subst e2
          rw [if_pos rfl, h0]
          omega
        · rw [if_neg e2]
/-- Entries that are filled stay. -/
def Keeps (row x : List Int) : Prop := x.length = row.length ∧ ∀ j : Nat, rd row j ≠ 0 → rd x j = rd row j
theorem Keeps.set {row x : List Int} {a t : Nat} {n : Int} (h0 : rd row a = 0) (h1 : rd row t = 0) (hn : n ≠ 0) (h : Keeps ((row.set a n).set t n) x) : Keeps row x := by
  refine ⟨by simpa using h.1, fun j hj => ?_⟩
  have hl : j < row.length := by
    rcases Nat.lt_or_ge j row.length with hl | hl
    · exact hl
    · exact absurd (rd_out _ _ hl) hj
  have hr : rd ((row.set a n).set t n) j = rd row j := by
    rw [rd_set _ _ _ _ (by simpa using hl), rd_set _ _ _ _ hl, if_neg (fun e => hj (by rw [← e]; exact h1)), if_neg (fun e => hj (by rw [← e]; exact h0))]
  rw [h.2 j (by rw [hr]; exact hj), hr]
/-- What is found is of the kind. -/
theorem extsLoop_sound {from_ : Int} {N : Nat} {s hole : Int} {row : List Int} {used : Nat} {Q : List Int → Prop} (hf : 1 ≤ from_) (hs : 0 ≤ s) (h : PartRow from_ N s hole row used) (ha : seAt hole row < row.length)
    (rec : List Int → Nat → List (List Int)) (hrec : ∀ i : Nat, i < N → ∀ t : Nat, (t : Int) = (seAt hole row : Nat) + (from_ + i) + s → used.testBit (from_.toNat + i) = false → t < row.length → (t : Int) ≠ hole → rd row t = 0 → ∀ x ∈ rec ((row.set (seAt hole row) (from_ + i)).set t (from_ + i)) (used ||| 2 ^ (from_.toNat + i)), Q x) : ∀ (m i : Nat), i + m = N → ∀ x ∈ extsLoop rec hole s row used (seAt hole row) m (from_ + (i : Int)), Q x
  | 0, i, hm, x, hx => by simp [extsLoop] at hx
  | m + 1, i, hm, x, hx => by
    rw [extsLoop] at hx
    rcases List.mem_append.1 hx with hx | hx
    · split at hx
      · simp at hx
      · rename_i hp
        have e1 : (from_ + (i : Int)).toNat = from_.toNat + i := by omega
        simp only [not_or, e1] at hp
        have ht : 0 ≤ ((seAt hole row : Nat) : Int) + (from_ + i) + s := by omega
        rw [e1] at hx
        refine hrec i (by omega) (((seAt hole row : Nat) : Int) + (from_ + i) + s).toNat (by omega) (by simpa using hp.1) (by omega) (by omega) ?_ x hx
        rw [Int.toNat_of_nonneg ht]
        exact Decidable.not_not.1 hp.2.2.2
    · have e : from_ + (i : Int) + 1 = from_ + ((i + 1 : Nat) : Int) := by omega
      rw [e] at hx
      exact extsLoop_sound hf hs h ha rec hrec m (i + 1) (by omega) x hx
theorem exts_sound {from_ : Int} {N : Nat} {s hole : Int} {p : Nat} (hf : 1 ≤ from_) (hs : 0 ≤ s) : ∀ (k : Nat) (row : List Int) (used : Nat), row.length = p → PartRow from_ N s hole row used → (freeH hole row).count (-1) = 2 * unset used from_.toNat N → ∀ x ∈ exts from_ N s hole k row used, GoodRow from_ N s hole p x ∧ Keeps row x
  | 0, row, used, hl, h, hc, x, hx => by simp [exts] at hx
  | k + 1, row, used, hl, h, hc, x, hx => by
    have hsp := seAt_spec hole row
    have hpos : ∀ j : Nat, j < row.length → 0 ≤ rd row j := fun j hj => by rcases h.rng j hj with h1 | h1 <;> omega
    rw [exts] at hx
    split at hx
    · rename_i hfull
      rw [List.mem_singleton] at hx
      subst hx
      have hc0 := freeH_none hpos hfull
      have hall := unset_none (used := used) N from_.toNat (by omega)
      refine ⟨⟨hl, h.zero, fun j hj hjh => ?_, fun i hi => ?_⟩, rfl, fun j hj => rfl⟩
      · rcases hsp.2.1 j (by omega) with h1 | h1
        · rcases h.rng j (by omega) with h2 | h2
          · exact absurd h2 h1
          · exact h2
        · exact absurd h1 hjh
      · obtain ⟨a, ha, hx⟩ := h.on i hi (hall i hi)
        exact ⟨a, by omega, fun j hj => hx j (by omega)⟩
    · rename_i hfull
      have ha : seAt hole row < row.length := by omega
      have h0 := hsp.2.2 ha
      refine extsLoop_sound (Q := fun x => GoodRow from_ N s hole p x ∧ Keeps row x) hf hs h ha _ (fun i hi t ht hu htl hth hrt x hx => ?_) N 0 (by omega) x (by simpa using hx)
      have hput := h.put hf hs hi hu ha ht htl h0.1 hrt h0.2 hth
      have hcnt : (freeH hole ((row.set (seAt hole row) (from_ + i)).set t (from_ + i))).count (-1) = 2 * unset (used ||| 2 ^ (from_.toNat + i)) from_.toNat N := by
        have hn0 : from_ + (i : Int) ≠ 0 := by omega
        have hn1 : from_ + (i : Int) ≠ -1 := by omega
        have c1 := count_set1 (r := freeH hole row) (a := seAt hole row) (n := from_ + i) (by rw [freeH_len]; exact ha) (by rw [freeH_rd _ ha, if_pos h0]) hn1
        have hne : seAt hole row ≠ t := by omega
        have c2 := count_set1 (r := freeH hole (row.set (seAt hole row) (from_ + i))) (a := t) (n := from_ + i) (by rw [freeH_len]; simpa using htl) (by
          rw [freeH_rd _ (by simpa using htl), rd_set _ _ _ _ htl, if_neg hne, if_pos ⟨hrt, hth⟩]) hn1
        rw [freeH_set hn0] at c1 c2
        have c3 := unset_or hu N from_.toNat (by omega) (by omega)
        omega
      have ih := exts_sound hf hs k _ _ (by simpa using hl) hput hcnt x hx
      exact ⟨ih.1, ih.2.set h0.1 hrt (by omega)⟩
theorem extsLoop_has {rec : List Int → Nat → List (List Int)} {hole s : Int} {row : List Int} {used a : Nat} {from_ : Int} {i : Nat} {x : List Int} (hp : ¬ sePassed hole row used (from_ + (i : Int)) ((a : Int) + (from_ + (i : Int)) + s)) (hx : x ∈ rec ((row.set a (from_ + (i : Int))).set ((a : Int) + (from_ + (i : Int)) + s).toNat (from_ + (i : Int))) (used ||| 2 ^ (from_ + (i : Int)).toNat)) : ∀ (m i0 : Nat), i0 ≤ i → i < i0 + m → x ∈ extsLoop rec hole s row used a m (from_ + (i0 : Int))
  | 0, i0, h1, h2 => by omega
  | m + 1, i0, h1, h2 => by
    rw [extsLoop, List.mem_append]
    by_cases e : i0 = i
    · subst e
      rw [if_neg hp]
      exact .inl hx
    · have e2 : from_ + (i0 : Int) + 1 = from_ + ((i0 + 1 : Nat) : Int) := by omega
      rw [e2]
      exact .inr (extsLoop_has hp hx m (i0 + 1) (by omega) (by omega))
/-- Each row of the kind is found. -/
theorem exts_complete {from_ : Int} {N : Nat} {s hole : Int} {p : Nat} (hf : 1 ≤ from_) (hs : 0 ≤ s) {r : List Int} (hr : GoodRow from_ N s hole p r) : ∀ (k : Nat) (row : List Int) (used : Nat), row.length = p → PartRow from_ N s hole row used → Keeps row r → (freeH hole row).count (-1) < k → r ∈ exts from_ N s hole k row used
  | 0, row, used, hl, h, hk, hc => by omega
  | k + 1, row, used, hl, h, hk, hc => by
    have hsp := seAt_spec hole row
    rw [exts]
    split
    · rename_i hfull
      rw [List.mem_singleton]
      refine ext_rd (hr.len.trans hl.symm) (fun j hj => ?_)
      rw [hr.len] at hj
      by_cases h0 : rd row j = 0
      · rcases hsp.2.1 j (by omega) with h1 | h1
        · exact absurd h0 h1
        · rw [h0, hr.zero j h1]
      · exact hk.2 j h0
    · rename_i hfull
      have ha : seAt hole row < row.length := by omega
      have h0 := hsp.2.2 ha
      generalize hav : seAt hole row = a at *
      have hv := hr.rng a (by omega) h0.2
      obtain ⟨i, hi⟩ : ∃ i : Nat, rd r a = from_ + (i : Int) := ⟨(rd r a - from_).toNat, by omega⟩
      have hiN : i < N := by omega
      obtain ⟨b, hb, hbx⟩ := hr.on i hiN
      have hu : used.testBit (from_.toNat + i) = false := by
        by_cases hu : used.testBit (from_.toNat + i) = true
        · exfalso
          obtain ⟨c, hc2, hcx⟩ := h.on i hiN hu
          have g1 : rd row c = from_ + (i : Int) := (hcx c (by omega)).2 (.inl rfl)
          have g2 : rd row ((c : Int) + (from_ + i) + s) = from_ + (i : Int) := by
            have := (hcx ((c : Int) + (from_ + i) + s).toNat (by omega)).2 (.inr (by omega))
            rwa [Int.toNat_of_nonneg (by omega)] at this
          have k1 := hk.2 c (by omega)
          have k2 := hk.2 ((c : Int) + (from_ + i) + s).toNat (by rw [Int.toNat_of_nonneg (by omega)]; omega)
          rw [Int.toNat_of_nonneg (by omega)] at k2
          have q1 := (hbx c (by omega)).1 (by omega)
          have q2 := (hbx ((c : Int) + (from_ + i) + s).toNat (by omega)).1 (by rw [Int.toNat_of_nonneg (by omega)]; omega)
          have q3 := (hbx a (by omega)).1 hi
          have hac : a = c ∨ (a : Int) = c + (from_ + i) + s := by omega
          have := (hcx a (by omega)).2 hac
          omega
        · simpa using hu
      have hoff := h.off i hiN hu
      have hba : b = a := by
        rcases (hbx a (by omega)).1 hi with e | e
        · exact e.symm
        · exfalso
          have hbr : rd r b = from_ + (i : Int) := (hbx b (by omega)).2 (.inl rfl)
          rcases hsp.2.1 b (by omega) with h1 | h1
          · have := hk.2 b h1
            exact hoff b (by omega) (by omega)
          · have := hr.zero b h1
            omega
      subst hba
      obtain ⟨t, ht⟩ : ∃ t : Nat, (t : Int) = (b : Int) + (from_ + i) + s := ⟨((b : Int) + (from_ + i) + s).toNat, by omega⟩
      have htr : rd r t = from_ + (i : Int) := (hbx t (by omega)).2 (.inr ht)
      have ht0 : rd row t = 0 := by
        by_cases e : rd row t = 0
        · exact e
        · have := hk.2 t e
          exact absurd (this.symm.trans htr) (hoff t (by omega))
      have hth : (t : Int) ≠ hole := fun e => by have := hr.zero t e; omega
      have hn0 : from_ + (i : Int) ≠ 0 := by omega
      have hn1 : from_ + (i : Int) ≠ -1 := by omega
      have e1 : (from_ + (i : Int)).toNat = from_.toNat + i := by omega
      have hput := h.put hf hs hiN hu ha ht (by omega) h0.1 ht0 h0.2 hth
      have hkeep : Keeps ((row.set b (from_ + i)).set t (from_ + i)) r := by
        refine ⟨by simp [hr.len, hl], fun j hj => ?_⟩
        have hjl : j < row.length := by
          rcases Nat.lt_or_ge j row.length with hjl | hjl
          · exact hjl
          · exact absurd (rd_out _ _ (by simpa using hjl)) hj
        rw [rd_set _ _ _ _ (by simpa using hjl), rd_set _ _ _ _ hjl] at hj ⊢
        by_cases e : t = j
        · subst e
          rw [if_pos rfl]
          exact htr
        · rw [if_neg e] at hj ⊢
          by_cases e2 : b = j
          · subst e2
            rw [if_pos rfl]
            exact hi
          · rw [if_neg e2] at hj ⊢
            exact hk.2 j hj
      have hcnt : (freeH hole ((row.set b (from_ + i)).set t (from_ + i))).count (-1) < k := by
        have hrow : rd (freeH hole row) b = -1 := by rw [freeH_rd _ ha, if_pos h0]
        have := count_free (r := freeH hole row) (a := b) (n := from_ + i) t (by rw [freeH_len]; exact ha) hrow hn1
        rw [freeH_set hn0, freeH_set hn0] at this
        omega
      have hmem := exts_complete hf hs hr k _ _ (by simpa using hl) hput hkeep hcnt
      have hp1 : ¬ sePassed hole row used (from_ + (i : Int)) ((b : Int) + (from_ + (i : Int)) + s) := by
        simp only [not_or, e1, ← ht]
        exact ⟨by simpa using hu, by omega, hth, fun hx => hx ht0⟩
      have hp2 : r ∈ exts from_ N s hole k ((row.set b (from_ + (i : Int))).set ((b : Int) + (from_ + (i : Int)) + s).toNat (from_ + (i : Int))) (used ||| 2 ^ (from_ + (i : Int)).toNat) := by
        rw [e1, ← ht]
        exact hmem
      have hp3 := extsLoop_has hp1 hp2 N 0 (by omega) (by omega)
      simpa using hp3
def LexLt (x y : List Int) : Prop := ∃ i : Nat, (∀ j : Nat, j < i → rd x j = rd y j) ∧ rd x i < rd y i ∧ i < x.length ∧ i < y.length
theorem LexLt.ne {x y : List Int} (h : LexLt x y) : x ≠ y := by
  rintro rfl
  obtain ⟨i, _, h2, _⟩ := h
  omega
/-- What the loop finds from a number on has that number or a greater one at the place. -/
theorem extsLoop_sorted {from_ : Int} {N : Nat} {s hole : Int} {row : List Int} {used : Nat} (hf : 1 ≤ from_) (hs : 0 ≤ s) (ha : seAt hole row < row.length) (hz : ∀ j : Nat, (j : Int) = hole → rd row j = 0)
    (rec : List Int → Nat → List (List Int))
    (hS : ∀ i : Nat, i < N → ∀ t : Nat, (t : Int) = (seAt hole row : Nat) + (from_ + i) + s → used.testBit (from_.toNat + i) = false → t < row.length → (t : Int) ≠ hole → rd row t = 0 → (rec ((row.set (seAt hole row) (from_ + i)).set t (from_ + i)) (used ||| 2 ^ (from_.toNat + i))).Pairwise LexLt ∧ ∀ x ∈ rec ((row.set (seAt hole row) (from_ + i)).set t (from_ + i)) (used ||| 2 ^ (from_.toNat + i)), Keeps ((row.set (seAt hole row) (from_ + i)).set t (from_ + i)) x ∧ ∀ j : Nat, (j : Int) = hole → rd x j = 0) : ∀ (m i : Nat), i + m = N → (extsLoop rec hole s row used (seAt hole row) m (from_ + (i : Int))).Pairwise LexLt ∧ ∀ x ∈ extsLoop rec hole s row used (seAt hole row) m (from_ + (i : Int)), x.length = row.length ∧ from_ + (i : Int) ≤ rd x (seAt hole row) ∧ ∀ j : Nat, j < seAt hole row → rd x j = rd row j
  | 0, i, hm => by simp [extsLoop]
  | m + 1, i, hm => by
    have ih := extsLoop_sorted hf hs ha hz rec hS m (i + 1) (by omega)
    have e2 : from_ + (i : Int) + 1 = from_ + ((i + 1 : Nat) : Int) := by omega
    have e1 : (from_ + (i : Int)).toNat = from_.toNat + i := by omega
    have hsp := seAt_spec hole row
    have h0 := hsp.2.2 ha
    rw [extsLoop, e2]
    have hfirst : ((if sePassed hole row used (from_ + (i : Int)) ((seAt hole row : Nat) + (from_ + (i : Int)) + s) then [] else rec ((row.set (seAt hole row) (from_ + (i : Int))).set (((seAt hole row : Nat) : Int) + (from_ + (i : Int)) + s).toNat (from_ + (i : Int))) (used ||| 2 ^ (from_ + (i : Int)).toNat)) : List (List Int)).Pairwise LexLt ∧ ∀ x ∈ (if sePassed hole row used (from_ + (i : Int)) ((seAt hole row : Nat) + (from_ + (i : Int)) + s) then [] else rec ((row.set (seAt hole row) (from_ + (i : Int))).set (((seAt hole row : Nat) : Int) + (from_ + (i : Int)) + s).toNat (from_ + (i : Int))) (used ||| 2 ^ (from_ + (i : Int)).toNat) : List (List Int)), x.length = row.length ∧ rd x (seAt hole row) = from_ + (i : Int) ∧ ∀ j : Nat, j < seAt hole row → rd x j = rd row j := by
      split
      · simp
      · rename_i hp
        simp only [not_or, e1] at hp
        have ht : 0 ≤ ((seAt hole row : Nat) : Int) + (from_ + i) + s := by omega
        obtain ⟨t, htt⟩ : ∃ t : Nat, (t : Int) = ((seAt hole row : Nat) : Int) + (from_ + i) + s := ⟨_, Int.toNat_of_nonneg ht⟩
        rw [e1]
        simp only [← htt, Int.toNat_natCast] at hp ⊢
        obtain ⟨g1, g2⟩ := hS i (by omega) t htt (by simpa using hp.1) (by omega) (by omega) (Decidable.not_not.1 hp.2.2.2)
        refine ⟨g1, fun x hx => ?_⟩
        obtain ⟨hk, hh⟩ := g2 x hx
        have hr : ∀ j : Nat, j < row.length → rd ((row.set (seAt hole row) (from_ + i)).set t (from_ + i)) j = if t = j then from_ + (i : Int) else if seAt hole row = j then from_ + (i : Int) else rd row j := fun j hj => by
          rw [rd_set _ _ _ _ (by simpa using hj), rd_set _ _ _ _ hj]
        refine ⟨by simpa using hk.1, ?_, fun j hj => ?_⟩
        · have := hr _ ha
          rw [if_neg (by omega), if_pos rfl] at this
          rw [hk.2 _ (by omega), this]
        · have := hr j (by omega)
          rw [if_neg (by omega), if_neg (by omega)] at this
          rcases hsp.2.1 j hj with h1 | h1
          · rw [hk.2 j (by omega), this]
          · rw [hh j h1, hz j h1]
    refine ⟨List.pairwise_append.2 ⟨hfirst.1, ih.1, fun x hx y hy => ?_⟩, fun x hx => ?_⟩
    · obtain ⟨x1, x2, x3⟩ := hfirst.2 x hx
      obtain ⟨y1, y2, y3⟩ := ih.2 y hy
      exact ⟨seAt hole row, fun j hj => (x3 j hj).trans (y3 j hj).symm, by omega, by omega, by omega⟩
    · rcases List.mem_append.1 hx with hx | hx
      · obtain ⟨x1, x2, x3⟩ := hfirst.2 x hx
        exact ⟨x1, by omega, x3⟩
      · obtain ⟨x1, x2, x3⟩ := ih.2 x hx
        exact ⟨x1, by omega, x3⟩
theorem exts_sorted {from_ : Int} {N : Nat} {s hole : Int} {p : Nat} (hf : 1 ≤ from_) (hs : 0 ≤ s) : ∀ (k : Nat) (row : List Int) (used : Nat), row.length = p → PartRow from_ N s hole row used → (freeH hole row).count (-1) = 2 * unset used from_.toNat N → (exts from_ N s hole k row used).Pairwise LexLt
  | 0, row, used, hl, h, hc => by simp [exts]
  | k + 1, row, used, hl, h, hc => by
    have hsp := seAt_spec hole row
    rw [exts]
    split
    · simp
    · rename_i hfull
      have ha : seAt hole row < row.length := by omega
      have h0 := hsp.2.2 ha
      have := extsLoop_sorted (N := N) (used := used) hf hs ha h.zero (exts from_ N s hole k) (fun i hi t ht hu htl hth hrt => ?_) N 0 (by omega)
      · simpa using this.1
      · have hput := h.put hf hs hi hu ha ht htl h0.1 hrt h0.2 hth
        have hcnt : (freeH hole ((row.set (seAt hole row) (from_ + i)).set t (from_ + i))).count (-1) = 2 * unset (used ||| 2 ^ (from_.toNat + i)) from_.toNat N := by
          have hn0 : from_ + (i : Int) ≠ 0 := by omega
          have hn1 : from_ + (i : Int) ≠ -1 := by omega
          have c1 := count_set1 (r := freeH hole row) (a := seAt hole row) (n := from_ + i) (by rw [freeH_len]; exact ha) (by rw [freeH_rd _ ha, if_pos h0]) hn1
          have hne : seAt hole row ≠ t := by omega
          have c2 := count_set1 (r := freeH hole (row.set (seAt hole row) (from_ + i))) (a := t) (n := from_ + i) (by rw [freeH_len]; simpa using htl) (by
            rw [freeH_rd _ (by simpa using htl), rd_set _ _ _ _ htl, if_neg hne, if_pos ⟨hrt, hth⟩]) hn1
          rw [freeH_set hn0] at c1 c2
          have c3 := unset_or hu N from_.toNat (by omega) (by omega)
          omega
        refine ⟨exts_sorted (p := p) hf hs k _ _ (by simpa using hl) hput hcnt, fun x hx => ?_⟩
        have hsnd := exts_sound (p := p) hf hs k _ _ (by simpa using hl) hput hcnt x hx
        exact ⟨hsnd.2, hsnd.1.zero⟩
/-- All rows with the numbers from_, .., N of them, at so many places, in order. -/
def rowsOf (p N : Nat) (from_ s hole : Int) : List (List Int) := exts from_ N s hole (p + 1) (List.replicate p 0) 0
theorem zeros_at (p j : Nat) : rd (List.replicate p (0 : Int)) (j : Int) = 0 := by
  unfold rd
  rw [Int.toNat_natCast, List.getD_eq_getElem?_getD, List.getElem?_replicate]
  split <;> rfl
theorem part_start (p N : Nat) (from_ s hole : Int) (hf : 1 ≤ from_) : PartRow from_ N s hole (List.replicate p 0) 0 :=
  ⟨fun j _ => zeros_at p j, fun j _ => .inl (zeros_at p j), fun i _ _ j _ => by rw [zeros_at]; omega, fun i _ h => by simp at h⟩
theorem freeH_start (p : Nat) (hole : Int) (hh : hole < p) : (freeH hole (List.replicate p 0)).count (-1) = if 0 ≤ hole then p - 1 else p := by
  by_cases h : 0 ≤ hole
  · obtain ⟨h', rfl⟩ : ∃ h' : Nat, hole = (h' : Int) := ⟨hole.toNat, by omega⟩
    have e : freeH (h' : Int) (List.replicate p 0) = (List.replicate p (-1)).set h' 0 := by
      refine ext_rd (by simp [freeH_len]) (fun j hj => ?_)
      rw [freeH_len, List.length_replicate] at hj
      rw [freeH_rd j (by simpa using hj), zeros_at, rd_set _ _ _ _ (by simpa using hj)]
      have h1 : rd (List.replicate p (-1)) (j : Int) = -1 := by
        rw [rd_nat _ j (by simpa using hj)]
        simp
      rw [h1]
      by_cases e : h' = j
      · subst e
        simp
      · rw [if_pos ⟨rfl, by omega⟩, if_neg e]
    rw [e, List.count_set (by simpa using hh), List.count_replicate, if_pos h]
    simp
  · have e : freeH hole (List.replicate p 0) = List.replicate p (-1) := by
      refine ext_rd (by simp [freeH_len]) (fun j hj => ?_)
      rw [freeH_len, List.length_replicate] at hj
      rw [freeH_rd j (by simpa using hj), zeros_at, if_pos ⟨rfl, by omega⟩, rd_nat _ j (by simpa using hj)]
      simp
    rw [e, List.count_replicate, if_neg h]
    simp
/-- The places are just those for all numbers and the hole. -/
def PlacesFit (p N : Nat) (hole : Int) : Prop := hole < p ∧ (p : Int) = 2 * N + (if 0 ≤ hole then 1 else 0)
theorem PlacesFit.count {p N : Nat} {hole : Int} (h : PlacesFit p N hole) : (freeH hole (List.replicate p 0)).count (-1) = 2 * N := by
  obtain ⟨h1, h2⟩ := h
  rw [freeH_start p hole h1]
  split at h2 <;> rename_i h3
  · rw [if_pos h3]
    omega
  · rw [if_neg h3]
    omega
theorem rowsOf_good {p N : Nat} {from_ s hole : Int} (hp : PlacesFit p N hole) (hf : 1 ≤ from_) (hs : 0 ≤ s) (x : List Int) : x ∈ rowsOf p N from_ s hole ↔ GoodRow from_ N s hole p x := by
  have hc := hp.count
  constructor
  · intro h
    exact (exts_sound (p := p) hf hs _ _ _ (by simp) (part_start p N from_ s hole hf) (by rw [hc, unset_zero]) x h).1
  · intro h
    refine exts_complete hf hs h _ _ _ (by simp) (part_start p N from_ s hole hf) ⟨by simp [h.len], fun j hj => absurd (zeros_at p j) hj⟩ ?_
    rw [hc]
    have := hp.2
    split at this <;> omega
theorem rowsOf_sorted {p N : Nat} {from_ s hole : Int} (hp : PlacesFit p N hole) (hf : 1 ≤ from_) (hs : 0 ≤ s) : (rowsOf p N from_ s hole).Pairwise LexLt :=
  exts_sorted (p := p) hf hs _ _ _ (by simp) (part_start p N from_ s hole hf) (by rw [hp.count, unset_zero])
theorem rowsOf_len (p N : Nat) (from_ s hole : Int) (hf : 1 ≤ from_) : (rowsOf p N from_ s hole).length ≤ fct N := by
  have h1 := exts_len from_ N s hole hf (p + 1) (List.replicate p 0) 0
  rw [unset_zero] at h1
  exact h1
end Go.Proofs.Ytaohgllnoomaeaa.Fn
namespace Go.Proofs.Ytaohgllnoomaeaa.Fn
open Go.RowKit Go.Proofs.YtaohgllnoomaeaaW.PrintWords Go.Proofs.YtaohgllnoomaeaaW.PrintLast Go.Proofs.YtaohgllnoomaeaaW.PrintMore
set_option linter.unusedVariables false
set_option linter.unusedSimpArgs false
theorem pw_ext : ∀ (l m : List Int), l.Pairwise (· < ·) → m.Pairwise (· < ·) → (∀ x, x ∈ l ↔ x ∈ m) → l = m
  | [], [], _, _, _ => rfl
  | [], y :: m, _, _, h => absurd ((h y).2 (by simp)) (by simp)
  | x :: l, [], _, _, h => absurd ((h x).1 (by simp)) (by simp)
  | x :: l, y :: m, hl, hm, h => by
    obtain ⟨l1, l2⟩ := List.pairwise_cons.1 hl
    obtain ⟨m1, m2⟩ := List.pairwise_cons.1 hm
    have e : x = y := by
      rcases List.mem_cons.1 ((h x).1 (by simp)) with e | e
      · exact e
      · rcases List.mem_cons.1 ((h y).2 (by simp)) with e2 | e2
        · exact e2.symm
        · have := m1 x e
          have := l1 y e2
          omega
    subst e
    congr 1
    refine pw_ext l m l2 m2 (fun z => ⟨fun hz => ?_, fun hz => ?_⟩)
    · rcases List.mem_cons.1 ((h z).1 (by simp [hz])) with e | e
      · have := l1 z hz
        omega
      · exact e
    · rcases List.mem_cons.1 ((h z).2 (by simp [hz])) with e | e
      · have := m1 z hz
        omega
      · exact e
theorem numbersUp_sorted (a : Int) (n : Nat) : (numbersUp a n).Pairwise (· < ·) := by
  unfold numbersUp
  rw [List.pairwise_map]
  exact List.pairwise_lt_range.imp (fun h => by omega)
theorem mem_up {a x : Int} {n : Nat} : x ∈ numbersUp a n ↔ a ≤ x ∧ x < a + n := by
  refine ⟨mem_numbersUp, fun h => List.mem_map.2 ⟨(x - a).toNat, List.mem_range.2 (by omega), by omega⟩⟩
theorem fromOf_append (k : Int) : ∀ (l : List Int) (i : Nat) (x : Int), fromOf k i (l ++ [x]) = (fromOf k i l && decide (x = k + ((i + l.length : Nat) : Int)))
  | [], i, x => by simp [fromOf]
  | y :: l, i, x => by
    rw [List.cons_append, fromOf, fromOf, fromOf_append k l (i + 1) x, List.length_cons, show i + 1 + l.length = i + (l.length + 1) from by omega, Bool.and_assoc]
theorem fromOf_up (k : Int) : ∀ n : Nat, fromOf k 0 (numbersUp k n) = true
  | 0 => rfl
  | n + 1 => by
    rw [numbersUp_succ, fromOf_append, fromOf_up k n, numbersUp_len]
    simp
/-- A row of the kind, told by its pairs. -/
def rowOk (p N : Nat) (from_ s hole : Int) (r : List Int) : Bool := decide (r.length = p) && isPairs r && fitsAt r s && decide (numbersOf r = numbersUp from_ N) && decide (placesOf r 0 = if 0 ≤ hole then [hole] else [])
structure RowOk (p N : Nat) (from_ s hole : Int) (r : List Int) : Prop where
  len : r.length = p
  pairs : isPairs r = true
  fits : fitsAt r s = true
  nums : numbersOf r = numbersUp from_ N
  holes : placesOf r 0 = if 0 ≤ hole then [hole] else []
theorem rowOk_iff {p N : Nat} {from_ s hole : Int} {r : List Int} : rowOk p N from_ s hole r = true ↔ RowOk p N from_ s hole r := by
  unfold rowOk
  simp only [Bool.and_eq_true, decide_eq_true_eq]
  exact ⟨fun ⟨⟨⟨⟨a, b⟩, c⟩, d⟩, e⟩ => ⟨a, b, c, d, e⟩, fun ⟨a, b, c, d, e⟩ => ⟨⟨⟨⟨a, b⟩, c⟩, d⟩, e⟩⟩
/-- What a kind of rows asks of its measures. -/
structure KindFit (p N : Nat) (from_ s hole : Int) : Prop where
  fit : PlacesFit p N hole
  f1 : 1 ≤ from_
  f2 : from_ + N ≤ 21
  s1 : 0 ≤ s
  s2 : s ≤ 1
  p1 : p ≤ 40
  h1 : -1 ≤ hole
theorem good_place {p N : Nat} {from_ s hole : Int} {r : List Int} (k : KindFit p N from_ s hole) (h : GoodRow from_ N s hole p r) {i : Nat} (hi : i < N) : ∃ a : Nat, placesOf r (from_ + i) = [(a : Int), (a : Int) + (from_ + i) + s] ∧ (a : Int) + (from_ + i) + s < p := by
  obtain ⟨a, ha, hx⟩ := h.on i hi
  have := k.f1
  have := k.s1
  refine ⟨a, pw_ext _ _ (places_sorted _ r 0) (by simp; omega) (fun q => ?_), ha⟩
  show q ∈ placesOf r (from_ + i) ↔ _
  rw [mem_placesOf, h.len]
  simp only [List.mem_cons, List.not_mem_nil, or_false]
  constructor
  · rintro ⟨h0, h1, h2⟩
    have := (hx q.toNat (by omega)).1 (by rw [Int.toNat_of_nonneg h0]; exact h2)
    omega
  · intro hq
    have h0 : 0 ≤ q := by omega
    have := (hx q.toNat (by omega)).2 (by omega)
    rw [Int.toNat_of_nonneg h0] at this
    exact ⟨h0, by omega, this⟩
theorem goodRow_ok {p N : Nat} {from_ s hole : Int} {r : List Int} (k : KindFit p N from_ s hole) (h : GoodRow from_ N s hole p r) : RowOk p N from_ s hole r := by
  have kf := k.f1
  have kf2 := k.f2
  have ks := k.s1
  have ks2 := k.s2
  have kp := k.p1
  have kh := k.h1
  have hv : ∀ x ∈ r, x = 0 ∨ (from_ ≤ x ∧ x < from_ + N) := fun x hx => by
    obtain ⟨j, hj, e⟩ := List.getElem_of_mem hx
    have hr := rd_nat r j hj
    rw [e] at hr
    by_cases hh : (j : Int) = hole
    · left
      rw [← hr]
      exact h.zero j hh
    · right
      rw [← hr]
      exact h.rng j (by rw [← h.len]; exact hj) hh
  have hrow : isRow r = true := by
    unfold isRow
    rw [Bool.and_eq_true, decide_eq_true_eq, List.all_eq_true]
    refine ⟨by rw [h.len]; exact kp, fun x hx => ?_⟩
    have := hv x hx
    simp only [Bool.and_eq_true, decide_eq_true_eq]
    omega
  have hnum : ∀ v : Int, v ∈ numbersOf r ↔ v ∈ numbersUp from_ N := fun v => by
    rw [mem_numbersOf, mem_up]
    constructor
    · rintro ⟨h1, h2, h3⟩
      have := hv v h1
      omega
    · rintro ⟨h1, h2⟩
      obtain ⟨i, rfl⟩ : ∃ i : Nat, v = from_ + (i : Int) := ⟨(v - from_).toNat, by omega⟩
      obtain ⟨a, ha, _⟩ := good_place k h (i := i) (by omega)
      have hc := placesOf_count r (from_ + i)
      rw [ha] at hc
      refine ⟨List.count_pos_iff.1 ?_, by omega, by omega⟩
      rw [← hc]
      simp
  have hnums : numbersOf r = numbersUp from_ N := pw_ext _ _ (numbersOf_sorted r) (numbersUp_sorted from_ N) hnum
  have hpairs : pairsOk r = true := by
    rw [pairsOk_eq, List.all_eq_true]
    intro q hq
    have hq := List.mem_range'_1.1 hq
    rw [placesOf_count]
    by_cases hm : (q : Int) ∈ numbersUp from_ N
    · have hb := mem_up.1 hm
      obtain ⟨i, hi⟩ : ∃ i : Nat, (q : Int) = from_ + (i : Int) := ⟨((q : Int) - from_).toNat, by omega⟩
      obtain ⟨a, ha, _⟩ := good_place k h (i := i) (by omega)
      have hc := placesOf_count r (from_ + i)
      rw [ha] at hc
      rw [hi, ← hc]
      rfl
    · have : r.count (q : Int) = 0 := by
        rw [List.count_eq_zero]
        intro hx
        exact hm ((hnum _).1 ((mem_numbersOf r _).2 ⟨hx, by omega, by omega⟩))
      rw [this]
      rfl
  refine ⟨h.len, by unfold isPairs; rw [hrow, hpairs]; rfl, ?_, hnums, ?_⟩
  · rw [fitsAt_eq r s hpairs, List.all_eq_true]
    intro v hm
    rw [hnums] at hm
    have hb := mem_up.1 hm
    obtain ⟨i, rfl⟩ : ∃ i : Nat, v = from_ + (i : Int) := ⟨(v - from_).toNat, by omega⟩
    obtain ⟨a, ha, hap⟩ := good_place k h (i := i) (by omega)
    rw [ha, beq_iff_eq]
    have e0 : rd [(a : Int), (a : Int) + (from_ + i) + s] 0 = a := rfl
    have e1 : rd [(a : Int), (a : Int) + (from_ + i) + s] 1 = (a : Int) + (from_ + i) + s := rfl
    rw [e0, e1]
    congr 1
    omega
  · refine pw_ext _ _ (places_sorted 0 r 0) (by split <;> simp) (fun q => ?_)
    show q ∈ placesOf r 0 ↔ _
    rw [mem_placesOf, h.len]
    constructor
    · rintro ⟨h0, h1, h2⟩
      have hq : q = hole := by
        by_cases e : q = hole
        · exact e
        · have := h.rng q.toNat (by omega) (by omega)
          rw [Int.toNat_of_nonneg h0] at this
          omega
      rw [if_pos (by omega), hq]
      simp
    · intro hq
      have hlt := k.fit.1
      split at hq
      · rename_i h0
        rw [List.mem_singleton] at hq
        subst hq
        have := h.zero q.toNat (by omega)
        rw [Int.toNat_of_nonneg h0] at this
        exact ⟨h0, by omega, this⟩
      · simp at hq
theorem rowOk_good {p N : Nat} {from_ s hole : Int} {r : List Int} (k : KindFit p N from_ s hole) (h : RowOk p N from_ s hole r) : GoodRow from_ N s hole p r := by
  have kf := k.f1
  have kf2 := k.f2
  have ks := k.s1
  have ks2 := k.s2
  have kh := k.h1
  refine ⟨h.len, fun j hj => ?_, fun j hj hne => ?_, fun i hi => ?_⟩
  · rcases Nat.lt_or_ge j r.length with hl | hl
    · have hm : (j : Int) ∈ placesOf r 0 := by
        rw [h.holes, if_pos (by omega), hj]
        simp
      exact ((mem_placesOf r 0 _).1 hm).2.2
    · exact rd_out _ _ hl
  · have hl : j < r.length := by rw [h.len]; exact hj
    have hmem : rd r j ∈ r := by
      rw [rd_nat r j hl]
      exact List.getElem_mem hl
    have hb := isRow_mem (isPairs_row h.pairs) hmem
    have h0 : ¬ rd r j = 0 := fun e => by
      have hm : (j : Int) ∈ placesOf r 0 := (mem_placesOf r 0 _).2 ⟨by omega, by omega, e⟩
      rw [h.holes] at hm
      split at hm
      · exact hne (List.mem_singleton.1 hm)
      · simp at hm
    have := (mem_numbersOf r (rd r j)).2 ⟨hmem, by omega, hb.2⟩
    rw [h.nums] at this
    exact mem_up.1 this
  · have hv : from_ + (i : Int) ∈ numbersOf r := by
      rw [h.nums]
      exact mem_up.2 (by omega)
    have h2 := numbersOf_two (isPairs_ok h.pairs) hv
    have hb := first_bounds h2
    have ho := fits_other h.pairs ⟨ks, ks2⟩ h.fits hv
    rw [h.len] at hb
    refine ⟨(firstOf r (from_ + i)).toNat, by omega, fun j hj => ?_⟩
    rw [rd_places h2 j (by omega) (by rw [h.len]; omega)]
    omega
theorem rowsOf_ok {p N : Nat} {from_ s hole : Int} (k : KindFit p N from_ s hole) (x : List Int) : x ∈ rowsOf p N from_ s hole ↔ RowOk p N from_ s hole x :=
  (rowsOf_good k.fit k.f1 k.s1 x).trans ⟨goodRow_ok k, rowOk_good k⟩
theorem fits_back {l : List Int} {s : Int} (hp : isPairs l = true) (hs : 0 ≤ s ∧ s ≤ 1) (h : fitsAt l s = true) : fitsAt l.reverse s = true := by
  have hp' : isPairs l.reverse = true := by rw [isPairs_back]; exact hp
  rw [fitsAt_eq _ s (isPairs_ok hp'), List.all_eq_true]
  intro v hv
  rw [numbersOf_back] at hv
  have h2 := numbersOf_two (isPairs_ok hp) hv
  have ho := fits_other hp hs h hv
  have hb := back_two h2
  unfold firstOf otherOf at hb ho
  rw [hb.1, hb.2, ho, beq_iff_eq]
  congr 1
  omega
/-- A row backwards is of the kind with the hole at the other side. -/
theorem RowOk.back {p N : Nat} {from_ s hole : Int} {r : List Int} (hs : 0 ≤ s ∧ s ≤ 1) (h : RowOk p N from_ s hole r) : RowOk p N from_ s (if 0 ≤ hole then (p : Int) - 1 - hole else hole) r.reverse := by
  refine ⟨by rw [List.length_reverse]; exact h.len, by rw [isPairs_back]; exact h.pairs, fits_back h.pairs hs h.fits, by rw [numbersOf_back]; exact h.nums, ?_⟩
  rw [back_places, h.holes, h.len]
  by_cases h0 : 0 ≤ hole
  · have hm : hole ∈ placesOf r 0 := by rw [h.holes, if_pos h0]; simp
    have hb := (mem_placesOf r 0 hole).1 hm
    rw [h.len] at hb
    rw [if_pos h0, if_pos h0, if_pos (by omega)]
    rfl
  · rw [if_neg h0, if_neg h0, if_neg h0]
    rfl
/-- Where there is a row, the parities are these. -/
theorem RowOk.parity {p N : Nat} {from_ s hole : Int} {r : List Int} (hs : 0 ≤ s ∧ s ≤ 1) (h : RowOk p N from_ s hole r) : (tri N + (from_ + s) * N + (if 0 ≤ hole then hole else 0)) % 2 = tri p % 2 := by
  have := row_parity (k := from_) h.pairs hs h.fits (by rw [h.nums]; exact fromOf_up from_ N)
  rw [h.nums, numbersUp_len, h.len, h.holes] at this
  by_cases h0 : 0 ≤ hole
  · rw [if_pos h0] at this ⊢
    simpa using this
  · rw [if_neg h0] at this ⊢
    simpa using this
end Go.Proofs.Ytaohgllnoomaeaa.Fn
namespace Go.Proofs.Ytaohgllnoomaeaa.Fn
open Go.RowKit Go.Proofs.YtaohgllnoomaeaaW.PrintWords Go.Proofs.YtaohgllnoomaeaaW.PrintLast Go.Proofs.YtaohgllnoomaeaaW.PrintMore
set_option linter.unusedVariables false
set_option linter.unusedSimpArgs false
theorem rowsRun_rows {p N : Nat} {d s hole : Int} (hp : PlacesFit p N hole) (hd : 1 ≤ d) (hs : 0 ≤ s) (hh : -1 ≤ hole) {σ : Type} (each : σ → List Int → Option (σ × Bool)) (st : σ) : rowsRun p N d s hole each st = foldE each st (rowsOf p N d s hole) := by
  have h1 := hp.1
  have e1 : rowStart p hole = freeH hole (List.replicate p 0) := by
    refine ext_rd (by rw [rowStart_len, freeH_len, List.length_replicate]) (fun j hj => ?_)
    rw [rowStart_len] at hj
    have hm : rd (List.replicate p (-1)) (j : Int) = -1 := by
      rw [rd_nat _ j (by simpa using hj)]
      simp
    rw [freeH_rd j (by simpa using hj), zeros_at]
    unfold rowStart
    by_cases h0 : 0 ≤ hole
    · rw [if_pos h0, rd_set _ _ _ _ (by simpa using hj), hm]
      by_cases e : hole.toNat = j
      · have e2 : (j : Int) = hole := by omega
        simp [e, e2]
      · have e2 : ¬ (j : Int) = hole := by omega
        simp [e, e2]
    · have e2 : ¬ (j : Int) = hole := by omega
      rw [if_neg h0, hm]
      simp [e2]
  have e2 : numbersUp d N = leftH d N 0 := by simp [numbersUp, leftH]
  rw [rowsRun, e1, e2, fillF_exts each _ d s hole N (fun j => by
    unfold rd
    rw [List.getD_eq_getElem?_getD, List.getElem?_replicate]
    split <;> rfl) hd hs _ st _ 0 (by
      have := List.count_le_length (a := (-1 : Int)) (l := freeH hole (List.replicate p 0))
      rw [freeH_len, List.length_replicate] at this
      omega) (fun j hj => by rw [zeros_at]; omega)]
  rfl
theorem fct_nine {n : Nat} (h : n ≤ 9) : fct n ≤ 362880 := by
  match n, h with
  | 0, _ | 1, _ | 2, _ | 3, _ | 4, _ | 5, _ | 6, _ | 7, _ | 8, _ | 9, _ => decide
theorem rowsOf_nine {p N : Nat} {d s hole : Int} (hd : 1 ≤ d) (hN : N ≤ 9) : (rowsOf p N d s hole).length ≤ 362880 := Nat.le_trans (rowsOf_len p N d s hole hd) (fct_nine hN)
theorem seF_rowsOf {p N : Nat} {d to_ s hole : Int} (hd : 1 ≤ d) (ht : to_ = d + N - 1) (hs : 0 ≤ s) (hN : N ≤ 9) (most : Nat) (hm : most ≤ 1000000) : seF d to_ s hole (most : Int) (p + 1) (0, []) (List.replicate p 0) 0 = some ((rowsOf p N d s hole).length, (rowsOf p N d s hole).take most) := by
  have hl := rowsOf_nine (p := p) (N := N) (d := d) (s := s) (hole := hole) hd hN
  unfold rowsOf at hl ⊢
  have e : (to_ + 1 - d).toNat = N := by omega
  have := seF_exts d to_ s hole most hm hd hs (p + 1) 0 [] (List.replicate p 0) 0 (by
      have := List.count_le_length (a := (-1 : Int)) (l := freeH hole (List.replicate p 0))
      rw [freeH_len, List.length_replicate] at this
      omega) (fun j hj => by rw [zeros_at]; omega) (Nat.zero_le _) (by rw [e]; omega)
  rw [e] at this
  simpa using this
/-- The number of rows, the first one, all of them if they are not too many. -/
def kindCount (l : List (List Int)) : Int × Bool := ((l.length : Int), true)
def kindFirst (l : List (List Int)) : List Int × Bool := match l with | [] => ([], false) | x :: _ => (x, true)
def kindAll (l : List (List Int)) : List (List Int) × Bool := if l.length ≤ 600 then (l, true) else ([], false)
theorem foldE_counted : ∀ (l : List (List Int)) (m : Nat), m + l.length ≤ 1000000000000 → foldE eachCount m l = some (m + l.length, false)
  | [], m, h => rfl
  | x :: l, m, h => by
    have h' : m + (l.length + 1) ≤ 1000000000000 := by simpa using h
    simp only [foldE, eachCount]
    rw [if_pos (by omega)]
    simp only [Option.bind_some, Bool.false_eq_true, if_false]
    rw [foldE_counted l (m + 1) (by omega), List.length_cons]
    congr 2
    omega
theorem foldE_alls (most : Nat) (hmm : most ≤ 1000000) : ∀ (l xs : List (List Int)), xs.length ≤ most → foldE (eachAll most) xs l = some ((xs ++ l).take (most + 1), decide (most < xs.length + l.length))
  | [], xs, h => by
    have e : decide (most < xs.length + ([] : List (List Int)).length) = false := decide_eq_false (by simp; omega)
    rw [e, List.append_nil, List.take_of_length_le (by omega)]
    rfl
  | x :: l, xs, h => by
    simp only [foldE, eachAll]
    rw [if_pos (by omega)]
    simp only [Option.bind_some]
    by_cases e : (most : Int) < ((xs.length + 1 : Nat) : Int)
    · rw [if_pos (by rw [decide_eq_true e]), decide_eq_true (show most < xs.length + (x :: l).length by rw [List.length_cons]; omega)]
      have e2 : xs ++ x :: l = (xs ++ [x]) ++ l := by simp
      rw [e2, List.take_append_of_le_length (by simp; omega), List.take_of_length_le (by simp; omega)]
    · rw [if_neg (by rw [decide_eq_false e]; decide), foldE_alls most hmm l (xs ++ [x]) (by simp; omega)]
      have e2 : (xs ++ [x]) ++ l = xs ++ x :: l := by simp
      have e3 : (xs ++ [x]).length + l.length = xs.length + (x :: l).length := by simp; omega
      rw [e2, e3]
theorem foldE_six (l : List (List Int)) : (foldE (eachAll 600) [] l).bind (fun p => some (if (p.1.length : Int) ≤ 600 then p.1 else [], decide ((p.1.length : Int) ≤ 600))) = some (kindAll l) := by
  have := foldE_alls 600 (by omega) l [] (by simp)
  rw [show ((600 : Nat) : Int) = 600 from rfl] at this
  rw [this]
  simp only [Option.bind_some, List.nil_append, kindAll]
  by_cases h : l.length ≤ 600
  · rw [if_pos h, List.take_of_length_le (by omega), if_pos (by omega), decide_eq_true (by omega)]
  · rw [if_neg h, List.length_take, if_neg (by omega), decide_eq_false (by omega)]
theorem foldE_first (l : List (List Int)) (h : ∀ x ∈ l, 0 < x.length) : (foldE eachFirst [] l).bind (fun p => some (p.1, decide ((0 : Int) < (p.1.length : Int)))) = some (kindFirst l) := by
  cases l with
  | nil => rfl
  | cons x l =>
    have := h x (by simp)
    have e : decide ((0 : Int) < (x.length : Int)) = true := decide_eq_true (by omega)
    simp only [foldE, eachFirst, Option.bind_some, if_true, e, kindFirst]
theorem seFirst_rows (l : List (List Int)) : seFirstOf (l.length, l.take 1) = some (kindFirst l) := by
  cases l with
  | nil => rfl
  | cons x l => simp [seFirstOf, kindFirst]
theorem seListed_rows (l : List (List Int)) : seListedOf (l.length, l.take 600) = kindAll l := by
  unfold seListedOf kindAll
  by_cases h : l.length ≤ 600
  · rw [if_neg (by simp; omega), if_pos h, List.take_of_length_le h]
  · rw [if_pos (by simp; omega), if_neg h]
/-- All Skolem rows. -/
def skolemRows (n : Nat) : List (List Int) := rowsOf (2 * n) n 1 0 (-1)
theorem skolem_fit (n : Nat) (hn : 1 ≤ n) : PlacesFit (2 * n) n (-1) := by
  unfold PlacesFit
  refine ⟨by omega, ?_⟩
  split <;> omega
/-- All Hooked rows. -/
def hookedRows (n : Nat) : List (List Int) := rowsOf (2 * n + 1) n 1 0 (2 * (n : Int) - 1)
theorem hooked_fit (n : Nat) (hn : 1 ≤ n) : PlacesFit (2 * n + 1) n (2 * (n : Int) - 1) := by
  unfold PlacesFit
  refine ⟨by omega, ?_⟩
  split <;> omega
/-- All Langford rows. -/
def langfordRows (n : Nat) (d : Int) : List (List Int) := rowsOf (2 * n) n d 1 (-1)
theorem langford_fit (n : Nat) (hn : 1 ≤ n) : PlacesFit (2 * n) n (-1) := by
  unfold PlacesFit
  refine ⟨by omega, ?_⟩
  split <;> omega
theorem langfordRun_rows (n : Nat) (d : Int) (hn : 1 ≤ n) (hd : 1 ≤ d) {σ : Type} (each : σ → List Int → Option (σ × Bool)) (st : σ) : langfordRun n d each st = foldE each st (langfordRows n d) :=
  rowsRun_rows (langford_fit n hn) (by omega) (by omega) (by omega) each st
theorem seLangfordRun_rows (n : Nat) (d : Int) (hn : n ≤ 9) (hd : 1 ≤ d) (most : Nat) (hm : most ≤ 1000000) : seLangfordRun n d (most : Int) = some ((langfordRows n d).length, (langfordRows n d).take most) :=
  seF_rowsOf (by omega) (by omega) (by omega) hn most hm
def langfordOk (n d : Int) : Bool := decide (1 ≤ n ∧ n ≤ 9 ∧ 1 ≤ d ∧ d ≤ 20 ∧ d + n ≤ 20)
def countLangford (n d : Int) : Int × Bool := if langfordOk n d = true then kindCount (langfordRows n.toNat d) else (0, false)
def firstLangford (n d : Int) : List Int × Bool := if langfordOk n d = true then kindFirst (langfordRows n.toNat d) else ([], false)
def allLangford (n d : Int) : List (List Int) × Bool := if langfordOk n d = true then kindAll (langfordRows n.toNat d) else ([], false)
theorem langfordRows_mem {n : Nat} {d : Int} (hn : 1 ≤ n) (hd : 1 ≤ d) : ∀ x ∈ langfordRows n d, x.length = 2 * n := fun x hx => ((rowsOf_good (langford_fit n hn) (by omega) (by omega) x).1 hx).len
theorem langford_sought_val (n d : Int) : impl_soughtFrom.f n d = some (langfordOk n d) := by
  unfold langfordOk
  unfold impl_soughtFrom.f impl_sought.f impl_isNumber.f
  by_cases h1 : n ≥ 1 <;> by_cases h2 : n ≤ 9 <;> by_cases h3 : d ≥ 1 <;> by_cases h4 : d ≤ 20
  · rw [wrap_in (n := d + n) (by omega) (by omega)]
    simp [h1, h2, h3, h4]
  all_goals simp [h1, h2, h3, h4]
  all_goals omega
theorem impl_CountLangford.f_val (n d : Int) : impl_CountLangford.f n d = some (countLangford n d) := by
  unfold impl_CountLangford.f countLangford
  rw [langford_sought_val]
  by_cases h : langfordOk n d = true
  · have hd := of_decide_eq_true h
    rw [h, if_pos rfl, if_pos rfl, langfordRun_rows n.toNat d (by omega) (by omega)]
    have hl := rowsOf_nine (p := 2 * n.toNat) (N := n.toNat) (d := d) (s := 1) (hole := (-1)) (by omega) (by omega)
    rw [foldE_counted _ 0 (by unfold langfordRows; omega)]
    simp [kindCount]
  · rw [if_neg h, if_neg (fun e => h (Option.some.inj e))]
theorem spec_CountLangford.f_val (n d : Int) : spec_CountLangford.f n d = some (countLangford n d) := by
  unfold spec_CountLangford.f countLangford
  have e : seLangOk n d = langfordOk n d := rfl
  rw [e]
  by_cases h : langfordOk n d = true
  · have hd := of_decide_eq_true h
    have hr := seLangfordRun_rows n.toNat d (by omega) (by omega) 0 (by omega)
    rw [show ((0 : Nat) : Int) = 0 from rfl] at hr
    rw [if_pos h, if_pos h, hr]
    rfl
  · rw [if_neg h, if_neg h]
theorem impl_FirstLangford.f_val (n d : Int) : impl_FirstLangford.f n d = some (firstLangford n d) := by
  unfold impl_FirstLangford.f firstLangford
  rw [langford_sought_val]
  by_cases h : langfordOk n d = true
  · have hd := of_decide_eq_true h
    rw [h, if_pos rfl, if_pos rfl, langfordRun_rows n.toNat d (by omega) (by omega)]
    exact foldE_first _ (fun x hx => by rw [langfordRows_mem (by omega) (by omega) x hx]; omega)
  · rw [if_neg h, if_neg (fun e => h (Option.some.inj e))]
theorem spec_FirstLangford.f_val (n d : Int) : spec_FirstLangford.f n d = some (firstLangford n d) := by
  unfold spec_FirstLangford.f firstLangford
  have e : seLangOk n d = langfordOk n d := rfl
  rw [e]
  by_cases h : langfordOk n d = true
  · have hd := of_decide_eq_true h
    have hr := seLangfordRun_rows n.toNat d (by omega) (by omega) 1 (by omega)
    rw [show ((1 : Nat) : Int) = 1 from rfl] at hr
    rw [if_pos h, if_pos h, hr]
    simp only [Option.bind_some]
    exact seFirst_rows _
  · rw [if_neg h, if_neg h]
theorem impl_AllLangford.f_val (n d : Int) : impl_AllLangford.f n d = some (allLangford n d) := by
  unfold impl_AllLangford.f allLangford
  rw [langford_sought_val]
  by_cases h : langfordOk n d = true
  · have hd := of_decide_eq_true h
    rw [h, if_pos rfl, if_pos rfl, langfordRun_rows n.toNat d (by omega) (by omega)]
    exact foldE_six _
  · rw [if_neg h, if_neg (fun e => h (Option.some.inj e))]
theorem spec_AllLangford.f_val (n d : Int) : spec_AllLangford.f n d = some (allLangford n d) := by
  unfold spec_AllLangford.f allLangford
  have e : seLangOk n d = langfordOk n d := rfl
  rw [e]
  by_cases h : langfordOk n d = true
  · have hd := of_decide_eq_true h
    have hr := seLangfordRun_rows n.toNat d (by omega) (by omega) 600 (by omega)
    rw [show ((600 : Nat) : Int) = 600 from rfl] at hr
    rw [if_pos h, if_pos h, hr]
    simp only [Option.bind_some]
    rw [seListed_rows]
  · rw [if_neg h, if_neg h]
end Go.Proofs.Ytaohgllnoomaeaa.Fn
namespace Go.Proofs.Ytaohgllnoomaeaa.Fn
open Go.RowKit Go.Proofs.YtaohgllnoomaeaaW.PrintWords Go.Proofs.YtaohgllnoomaeaaW.PrintLast Go.Proofs.YtaohgllnoomaeaaW.PrintMore
set_option linter.unusedVariables false
set_option linter.unusedSimpArgs false
/-- The input's bytes are bytes. -/
def BytesOk (l : List Int) : Prop := ∀ x ∈ l, 0 ≤ x ∧ x ≤ 255
theorem wrap_u64 (n : Int) : IntKind.u64.wrap n = n % 18446744073709551616 := by simp [IntKind.wrap, IntKind.bits, IntKind.signed]
theorem low_byte (x : Int) (h0 : 0 ≤ x) (h1 : x < 18446744073709551616) : Go.bits .and .u64 x 255 = x % 256 := by
  have := bits_mask .u64 64 (by decide) (fun n h0 h1 => by rw [wrap_u64]; omega) 8 (by decide) x h0 (by omega)
  simpa using this
theorem top_byte (n : Int) : ∃ b, wrap64 (Go.bits .and .u64 (IntKind.u64.wrap n / 1099511627776) 255) = b ∧ 0 ≤ b ∧ b ≤ 255 := by
  have h := wrap_u64 n
  generalize IntKind.u64.wrap n = m at *
  rw [low_byte _ (by omega) (by omega), wrap_in (by omega) (by omega)]
  exact ⟨_, rfl, by omega, by omega⟩
theorem spec_l1Cur_next.ok {l : List Int} (hl : BytesOk l) (hn : l.length < 4611686018427387904) (at_ seed : Int) (h0 : 0 ≤ at_) (h1 : at_ < 4611686018427387904) : ∃ b z, spec_l1Cur_next.f l at_ seed = some (b, at_ + 1, z) ∧ 0 ≤ b ∧ b ≤ 255 := by
  unfold spec_l1Cur_next.f
  rw [wrap_in (n := at_ + 1) (by omega) (by omega)]
  by_cases ha : at_ < (l.length : Int)
  · have hm : rd l at_ ∈ l := by
      obtain ⟨i, rfl⟩ : ∃ i : Nat, at_ = i := ⟨at_.toNat, by omega⟩
      rw [rd_nat l i (by omega)]
      exact List.getElem_mem _
    have hb := hl _ hm
    rw [if_pos ha, if_pos h0, if_pos (by omega), wrap_in (n := rd l at_) (by omega) (by omega)]
    exact ⟨_, _, rfl, hb.1, hb.2⟩
  · rw [if_neg ha]
    by_cases hb : at_ + 1 ≤ (l.length : Int)
    · rw [if_pos hb]
      exact ⟨_, _, rfl, by omega, by omega⟩
    · rw [if_neg hb]
      obtain ⟨b, e, h2, h3⟩ := top_byte (IntKind.u64.wrap (IntKind.u64.wrap (seed * 6364136223846793005)) + 1442695040888963407)
      exact ⟨b, _, by rw [e], h2, h3⟩
/-- The state of a draw: the input, and a place that is no greater than m. -/
structure DrawSt (l : List Int) (m at_ : Int) : Prop where
  bytes : BytesOk l
  len : l.length < 4611686018427387904
  at0 : 0 ≤ at_
  atm : at_ ≤ m
theorem DrawSt.more {l : List Int} {m m' a : Int} (h : DrawSt l m a) (hm : m ≤ m') : DrawSt l m' a := ⟨h.1, h.2, h.3, Int.le_trans h.4 hm⟩
theorem tmod_range {x n : Int} (hx : 0 ≤ x) (hn : 0 < n) : 0 ≤ Int.tmod x n ∧ Int.tmod x n < n := ⟨Int.tmod_nonneg n hx, Int.tmod_lt_of_pos x hn⟩
theorem spec_l1Cur_pick.ok {l : List Int} {m at_ : Int} (seed n : Int) (h : DrawSt l m at_) (hm : m ≤ 4000000000000000000) : ∃ r a z, spec_l1Cur_pick.f l at_ seed n = some (r, a, z) ∧ 0 ≤ r ∧ (r < n ∨ r = 0) ∧ DrawSt l (m + 2) a := by
  obtain ⟨hl, hn, h0, h1⟩ := h
  unfold spec_l1Cur_pick.f
  by_cases hn1 : n ≤ 1
  · rw [if_pos hn1]
    exact ⟨0, _, _, rfl, by omega, .inr rfl, hl, hn, h0, by omega⟩
  · rw [if_neg hn1]
    obtain ⟨b, z, e, b0, b1⟩ := spec_l1Cur_next.ok hl hn at_ seed h0 (by omega)
    rw [e]
    simp only [Option.bind_some]
    by_cases hn2 : n > 200
    · rw [if_pos hn2]
      obtain ⟨b', z', e', b0', b1'⟩ := spec_l1Cur_next.ok hl hn (at_ + 1) z (by omega) (by omega)
      rw [e']
      simp only [Option.bind_some]
      rw [if_neg (by omega), wrap_in (n := b * 256) (by omega) (by omega), wrap_in (n := b * 256 + b') (by omega) (by omega)]
      have := tmod_range (x := b * 256 + b') (n := n) (by omega) (by omega)
      exact ⟨_, _, _, rfl, this.1, .inl this.2, hl, hn, by omega, by omega⟩
    · rw [if_neg hn2, if_neg (by omega)]
      have := tmod_range (x := b) (n := n) b0 (by omega)
      exact ⟨_, _, _, rfl, this.1, .inl this.2, hl, hn, by omega, by omega⟩
theorem spec_l1Cur_among.ok {l : List Int} {m at_ : Int} (seed : Int) (xs : List Int) (hx : 0 < xs.length) (h : DrawSt l m at_) (hm : m ≤ 4000000000000000000) : ∃ r a z, spec_l1Cur_among.f l at_ seed xs = some (r, a, z) ∧ r ∈ xs ∧ DrawSt l (m + 2) a := by
  obtain ⟨r, a, z, e, h0, h1, hs⟩ := spec_l1Cur_pick.ok seed (xs.length : Int) h hm
  have hr : r < (xs.length : Int) := by omega
  have hmem : rd xs r ∈ xs := by
    obtain ⟨i, rfl⟩ : ∃ i : Nat, r = i := ⟨r.toNat, by omega⟩
    rw [rd_nat xs i (by omega)]
    exact List.getElem_mem _
  exact ⟨rd xs r, a, z, by unfold spec_l1Cur_among.f; rw [e]; simp only [Option.bind_some]; rw [if_pos h0, if_pos hr], hmem, hs⟩
theorem laws_big.f_val (a b : List Int) : laws_big.f a b = some (decide (1048576 < a.length ∨ 1048576 < a.length + b.length)) := by
  unfold laws_big.f
  by_cases h : (a.length : Int) > 1048576
  · rw [if_pos h, decide_eq_true (by omega)]
  · rw [if_neg h, wrap_in (by omega) (by omega)]
    by_cases h2 : (b.length : Int) > 1048576 - (a.length : Int)
    · rw [decide_eq_true h2, decide_eq_true (by omega)]
    · rw [decide_eq_false h2, decide_eq_false (by omega)]
/-- An input of bytes, as a draw begins. -/
theorem draw_start {l : List Int} (h : l.length ≤ 1048576) (hw : ∀ x ∈ l, (Lit.int .u8 x).wf = true) : DrawSt l 0 0 := by
  refine ⟨fun x hx => ?_, by omega, by omega, by omega⟩
  have := hw x hx
  simp [Lit.wf] at this
  have h1 : IntKind.u8.min = 0 := by decide
  have h2 : IntKind.u8.max = 255 := by decide
  rw [h1, h2] at this
  omega
end Go.Proofs.Ytaohgllnoomaeaa.Fn
namespace Go.Proofs.Ytaohgllnoomaeaa.Fn
open Go.RowKit Go.Proofs.YtaohgllnoomaeaaW.PrintWords Go.Proofs.YtaohgllnoomaeaaW.PrintLast Go.Proofs.YtaohgllnoomaeaaW.PrintMore
set_option linter.unusedVariables false
set_option linter.unusedSimpArgs false
def lessOf : List Int → List Int → Bool
  | [], [] => false
  | [], _ :: _ => true
  | _ :: _, [] => false
  | x :: a, y :: b => if x = y then lessOf a b else decide (x < y)
theorem wrap_up {n i : Nat} (h : i < n) (hn : n < 4611686018427387904) : wrap64 ((i : Int) + 1) = ((i + 1 : Nat) : Int) := by
  rw [wrap_in (by omega) (by omega)]
  rfl
theorem laws_jSame.L0_val (a b : List Int) (hl : a.length = b.length) (h : a.length < 4611686018427387904) : ∀ (m i : Nat), i + m = a.length → laws_jSame.L0 a b (a.length : Int) (i : Int) = some (decide (a.drop i = b.drop i))
  | 0, i, hm => by
    rw [laws_jSame.L0_eq, if_neg (by omega), List.drop_of_length_le (by omega), List.drop_of_length_le (by omega)]
    rfl
  | m + 1, i, hm => by
    rw [laws_jSame.L0_eq, if_pos (by omega), if_pos (by omega), if_pos (by omega), if_pos (by omega), rd_nat a i (by omega), rd_nat b i (by omega), wrap_up (n := a.length) (by omega) h, laws_jSame.L0_val a b hl h m (i + 1) (by omega), List.drop_eq_getElem_cons (l := a) (i := i) (by omega), List.drop_eq_getElem_cons (l := b) (i := i) (by omega)]
    by_cases e : a[i]'(by omega) = b[i]'(by omega)
    · rw [if_pos e]
      congr 1
      rw [decide_eq_decide, e]
      exact ⟨fun h => by rw [h], fun h => (List.cons.inj h).2⟩
    · rw [if_neg e, decide_eq_false (fun h => e (List.cons.inj h).1)]
theorem laws_jSame.F_val (a b : List Int) (h : a.length < 4611686018427387904) : laws_jSame.F a b = some (decide (a = b)) := by
  rw [laws_jSame.F_eq]
  by_cases e : a.length = b.length
  · rw [if_pos (by omega)]
    have := laws_jSame.L0_val a b e h a.length 0 (by omega)
    simpa using this
  · rw [if_neg (by omega), decide_eq_false (fun hab => e (by rw [hab]))]
theorem laws_jRows.L0_val (a b : List (List Int)) (hl : a.length = b.length) (h : a.length < 4611686018427387904) (hx : ∀ x ∈ a, x.length < 4611686018427387904) : ∀ (m i : Nat), i + m = a.length → laws_jRows.L0 a b (a.length : Int) (i : Int) = some (decide (a.drop i = b.drop i))
  | 0, i, hm => by
    rw [laws_jRows.L0_eq, if_neg (by omega), List.drop_of_length_le (by omega), List.drop_of_length_le (by omega)]
    rfl
  | m + 1, i, hm => by
    have ea : rd_L2 a (i : Int) = a[i]'(by omega) := by unfold rd_L2; rw [Int.toNat_natCast, List.getD_eq_getElem?_getD, List.getElem?_eq_getElem (by omega)]; rfl
    have eb : rd_L2 b (i : Int) = b[i]'(by omega) := by unfold rd_L2; rw [Int.toNat_natCast, List.getD_eq_getElem?_getD, List.getElem?_eq_getElem (by omega)]; rfl
    rw [laws_jRows.L0_eq, if_pos (by omega), if_pos (by omega), if_pos (by omega), if_pos (by omega), ea, eb, laws_jSame.F_val _ _ (hx _ (List.getElem_mem _)), wrap_up (n := a.length) (by omega) h, laws_jRows.L0_val a b hl h hx m (i + 1) (by omega), List.drop_eq_getElem_cons (l := a) (i := i) (by omega), List.drop_eq_getElem_cons (l := b) (i := i) (by omega)]
    simp only [Option.bind_some]
    by_cases e : a[i]'(by omega) = b[i]'(by omega)
    · rw [if_pos (by simp [e])]
      congr 1
      rw [decide_eq_decide, e]
      exact ⟨fun h => by rw [h], fun h => (List.cons.inj h).2⟩
    · rw [if_neg (by simp [e]), decide_eq_false (fun h => e (List.cons.inj h).1)]
theorem laws_jRows.F_val (a b : List (List Int)) (h : a.length < 4611686018427387904) (hx : ∀ x ∈ a, x.length < 4611686018427387904) : laws_jRows.F a b = some (decide (a = b)) := by
  rw [laws_jRows.F_eq]
  by_cases e : a.length = b.length
  · rw [if_pos (by omega)]
    have := laws_jRows.L0_val a b e h hx a.length 0 (by omega)
    simpa using this
  · rw [if_neg (by omega), decide_eq_false (fun hab => e (by rw [hab]))]
theorem laws_jIn.L0_val (x : List Int) (a : List (List Int)) (h : a.length < 4611686018427387904) (hx : ∀ y ∈ a, y.length < 4611686018427387904) : ∀ (m i : Nat), i + m = a.length → laws_jIn.L0 x a (a.length : Int) (i : Int) = some (decide (x ∈ a.drop i))
  | 0, i, hm => by
    rw [laws_jIn.L0_eq, if_neg (by omega), List.drop_of_length_le (by omega)]
    rfl
  | m + 1, i, hm => by
    have ea : rd_L2 a (i : Int) = a[i]'(by omega) := by unfold rd_L2; rw [Int.toNat_natCast, List.getD_eq_getElem?_getD, List.getElem?_eq_getElem (by omega)]; rfl
    rw [laws_jIn.L0_eq, if_pos (by omega), if_pos (by omega), if_pos (by omega), ea, laws_jSame.F_val _ _ (hx _ (List.getElem_mem _)), wrap_up (n := a.length) (by omega) h, laws_jIn.L0_val x a h hx m (i + 1) (by omega), List.drop_eq_getElem_cons (l := a) (i := i) (by omega)]
    simp only [Option.bind_some]
    by_cases e : a[i]'(by omega) = x
    · rw [if_pos (by simp [e]), decide_eq_true (by rw [e]; exact List.mem_cons_self)]
    · rw [if_neg (by simp [e])]
      congr 1
      rw [decide_eq_decide, List.mem_cons]
      exact ⟨.inr, fun h => h.resolve_left (fun h => e h.symm)⟩
theorem laws_jIn.F_val (a : List (List Int)) (x : List Int) (h : a.length < 4611686018427387904) (hx : ∀ y ∈ a, y.length < 4611686018427387904) : laws_jIn.F a x = some (decide (x ∈ a)) := by
  rw [laws_jIn.F_eq]
  have := laws_jIn.L0_val x a h hx a.length 0 (by omega)
  simpa using this
theorem laws_jLess.L0_val (a b : List Int) (h : a.length < 4611686018427387904) : ∀ (m i : Nat), i + m = a.length → i ≤ b.length → laws_jLess.L0 a b (i : Int) = some (lessOf (a.drop i) (b.drop i))
  | 0, i, hm, hb => by
    rw [laws_jLess.L0_eq, if_neg (by omega), laws_jLess.J1_eq, if_neg (by decide), List.drop_of_length_le (l := a) (by omega)]
    by_cases e : i < b.length
    · rw [List.drop_eq_getElem_cons (l := b) (i := i) e, lessOf, decide_eq_true (by omega)]
    · rw [List.drop_of_length_le (l := b) (by omega), lessOf, decide_eq_false (by omega)]
  | m + 1, i, hm, hb => by
    rw [laws_jLess.L0_eq, if_pos (by omega), laws_jLess.J1_eq, List.drop_eq_getElem_cons (l := a) (i := i) (by omega)]
    by_cases e : i < b.length
    · rw [if_pos (by simpa using e), if_pos (by omega), if_pos (by omega), if_pos (by omega), rd_nat a i (by omega), rd_nat b i e, List.drop_eq_getElem_cons (l := b) (i := i) e, lessOf, wrap_up (n := a.length) (by omega) h, laws_jLess.L0_val a b h m (i + 1) (by omega) (by omega)]
      by_cases e2 : a[i]'(by omega) = b[i]
      · rw [if_pos e2, if_pos e2]
      · rw [if_neg e2, if_neg e2]
    · rw [if_neg (by simpa using e), List.drop_of_length_le (l := b) (by omega), lessOf, decide_eq_false (by omega)]
theorem laws_jLess.F_val (a b : List Int) (h : a.length < 4611686018427387904) : laws_jLess.F a b = some (lessOf a b) := by
  rw [laws_jLess.F_eq]
  have := laws_jLess.L0_val a b h a.length 0 (by omega) (by omega)
  simpa using this
theorem laws_jBack.L0_val (l : List Int) (hl : l.length < 17592186044416) : ∀ (i : Nat) (acc : List Int), i ≤ l.length → acc.length + i ≤ l.length → laws_jBack.L0 l acc ((i : Int) - 1) = some (acc ++ (l.take i).reverse)
  | 0, acc, h, ha => by
    rw [laws_jBack.L0_eq, if_neg (by omega)]
    simp
  | i + 1, acc, h, ha => by
    have e : ((i + 1 : Nat) : Int) - 1 = (i : Int) := by omega
    rw [e, laws_jBack.L0_eq, if_pos (by omega), if_pos (by omega), if_pos (by omega), if_pos (by omega), rd_nat l i (by omega), wrap_in (n := (i : Int) - 1) (by omega) (by omega), laws_jBack.L0_val l hl i (acc ++ [l[i]'(by omega)]) (by omega) (by simp; omega), List.take_add_one, List.getElem?_eq_getElem (by omega)]
    simp only [Option.toList_some, List.reverse_append, List.reverse_cons, List.reverse_nil, List.nil_append, List.append_assoc, List.singleton_append, List.cons_append]
theorem laws_jBack.F_val (l : List Int) (hl : l.length < 17592186044416) : laws_jBack.F l = some l.reverse := by
  rw [laws_jBack.F_eq, wrap_in (by omega) (by omega)]
  have := laws_jBack.L0_val l hl l.length [] (by omega) (by simp)
  simpa using this
end Go.Proofs.Ytaohgllnoomaeaa.Fn
namespace Go.Proofs.Ytaohgllnoomaeaa.Fn
open Go.RowKit Go.Proofs.YtaohgllnoomaeaaW.PrintWords Go.Proofs.YtaohgllnoomaeaaW.PrintLast Go.Proofs.YtaohgllnoomaeaaW.PrintMore
set_option linter.unusedVariables false
set_option linter.unusedSimpArgs false
theorem lessOf_lex : ∀ (x y : List Int), LexLt x y → lessOf x y = true
  | [], y, ⟨i, _, _, h, _⟩ => by simp at h
  | _ :: _, [], ⟨i, _, _, _, h⟩ => by simp at h
  | a :: x, b :: y, ⟨i, h1, h2, h3, h4⟩ => by
    have r0 : ∀ (c : Int) (l : List Int), rd (c :: l) 0 = c := fun c l => rfl
    have rs : ∀ (c : Int) (l : List Int) (j : Nat), rd (c :: l) ((j + 1 : Nat) : Int) = rd l (j : Int) := fun c l j => by
      unfold rd
      rw [Int.toNat_natCast, Int.toNat_natCast]
      rfl
    cases i with
    | zero =>
      have h2' : a < b := h2
      rw [lessOf, if_neg (by omega), decide_eq_true h2']
    | succ i =>
      have e : a = b := h1 0 (by omega)
      rw [lessOf, if_pos e]
      refine lessOf_lex x y ⟨i, fun j hj => ?_, ?_, by simpa using h3, by simpa using h4⟩
      · have := h1 (j + 1) (by omega)
        rw [rs, rs] at this
        exact this
      · rw [rs, rs] at h2
        exact h2
theorem skolem_kind (n : Nat) (h1 : 1 ≤ n) (h2 : n ≤ 9) : KindFit (2 * n) n 1 0 (-1) := ⟨skolem_fit n h1, by omega, by omega, by omega, by omega, by omega, by omega⟩
theorem hooked_kind (n : Nat) (h1 : 1 ≤ n) (h2 : n ≤ 9) : KindFit (2 * n + 1) n 1 0 (2 * (n : Int) - 1) := ⟨hooked_fit n h1, by omega, by omega, by omega, by omega, by omega, by omega⟩
theorem langford_kind (n : Nat) (d : Int) (h1 : 1 ≤ n) (h2 : n ≤ 9) (h3 : 1 ≤ d) (h4 : d + n ≤ 20) : KindFit (2 * n) n d 1 (-1) := ⟨langford_fit n h1, by omega, by omega, by omega, by omega, by omega, by omega⟩
theorem len_pos {l : List (List Int)} {x : List Int} (h : x ∈ l) : 0 < l.length := List.length_pos_of_mem h
theorem some_row {l : List (List Int)} (h : 0 < l.length) : ∃ x, x ∈ l := by
  cases l with
  | nil => simp at h
  | cons x l => exact ⟨x, by simp⟩
theorem skolem_parity {n : Nat} {x : List Int} (h : RowOk (2 * n) n 1 0 (-1) x) : n % 4 ≤ 1 := by
  have := h.parity (by omega)
  rw [if_neg (by omega)] at this
  have h1 := tri_even n
  have h2 := tri_even (2 * n)
  omega
theorem skolem_there (n : Nat) (h1 : 1 ≤ n) (h2 : n ≤ 8) : (0 < (skolemRows n).length) ↔ n % 4 ≤ 1 := by
  have k := fun (m : Nat) (h1 : 1 ≤ m) (h2 : m ≤ 9) => skolem_kind m h1 h2
  constructor
  · intro h
    obtain ⟨x, hx⟩ := some_row h
    exact skolem_parity ((rowsOf_ok (k n h1 (by omega)) x).1 hx)
  · intro h
    rcases (by omega : n = 1 ∨ n = 4 ∨ n = 5 ∨ n = 8) with rfl | rfl | rfl | rfl
    · exact len_pos ((rowsOf_ok (k 1 (by omega) (by omega)) [1, 1]).2 (rowOk_iff.1 (by decide +kernel)))
    · exact len_pos ((rowsOf_ok (k 4 (by omega) (by omega)) [1, 1, 3, 4, 2, 3, 2, 4]).2 (rowOk_iff.1 (by decide +kernel)))
    · exact len_pos ((rowsOf_ok (k 5 (by omega) (by omega)) [1, 1, 3, 4, 5, 3, 2, 4, 2, 5]).2 (rowOk_iff.1 (by decide +kernel)))
    · exact len_pos ((rowsOf_ok (k 8 (by omega) (by omega)) [1, 1, 2, 5, 2, 6, 7, 8, 5, 3, 4, 6, 3, 7, 4, 8]).2 (rowOk_iff.1 (by decide +kernel)))
theorem hooked_parity {n : Nat} {x : List Int} (hn : 1 ≤ n) (h : RowOk (2 * n + 1) n 1 0 (2 * (n : Int) - 1) x) : 2 ≤ n % 4 := by
  have := h.parity (by omega)
  rw [if_pos (by omega)] at this
  have h1 := tri_even n
  have h2 := tri_even (2 * n + 1)
  omega
theorem hooked_there (n : Nat) (h1 : 1 ≤ n) (h2 : n ≤ 7) : (0 < (hookedRows n).length) ↔ 2 ≤ n % 4 := by
  have k := fun (m : Nat) (h1 : 1 ≤ m) (h2 : m ≤ 9) => hooked_kind m h1 h2
  constructor
  · intro h
    obtain ⟨x, hx⟩ := some_row h
    exact hooked_parity h1 ((rowsOf_ok (k n h1 (by omega)) x).1 hx)
  · intro h
    rcases (by omega : n = 2 ∨ n = 3 ∨ n = 6 ∨ n = 7) with rfl | rfl | rfl | rfl
    · exact len_pos ((rowsOf_ok (k 2 (by omega) (by omega)) [1, 1, 2, 0, 2]).2 (rowOk_iff.1 (by decide +kernel)))
    · exact len_pos ((rowsOf_ok (k 3 (by omega) (by omega)) [1, 1, 2, 3, 2, 0, 3]).2 (rowOk_iff.1 (by decide +kernel)))
    · exact len_pos ((rowsOf_ok (k 6 (by omega) (by omega)) [1, 1, 2, 5, 2, 4, 6, 3, 5, 4, 3, 0, 6]).2 (rowOk_iff.1 (by decide +kernel)))
    · exact len_pos ((rowsOf_ok (k 7 (by omega) (by omega)) [1, 1, 2, 5, 2, 6, 4, 7, 5, 3, 4, 6, 3, 0, 7]).2 (rowOk_iff.1 (by decide +kernel)))
/-- What is found is a Skolem row. -/
theorem RowOk.count0 {p N : Nat} {from_ s hole : Int} {r : List Int} (h : RowOk p N from_ s hole r) : r.count 0 = if 0 ≤ hole then 1 else 0 := by
  rw [← placesOf_count, h.holes]
  split <;> rfl
theorem RowOk.skolem {p N : Nat} {r : List Int} (h : RowOk p N 1 0 (-1) r) : skolemOf r = (N : Int) := by
  have h0 := h.count0
  rw [skolemOf_yes h.pairs h.fits (by rw [h0, if_neg (by omega)]), h.nums, if_pos (fromOf_up 1 N), numbersUp_len]
theorem RowOk.oneHole {p N : Nat} {hole : Int} {r : List Int} (hh : 0 ≤ hole) (h : RowOk p N 1 0 hole r) : oneHole r = true := by
  unfold Fn.oneHole
  rw [h.pairs, h.fits, h.holes, if_pos hh]
  rfl
theorem RowOk.extended {p N : Nat} {hole : Int} {r : List Int} (hh : 0 ≤ hole) (h : RowOk p N 1 0 hole r) : extendedOf r = ((N : Int), hole) := by
  unfold extendedOf orderOf
  rw [if_pos (h.oneHole hh), h.nums, if_pos (fromOf_up 1 N), numbersUp_len, h.holes, if_pos hh]
  rfl
theorem RowOk.hooked {N : Nat} {r : List Int} (hN : 1 ≤ N) (h : RowOk (2 * N + 1) N 1 0 (2 * (N : Int) - 1) r) : hookedOf r = (N : Int) := by
  unfold hookedOf
  rw [h.extended (by omega), if_pos]
  show 2 * (N : Int) - 1 = (r.length : Int) - 2
  rw [h.len]
  omega
def numberOk (n : Int) : Bool := decide (1 ≤ n ∧ n ≤ 20)
theorem impl_isNumber.f_val (n : Int) : impl_isNumber.f n = some (numberOk n) := by
  unfold impl_isNumber.f numberOk
  by_cases h1 : n ≥ 1 <;> by_cases h2 : n ≤ 20 <;> simp [h1, h2] <;> omega
def skolemThere (n : Int) : Bool × Bool := if numberOk n = true then (decide (Int.tmod n 4 ≤ 1), true) else (false, false)
theorem impl_IsSkolemThere.f_val (n : Int) : impl_IsSkolemThere.f n = some (skolemThere n) := by
  unfold impl_IsSkolemThere.f skolemThere
  rw [impl_isNumber.f_val]
  simp only [Option.bind_some]
  split <;> rfl
def langThere (n d : Int) : Bool × Bool := if numberOk n = true ∧ numberOk d = true then (if n < 2 * d + 1 then (false, true) else if Int.tmod d 2 = 1 then (decide (Int.tmod n 4 = 0 ∨ Int.tmod n 4 = 3), true) else (decide (Int.tmod n 4 ≤ 1), true)) else (false, false)
theorem impl_IsLangfordThere.F_val (n d : Int) : impl_IsLangfordThere.F n d = some (langThere n d) := by
  rw [impl_IsLangfordThere.F_eq, impl_isNumber.f_val, impl_isNumber.f_val]
  simp only [Option.bind_some, impl_IsLangfordThere.J0_eq, langThere]
  by_cases h1 : numberOk n = true
  · by_cases h2 : numberOk d = true
    · have hd := of_decide_eq_true h2
      rw [wrap_in (n := 2 * d) (by omega) (by omega), wrap_in (n := 2 * d + 1) (by omega) (by omega)]
      simp only [h1, h2, if_true, and_self, Bool.not_true, Bool.false_eq_true, if_false]
      by_cases h3 : n < 2 * d + 1
      · rw [if_pos h3, if_pos h3]
      · rw [if_neg h3, if_neg h3]
        by_cases h4 : Int.tmod d 2 = 1
        · rw [if_pos h4, if_pos h4]
          by_cases h5 : Int.tmod n 4 = 0 <;> by_cases h6 : Int.tmod n 4 = 3 <;> simp [h5, h6]
        · rw [if_neg h4, if_neg h4]
    · simp [h1, h2]
  · simp [h1]
end Go.Proofs.Ytaohgllnoomaeaa.Fn
namespace Go.Proofs.Ytaohgllnoomaeaa.Pure
open Go.RowKit Go.Proofs.Ytaohgllnoomaeaa.Fn Go.Proofs.YtaohgllnoomaeaaW.PrintWords Go.Proofs.YtaohgllnoomaeaaW.PrintLast Go.Proofs.YtaohgllnoomaeaaW.PrintMore
set_option linter.unusedVariables false
set_option linter.unusedSimpArgs false
theorem drawn_both {l : List Int} (h : DrawSt l 0 0) : ∃ n d, spec_DrawAllLangford.f l = some (n, d) ∧ (n ∈ ([1, 3, 4, 5, 6, 7, 4, 3, 7, 0, 10] : List Int)) ∧ d ∈ ([1, 1, 1, 2, 3, 0, 11, 12] : List Int) := by
  obtain ⟨r, a, z, e, hr, hs⟩ := spec_l1Cur_among.ok 0 ([1, 3, 4, 5, 6, 7, 4, 3, 7, 0, 10] : List Int) (by decide) h (by omega)
  obtain ⟨r2, a2, z2, e2, hr2, hs2⟩ := spec_l1Cur_among.ok z ([1, 1, 1, 2, 3, 0, 11, 12] : List Int) (by decide) hs (by omega)
  refine ⟨r, r2, ?_, hr, hr2⟩
  unfold spec_DrawAllLangford.f spec_DrawCountLangford.f
  rw [e]
  simp only [Option.bind_some]
  rw [e2]
  rfl
theorem none_of {p N : Nat} {d s hole : Int} (h : (rowsOf p N d s hole).length = 0) : ¬ 0 < (rowsOf p N d s hole).length := by omega
theorem too_few (n : Nat) (d : Int) (h1 : 1 ≤ n) (h9 : n ≤ 9) (hd : 1 ≤ d) (h : d + n ≤ 20) (hnd : (n : Int) ≤ d) : ¬ 0 < (langfordRows n d).length := by
  intro h0
  obtain ⟨x, hx⟩ := some_row h0
  have g := (rowsOf_good (langford_fit n h1) (by omega) (by omega) x).1 hx
  obtain ⟨a, ha, _⟩ := g.on (n - 1) (by omega)
  omega
theorem langford_there (n d : Int) (hn : n ∈ ([1, 3, 4, 5, 6, 7, 4, 3, 7, 0, 10] : List Int)) (hd : d ∈ ([1, 1, 1, 2, 3, 0, 11, 12] : List Int)) (hok : langfordOk n d = true) : langThere n d = (decide (0 < (langfordRows n.toNat d).length), true) := by
  have hb := of_decide_eq_true hok
  simp only [List.mem_cons, List.not_mem_nil, or_false] at hn hd
  have k := fun (m : Nat) (e : Int) (h1 : 1 ≤ m) (h2 : m ≤ 9) (h3 : 1 ≤ e) (h4 : e + m ≤ 20) => langford_kind m e h1 h2 h3 h4
  unfold langThere numberOk
  rw [if_pos ⟨by rw [decide_eq_true (by omega)], by rw [decide_eq_true (by omega)]⟩]
  by_cases hnd : n ≤ d
  · rw [if_pos (by omega), decide_eq_false (too_few n.toNat d (by omega) (by omega) (by omega) (by omega) (by omega))]
  · have hd' : d = 1 ∨ d = 2 ∨ d = 3 := by omega
    have hn' : n = 3 ∨ n = 4 ∨ n = 5 ∨ n = 6 ∨ n = 7 := by omega
    rcases hn' with rfl | rfl | rfl | rfl | rfl <;> rcases hd' with rfl | rfl | rfl
    · rw [show decide (0 < (langfordRows (Int.toNat 3) 1).length) = true from decide_eq_true (len_pos ((rowsOf_ok (k 3 1 (by omega) (by omega) (by omega) (by omega)) [2, 3, 1, 2, 1, 3]).2 (rowOk_iff.1 (by decide +kernel))))]
      decide
    · rw [show decide (0 < (langfordRows (Int.toNat 3) 2).length) = false from decide_eq_false (none_of (show (rowsOf 6 3 2 1 (-1)).length = 0 by decide +kernel))]
      decide
    · omega
    · rw [show decide (0 < (langfordRows (Int.toNat 4) 1).length) = true from decide_eq_true (len_pos ((rowsOf_ok (k 4 1 (by omega) (by omega) (by omega) (by omega)) [2, 3, 4, 2, 1, 3, 1, 4]).2 (rowOk_iff.1 (by decide +kernel))))]
      decide
    · rw [show decide (0 < (langfordRows (Int.toNat 4) 2).length) = false from decide_eq_false (none_of (show (rowsOf 8 4 2 1 (-1)).length = 0 by decide +kernel))]
      decide
    · rw [show decide (0 < (langfordRows (Int.toNat 4) 3).length) = false from decide_eq_false (none_of (show (rowsOf 8 4 3 1 (-1)).length = 0 by decide +kernel))]
      decide
    · rw [show decide (0 < (langfordRows (Int.toNat 5) 1).length) = false from decide_eq_false (none_of (show (rowsOf 10 5 1 1 (-1)).length = 0 by decide +kernel))]
      decide
    · rw [show decide (0 < (langfordRows (Int.toNat 5) 2).length) = true from decide_eq_true (len_pos ((rowsOf_ok (k 5 2 (by omega) (by omega) (by omega) (by omega)) [4, 5, 6, 2, 3, 4, 2, 5, 3, 6]).2 (rowOk_iff.1 (by decide +kernel))))]
      decide
    · rw [show decide (0 < (langfordRows (Int.toNat 5) 3).length) = false from decide_eq_false (none_of (show (rowsOf 10 5 3 1 (-1)).length = 0 by decide +kernel))]
      decide
    · rw [show decide (0 < (langfordRows (Int.toNat 6) 1).length) = false from decide_eq_false (none_of (show (rowsOf 12 6 1 1 (-1)).length = 0 by decide +kernel))]
      decide
    · rw [show decide (0 < (langfordRows (Int.toNat 6) 2).length) = false from decide_eq_false (none_of (show (rowsOf 12 6 2 1 (-1)).length = 0 by decide +kernel))]
      decide
    · rw [show decide (0 < (langfordRows (Int.toNat 6) 3).length) = false from decide_eq_false (none_of (show (rowsOf 12 6 3 1 (-1)).length = 0 by decide +kernel))]
      decide
    · rw [show decide (0 < (langfordRows (Int.toNat 7) 1).length) = true from decide_eq_true (len_pos ((rowsOf_ok (k 7 1 (by omega) (by omega) (by omega) (by omega)) [1, 4, 1, 5, 6, 7, 4, 2, 3, 5, 2, 6, 3, 7]).2 (rowOk_iff.1 (by decide +kernel))))]
      decide
    · rw [show decide (0 < (langfordRows (Int.toNat 7) 2).length) = false from decide_eq_false (none_of (show (rowsOf 14 7 2 1 (-1)).length = 0 by decide +kernel))]
      decide
    · rw [show decide (0 < (langfordRows (Int.toNat 7) 3).length) = true from decide_eq_true (len_pos ((rowsOf_ok (k 7 3 (by omega) (by omega) (by omega) (by omega)) [6, 7, 8, 9, 3, 4, 5, 6, 3, 7, 4, 8, 5, 9]).2 (rowOk_iff.1 (by decide +kernel))))]
      decide
theorem langford_row {N : Nat} {d : Int} {r : List Int} (hN : 1 ≤ N) (h : RowOk (2 * N) N d 1 (-1) r) : langfordOf r = d := by
  have h0 := h.count0
  have hu : rd (numbersUp d N) 0 = d := by
    obtain ⟨m, rfl⟩ : ∃ m, N = m + 1 := ⟨N - 1, by omega⟩
    have := rd_nat (numbersUp d (m + 1)) 0 (by rw [numbersUp_len]; omega)
    rw [show ((0 : Nat) : Int) = 0 from rfl] at this
    rw [this]
    simp [numbersUp]
  unfold langfordOf
  rw [h.nums, hu, if_pos]
  exact ⟨h.pairs, h.fits, by rw [h0, if_neg (by omega)], fromOf_up d N, by rw [numbersUp_len]; omega⟩
theorem raised_good {N : Nat} {d : Int} {r : List Int} (h : GoodRow d N 1 (-1) (2 * N) r) : GoodRow (d + 1) N 0 (-1) (2 * N) (r.map (fun x => x + 1)) := by
  have hr : ∀ j : Nat, j < 2 * N → rd (r.map (fun x => x + 1)) j = rd r j + 1 := fun j hj => by
    rw [rd_nat _ j (by rw [List.length_map, h.len]; exact hj), rd_nat _ j (by rw [h.len]; exact hj), List.getElem_map]
  refine ⟨by rw [List.length_map]; exact h.len, fun j hj => by omega, fun j hj hh => ?_, fun i hi => ?_⟩
  · have := h.rng j hj hh
    rw [hr j hj]
    omega
  · obtain ⟨a, ha, hx⟩ := h.on i hi
    refine ⟨a, by omega, fun j hj => ?_⟩
    have := hx j hj
    rw [hr j hj]
    omega
def isLangfordF (l : List Int) : Bool × Bool := if isPairs l = true then (decide (langfordOf l > 0), true) else (false, false)
theorem impl_IsLangford.F_val (l : List Int) (h : l.length < 17592186044416) : impl_IsLangford.F l = some (isLangfordF l) := by
  rw [impl_IsLangford.F_eq, impl_isPairs.F_val l (by omega)]
  simp only [Option.bind_some, impl_langford.F_val l h]
  unfold isLangfordF
  by_cases h1 : isPairs l = true
  · rw [if_pos h1, if_pos h1]
  · rw [if_neg h1, if_neg h1]
theorem impl_LeastOfLangford.F_val (l : List Int) (h : l.length < 17592186044416) : impl_LeastOfLangford.F l = some (langfordOf l, decide (langfordOf l > 0)) := by
  rw [impl_LeastOfLangford.F_eq, impl_langford.F_val l h]
  rfl
theorem fits_raised {N : Nat} {d : Int} {r : List Int} (hN : 1 ≤ N ∧ N ≤ 9) (hd : 1 ≤ d) (hdn : d + N ≤ 20) (h : RowOk (2 * N) N d 1 (-1) r) : impl_RaiseRow.F r 1 = some (r.map (fun x => x + 1), true) ∧ impl_FitsShift.F (r.map (fun x => x + 1)) 0 = some (true, true) := by
  have kd : KindFit (2 * N) N d 1 (-1) := langford_kind N d hN.1 hN.2 hd hdn
  have g := rowOk_good kd h
  have k2 : KindFit (2 * N) N (d + 1) 0 (-1) := ⟨kd.fit, by omega, by omega, by omega, by omega, by omega, by omega⟩
  have r2 := goodRow_ok k2 (raised_good g)
  have hv : ∀ x ∈ r, d ≤ x ∧ x < d + N := fun x hx => by
    obtain ⟨j, hj, e⟩ := List.getElem_of_mem hx
    have := g.rng j (by rw [← g.len]; exact hj) (by omega)
    rw [rd_nat r j hj, e] at this
    exact this
  constructor
  · rw [impl_RaiseRow.F_val1 r (isPairs_row h.pairs), if_pos]
    · congr 2
      refine List.map_congr_left fun x hx => ?_
      have := hv x hx
      rw [if_neg (by omega)]
    · rw [List.all_eq_true]
      intro x hx
      have := hv x hx
      rw [decide_eq_true (show 1 ≤ x + 1 by omega), decide_eq_true (show x + 1 ≤ 20 by omega)]
      simp
  · have hl := r2.len
    rw [impl_FitsShift.F_eq, impl_isPairs.F_val _ (by omega), r2.pairs]
    simp only [Option.bind_some, if_true, impl_isShift.f_val]
    rw [impl_fits.F_val _ 0 (by omega), r2.pairs, r2.fits]
    rfl
theorem before {L : List (List Int)} (hs : L.Pairwise LexLt) {i : Nat} (h : i + 1 < L.length) : lessOf (L[i]'(by omega)) L[i + 1] = true :=
  lessOf_lex _ _ (List.pairwise_iff_getElem.1 hs i (i + 1) (by omega) h (by omega))
theorem rdLL {L : List (List Int)} {i : Nat} (h : i < L.length) : rd_L2 L (i : Int) = L[i] := by
  unfold rd_L2
  rw [Int.toNat_natCast, List.getD_eq_getElem?_getD, List.getElem?_eq_getElem h]
  rfl
theorem first_same {L : List (List Int)} (h : 0 < L.length) : L[0] = (kindFirst L).1 := by
  cases L with
  | nil => simp at h
  | cons x l => rfl
theorem L0_val {N : Nat} {d : Int} (hN : 1 ≤ N ∧ N ≤ 9) (hd : 1 ≤ d) (hdn : d + N ≤ 20) {L : List (List Int)} (hL : L.length ≤ 600) (hr : ∀ x ∈ L, RowOk (2 * N) N d 1 (-1) x) (hb : ∀ x ∈ L, x.reverse ∈ L) (hs : L.Pairwise LexLt) : ∀ m i : Nat, i + m = L.length → laws_FnLangfordThere.L0 (N : Int) d (L.length : Int) L (kindFirst L).1 L (L.length : Int) (i : Int) = some true
  | 0, i, hm => by
    rw [laws_FnLangfordThere.L0_eq, if_neg (by omega), if_pos rfl]
    by_cases h0 : 0 < L.length
    · have e := rdLL (L := L) (i := 0) h0
      rw [show ((0 : Nat) : Int) = 0 from rfl] at e
      rw [if_pos (by omega), if_pos (by omega), e, first_same h0, laws_jSame.F_val _ _ (by
        have := (hr _ (List.getElem_mem h0)).len
        rw [first_same h0] at this
        omega)]
      simp only [Option.bind_some, decide_true, if_true]
    · rw [if_neg (by omega)]
  | m + 1, i, hm => by
    have hi : i < L.length := by omega
    have hx := hr _ (List.getElem_mem hi)
    have hlen := hx.len
    have ih := L0_val hN hd hdn hL hr hb hs m (i + 1) (by omega)
    have hin := laws_jIn.F_val L (L[i]).reverse (by omega) (fun y hy => by have := (hr y hy).len; omega)
    rw [decide_eq_true (hb _ (List.getElem_mem hi))] at hin
    have hbk := laws_jBack.F_val L[i] (by omega)
    have ew : wrap64 (2 * (N : Int)) = 2 * (N : Int) := wrap_in (by omega) (by omega)
    have hlang := langford_row hN.1 hx
    obtain ⟨hra, hfi⟩ := fits_raised hN hd hdn hx
    have his : isLangfordF L[i] = (true, true) := by
      unfold isLangfordF
      rw [if_pos hx.pairs, hlang, decide_eq_true (by omega)]
    have hle : decide (d > 0) = true := decide_eq_true (by omega)
    rw [laws_FnLangfordThere.L0_eq, if_pos (by omega), if_pos (by omega), if_pos (by omega), rdLL hi, impl_IsLangford.F_val _ (by omega), his, impl_LeastOfLangford.F_val _ (by omega), hlang, wrap_up (n := L.length) hi (by omega), ew]
    simp only [Option.bind_some, if_true, hle]
    rw [if_pos (by omega)]
    by_cases h0 : i = 0
    · rw [if_neg (by omega), hbk]
      simp only [Option.bind_some, hin, if_true, hra, hfi]
      exact ih
    · obtain ⟨j, rfl⟩ : ∃ j, i = j + 1 := ⟨i - 1, by omega⟩
      have hj : j < L.length := by omega
      have e : wrap64 (((j + 1 : Nat) : Int) - 1) = (j : Int) := by rw [wrap_in (by omega) (by omega)]; omega
      have hlj := (hr _ (List.getElem_mem hj)).len
      rw [if_pos (by omega), e, if_pos (by omega), if_pos (by omega), rdLL hj, laws_jLess.F_val _ _ (by omega), before hs hi]
      simp only [Option.bind_some, if_true, hbk, hin, hra, hfi]
      exact ih
theorem kindAll_len {L : List (List Int)} : (kindAll L).1.length ≤ 600 := by
  unfold kindAll
  split
  · assumption
  · simp
theorem kindAll_mem {L : List (List Int)} {x : List Int} (h : x ∈ (kindAll L).1) : x ∈ L := by
  unfold kindAll at h
  split at h
  · exact h
  · simp at h
theorem kindFirst_mem {L : List (List Int)} : (kindFirst L).1 = [] ∨ (kindFirst L).1 ∈ L := by
  cases L with
  | nil => exact .inl rfl
  | cons x l => exact .inr (by simp [kindFirst])
theorem kindFirst_two {L : List (List Int)} : (kindFirst L).2 = decide (0 < L.length) := by
  cases L with
  | nil => rfl
  | cons x l => simp [kindFirst]
theorem kindAll_two {L : List (List Int)} : (kindAll L).2 = decide (L.length ≤ 600) := by
  unfold kindAll
  split <;> rename_i h
  · rw [decide_eq_true h]
  · rw [decide_eq_false h]
theorem FnLangfordThere : laws_FnLangfordThere.Pure := by
  intro l0 l1 _ _ hw0 _ _ hw1
  refine Lim.rounds (laws_FnLangfordThere.F_lim l0 l1) ?_
  rw [laws_FnLangfordThere.F_eq, laws_big.f_val]
  simp only [Option.bind_some]
  by_cases hbig : 1048576 < l0.length ∨ 1048576 < l0.length + l1.length
  · rw [if_pos (decide_eq_true hbig)]
  rw [if_neg (by rw [decide_eq_false hbig]; decide)]
  have h0 := draw_start (l := l0) (by omega) hw0
  obtain ⟨n, d, hn, hnm, hdm⟩ := drawn_both h0
  by_cases hok : langfordOk n d = true
  · have hd := of_decide_eq_true hok
    have kf : KindFit (2 * n.toNat) n.toNat d 1 (-1) := langford_kind n.toNat d (by omega) (by omega) (by omega) (by omega)
    have hr : ∀ x ∈ langfordRows n.toNat d, RowOk (2 * n.toNat) n.toNat d 1 (-1) x := fun x hx => (rowsOf_ok kf x).1 hx
    have hb : ∀ x ∈ langfordRows n.toNat d, x.reverse ∈ langfordRows n.toNat d := fun x hx => by
      have := (hr x hx).back (by omega)
      rw [if_neg (by omega)] at this
      exact (rowsOf_ok kf _).2 this
    have hs : (langfordRows n.toNat d).Pairwise LexLt := rowsOf_sorted (langford_fit n.toNat (by omega)) (by omega) (by omega)
    have ht := langford_there n d hnm hdm hok
    generalize hL : langfordRows n.toNat d = L at hr hs ht hb
    have q1 := laws_jRows.F_val (kindAll L).1 (kindAll L).1 (by have := kindAll_len (L := L); omega) (fun x hx => by have := (hr x (kindAll_mem hx)).len; omega)
    have q2 := laws_jSame.F_val (kindFirst L).1 (kindFirst L).1 (by
      rcases kindFirst_mem (L := L) with e | e
      · rw [e]; simp
      · have := (hr _ e).len; omega)
    rw [decide_eq_true rfl] at q1 q2
    have k2 := kindAll_two (L := L)
    have f2 := kindFirst_two (L := L)
    have ec : ((L.length : Int) ≤ 600) ↔ L.length ≤ 600 := by omega
    have ec2 : ((L.length : Int) > 0) ↔ 0 < L.length := by omega
    simp only [hn, impl_IsLangfordThere.F_val, impl_CountLangford.f_val, spec_CountLangford.f_val, impl_AllLangford.f_val, spec_AllLangford.f_val, impl_FirstLangford.f_val, spec_FirstLangford.f_val, countLangford, allLangford, firstLangford, if_pos hok, Option.bind_some, bne_self_eq_false, Bool.false_eq_true, if_false, if_true, ht, hL, kindCount, q1, q2, k2, f2, ec, ec2]
    by_cases h6 : L.length ≤ 600
    · rw [if_pos (decide_eq_true h6)]
      have e : (kindAll L).1 = L := by unfold kindAll; rw [if_pos h6]
      have en : n = ((n.toNat : Nat) : Int) := by omega
      rw [e]
      have := L0_val (N := n.toNat) (d := d) (by omega) (by omega) (by omega) h6 hr hb hs L.length 0 (by omega)
      rw [← en] at this
      exact this
    · rw [if_neg (by rw [decide_eq_false h6]; decide)]
  · simp only [hn, impl_IsLangfordThere.F_val, impl_CountLangford.f_val, spec_CountLangford.f_val, impl_AllLangford.f_val, spec_AllLangford.f_val, impl_FirstLangford.f_val, spec_FirstLangford.f_val, countLangford, allLangford, firstLangford, if_neg hok, Option.bind_some, bne_self_eq_false, Bool.false_eq_true, if_false, if_true]
    have q1 := laws_jRows.F_val [] [] (by simp) (by simp)
    have q2 := laws_jSame.F_val [] [] (by simp)
    rw [decide_eq_true rfl] at q1 q2
    simp only [q1, q2, Option.bind_some, if_true]
end Go.Proofs.Ytaohgllnoomaeaa.Pure
