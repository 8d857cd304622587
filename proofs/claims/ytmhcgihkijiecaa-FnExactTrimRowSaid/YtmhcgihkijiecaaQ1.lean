/- Rows: what IsRow and its like come to. Plain lemmas on lists; no condition but bounds on lengths. -/
import Derived.Test.YtmhcgihkijiecaaF17
import Derived.Test.YtmhcgihkijiecaaF19
import Derived.Test.YtmhcgihkijiecaaF23
import Derived.Test.YtmhcgihkijiecaaF24
import Derived.Test.YtmhcgihkijiecaaF48
import Derived.Test.YtmhcgihkijiecaaF49
import Derived.Test.YtmhcgihkijiecaaF50
import Derived.Test.YtmhcgihkijiecaaF51
import Derived.Test.YtmhcgihkijiecaaF52
import Derived.Test.YtmhcgihkijiecaaF53
import Derived.Test.YtmhcgihkijiecaaF62
import Derived.Test.YtmhcgihkijiecaaF76
import Derived.Test.YtmhcgihkijiecaaFW
import Derived.Test.YtmhcgihkijiecaaQ0
namespace Go.Proofs.Ytmhcgihkijiecaa.Fn
open Go.RowKit Go.Proofs.YtmhcgihkijiecaaW.PrintWords Go.Proofs.YtmhcgihkijiecaaW.PrintLast Go.Proofs.YtmhcgihkijiecaaW.PrintMore
set_option linter.unusedVariables false
set_option linter.unusedSimpArgs false
/-- A list of at most 40 numbers in 0..20. -/
def isRow (l : List Int) : Bool := decide (l.length ≤ 40) && l.all (fun x => decide (0 ≤ x) && decide (x ≤ 20))
theorem isRow_len {l : List Int} (h : isRow l = true) : l.length ≤ 40 := by
  unfold isRow at h
  simp only [Bool.and_eq_true, decide_eq_true_eq] at h
  exact h.1
theorem isRow_mem {l : List Int} (h : isRow l = true) {x : Int} (hx : x ∈ l) : 0 ≤ x ∧ x ≤ 20 := by
  unfold isRow at h
  simp only [Bool.and_eq_true, decide_eq_true_eq, List.all_eq_true] at h
  exact h.2 x hx
theorem slices_Clone_int_int.f_val (l : List Int) (h : l.length < 17592186044416) : slices_Clone_int_int.f l = some l := by
  unfold slices_Clone_int_int.f
  rw [if_pos h]
theorem spec_l1Own.f_val (l : List Int) (h : l.length < 17592186044416) : spec_l1Own.f l = some l := by
  unfold spec_l1Own.f
  simp [h]
theorem spec_l1In.f_val (a b c : Int) : spec_l1In.f a b c = some (decide (b ≤ a) && decide (a ≤ c)) := by
  unfold spec_l1In.f
  by_cases h : a ≥ b
  · rw [if_pos h]
    simp [show b ≤ a from h]
  · rw [if_neg h]
    simp [show ¬ b ≤ a from h]
theorem impl_IsRow.L0_val (l : List Int) : ∀ (suf pre : List Int), (pre ++ suf).length < 4611686018427387904 → impl_IsRow.L0 l (pre ++ suf) ((pre ++ suf).length : Int) (pre.length : Int) = some (suf.all (fun x => decide (0 ≤ x) && decide (x ≤ 20)) && decide (l.length ≤ 40))
  | [], pre, h => by
    rw [impl_IsRow.L0_eq, range_end]
    simp
    omega
  | x :: suf, pre, h => by
    rw [impl_IsRow.L0_eq, range_step, rd_mid, wrap_mid h]
    by_cases h1 : x < 0
    · have : ¬ 0 ≤ x := by omega
      rw [if_pos h1]
      simp [this]
    · have h1' : 0 ≤ x := by omega
      rw [if_neg h1]
      by_cases h2 : x > 20
      · have : ¬ x ≤ 20 := by omega
        rw [if_pos h2]
        simp [this]
      · have h2' : x ≤ 20 := by omega
        rw [if_neg h2, app_mid, impl_IsRow.L0_val l suf (pre ++ [x]) (by simpa using h)]
        simp [h1', h2']
theorem impl_IsRow.F_val (l : List Int) (h : l.length < 4611686018427387904) : impl_IsRow.F l = some (isRow l) := by
  rw [impl_IsRow.F_eq]
  have := impl_IsRow.L0_val l l [] (by simpa using h)
  simp only [List.nil_append, List.length_nil] at this
  rw [isRow, Bool.and_comm]
  exact this
theorem impl_madeRow.F_val (l : List Int) (h : l.length < 4611686018427387904) : impl_madeRow.F l = some (if isRow l = true then (l, true) else ([], false)) := by
  rw [impl_madeRow.F_eq, impl_IsRow.F_val l h]
  simp only [Option.bind_some]
  split <;> rfl
theorem spec_l1All.L0_val (a b : Int) : ∀ (suf pre : List Int), (pre ++ suf).length < 4611686018427387904 → spec_l1All.L0 a b (pre ++ suf) ((pre ++ suf).length : Int) (pre.length : Int) = some (suf.all (fun x => decide (a ≤ x) && decide (x ≤ b)))
  | [], pre, h => by
    rw [spec_l1All.L0_eq, range_end]
    simp
  | x :: suf, pre, h => by
    rw [spec_l1All.L0_eq, range_step, rd_mid, wrap_mid h, spec_l1In.f_val]
    simp only [Option.bind_some]
    by_cases h1 : (decide (a ≤ x) && decide (x ≤ b)) = true
    · rw [if_pos h1, app_mid, spec_l1All.L0_val a b suf (pre ++ [x]) (by simpa using h)]
      simp only [List.all_cons, h1, Bool.true_and]
    · rw [if_neg h1]
      simp only [List.all_cons, Bool.not_eq_true] at h1 ⊢
      rw [h1, Bool.false_and]
theorem spec_l1All.F_val (l : List Int) (a b : Int) (h : l.length < 4611686018427387904) : spec_l1All.F l a b = some (l.all (fun x => decide (a ≤ x) && decide (x ≤ b))) := by
  rw [spec_l1All.F_eq]
  have := spec_l1All.L0_val a b l [] (by simpa using h)
  simpa using this
theorem spec_roGood.F_val (l : List Int) (h : l.length < 4611686018427387904) : spec_roGood.F l = some (isRow l) := by
  rw [spec_roGood.F_eq]
  unfold isRow
  by_cases h1 : (l.length : Int) ≤ 40
  · rw [if_pos h1, spec_l1All.F_val l 0 20 h]
    have : l.length ≤ 40 := by omega
    simp [this]
  · rw [if_neg h1]
    have : ¬ l.length ≤ 40 := by omega
    simp [this]
theorem spec_hoIf.F_val (l : List Int) (h : l.length < 4611686018427387904) : spec_hoIf.F l = some (if isRow l = true then (l, true) else ([], false)) := by
  rw [spec_hoIf.F_eq, spec_roGood.F_val l h]
  simp only [Option.bind_some]
  split <;> rfl
/-- The places of two rows, one behind the other, if this is a row. -/
def joinRows (a b : List Int) : List Int × Bool := if isRow a = true ∧ isRow b = true ∧ isRow (a ++ b) = true then (a ++ b, true) else ([], false)
theorem joinRows_len (a b : List Int) : (joinRows a b).1.length ≤ 40 := by
  unfold joinRows
  split
  · rename_i h
    exact isRow_len h.2.2
  · simp
theorem impl_JoinRows.F_val (a b : List Int) (ha : a.length < 4611686018427387904) (hb : b.length < 4611686018427387904) : impl_JoinRows.F a b = some (joinRows a b) := by
  rw [impl_JoinRows.F_eq, impl_IsRow.F_val a ha]
  simp only [Option.bind_some]
  unfold joinRows
  by_cases h1 : isRow a = true
  · have l1 := isRow_len h1
    rw [if_pos h1, impl_IsRow.F_val b hb]
    simp only [Option.bind_some]
    rw [impl_JoinRows.J0_eq]
    by_cases h2 : isRow b = true
    · have l2 := isRow_len h2
      rw [if_neg (by simp [h2]), slices_Clone_int_int.f_val a (by omega)]
      simp only [Option.bind_some]
      rw [if_pos (by omega), impl_madeRow.F_val _ (by simp; omega)]
      simp only [Option.bind_some]
      by_cases h3 : isRow (a ++ b) = true
      · simp [h1, h2, h3]
      · simp [h3]
    · rw [if_pos (by simp [h2])]
      simp [h2]
  · rw [if_neg h1, impl_JoinRows.J0_eq, if_pos rfl]
    simp [h1]
theorem spec_JoinRows.F_val (a b : List Int) (ha : a.length < 4611686018427387904) (hb : b.length < 4611686018427387904) : spec_JoinRows.F a b = some (joinRows a b) := by
  rw [spec_JoinRows.F_eq, spec_roGood.F_val a ha]
  simp only [Option.bind_some]
  unfold joinRows
  by_cases h1 : isRow a = true
  · have l1 := isRow_len h1
    rw [if_pos h1, spec_roGood.F_val b hb]
    simp only [Option.bind_some]
    rw [spec_JoinRows.J0_eq]
    by_cases h2 : isRow b = true
    · have l2 := isRow_len h2
      rw [if_neg (by simp [h2]), spec_l1Own.f_val a (by omega)]
      simp only [Option.bind_some]
      rw [if_pos (by omega), spec_hoIf.F_val _ (by simp; omega)]
      simp only [Option.bind_some]
      by_cases h3 : isRow (a ++ b) = true
      · simp [h1, h2, h3]
      · simp [h3]
    · rw [if_pos (by simp [h2])]
      simp [h2]
  · rw [if_neg h1, spec_JoinRows.J0_eq, if_pos rfl]
    simp [h1]
/-- From the place i on: where the holes at the end begin. -/
def backTo (l : List Int) (i : Nat) : Nat → Nat
  | 0 => 0
  | j + 1 => if i < j + 1 ∧ rd l j = 0 then backTo l i j else j + 1
theorem backTo_le (l : List Int) (i : Nat) : ∀ j, backTo l i j ≤ j
  | 0 => Nat.le_refl _
  | j + 1 => by
    unfold backTo
    split
    · exact Nat.le_succ_of_le (backTo_le l i j)
    · exact Nat.le_refl _
theorem le_backTo (l : List Int) (i : Nat) : ∀ j, i ≤ j → i ≤ backTo l i j
  | 0, h => by simpa [backTo] using h
  | j + 1, h => by
    unfold backTo
    split
    · rename_i h1
      exact le_backTo l i j (by omega)
    · exact h
/-- Where the holes at the beginning end; n places are left to look at. -/
def frontTo (l : List Int) : Nat → Nat → Nat
  | i, 0 => i
  | i, n + 1 => if rd l i = 0 then frontTo l (i + 1) n else i
theorem frontTo_le (l : List Int) : ∀ n i, frontTo l i n ≤ i + n
  | 0, i => Nat.le_refl _
  | n + 1, i => by
    unfold frontTo
    split
    · have := frontTo_le l n (i + 1)
      omega
    · omega
/-- A row without the holes at its beginning and at its end. -/
def trimmed (l : List Int) : List Int := (l.take (backTo l (frontTo l 0 l.length) l.length)).drop (frontTo l 0 l.length)
def trimRow (l : List Int) : List Int × Bool := if isRow l = true then (trimmed l, true) else ([], false)
theorem trimRow_len (l : List Int) (h : l.length ≤ 4611686018427387904) : (trimRow l).1.length ≤ l.length := by
  unfold trimRow trimmed
  split
  · simp only [List.length_drop, List.length_take]
    omega
  · simp
theorem impl_TrimRow.L1_val (l : List Int) (hl : l.length ≤ 40) (i : Nat) : ∀ j, i ≤ j → j ≤ l.length → impl_TrimRow.L1 l (i : Int) (j : Int) = some ((l.take (backTo l i j)).drop i, true)
  | 0, h, hj => by
    obtain rfl : i = 0 := by omega
    rw [impl_TrimRow.L1_eq, if_neg (by omega), if_pos (by omega), if_pos (by omega), if_pos (by omega), slices_Clone_int_int.f_val _ (by simp)]
    simp [backTo]
  | j + 1, h, hj => by
    have e : wrap64 (((j + 1 : Nat) : Int) - 1) = (j : Int) := by rw [wrap_in (by omega) (by omega)]; omega
    rw [impl_TrimRow.L1_eq]
    by_cases h1 : i < j + 1
    · rw [if_pos (by omega), e, if_pos (by omega), if_pos (by omega)]
      by_cases h2 : rd l j = 0
      · rw [if_pos h2, impl_TrimRow.L1_val l hl i j (by omega) (by omega)]
        simp [backTo, h1, h2]
      · rw [if_neg h2, if_pos (by omega), if_pos (by omega), if_pos (by omega), slices_Clone_int_int.f_val _ (by simp; omega)]
        (simp [backTo, h2] <;> omega)
    · rw [if_neg (by omega), if_pos (by omega), if_pos (by omega), if_pos (by omega), slices_Clone_int_int.f_val _ (by simp; omega)]
      (simp [backTo, h1] <;> omega)
theorem impl_TrimRow.L0_val (l : List Int) (hl : l.length ≤ 40) : ∀ n i, i + n = l.length → impl_TrimRow.L0 l (i : Int) (l.length : Int) = some ((l.take (backTo l (frontTo l i n) l.length)).drop (frontTo l i n), true)
  | 0, i, h => by
    rw [impl_TrimRow.L0_eq, if_neg (by omega), impl_TrimRow.J1_eq, impl_TrimRow.L1_val l hl i l.length (by omega) (by omega)]
    simp [frontTo]
  | n + 1, i, h => by
    have e : wrap64 ((i : Int) + 1) = ((i + 1 : Nat) : Int) := by rw [wrap_in (by omega) (by omega)]; omega
    rw [impl_TrimRow.L0_eq, if_pos (by omega), if_pos (by omega), if_pos (by omega)]
    by_cases h2 : rd l i = 0
    · rw [if_pos h2, e, impl_TrimRow.L0_val l hl n (i + 1) (by omega)]
      simp [frontTo, h2]
    · rw [if_neg h2, impl_TrimRow.J1_eq, impl_TrimRow.L1_val l hl i l.length (by omega) (by omega)]
      simp [frontTo, h2]
theorem impl_TrimRow.F_val (l : List Int) (h : l.length < 4611686018427387904) : impl_TrimRow.F l = some (trimRow l) := by
  rw [impl_TrimRow.F_eq, impl_IsRow.F_val l h]
  simp only [Option.bind_some]
  unfold trimRow
  split
  · rename_i h1
    exact impl_TrimRow.L0_val l (isRow_len h1) l.length 0 (by omega)
  · rfl
theorem spec_TrimRow.L1_val (l : List Int) (hl : l.length ≤ 40) (i : Nat) : ∀ j, i ≤ j → j ≤ l.length → spec_TrimRow.L1 l (i : Int) (j : Int) = some ((l.take (backTo l i j)).drop i, true)
  | 0, h, hj => by
    obtain rfl : i = 0 := by omega
    rw [spec_TrimRow.L1_eq, if_neg (by omega), if_pos (by omega), if_pos (by omega), if_pos (by omega), spec_l1Own.f_val _ (by simp)]
    simp [backTo]
  | j + 1, h, hj => by
    have e : wrap64 (((j + 1 : Nat) : Int) - 1) = (j : Int) := by rw [wrap_in (by omega) (by omega)]; omega
    rw [spec_TrimRow.L1_eq]
    by_cases h1 : i < j + 1
    · rw [if_pos (by omega), e, if_pos (by omega), if_pos (by omega)]
      by_cases h2 : rd l j = 0
      · rw [if_pos h2, spec_TrimRow.L1_val l hl i j (by omega) (by omega)]
        simp [backTo, h1, h2]
      · rw [if_neg h2, if_pos (by omega), if_pos (by omega), if_pos (by omega), spec_l1Own.f_val _ (by simp; omega)]
        (simp [backTo, h2] <;> omega)
    · rw [if_neg (by omega), if_pos (by omega), if_pos (by omega), if_pos (by omega), spec_l1Own.f_val _ (by simp; omega)]
      (simp [backTo, h1] <;> omega)
theorem spec_TrimRow.L0_val (l : List Int) (hl : l.length ≤ 40) : ∀ n i, i + n = l.length → spec_TrimRow.L0 l (i : Int) (l.length : Int) = some ((l.take (backTo l (frontTo l i n) l.length)).drop (frontTo l i n), true)
  | 0, i, h => by
    rw [spec_TrimRow.L0_eq, if_neg (by omega), spec_TrimRow.J1_eq, spec_TrimRow.L1_val l hl i l.length (by omega) (by omega)]
    simp [frontTo]
  | n + 1, i, h => by
    have e : wrap64 ((i : Int) + 1) = ((i + 1 : Nat) : Int) := by rw [wrap_in (by omega) (by omega)]; omega
    rw [spec_TrimRow.L0_eq, if_pos (by omega), if_pos (by omega), if_pos (by omega)]
    by_cases h2 : rd l i = 0
    · rw [if_pos h2, e, spec_TrimRow.L0_val l hl n (i + 1) (by omega)]
      simp [frontTo, h2]
    · rw [if_neg h2, spec_TrimRow.J1_eq, spec_TrimRow.L1_val l hl i l.length (by omega) (by omega)]
      simp [frontTo, h2]
theorem spec_TrimRow.F_val (l : List Int) (h : l.length < 4611686018427387904) : spec_TrimRow.F l = some (trimRow l) := by
  rw [spec_TrimRow.F_eq, spec_roGood.F_val l h]
  simp only [Option.bind_some]
  unfold trimRow
  split
  · rename_i h1
    exact spec_TrimRow.L0_val l (isRow_len h1) l.length 0 (by omega)
  · rfl
end Go.Proofs.Ytmhcgihkijiecaa.Fn
