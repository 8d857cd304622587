/- What the laws' helper functions come to: copies, comparisons, marks. Plain lemmas on lists; no condition but bounds on lengths. -/
import Derived.Test.YtmhcgihkijiecaaF18
import Derived.Test.YtmhcgihkijiecaaF20
import Derived.Test.YtmhcgihkijiecaaF21
import Derived.Test.YtmhcgihkijiecaaF22
import Derived.Test.YtmhcgihkijiecaaFW
namespace Go.Proofs.Ytmhcgihkijiecaa.Fn
open Go.RowKit Go.Proofs.YtmhcgihkijiecaaW.PrintWords Go.Proofs.YtmhcgihkijiecaaW.PrintLast Go.Proofs.YtmhcgihkijiecaaW.PrintMore
set_option linter.unusedVariables false
set_option linter.unusedSimpArgs false
theorem laws_toIntS.L0_val : ∀ (suf pre junk : List Int), (pre ++ suf).length < 4611686018427387904 → junk.length = suf.length → laws_toIntS.L0 (pre ++ suf) (pre ++ junk) (pre.length : Int) = some (pre ++ suf)
  | [], pre, junk, h, hj => by
    obtain rfl : junk = [] := List.eq_nil_of_length_eq_zero hj
    rw [laws_toIntS.L0_eq, range_end]
  | x :: suf, pre, j :: junk, h, hj => by
    have hj' : junk.length = suf.length := by simpa using hj
    have h1 : (pre.length : Int) < ((pre ++ x :: suf).length : Int) := by rw [List.length_append, List.length_cons]; omega
    have h2 : (pre.length : Int) < ((pre ++ j :: junk).length : Int) := by rw [List.length_append, List.length_cons]; omega
    have ih := laws_toIntS.L0_val suf (pre ++ [x]) junk (by simpa using h) hj'
    rw [laws_toIntS.L0_eq, if_pos h1, if_pos (by omega), if_pos h2, rd_mid, wrap_mid h]
    have e : (pre ++ j :: junk).set ((pre.length : Int)).toNat x = (pre ++ [x]) ++ junk := by simp
    rw [e, app_mid]
    exact ih
theorem laws_toIntS.F_val (l : List Int) (h : l.length ≤ 35184372088832) : laws_toIntS.F l = some l := by
  rw [laws_toIntS.F_eq, if_pos (by omega), if_pos (by simpa using h)]
  have := laws_toIntS.L0_val l [] (List.replicate l.length 0) (by simp; omega) (by simp)
  simpa using this
theorem laws_eqIntS.L0_val : ∀ (sa pre sb : List Int), (pre ++ sa).length < 4611686018427387904 → sa.length = sb.length → laws_eqIntS.L0 (pre ++ sa) (pre ++ sb) (pre.length : Int) = some (decide (sa = sb))
  | [], pre, sb, h, hj => by
    obtain rfl : sb = [] := List.eq_nil_of_length_eq_zero hj.symm
    rw [laws_eqIntS.L0_eq, range_end]
    simp
  | x :: sa, pre, y :: sb, h, hj => by
    have h1 : (pre.length : Int) < ((pre ++ x :: sa).length : Int) := by rw [List.length_append, List.length_cons]; omega
    have h2 : (pre.length : Int) < ((pre ++ y :: sb).length : Int) := by rw [List.length_append, List.length_cons]; omega
    rw [laws_eqIntS.L0_eq, if_pos h1, if_pos (by omega), if_pos h2, rd_mid, rd_mid, wrap_mid h]
    by_cases e : x = y
    · subst e
      rw [if_pos rfl, app_mid pre x sa, app_mid pre x sb, laws_eqIntS.L0_val sa (pre ++ [x]) sb (by simpa using h) (by simpa using hj)]
      simp
    · rw [if_neg e]
      simp [e]
theorem laws_eqIntS.F_val (a b : List Int) (h : a.length < 4611686018427387904) : laws_eqIntS.F a b = some (decide (a = b)) := by
  rw [laws_eqIntS.F_eq]
  by_cases e : (a.length : Int) = (b.length : Int)
  · rw [if_pos e]
    have := laws_eqIntS.L0_val a [] b (by simpa using h) (by omega)
    simpa using this
  · rw [if_neg e]
    have : ¬ a = b := fun hab => e (by rw [hab])
    simp [this]
theorem laws_eqIntS.F_same (a : List Int) (h : a.length < 4611686018427387904) : laws_eqIntS.F a a = some true := by
  rw [laws_eqIntS.F_val a a h]
  simp
/-- The numbers k, k + 1, .., n of them. -/
def marks : Nat → Int → List Int
  | 0, _ => []
  | n + 1, k => k :: marks n (k + 1)
theorem marks_length : ∀ n k, (marks n k).length = n
  | 0, _ => rfl
  | n + 1, k => by simp [marks, marks_length n]
theorem laws_markIntS.L0_val : ∀ (suf pre : List Int) (k : Int), (pre ++ suf).length < 4611686018427387904 → 0 ≤ k → k + suf.length < 4611686018427387904 → laws_markIntS.L0 (pre ++ suf) k (pre.length : Int) = some (k + suf.length, pre ++ marks suf.length k)
  | [], pre, k, h, h0, hk => by
    rw [laws_markIntS.L0_eq, range_end]
    simp [marks]
  | x :: suf, pre, k, h, h0, hk => by
    have h1 : (pre.length : Int) < ((pre ++ x :: suf).length : Int) := by rw [List.length_append, List.length_cons]; omega
    have hk' : k + (suf.length + 1 : Nat) < 4611686018427387904 := by simpa using hk
    rw [laws_markIntS.L0_eq, if_pos h1, if_pos (by omega), wrap_mid h, wrap_in (n := k + 1) (by omega) (by omega)]
    have e : (pre ++ x :: suf).set ((pre.length : Int)).toNat k = (pre ++ [k]) ++ suf := by simp
    have el : ((pre ++ [x]).length : Int) = ((pre ++ [k]).length : Int) := by simp
    rw [e, el, laws_markIntS.L0_val suf (pre ++ [k]) (k + 1) (by simpa using h) (by omega) (by omega)]
    simp [marks]
    omega
theorem laws_markIntS.F_val (l : List Int) (k : Int) (h0 : 0 ≤ k) (hk : k + l.length < 4611686018427387904) : laws_markIntS.F l k = some (k + l.length, marks l.length k) := by
  rw [laws_markIntS.F_eq]
  have := laws_markIntS.L0_val l [] k (by simp; omega) h0 hk
  simpa using this
theorem laws_heldIntS.L0_val : ∀ (n : Nat) (pre : List Int) (k : Int), pre.length + n < 4611686018427387904 → 0 ≤ k → k + n < 4611686018427387904 → laws_heldIntS.L0 (pre ++ marks n k) k (pre.length : Int) = some (k + n)
  | 0, pre, k, h, h0, hk => by
    rw [laws_heldIntS.L0_eq, marks, range_end]
    simp
  | n + 1, pre, k, h, h0, hk => by
    have h1 : (pre.length : Int) < ((pre ++ k :: marks n (k + 1)).length : Int) := by rw [List.length_append, List.length_cons]; omega
    have h2 : (pre ++ k :: marks n (k + 1)).length < 4611686018427387904 := by rw [List.length_append, List.length_cons, marks_length]; omega
    rw [laws_heldIntS.L0_eq, marks, if_pos h1, if_pos (by omega), rd_mid, if_pos rfl, wrap_mid h2, wrap_in (n := k + 1) (by omega) (by omega), app_mid, laws_heldIntS.L0_val n (pre ++ [k]) (k + 1) (by simp; omega) (by omega) (by omega)]
    congr 1
    omega
theorem laws_heldIntS.F_val (n : Nat) (k : Int) (h0 : 0 ≤ k) (hk : k + n < 4611686018427387904) : laws_heldIntS.F (marks n k) k = some (k + n) := by
  rw [laws_heldIntS.F_eq]
  have := laws_heldIntS.L0_val n [] k (by simp; omega) h0 hk
  simpa using this
end Go.Proofs.Ytmhcgihkijiecaa.Fn
