/- The machine's side and plain lemmas for FnCirclesDiffer: texts of this session, merged by its program (part 7). -/
import Derived.Test.YtofjndbpndpjjaaMFnCirclesDiffer0
import Derived.Test.YtofjndbpndpjjaaMFnCirclesDiffer1
import Derived.Test.YtofjndbpndpjjaaMFnCirclesDiffer2
import Derived.Test.YtofjndbpndpjjaaMFnCirclesDiffer3
import Derived.Test.YtofjndbpndpjjaaMFnCirclesDiffer4
import Derived.Test.YtofjndbpndpjjaaMFnCirclesDiffer5
import Derived.Test.YtofjndbpndpjjaaMFnCirclesDiffer6
namespace Go.Proofs.Ytofjndbpndpjjaa.Fn
open Go.RowKit Go.Proofs.YtofjndbpndpjjaaW.PrintWords Go.Proofs.YtofjndbpndpjjaaW.PrintLast Go.Proofs.YtofjndbpndpjjaaW.PrintMore
set_option linter.unusedVariables false
set_option linter.unusedSimpArgs false
/-- The numbers k, k + 1, .., n of them. -/
def marks : Nat → Int → List Int
  | 0, _ => []
  | n + 1, k => k :: marks n (k + 1)
theorem marks_length : ∀ n k, (marks n k).length = n
  | 0, _ => rfl
  | n + 1, k => by simp [marks, marks_length n]
end Go.Proofs.Ytofjndbpndpjjaa.Fn
namespace Go.Proofs.Ytofjndbpndpjjaa.Fn
open Go.RowKit Go.Proofs.YtofjndbpndpjjaaW.PrintWords Go.Proofs.YtofjndbpndpjjaaW.PrintLast Go.Proofs.YtofjndbpndpjjaaW.PrintMore
set_option linter.unusedVariables false
set_option linter.unusedSimpArgs false
theorem spec_l1In.f_val (a b c : Int) : spec_l1In.f a b c = some (decide (b ≤ a) && decide (a ≤ c)) := by
  unfold spec_l1In.f
  by_cases h : a ≥ b
  · rw [if_pos h]
    simp [show b ≤ a from h]
  · rw [if_neg h]
    simp [show ¬ b ≤ a from h]
theorem spec_l1All.L0_val (a b : Int) : ∀ (suf pre : List Int), (pre ++ suf).length < 4611686018427387904 → spec_l1All.L0 a b (pre ++ suf) ((pre ++ suf).length : Int) (pre.length : Int) = some (suf.all (fun x => decide (a ≤ x) && decide (x ≤ b)))
  | [], pre, h => by
    rw [spec_l1All.L0_eq, range_end]
    simp
  | x :: suf, pre, h => by
    rw [spec_l1All.L0_eq, range_step, rd_mid, wrap_mid h, spec_l1In.f_val]
    simp only [Option.bind_some]
    by_cases h1 : (decide (a ≤ x) && decide (x ≤ b)) = true
    · rw [if_pos h1, app_mid, spec_l1All.L0_val a b suf (pre ++ [x]) (by simpa using h)]
      simp only [List.all_cons, h1, Bool.true_and]
    · rw [if_neg h1]
      simp only [List.all_cons, Bool.not_eq_true] at h1 ⊢
      rw [h1, Bool.false_and]
theorem spec_l1All.F_val (l : List Int) (a b : Int) (h : l.length < 4611686018427387904) : spec_l1All.F l a b = some (l.all (fun x => decide (a ≤ x) && decide (x ≤ b))) := by
  rw [spec_l1All.F_eq]
  have := spec_l1All.L0_val a b l [] (by simpa using h)
  simpa using this
end Go.Proofs.Ytofjndbpndpjjaa.Fn
namespace Go.Proofs.Ytofjndbpndpjjaa.Fn
open Go.RowKit Go.Proofs.YtofjndbpndpjjaaW.PrintWords Go.Proofs.YtofjndbpndpjjaaW.PrintLast Go.Proofs.YtofjndbpndpjjaaW.PrintMore
set_option linter.unusedVariables false
set_option linter.unusedSimpArgs false
theorem spec_l1Has.L0_val (n : Int) : ∀ (suf pre : List Int), (pre ++ suf).length < 4611686018427387904 → spec_l1Has.L0 n (pre ++ suf) ((pre ++ suf).length : Int) (pre.length : Int) = some (decide (n ∈ suf))
  | [], pre, h => by
    rw [spec_l1Has.L0_eq, range_end]
    simp
  | x :: suf, pre, h => by
    rw [spec_l1Has.L0_eq, range_step, rd_mid, wrap_mid h, app_mid pre x suf, spec_l1Has.L0_val n suf (pre ++ [x]) (by simpa using h)]
    by_cases h1 : x = n
    · rw [if_pos h1]
      simp [h1]
    · rw [if_neg h1]
      have : ¬ n = x := fun h => h1 h.symm
      simp [this]
theorem spec_l1Has.F_val (l : List Int) (n : Int) (h : l.length < 4611686018427387904) : spec_l1Has.F l n = some (decide (n ∈ l)) := by
  rw [spec_l1Has.F_eq]
  have := spec_l1Has.L0_val n l [] (by simpa using h)
  simpa using this
/-- The first place of a number, the first one counted as i; -1 where it does not stand. -/
def indexFrom (n : Int) : Nat → List Int → Int
  | _, [] => -1
  | i, x :: l => if n = x then (i : Int) else indexFrom n (i + 1) l
theorem indexFrom_mem (n : Int) : ∀ (l : List Int) (i : Nat), 0 ≤ indexFrom n i l ↔ n ∈ l
  | [], i => by simp [indexFrom]
  | x :: l, i => by
    have ih := indexFrom_mem n l (i + 1)
    by_cases h : n = x
    · simp [indexFrom, h]
    · simp [indexFrom, h, ih]
theorem slices_Index_int_int.L0_val (n : Int) : ∀ (suf pre : List Int), (pre ++ suf).length < 4611686018427387904 → slices_Index_int_int.L0 (pre ++ suf) n ((pre ++ suf).length : Int) (pre.length : Int) = some (indexFrom n pre.length suf)
  | [], pre, h => by
    rw [slices_Index_int_int.L0_eq, range_end]
    rfl
  | x :: suf, pre, h => by
    have e : (pre ++ [x]).length = pre.length + 1 := by simp
    rw [slices_Index_int_int.L0_eq, range_step, rd_mid, wrap_mid h, app_mid pre x suf, slices_Index_int_int.L0_val n suf (pre ++ [x]) (by simpa using h), e, indexFrom]
    split <;> rfl
theorem slices_Index_int_int.F_val (l : List Int) (n : Int) (h : l.length < 4611686018427387904) : slices_Index_int_int.F l n = some (indexFrom n 0 l) := by
  rw [slices_Index_int_int.F_eq]
  have := slices_Index_int_int.L0_val n l [] (by simpa using h)
  simpa using this
theorem slices_Contains_int_int.F_val (l : List Int) (n : Int) (h : l.length < 4611686018427387904) : slices_Contains_int_int.F l n = some (decide (n ∈ l)) := by
  rw [slices_Contains_int_int.F_eq, slices_Index_int_int.F_val l n h]
  simp only [Option.bind_some]
  have := indexFrom_mem n l 0
  congr 1
  rw [decide_eq_decide]
  exact this
end Go.Proofs.Ytofjndbpndpjjaa.Fn
namespace Go.Proofs.Ytofjndbpndpjjaa.Fn
open Go.RowKit Go.Proofs.YtofjndbpndpjjaaW.PrintWords Go.Proofs.YtofjndbpndpjjaaW.PrintLast Go.Proofs.YtofjndbpndpjjaaW.PrintMore
set_option linter.unusedVariables false
set_option linter.unusedSimpArgs false
theorem impl_isCircle.f_val (v : Int) : impl_isCircle.f v = some (decide (2 ≤ v ∧ v ≤ 31)) := by
  unfold impl_isCircle.f
  by_cases h : v ≥ 2
  · rw [if_pos h]
    congr 1
    rw [decide_eq_decide]
    omega
  · rw [if_neg h]
    congr 1
    rw [eq_comm, decide_eq_false_iff_not]
    omega
/-- Points of a circle, growing. -/
def growing : List Int → Bool
  | [] => true
  | [_] => true
  | x :: y :: l => decide (x < y) && growing (y :: l)
def isCircleSet (v : Int) (l : List Int) : Bool := decide (2 ≤ v ∧ v ≤ 31) && decide (1 ≤ l.length ∧ l.length ≤ 8) && decide ((l.length : Int) < v) && l.all (fun x => decide (0 ≤ x ∧ x < v)) && growing l
theorem isCircleSet_parts {v : Int} {l : List Int} (h : isCircleSet v l = true) : (2 ≤ v ∧ v ≤ 31) ∧ (1 ≤ l.length ∧ l.length ≤ 8) ∧ (l.length : Int) < v ∧ (∀ x ∈ l, 0 ≤ x ∧ x < v) ∧ growing l = true := by
  simp only [isCircleSet, Bool.and_eq_true, decide_eq_true_eq, List.all_eq_true] at h
  obtain ⟨⟨⟨⟨h1, h2⟩, h3⟩, h4⟩, h5⟩ := h
  exact ⟨h1, h2, h3, h4, h5⟩
theorem growing_snoc : ∀ (l : List Int) (x y : Int), growing (l ++ [x, y]) = (growing (l ++ [x]) && decide (x < y))
  | [], x, y => by simp [growing]
  | [z], x, y => by simp [growing]
  | z :: u :: l, x, y => by
    have ih := growing_snoc (u :: l) x y
    simp only [List.cons_append, growing] at ih ⊢
    rw [ih, Bool.and_assoc]
theorem growing_sorted : ∀ (l : List Int), growing l = true → l.Pairwise (· < ·)
  | [], _ => List.Pairwise.nil
  | [x], _ => by simp
  | x :: y :: l, h => by
    simp only [growing, Bool.and_eq_true, decide_eq_true_eq] at h
    have ih := growing_sorted (y :: l) h.2
    refine List.pairwise_cons.2 ⟨fun z hz => ?_, ih⟩
    rcases List.mem_cons.1 hz with rfl | hz
    · exact h.1
    · exact Int.lt_trans h.1 ((List.pairwise_cons.1 ih).1 z hz)
/-- From the place behind pre on: no point out of the circle, none behind a greater one. -/
theorem impl_IsCircleSet.L0_val (v : Int) (l : List Int) (hl : l.length < 4611686018427387904) : ∀ (suf pre : List Int), l = pre ++ suf → growing pre = true → impl_IsCircleSet.L0 v l l (l.length : Int) (pre.length : Int) = some (suf.all (fun x => decide (0 ≤ x ∧ x < v)) && growing l)
  | [], pre, e, hg => by
    subst e
    rw [impl_IsCircleSet.L0_eq, if_neg (by simp)]
    simp [hg]
  | x :: suf, pre, e, hg => by
    have hrd : rd l (pre.length : Int) = x := by rw [e, rd_mid]
    have hlen : pre.length < l.length := by rw [e]; simp
    have hw : wrap64 ((pre.length : Int) + 1) = ((pre ++ [x]).length : Int) := by rw [wrap_in (by omega) (by omega)]; simp
    rw [impl_IsCircleSet.L0_eq, if_pos (by omega), if_pos (by omega), if_pos (by omega), hrd, hw]
    by_cases h1 : x < 0
    · rw [if_pos h1]
      simp [show ¬ (0 ≤ x ∧ x < v) by omega]
    · rw [if_neg h1]
      by_cases h2 : x ≥ v
      · rw [if_pos h2]
        simp [show ¬ (0 ≤ x ∧ x < v) by omega]
      · rw [if_neg h2]
        have h3 : decide (0 ≤ x ∧ x < v) = true := decide_eq_true (by omega)
        rcases List.eq_nil_or_concat pre with hp | ⟨p, y, hp⟩
        · subst hp
          rw [if_neg (by simp), impl_IsCircleSet.L0_val v l hl suf ([] ++ [x]) (by simpa using e) (by simp [growing]), List.all_cons, h3, Bool.true_and]
        · have hp' : pre = p ++ [y] := by simpa using hp
          have hpl : pre.length = p.length + 1 := by rw [hp']; simp
          have hw2 : wrap64 ((pre.length : Int) - 1) = (p.length : Int) := by rw [wrap_in (by omega) (by omega)]; omega
          have hry : rd l (p.length : Int) = y := by rw [e, hp', List.append_assoc, List.singleton_append, rd_mid]
          rw [if_pos (by omega), hw2, if_pos (by omega), if_pos (by omega), hry]
          by_cases h4 : y ≥ x
          · rw [if_pos h4]
            have h5 : growing l = false := by
              rw [Bool.eq_false_iff]
              intro hgl
              have hs := growing_sorted l hgl
              rw [e, hp', List.append_assoc] at hs
              have := (List.pairwise_append.1 hs).2.1
              simp at this
              omega
            rw [h5, Bool.and_false]
          · rw [if_neg h4, impl_IsCircleSet.L0_val v l hl suf (pre ++ [x]) (by rw [e]; simp) (by rw [hp', List.append_assoc]; simp only [List.singleton_append]; rw [growing_snoc, ← hp', hg]; simp; omega), List.all_cons, h3, Bool.true_and]
theorem impl_IsCircleSet.F_val (v : Int) (l : List Int) (h : l.length < 4611686018427387904) : impl_IsCircleSet.F v l = some (isCircleSet v l) := by
  have hL := impl_IsCircleSet.L0_val v l h l [] (by simp) rfl
  rw [impl_IsCircleSet.F_eq, impl_isCircle.f_val]
  simp only [Option.bind_some, impl_IsCircleSet.J0_eq]
  unfold isCircleSet
  by_cases h1 : 2 ≤ v ∧ v ≤ 31
  · rw [if_pos (by simpa using h1), decide_eq_true h1]
    by_cases h2 : (l.length : Int) < 1
    · rw [if_pos h2, if_pos (by trivial), decide_eq_false (show ¬ (1 ≤ l.length ∧ l.length ≤ 8) by omega)]
      simp
    · rw [if_neg h2]
      by_cases h3 : (l.length : Int) > 8
      · rw [if_pos h3, if_pos (by trivial), decide_eq_false (show ¬ (1 ≤ l.length ∧ l.length ≤ 8) by omega)]
        simp
      · rw [if_neg h3, decide_eq_true (show (1 ≤ l.length ∧ l.length ≤ 8) by omega)]
        by_cases h4 : (l.length : Int) ≥ v
        · rw [if_pos (by simpa using h4), decide_eq_false (show ¬ (l.length : Int) < v by omega)]
          simp
        · rw [if_neg (by simpa using h4), decide_eq_true (show (l.length : Int) < v by omega)]
          simpa using hL
  · rw [if_neg (by simpa using h1), if_pos (by trivial), decide_eq_false h1]
    simp
theorem spec_ciGood.L0_val (l : List Int) (hl : l.length < 4611686018427387904) : ∀ (suf pre : List Int) (y : Int), l = pre ++ y :: suf → growing (pre ++ [y]) = true → spec_ciGood.L0 l ((pre.length : Int) + 1) = some (growing l)
  | [], pre, y, e, hg => by
    have hlen : l.length = pre.length + 1 := by rw [e]; simp
    rw [spec_ciGood.L0_eq, if_neg (by omega), e, hg]
  | x :: suf, pre, y, e, hg => by
    have hlen : pre.length + 1 < l.length := by rw [e]; simp
    have hy : rd l (pre.length : Int) = y := by rw [e, rd_mid]
    have hx : rd l ((pre.length : Int) + 1) = x := by
      have h := rd_mid (pre ++ [y]) x suf
      rw [List.length_append, List.length_singleton, List.append_assoc, List.singleton_append, ← e] at h
      rw [← h]
      rfl
    have hw1 : wrap64 ((pre.length : Int) + 1 - 1) = (pre.length : Int) := by rw [wrap_in (by omega) (by omega)]; omega
    have hw2 : wrap64 ((pre.length : Int) + 1 + 1) = ((pre ++ [y]).length : Int) + 1 := by rw [wrap_in (by omega) (by omega)]; simp
    rw [spec_ciGood.L0_eq, if_pos (by omega), hw1, if_pos (by omega), if_pos (by omega), if_pos (by omega), hy, hx, hw2]
    by_cases h4 : y ≥ x
    · rw [if_pos h4]
      have h5 : growing l = false := by
        rw [Bool.eq_false_iff]
        intro hgl
        have hs := growing_sorted l hgl
        rw [e] at hs
        have := (List.pairwise_append.1 hs).2.1
        simp at this
        omega
      rw [h5]
    · rw [if_neg h4, spec_ciGood.L0_val l hl suf (pre ++ [y]) x (by rw [e]; simp) (by rw [List.append_assoc, List.singleton_append, growing_snoc, hg]; simp; omega)]
theorem spec_ciGood.F_val (v : Int) (l : List Int) (h : l.length < 4611686018427387904) : spec_ciGood.F v l = some (isCircleSet v l) := by
  rw [spec_ciGood.F_eq, spec_l1In.f_val, spec_l1In.f_val]
  simp only [Option.bind_some, spec_ciGood.J0_eq]
  unfold isCircleSet
  by_cases h1 : 2 ≤ v ∧ v ≤ 31
  · rw [if_pos (by simpa using h1), decide_eq_true h1]
    by_cases h2 : 1 ≤ l.length ∧ l.length ≤ 8
    · rw [if_pos (by simp; omega), decide_eq_true h2]
      by_cases h4 : (l.length : Int) ≥ v
      · rw [if_pos h4, if_pos (by trivial), decide_eq_false (show ¬ (l.length : Int) < v by omega)]
        simp
      · rw [if_neg h4, decide_eq_true (show (l.length : Int) < v by omega), wrap_in (n := v - 1) (by omega) (by omega), spec_l1All.F_val l 0 (v - 1) h]
        simp only [Option.bind_some]
        have e1 : (l.all fun x => decide (0 ≤ x) && decide (x ≤ v - 1)) = l.all (fun x => decide (0 ≤ x ∧ x < v)) := by
          congr 1
          funext x
          rw [← Bool.decide_and, decide_eq_decide]
          omega
        rw [e1]
        by_cases h5 : l.all (fun x => decide (0 ≤ x ∧ x < v)) = true
        · rw [h5, if_neg (by simp)]
          cases l with
          | nil => simp at h2
          | cons y suf =>
            have := spec_ciGood.L0_val (y :: suf) h suf [] y (by simp) rfl
            simp at this ⊢
            exact this
        · rw [Bool.eq_false_iff.2 h5, if_pos (by simp)]
          simp
    · rw [if_neg (by simp; omega), if_pos (by trivial), decide_eq_false h2]
      simp
  · rw [if_neg (by simp; omega), if_pos (by trivial), decide_eq_false h1]
    simp
/-- The points k times x and m behind. -/
def residues (v k m : Int) (l : List Int) : List Int := l.map fun x => Int.tmod (x * k + m) v
/-- The points of a circle that are in a list, growing. -/
def pointsOf (v : Int) (r : List Int) : List Int := ((List.range v.toNat).map fun n : Nat => (n : Int)).filter fun x => decide (x ∈ r)
theorem sorted_ext : ∀ (a b : List Int), a.Pairwise (· < ·) → b.Pairwise (· < ·) → (∀ x, x ∈ a ↔ x ∈ b) → a = b
  | [], [], _, _, _ => rfl
  | [], y :: b, _, _, h => by have := (h y).2 (by simp); cases this
  | x :: a, [], _, _, h => by have := (h x).1 (by simp); cases this
  | x :: a, y :: b, ha, hb, h => by
    obtain ⟨ha1, ha2⟩ := List.pairwise_cons.1 ha
    obtain ⟨hb1, hb2⟩ := List.pairwise_cons.1 hb
    have hxy : x = y := by
      have h1 := (h x).1 (by simp)
      have h2 := (h y).2 (by simp)
      rcases List.mem_cons.1 h1 with e | h1
      · exact e
      · rcases List.mem_cons.1 h2 with e | h2
        · exact e.symm
        · have := hb1 x h1
          have := ha1 y h2
          omega
    subst hxy
    congr 1
    refine sorted_ext a b ha2 hb2 fun z => ⟨fun hz => ?_, fun hz => ?_⟩
    · rcases List.mem_cons.1 ((h z).1 (by simp [hz])) with e | h1
      · have := ha1 z hz
        omega
      · exact h1
    · rcases List.mem_cons.1 ((h z).2 (by simp [hz])) with e | h1
      · have := hb1 z hz
        omega
      · exact h1
theorem pointsOf_sorted (v : Int) (r : List Int) : (pointsOf v r).Pairwise (· < ·) := by
  unfold pointsOf
  refine List.Pairwise.filter _ ?_
  rw [List.pairwise_map]
  exact List.pairwise_lt_range.imp (fun h => by omega)
theorem mem_pointsOf {v : Int} {r : List Int} (hr : ∀ x ∈ r, 0 ≤ x ∧ x < v) (x : Int) : x ∈ pointsOf v r ↔ x ∈ r := by
  unfold pointsOf
  rw [List.mem_filter, List.mem_map, decide_eq_true_eq]
  constructor
  · exact fun h => h.2
  · intro h
    have := hr x h
    exact ⟨⟨x.toNat, List.mem_range.2 (by omega), by omega⟩, h⟩
theorem residues_bound {v k m : Int} {l : List Int} (hv : 0 < v) (h : ∀ x ∈ l, 0 ≤ x * k + m) : ∀ x ∈ residues v k m l, 0 ≤ x ∧ x < v := by
  intro x hx
  obtain ⟨y, hy, rfl⟩ := List.mem_map.1 hx
  have := h y hy
  exact ⟨Int.tmod_nonneg _ this, Int.tmod_lt_of_pos _ hv⟩
theorem sortInt_sorted {r : List Int} (hn : r.Nodup) : (sortInt r).Pairwise (· < ·) := by
  have h1 : (sortInt r).Pairwise fun x y => decide (x ≤ y) = true := by
    unfold sortInt
    exact List.pairwise_mergeSort (fun a b c h1 h2 => by simp only [decide_eq_true_eq] at h1 h2 ⊢; omega) (fun a b => by simp only [Bool.or_eq_true, decide_eq_true_eq]; omega) r
  have h2 : (sortInt r).Nodup := (List.mergeSort_perm r _).nodup_iff.2 hn
  have h3 := List.Pairwise.and h1 h2
  exact h3.imp (fun h => by
    have a := h.1
    have b := h.2
    simp only [decide_eq_true_eq] at a
    omega)
theorem sortInt_points {v : Int} {r : List Int} (hr : ∀ x ∈ r, 0 ≤ x ∧ x < v) (hn : r.Nodup) : sortInt r = pointsOf v r := by
  refine sorted_ext _ _ (sortInt_sorted hn) (pointsOf_sorted v r) fun x => ?_
  rw [mem_pointsOf hr x]
  exact (List.mergeSort_perm r _).mem_iff
theorem impl_image.L0_val (v k m : Int) (hv : v ≠ 0) (hk : 0 ≤ k ∧ k ≤ 31) (hm : 0 ≤ m ∧ m ≤ 31) : ∀ (suf pre acc : List Int), (∀ x ∈ suf, 0 ≤ x ∧ x ≤ 31) → (pre ++ suf).length ≤ 1000 → acc.length + suf.length ≤ 1000 → impl_image.L0 v k m acc (pre ++ suf) ((pre ++ suf).length : Int) (pre.length : Int) = some (sortInt (acc ++ residues v k m suf))
  | [], pre, acc, hx, h, ha => by
    rw [impl_image.L0_eq, range_end]
    unfold slices_Sort_int_int.f residues
    rw [if_pos (by omega)]
    simp
  | x :: suf, pre, acc, hx, h, ha => by
    have ha' : acc.length + (suf.length + 1) ≤ 1000 := by simpa using ha
    have e : (pre ++ [x]).length = pre.length + 1 := by simp
    have hx1 := hx x (by simp)
    have hp : 0 ≤ x * k ∧ x * k ≤ 31 * 31 := ⟨Int.mul_nonneg hx1.1 hk.1, Int.le_trans (Int.mul_le_mul_of_nonneg_right hx1.2 hk.1) (Int.mul_le_mul_of_nonneg_left hk.2 (by omega))⟩
    have hw : wrap64 (wrap64 (x * k) + m) = x * k + m := by
      generalize x * k = p at hp
      rw [wrap_in (n := p) (by omega) (by omega), wrap_in (by omega) (by omega)]
    rw [impl_image.L0_eq, range_step, rd_mid, wrap_mid (pre := pre) (x := x) (suf := suf) (by omega), app_mid pre x suf, if_neg hv, if_pos (by omega), hw, impl_image.L0_val v k m hv hk hm suf (pre ++ [x]) _ (fun y hy => hx y (by simp [hy])) (by simpa using h) (by simp; omega)]
    simp [residues]
theorem impl_image.F_val (v k m : Int) (l : List Int) (hv : v ≠ 0) (hk : 0 ≤ k ∧ k ≤ 31) (hm : 0 ≤ m ∧ m ≤ 31) (hx : ∀ x ∈ l, 0 ≤ x ∧ x ≤ 31) (hl : l.length ≤ 1000) : impl_image.F v l k m = some (sortInt (residues v k m l)) := by
  rw [impl_image.F_eq]
  have := impl_image.L0_val v k m hv hk hm l [] [] hx (by simpa using hl) (by simpa using hl)
  simpa using this
/-- The points from the x-th on. -/
def pointsFrom (v : Int) (r : List Int) : Nat → Nat → List Int
  | 0, _ => []
  | n + 1, x => if (x : Int) ∈ r then (x : Int) :: pointsFrom v r n (x + 1) else pointsFrom v r n (x + 1)
theorem pointsFrom_eq (v : Int) (r : List Int) : ∀ n x, pointsFrom v r n x = ((List.range' x n).map fun n : Nat => (n : Int)).filter fun x => decide (x ∈ r)
  | 0, x => by simp [pointsFrom]
  | n + 1, x => by
    have ih := pointsFrom_eq v r n (x + 1)
    rw [List.range'_succ]
    by_cases h : (x : Int) ∈ r
    · simp [pointsFrom, h, ih]
    · simp [pointsFrom, h, ih]
theorem spec_ciSet.L1_val (v : Int) (hv : v ≠ 0) (l acc : List Int) (x : Int) (ha : acc.length < 17592186044416) : ∀ (suf pre : List Int), l = pre ++ suf → l.length ≤ 1000 → spec_ciSet.L1 v l acc x l (l.length : Int) (pre.length : Int) = if x ∈ suf.map (fun y => Int.tmod y v) then spec_ciSet.L0 v l (acc ++ [x]) (wrap64 (x + 1)) else spec_ciSet.L0 v l acc (wrap64 (x + 1))
  | [], pre, e, h => by
    rw [spec_ciSet.L1_eq, if_neg (by rw [e]; simp)]
    simp
  | y :: suf, pre, e, h => by
    have hrd : rd l (pre.length : Int) = y := by rw [e, rd_mid]
    have hlen : pre.length < l.length := by rw [e]; simp
    have hw : wrap64 ((pre.length : Int) + 1) = ((pre ++ [y]).length : Int) := by rw [wrap_in (by omega) (by omega)]; simp
    rw [spec_ciSet.L1_eq, if_pos (by omega), if_pos (by omega), if_pos (by omega), if_neg hv, hrd, hw]
    by_cases h1 : Int.tmod y v = x
    · rw [if_pos h1, if_pos ha, if_pos (by simp [h1])]
    · rw [if_neg h1, spec_ciSet.L1_val v hv l acc x ha suf (pre ++ [y]) (by rw [e]; simp) h]
      have h2 : ¬ x = Int.tmod y v := fun e => h1 e.symm
      simp only [List.map_cons, List.mem_cons, h2, false_or]
theorem spec_ciSet.L0_val (v : Int) (hv : 0 < v) (hv2 : v ≤ 1000) (l : List Int) (hl : l.length ≤ 1000) : ∀ (n x : Nat) (acc : List Int), (x : Int) + n = v → acc.length + n ≤ 2000 → spec_ciSet.L0 v l acc (x : Int) = some (acc ++ pointsFrom v (l.map fun y => Int.tmod y v) n x)
  | 0, x, acc, hx, ha => by
    rw [spec_ciSet.L0_eq, if_neg (by omega)]
    simp [pointsFrom]
  | n + 1, x, acc, hx, ha => by
    have hw : wrap64 ((x : Int) + 1) = ((x + 1 : Nat) : Int) := by rw [wrap_in (by omega) (by omega)]; rfl
    have h1 := spec_ciSet.L1_val v (by omega) l acc (x : Int) (by omega) l [] (by simp) hl
    rw [spec_ciSet.L0_eq, if_pos (by omega)]
    simp only [List.length_nil, Int.ofNat_zero, Int.natCast_zero] at h1
    rw [h1, hw]
    by_cases h2 : (x : Int) ∈ l.map fun y => Int.tmod y v
    · rw [if_pos h2, spec_ciSet.L0_val v hv hv2 l hl n (x + 1) _ (by omega) (by simp; omega)]
      simp only [pointsFrom, if_pos h2, List.append_assoc, List.singleton_append]
    · rw [if_neg h2, spec_ciSet.L0_val v hv hv2 l hl n (x + 1) _ (by omega) (by omega)]
      simp only [pointsFrom, if_neg h2]
theorem spec_ciSet.F_val (v : Int) (hv : 0 < v) (hv2 : v ≤ 1000) (l : List Int) (hl : l.length ≤ 1000) : spec_ciSet.F v l = some (pointsOf v (l.map fun y => Int.tmod y v)) := by
  rw [spec_ciSet.F_eq]
  have := spec_ciSet.L0_val v hv hv2 l hl v.toNat 0 [] (by omega) (by simp; omega)
  rw [pointsFrom_eq] at this
  unfold pointsOf
  rw [List.range_eq_range']
  simpa using this
theorem spec_ciMove.L0_val (v m : Int) (hv : 0 < v) (hv2 : v ≤ 1000) (hm : 0 ≤ m ∧ m ≤ 31) : ∀ (suf pre acc : List Int), (∀ x ∈ suf, 0 ≤ x ∧ x ≤ 31) → (pre ++ suf).length ≤ 1000 → acc.length + suf.length ≤ 1000 → spec_ciMove.L0 v m acc (pre ++ suf) ((pre ++ suf).length : Int) (pre.length : Int) = some (pointsOf v ((acc ++ suf.map (· + m)).map fun y => Int.tmod y v))
  | [], pre, acc, hx, h, ha => by
    rw [spec_ciMove.L0_eq, range_end, spec_ciSet.F_val v hv hv2 acc (by omega)]
    simp
  | x :: suf, pre, acc, hx, h, ha => by
    have ha' : acc.length + (suf.length + 1) ≤ 1000 := by simpa using ha
    have e : (pre ++ [x]).length = pre.length + 1 := by simp
    have hx1 := hx x (by simp)
    rw [spec_ciMove.L0_eq, range_step, rd_mid, wrap_mid (pre := pre) (x := x) (suf := suf) (by omega), app_mid pre x suf, if_pos (by omega), wrap_in (n := x + m) (by omega) (by omega), spec_ciMove.L0_val v m hv hv2 hm suf (pre ++ [x]) _ (fun y hy => hx y (by simp [hy])) (by simpa using h) (by simp; omega)]
    simp
theorem spec_ciMove.F_val (v m : Int) (l : List Int) (hv : 0 < v) (hv2 : v ≤ 1000) (hm : 0 ≤ m ∧ m ≤ 31) (hx : ∀ x ∈ l, 0 ≤ x ∧ x ≤ 31) (hl : l.length ≤ 1000) : spec_ciMove.F v l m = some (pointsOf v (residues v 1 m l)) := by
  rw [spec_ciMove.F_eq]
  have := spec_ciMove.L0_val v m hv hv2 hm l [] [] hx (by simpa using hl) (by simpa using hl)
  simp only [List.nil_append, List.map_map, List.length_nil] at this
  rw [show residues v 1 m l = l.map ((fun y => Int.tmod y v) ∘ (· + m)) by simp [residues, Function.comp_def]]
  simpa using this
theorem spec_ciTimes.L0_val (v k : Int) (hv : 0 < v) (hv2 : v ≤ 1000) (hk : 0 ≤ k ∧ k ≤ 31) : ∀ (suf pre acc : List Int), (∀ x ∈ suf, 0 ≤ x ∧ x ≤ 31) → (pre ++ suf).length ≤ 1000 → acc.length + suf.length ≤ 1000 → spec_ciTimes.L0 v k acc (pre ++ suf) ((pre ++ suf).length : Int) (pre.length : Int) = some (pointsOf v ((acc ++ suf.map (· * k)).map fun y => Int.tmod y v))
  | [], pre, acc, hx, h, ha => by
    rw [spec_ciTimes.L0_eq, range_end, spec_ciSet.F_val v hv hv2 acc (by omega)]
    simp
  | x :: suf, pre, acc, hx, h, ha => by
    have ha' : acc.length + (suf.length + 1) ≤ 1000 := by simpa using ha
    have e : (pre ++ [x]).length = pre.length + 1 := by simp
    have hx1 := hx x (by simp)
    have hp : 0 ≤ x * k ∧ x * k ≤ 31 * 31 := ⟨Int.mul_nonneg hx1.1 hk.1, Int.le_trans (Int.mul_le_mul_of_nonneg_right hx1.2 hk.1) (Int.mul_le_mul_of_nonneg_left hk.2 (by omega))⟩
    have hw : wrap64 (x * k) = x * k := by
      generalize x * k = p at hp
      rw [wrap_in (n := p) (by omega) (by omega)]
    rw [spec_ciTimes.L0_eq, range_step, rd_mid, wrap_mid (pre := pre) (x := x) (suf := suf) (by omega), app_mid pre x suf, if_pos (by omega), hw, spec_ciTimes.L0_val v k hv hv2 hk suf (pre ++ [x]) _ (fun y hy => hx y (by simp [hy])) (by simpa using h) (by simp; omega)]
    simp
theorem spec_ciTimes.F_val (v k : Int) (l : List Int) (hv : 0 < v) (hv2 : v ≤ 1000) (hk : 0 ≤ k ∧ k ≤ 31) (hx : ∀ x ∈ l, 0 ≤ x ∧ x ≤ 31) (hl : l.length ≤ 1000) : spec_ciTimes.F v l k = some (pointsOf v (residues v k 0 l)) := by
  rw [spec_ciTimes.F_eq]
  have := spec_ciTimes.L0_val v k hv hv2 hk l [] [] hx (by simpa using hl) (by simpa using hl)
  simp only [List.nil_append, List.map_map, List.length_nil] at this
  rw [show residues v k 0 l = l.map ((fun y => Int.tmod y v) ∘ (· * k)) by simp [residues, Function.comp_def]]
  simpa using this
/-- Points apart stay apart, moved or times what has no common divisor with v. -/
theorem residues_nodup {v k m : Int} {l : List Int} (hv : 0 < v) (hk : 0 ≤ k) (hm : 0 ≤ m) (hx : ∀ x ∈ l, 0 ≤ x ∧ x < v) (hs : l.Pairwise (· < ·)) (hg : Nat.gcd v.toNat k.toNat = 1) : (residues v k m l).Nodup := by
  unfold residues
  rw [List.Nodup, List.pairwise_map]
  refine List.Pairwise.imp_of_mem ?_ hs
  intro x y hxm hym hlt he
  have h1 := hx x hxm
  have h2 := hx y hym
  obtain ⟨a, rfl⟩ : ∃ a : Nat, x = a := ⟨x.toNat, by omega⟩
  obtain ⟨b, rfl⟩ : ∃ b : Nat, y = b := ⟨y.toNat, by omega⟩
  obtain ⟨n, rfl⟩ : ∃ n : Nat, v = n := ⟨v.toNat, by omega⟩
  obtain ⟨c, rfl⟩ : ∃ c : Nat, k = c := ⟨k.toNat, by omega⟩
  obtain ⟨d, rfl⟩ : ∃ d : Nat, m = d := ⟨m.toNat, by omega⟩
  have he2 : (a * c + d) % n = (b * c + d) % n := by
    have e1 : ((a : Int) * c + d) = ((a * c + d : Nat) : Int) := by simp
    have e2 : ((b : Int) * c + d) = ((b * c + d : Nat) : Int) := by simp
    rw [e1, e2, ← Int.ofNat_tmod, ← Int.ofNat_tmod] at he
    exact Int.ofNat.inj he
  have hab : a < b := by omega
  have hd : n ∣ (b * c + d) - (a * c + d) := Nat.dvd_of_mod_eq_zero (Nat.sub_mod_eq_zero_of_mod_eq he2.symm)
  have hd2 : n ∣ (b - a) * c := by
    rw [Nat.sub_mul]
    have e : b * c - a * c = (b * c + d) - (a * c + d) := by omega
    rw [e]
    exact hd
  have hd3 : n ∣ b - a := Nat.Coprime.dvd_of_dvd_mul_right (by simpa [Nat.Coprime] using hg) hd2
  have := Nat.le_of_dvd (by omega) hd3
  omega
theorem impl_common.L0_val : ∀ (b a : Nat), impl_common.L0 (a : Int) (b : Int) = some ((Nat.gcd a b : Nat) : Int) := by
  intro b
  induction b using Nat.strongRecOn with
  | _ b ih =>
    intro a
    rw [impl_common.L0_eq]
    by_cases h : b = 0
    · subst h
      rw [if_neg (by omega), Nat.gcd_zero_right]
    · rw [if_pos (by omega), if_neg (by omega), ← Int.ofNat_tmod, ih (a % b) (Nat.mod_lt _ (by omega)) b, Nat.gcd_comm a b, Nat.gcd_rec b a, Nat.gcd_comm]
theorem spec_ciCommon.L0_val : ∀ (b a : Nat), spec_ciCommon.L0 (a : Int) (b : Int) = some ((Nat.gcd a b : Nat) : Int) := by
  intro b
  induction b using Nat.strongRecOn with
  | _ b ih =>
    intro a
    rw [spec_ciCommon.L0_eq]
    by_cases h : b = 0
    · subst h
      rw [if_neg (by omega), Nat.gcd_zero_right]
    · rw [if_pos (by omega), if_neg (by omega), ← Int.ofNat_tmod, ih (a % b) (Nat.mod_lt _ (by omega)) b, Nat.gcd_comm a b, Nat.gcd_rec b a, Nat.gcd_comm]
theorem slices_Equal_int_int.L0_val : ∀ (s1 s2 p1 p2 : List Int), p1.length = p2.length → s1.length = s2.length → (p1 ++ s1).length < 4611686018427387904 → slices_Equal_int_int.L0 (p1 ++ s1) (p2 ++ s2) ((p1 ++ s1).length : Int) (p1.length : Int) = some (decide (s1 = s2))
  | [], [], p1, p2, hp, hs, h => by
    rw [slices_Equal_int_int.L0_eq, if_neg (by simp)]
    rfl
  | x :: s1, y :: s2, p1, p2, hp, hs, h => by
    have hl : (p1 ++ x :: s1).length = p1.length + s1.length + 1 := by simp; omega
    have hl2 : (p2 ++ y :: s2).length = p2.length + s2.length + 1 := by simp; omega
    have hs' : s1.length = s2.length := by simpa using hs
    have hr2 : rd (p2 ++ y :: s2) (p1.length : Int) = y := by rw [hp, rd_mid]
    rw [slices_Equal_int_int.L0_eq, if_pos (by omega), if_pos (by omega), if_pos (by omega), if_pos (by omega), rd_mid, hr2, wrap_mid h, app_mid p1 x s1, app_mid p2 y s2, slices_Equal_int_int.L0_val s1 s2 (p1 ++ [x]) (p2 ++ [y]) (by simp [hp]) hs' (by simpa using h)]
    by_cases h1 : x = y
    · rw [if_pos h1]
      simp [h1]
    · rw [if_neg h1]
      simp [h1]
theorem slices_Equal_int_int.F_val (a b : List Int) (h : a.length < 4611686018427387904) : slices_Equal_int_int.F a b = some (decide (a = b)) := by
  rw [slices_Equal_int_int.F_eq]
  by_cases h1 : a.length = b.length
  · rw [if_pos (by omega)]
    have := slices_Equal_int_int.L0_val a b [] [] rfl h1 (by simpa using h)
    simpa using this
  · rw [if_neg (by omega)]
    have : ¬ a = b := fun e => h1 (by rw [e])
    simp [this]
theorem spec_l1Same.L0_val : ∀ (s1 s2 p1 p2 : List Int), p1.length = p2.length → s1.length = s2.length → (p1 ++ s1).length < 4611686018427387904 → spec_l1Same.L0 (p1 ++ s1) (p2 ++ s2) ((p1 ++ s1).length : Int) (p1.length : Int) = some (decide (s1 = s2))
  | [], [], p1, p2, hp, hs, h => by
    rw [spec_l1Same.L0_eq, if_neg (by simp)]
    rfl
  | x :: s1, y :: s2, p1, p2, hp, hs, h => by
    have hl : (p1 ++ x :: s1).length = p1.length + s1.length + 1 := by simp; omega
    have hl2 : (p2 ++ y :: s2).length = p2.length + s2.length + 1 := by simp; omega
    have hs' : s1.length = s2.length := by simpa using hs
    have hr2 : rd (p2 ++ y :: s2) (p1.length : Int) = y := by rw [hp, rd_mid]
    rw [spec_l1Same.L0_eq, if_pos (by omega), if_pos (by omega), if_pos (by omega), if_pos (by omega), rd_mid, hr2, wrap_mid h, app_mid p1 x s1, app_mid p2 y s2, spec_l1Same.L0_val s1 s2 (p1 ++ [x]) (p2 ++ [y]) (by simp [hp]) hs' (by simpa using h)]
    by_cases h1 : x = y
    · rw [if_pos h1]
      simp [h1]
    · rw [if_neg h1]
      simp [h1]
theorem spec_l1Same.F_val (a b : List Int) (h : a.length < 4611686018427387904) : spec_l1Same.F a b = some (decide (a = b)) := by
  rw [spec_l1Same.F_eq]
  by_cases h1 : a.length = b.length
  · rw [if_pos (by omega)]
    have := spec_l1Same.L0_val a b [] [] rfl h1 (by simpa using h)
    simpa using this
  · rw [if_neg (by omega)]
    have : ¬ a = b := fun e => h1 (by rw [e])
    simp [this]
/-- A set moved, a set's multiple. -/
def movedSet (v : Int) (l : List Int) (m : Int) : List Int := pointsOf v (residues v 1 m l)
def timesSet (v : Int) (l : List Int) (k : Int) : List Int := pointsOf v (residues v k 0 l)
def isMult (v : Int) (l : List Int) (m : Nat) : Bool := decide (Nat.gcd v.toNat m = 1) && (List.range' 0 v.toNat).any fun n : Nat => decide (timesSet v l m = movedSet v l n)
def multsFrom (v : Int) (l : List Int) : Nat → Nat → List Int
  | 0, _ => []
  | n + 1, m => if isMult v l m = true then (m : Int) :: multsFrom v l n (m + 1) else multsFrom v l n (m + 1)
theorem multsFrom_step {v : Int} {l : List Int} {n m : Nat} {b : Bool} (e : isMult v l m = b) : multsFrom v l (n + 1) m = if b = true then (m : Int) :: multsFrom v l n (m + 1) else multsFrom v l n (m + 1) := by
  subst e
  rfl
theorem isMult_gcd {v : Int} {l : List Int} {m : Nat} (h : Nat.gcd v.toNat m = 1) : isMult v l m = (List.range' 0 v.toNat).any fun n : Nat => decide (timesSet v l m = movedSet v l n) := by
  unfold isMult
  rw [decide_eq_true h, Bool.true_and]
theorem isMult_no {v : Int} {l : List Int} {m : Nat} (h : ¬ Nat.gcd v.toNat m = 1) : isMult v l m = false := by
  unfold isMult
  rw [decide_eq_false h, Bool.false_and]
def multipliersOf (v : Int) (l : List Int) : List Int × Bool := if isCircleSet v l = true then (multsFrom v l (v - 1).toNat 1, true) else ([], false)
theorem multsFrom_len (v : Int) (l : List Int) : ∀ n m, (multsFrom v l n m).length ≤ n
  | 0, _ => Nat.le_refl _
  | n + 1, m => by
    have := multsFrom_len v l n (m + 1)
    unfold multsFrom
    split
    · simp; omega
    · omega
theorem multipliersOf_len (v : Int) (l : List Int) : (multipliersOf v l).1.length ≤ 31 := by
  unfold multipliersOf
  split
  · rename_i h
    have h1 := (isCircleSet_parts h).1
    have := multsFrom_len v l (v - 1).toNat 1
    simp only
    omega
  · simp
theorem pointsOf_len (v : Int) (r : List Int) : (pointsOf v r).length ≤ v.toNat := by
  unfold pointsOf
  refine Nat.le_trans (List.length_filter_le _ _) ?_
  simp
theorem image_moved {v : Int} {l : List Int} (h : isCircleSet v l = true) (m : Nat) (hm : (m : Int) < v) : impl_image.F v l 1 m = some (movedSet v l m) := by
  obtain ⟨h1, h2, h3, h4, h5⟩ := isCircleSet_parts h
  rw [impl_image.F_val v 1 m l (by omega) (by omega) (by omega) (fun x hx => by have := h4 x hx; omega) (by omega), sortInt_points (residues_bound (by omega) (fun x hx => by have := h4 x hx; omega)) (residues_nodup (by omega) (by omega) (by omega) h4 (growing_sorted l h5) (by simp))]
  rfl
theorem image_times {v : Int} {l : List Int} (h : isCircleSet v l = true) (k : Nat) (hk : (k : Int) < v) (hg : Nat.gcd v.toNat k = 1) : impl_image.F v l k 0 = some (timesSet v l k) := by
  obtain ⟨h1, h2, h3, h4, h5⟩ := isCircleSet_parts h
  rw [impl_image.F_val v k 0 l (by omega) (by omega) (by omega) (fun x hx => by have := h4 x hx; omega) (by omega), sortInt_points (residues_bound (by omega) (fun x hx => by have := h4 x hx; have := Int.mul_nonneg this.1 (Int.natCast_nonneg k); omega)) (residues_nodup (by omega) (by omega) (by omega) h4 (growing_sorted l h5) (by simpa using hg))]
  rfl
theorem impl_MultipliersOf.L1_val {v : Int} {l : List Int} (h : isCircleSet v l = true) (acc : List Int) (ha : acc.length ≤ 1000) (m : Nat) (t : List Int) (htl : t.length ≤ 1000) : ∀ (n k : Nat), (k : Int) + n = v → impl_MultipliersOf.L1 v l acc m t v k = if ((List.range' k n).any fun n : Nat => decide (t = movedSet v l n)) = true then impl_MultipliersOf.L0 v l (acc ++ [(m : Int)]) (wrap64 ((m : Int) + 1)) else impl_MultipliersOf.L0 v l acc (wrap64 ((m : Int) + 1))
  | 0, k, hk => by
    rw [impl_MultipliersOf.L1_eq, if_neg (by omega)]
    simp
  | n + 1, k, hk => by
    have h1 := (isCircleSet_parts h).1
    rw [impl_MultipliersOf.L1_eq, if_pos (by omega), image_moved h k (by omega)]
    simp only [Option.bind_some]
    rw [slices_Equal_int_int.F_val t _ (by omega)]
    simp only [Option.bind_some]
    rw [List.range'_succ, List.any_cons]
    by_cases h2 : t = movedSet v l k
    · rw [if_pos (by simpa using h2), if_pos (by omega), if_pos (by simp [← h2])]
    · rw [if_neg (by simpa using h2), show wrap64 ((k : Int) + 1) = ((k + 1 : Nat) : Int) by rw [wrap_in (by omega) (by omega)]; rfl, impl_MultipliersOf.L1_val h acc ha m t htl n (k + 1) (by omega), decide_eq_false h2, Bool.false_or]
theorem impl_MultipliersOf.L0_val {v : Int} {l : List Int} (h : isCircleSet v l = true) : ∀ (n m : Nat) (acc : List Int), (m : Int) + n = v → 1 ≤ m → acc.length + n ≤ 1000 → impl_MultipliersOf.L0 v l acc m = some (acc ++ multsFrom v l n m, true)
  | 0, m, acc, hm, h1, ha => by
    rw [impl_MultipliersOf.L0_eq, if_neg (by omega)]
    simp [multsFrom]
  | n + 1, m, acc, hm, h1, ha => by
    have h2 := (isCircleSet_parts h).1
    have hvn : ((v.toNat : Nat) : Int) = v := by omega
    have hc : impl_common.F v m = some ((Nat.gcd v.toNat m : Nat) : Int) := by
      rw [impl_common.F_eq]
      have := impl_common.L0_val m v.toNat
      rw [hvn] at this
      exact this
    have hpos : 0 < Nat.gcd v.toNat m := Nat.gcd_pos_of_pos_right _ (by omega)
    have hw : wrap64 ((m : Int) + 1) = ((m + 1 : Nat) : Int) := by rw [wrap_in (by omega) (by omega)]; rfl
    rw [impl_MultipliersOf.L0_eq, if_pos (by omega), hc]
    simp only [Option.bind_some]
    by_cases hg : Nat.gcd v.toNat m = 1
    · rw [if_neg (by omega), image_times h m (by omega) hg]
      simp only [Option.bind_some]
      have ht := pointsOf_len v (residues v m 0 l)
      have h3 := impl_MultipliersOf.L1_val h acc (by omega) m (timesSet v l m) (by unfold timesSet; omega) v.toNat 0 (by omega)
      simp only [Int.natCast_zero, Int.ofNat_zero] at h3
      rw [h3, hw, multsFrom_step (isMult_gcd hg)]
      by_cases h4 : ((List.range' 0 v.toNat).any fun n : Nat => decide (timesSet v l m = movedSet v l n)) = true
      · rw [if_pos h4, if_pos h4, impl_MultipliersOf.L0_val h n (m + 1) _ (by omega) (by omega) (by simp; omega)]
        simp
      · rw [if_neg h4, if_neg h4, impl_MultipliersOf.L0_val h n (m + 1) _ (by omega) (by omega) (by omega)]
    · rw [if_pos (by omega), hw, impl_MultipliersOf.L0_val h n (m + 1) _ (by omega) (by omega) (by omega), multsFrom_step (isMult_no hg), if_neg (by decide)]
theorem impl_MultipliersOf.F_val (v : Int) (l : List Int) (hl : l.length < 4611686018427387904) : impl_MultipliersOf.F v l = some (multipliersOf v l) := by
  rw [impl_MultipliersOf.F_eq, impl_IsCircleSet.F_val v l hl]
  simp only [Option.bind_some]
  unfold multipliersOf
  by_cases h : isCircleSet v l = true
  · have h2 := (isCircleSet_parts h).1
    rw [if_pos h, if_pos h]
    have := impl_MultipliersOf.L0_val h (v - 1).toNat 1 [] (by omega) (by omega) (by simp; omega)
    simpa using this
  · rw [if_neg h, if_neg h]
theorem spec_MultipliersOf.L1_val {v : Int} {l : List Int} (h : isCircleSet v l = true) (acc : List Int) (ha : acc.length ≤ 1000) (m : Nat) (hm : (m : Int) < v) : ∀ (n k : Nat), (k : Int) + n = v → spec_MultipliersOf.L1 v l acc m k = if ((List.range' k n).any fun n : Nat => decide (timesSet v l m = movedSet v l n)) = true then spec_MultipliersOf.L0 v l (acc ++ [(m : Int)]) (wrap64 ((m : Int) + 1)) else spec_MultipliersOf.L0 v l acc (wrap64 ((m : Int) + 1))
  | 0, k, hk => by
    rw [spec_MultipliersOf.L1_eq, if_neg (by omega)]
    simp
  | n + 1, k, hk => by
    obtain ⟨h1, h2, h3, h4, h5⟩ := isCircleSet_parts h
    have ht := pointsOf_len v (residues v m 0 l)
    rw [spec_MultipliersOf.L1_eq, if_pos (by omega), spec_ciTimes.F_val v m l (by omega) (by omega) (by omega) (fun x hx => by have := h4 x hx; omega) (by omega)]
    simp only [Option.bind_some]
    rw [spec_ciMove.F_val v k l (by omega) (by omega) (by omega) (fun x hx => by have := h4 x hx; omega) (by omega)]
    simp only [Option.bind_some]
    rw [spec_l1Same.F_val _ _ (by omega)]
    simp only [Option.bind_some]
    rw [List.range'_succ, List.any_cons]
    by_cases h2 : timesSet v l m = movedSet v l k
    · rw [if_pos (by simpa [timesSet, movedSet] using h2), if_pos (by omega), if_pos (by simp [h2])]
    · rw [if_neg (by simpa [timesSet, movedSet] using h2), show wrap64 ((k : Int) + 1) = ((k + 1 : Nat) : Int) by rw [wrap_in (by omega) (by omega)]; rfl, spec_MultipliersOf.L1_val h acc ha m hm n (k + 1) (by omega), decide_eq_false h2, Bool.false_or]
theorem spec_MultipliersOf.L0_val {v : Int} {l : List Int} (h : isCircleSet v l = true) : ∀ (n m : Nat) (acc : List Int), (m : Int) + n = v → 1 ≤ m → acc.length + n ≤ 1000 → spec_MultipliersOf.L0 v l acc m = some (acc ++ multsFrom v l n m, true)
  | 0, m, acc, hm, h1, ha => by
    rw [spec_MultipliersOf.L0_eq, if_neg (by omega)]
    simp [multsFrom]
  | n + 1, m, acc, hm, h1, ha => by
    have h2 := (isCircleSet_parts h).1
    have hvn : ((v.toNat : Nat) : Int) = v := by omega
    have hc : spec_ciCommon.F m v = some ((Nat.gcd v.toNat m : Nat) : Int) := by
      rw [spec_ciCommon.F_eq]
      have := spec_ciCommon.L0_val v.toNat m
      rw [hvn, Nat.gcd_comm] at this
      exact this
    have hw : wrap64 ((m : Int) + 1) = ((m + 1 : Nat) : Int) := by rw [wrap_in (by omega) (by omega)]; rfl
    rw [spec_MultipliersOf.L0_eq, if_pos (by omega), hc]
    simp only [Option.bind_some]
    by_cases hg : Nat.gcd v.toNat m = 1
    · have h3 := spec_MultipliersOf.L1_val h acc (by omega) m (by omega) v.toNat 0 (by omega)
      simp only [Int.natCast_zero, Int.ofNat_zero] at h3
      rw [if_pos (by omega), h3, hw, multsFrom_step (isMult_gcd hg)]
      by_cases h4 : ((List.range' 0 v.toNat).any fun n : Nat => decide (timesSet v l m = movedSet v l n)) = true
      · rw [if_pos h4, if_pos h4, spec_MultipliersOf.L0_val h n (m + 1) _ (by omega) (by omega) (by simp; omega)]
        simp
      · rw [if_neg h4, if_neg h4, spec_MultipliersOf.L0_val h n (m + 1) _ (by omega) (by omega) (by omega)]
    · rw [if_neg (by omega), hw, spec_MultipliersOf.L0_val h n (m + 1) _ (by omega) (by omega) (by omega), multsFrom_step (isMult_no hg), if_neg (by decide)]
theorem spec_MultipliersOf.F_val (v : Int) (l : List Int) (hl : l.length < 4611686018427387904) : spec_MultipliersOf.F v l = some (multipliersOf v l) := by
  rw [spec_MultipliersOf.F_eq, spec_ciGood.F_val v l hl]
  simp only [Option.bind_some]
  unfold multipliersOf
  by_cases h : isCircleSet v l = true
  · have h2 := (isCircleSet_parts h).1
    rw [if_pos h, if_pos h]
    have := spec_MultipliersOf.L0_val h (v - 1).toNat 1 [] (by omega) (by omega) (by simp; omega)
    simpa using this
  · rw [if_neg h, if_neg h]
end Go.Proofs.Ytofjndbpndpjjaa.Fn
namespace Go.Proofs.Ytofjndbpndpjjaa.Fn
open Go.RowKit Go.Proofs.YtofjndbpndpjjaaW.PrintWords Go.Proofs.YtofjndbpndpjjaaW.PrintLast Go.Proofs.YtofjndbpndpjjaaW.PrintMore
set_option linter.unusedVariables false
set_option linter.unusedSimpArgs false
/-- The input's bytes are bytes. -/
def BytesOk (l : List Int) : Prop := ∀ x ∈ l, 0 ≤ x ∧ x ≤ 255
theorem wrap_u64 (n : Int) : IntKind.u64.wrap n = n % 18446744073709551616 := by simp [IntKind.wrap, IntKind.bits, IntKind.signed]
theorem low_byte (x : Int) (h0 : 0 ≤ x) (h1 : x < 18446744073709551616) : Go.bits .and .u64 x 255 = x % 256 := by
  have := bits_mask .u64 64 (by decide) (fun n h0 h1 => by rw [wrap_u64]; omega) 8 (by decide) x h0 (by omega)
  simpa using this
theorem top_byte (n : Int) : ∃ b, wrap64 (Go.bits .and .u64 (IntKind.u64.wrap n / 1099511627776) 255) = b ∧ 0 ≤ b ∧ b ≤ 255 := by
  have h := wrap_u64 n
  generalize IntKind.u64.wrap n = m at *
  rw [low_byte _ (by omega) (by omega), wrap_in (by omega) (by omega)]
  exact ⟨_, rfl, by omega, by omega⟩
theorem spec_l1Cur_next.ok {l : List Int} (hl : BytesOk l) (hn : l.length < 4611686018427387904) (at_ seed : Int) (h0 : 0 ≤ at_) (h1 : at_ < 4611686018427387904) : ∃ b z, spec_l1Cur_next.f l at_ seed = some (b, at_ + 1, z) ∧ 0 ≤ b ∧ b ≤ 255 := by
  unfold spec_l1Cur_next.f
  rw [wrap_in (n := at_ + 1) (by omega) (by omega)]
  by_cases ha : at_ < (l.length : Int)
  · have hm : rd l at_ ∈ l := by
      obtain ⟨i, rfl⟩ : ∃ i : Nat, at_ = i := ⟨at_.toNat, by omega⟩
      rw [rd_nat l i (by omega)]
      exact List.getElem_mem _
    have hb := hl _ hm
    rw [if_pos ha, if_pos h0, if_pos (by omega), wrap_in (n := rd l at_) (by omega) (by omega)]
    exact ⟨_, _, rfl, hb.1, hb.2⟩
  · rw [if_neg ha]
    by_cases hb : at_ + 1 ≤ (l.length : Int)
    · rw [if_pos hb]
      exact ⟨_, _, rfl, by omega, by omega⟩
    · rw [if_neg hb]
      obtain ⟨b, e, h2, h3⟩ := top_byte (IntKind.u64.wrap (IntKind.u64.wrap (seed * 6364136223846793005)) + 1442695040888963407)
      exact ⟨b, _, by rw [e], h2, h3⟩
/-- The state of a draw: the input, and a place that is no greater than m. -/
structure DrawSt (l : List Int) (m at_ : Int) : Prop where
  bytes : BytesOk l
  len : l.length < 4611686018427387904
  at0 : 0 ≤ at_
  atm : at_ ≤ m
theorem DrawSt.more {l : List Int} {m m' a : Int} (h : DrawSt l m a) (hm : m ≤ m') : DrawSt l m' a := ⟨h.1, h.2, h.3, Int.le_trans h.4 hm⟩
theorem tmod_range {x n : Int} (hx : 0 ≤ x) (hn : 0 < n) : 0 ≤ Int.tmod x n ∧ Int.tmod x n < n := ⟨Int.tmod_nonneg n hx, Int.tmod_lt_of_pos x hn⟩
theorem spec_l1Cur_pick.ok {l : List Int} {m at_ : Int} (seed n : Int) (h : DrawSt l m at_) (hm : m ≤ 4000000000000000000) : ∃ r a z, spec_l1Cur_pick.f l at_ seed n = some (r, a, z) ∧ 0 ≤ r ∧ (r < n ∨ r = 0) ∧ DrawSt l (m + 2) a := by
  obtain ⟨hl, hn, h0, h1⟩ := h
  unfold spec_l1Cur_pick.f
  by_cases hn1 : n ≤ 1
  · rw [if_pos hn1]
    exact ⟨0, _, _, rfl, by omega, .inr rfl, hl, hn, h0, by omega⟩
  · rw [if_neg hn1]
    obtain ⟨b, z, e, b0, b1⟩ := spec_l1Cur_next.ok hl hn at_ seed h0 (by omega)
    rw [e]
    simp only [Option.bind_some]
    by_cases hn2 : n > 200
    · rw [if_pos hn2]
      obtain ⟨b', z', e', b0', b1'⟩ := spec_l1Cur_next.ok hl hn (at_ + 1) z (by omega) (by omega)
      rw [e']
      simp only [Option.bind_some]
      rw [if_neg (by omega), wrap_in (n := b * 256) (by omega) (by omega), wrap_in (n := b * 256 + b') (by omega) (by omega)]
      have := tmod_range (x := b * 256 + b') (n := n) (by omega) (by omega)
      exact ⟨_, _, _, rfl, this.1, .inl this.2, hl, hn, by omega, by omega⟩
    · rw [if_neg hn2, if_neg (by omega)]
      have := tmod_range (x := b) (n := n) b0 (by omega)
      exact ⟨_, _, _, rfl, this.1, .inl this.2, hl, hn, by omega, by omega⟩
theorem spec_l1Cur_among.ok {l : List Int} {m at_ : Int} (seed : Int) (xs : List Int) (hx : 0 < xs.length) (h : DrawSt l m at_) (hm : m ≤ 4000000000000000000) : ∃ r a z, spec_l1Cur_among.f l at_ seed xs = some (r, a, z) ∧ r ∈ xs ∧ DrawSt l (m + 2) a := by
  obtain ⟨r, a, z, e, h0, h1, hs⟩ := spec_l1Cur_pick.ok seed (xs.length : Int) h hm
  have hr : r < (xs.length : Int) := by omega
  have hmem : rd xs r ∈ xs := by
    obtain ⟨i, rfl⟩ : ∃ i : Nat, r = i := ⟨r.toNat, by omega⟩
    rw [rd_nat xs i (by omega)]
    exact List.getElem_mem _
  exact ⟨rd xs r, a, z, by unfold spec_l1Cur_among.f; rw [e]; simp only [Option.bind_some]; rw [if_pos h0, if_pos hr], hmem, hs⟩
theorem laws_big.f_val (a b : List Int) : laws_big.f a b = some (decide (1048576 < a.length ∨ 1048576 < a.length + b.length)) := by
  unfold laws_big.f
  by_cases h : (a.length : Int) > 1048576
  · rw [if_pos h, decide_eq_true (by omega)]
  · rw [if_neg h, wrap_in (by omega) (by omega)]
    by_cases h2 : (b.length : Int) > 1048576 - (a.length : Int)
    · rw [decide_eq_true h2, decide_eq_true (by omega)]
    · rw [decide_eq_false h2, decide_eq_false (by omega)]
/-- An input of bytes, as a draw begins. -/
theorem draw_start {l : List Int} (h : l.length ≤ 1048576) (hw : ∀ x ∈ l, (Lit.int .u8 x).wf = true) : DrawSt l 0 0 := by
  refine ⟨fun x hx => ?_, by omega, by omega, by omega⟩
  have := hw x hx
  simp [Lit.wf] at this
  have h1 : IntKind.u8.min = 0 := by decide
  have h2 : IntKind.u8.max = 255 := by decide
  rw [h1, h2] at this
  omega
end Go.Proofs.Ytofjndbpndpjjaa.Fn
namespace Go.Proofs.Ytofjndbpndpjjaa.Fn
open Go.RowKit Go.Proofs.YtofjndbpndpjjaaW.PrintWords Go.Proofs.YtofjndbpndpjjaaW.PrintLast Go.Proofs.YtofjndbpndpjjaaW.PrintMore
set_option linter.unusedVariables false
set_option linter.unusedSimpArgs false
def lessOf : List Int → List Int → Bool
  | [], [] => false
  | [], _ :: _ => true
  | _ :: _, [] => false
  | x :: a, y :: b => if x = y then lessOf a b else decide (x < y)
theorem wrap_up {n i : Nat} (h : i < n) (hn : n < 4611686018427387904) : wrap64 ((i : Int) + 1) = ((i + 1 : Nat) : Int) := by
  rw [wrap_in (by omega) (by omega)]
  rfl
theorem laws_zSame.L0_val (a b : List Int) (hl : a.length = b.length) (h : a.length < 4611686018427387904) : ∀ (m i : Nat), i + m = a.length → laws_zSame.L0 a b (a.length : Int) (i : Int) = some (decide (a.drop i = b.drop i))
  | 0, i, hm => by
    rw [laws_zSame.L0_eq, if_neg (by omega), List.drop_of_length_le (by omega), List.drop_of_length_le (by omega)]
    rfl
  | m + 1, i, hm => by
    rw [laws_zSame.L0_eq, if_pos (by omega), if_pos (by omega), if_pos (by omega), if_pos (by omega), rd_nat a i (by omega), rd_nat b i (by omega), wrap_up (n := a.length) (by omega) h, laws_zSame.L0_val a b hl h m (i + 1) (by omega), List.drop_eq_getElem_cons (l := a) (i := i) (by omega), List.drop_eq_getElem_cons (l := b) (i := i) (by omega)]
    by_cases e : a[i]'(by omega) = b[i]'(by omega)
    · rw [if_pos e]
      congr 1
      rw [decide_eq_decide, e]
      exact ⟨fun h => by rw [h], fun h => (List.cons.inj h).2⟩
    · rw [if_neg e, decide_eq_false (fun h => e (List.cons.inj h).1)]
theorem laws_zSame.F_val (a b : List Int) (h : a.length < 4611686018427387904) : laws_zSame.F a b = some (decide (a = b)) := by
  rw [laws_zSame.F_eq]
  by_cases e : a.length = b.length
  · rw [if_pos (by omega)]
    have := laws_zSame.L0_val a b e h a.length 0 (by omega)
    simpa using this
  · rw [if_neg (by omega), decide_eq_false (fun hab => e (by rw [hab]))]
theorem laws_zHas.L0_val (n : Int) (a : List Int) (h : a.length < 4611686018427387904) : ∀ (m i : Nat), i + m = a.length → laws_zHas.L0 n a (a.length : Int) (i : Int) = some (decide (n ∈ a.drop i))
  | 0, i, hm => by
    rw [laws_zHas.L0_eq, if_neg (by omega), List.drop_of_length_le (by omega)]
    rfl
  | m + 1, i, hm => by
    rw [laws_zHas.L0_eq, if_pos (by omega), if_pos (by omega), if_pos (by omega), rd_nat a i (by omega), wrap_up (n := a.length) (by omega) h, laws_zHas.L0_val n a h m (i + 1) (by omega), List.drop_eq_getElem_cons (l := a) (i := i) (by omega)]
    by_cases e : a[i]'(by omega) = n
    · rw [if_pos e, decide_eq_true (by rw [e]; exact List.mem_cons_self)]
    · rw [if_neg e]
      congr 1
      rw [decide_eq_decide, List.mem_cons]
      exact ⟨.inr, fun h => h.resolve_left (fun h => e h.symm)⟩
theorem laws_zHas.F_val (a : List Int) (n : Int) (h : a.length < 4611686018427387904) : laws_zHas.F a n = some (decide (n ∈ a)) := by
  rw [laws_zHas.F_eq]
  have := laws_zHas.L0_val n a h a.length 0 (by omega)
  simpa using this
end Go.Proofs.Ytofjndbpndpjjaa.Fn
namespace Go.Proofs.Ytofjndbpndpjjaa.Fn
open Go.RowKit Go.Proofs.YtofjndbpndpjjaaW.PrintWords Go.Proofs.YtofjndbpndpjjaaW.PrintLast Go.Proofs.YtofjndbpndpjjaaW.PrintMore
set_option linter.unusedVariables false
set_option linter.unusedSimpArgs false
theorem count_flatMap_len {α β : Type} (l : List α) (f : α → List β) : (l.flatMap f).length = (l.map (fun x => (f x).length)).sum := by
  induction l with
  | nil => rfl
  | cons x l ih => simp [ih]
/-- How often a number stands in a list. -/
def times (d : Int) : List Int → Nat
  | [] => 0
  | x :: l => (if x = d then 1 else 0) + times d l
theorem times_append (d : Int) : ∀ a b : List Int, times d (a ++ b) = times d a + times d b
  | [], b => by simp [times]
  | x :: a, b => by
    have := times_append d a b
    simp only [List.cons_append, times, this]
    omega
theorem times_perm {d : Int} {a b : List Int} (h : a.Perm b) : times d a = times d b := by
  induction h with
  | nil => rfl
  | cons x _ ih => simp only [times, ih]
  | swap x y l => simp only [times]; omega
  | trans _ _ h1 h2 => exact h1.trans h2
theorem times_pos {d : Int} : ∀ {l : List Int}, 0 < times d l ↔ d ∈ l
  | [] => by simp [times]
  | x :: l => by
    have := times_pos (d := d) (l := l)
    simp only [times, List.mem_cons]
    by_cases h : x = d
    · simp [h]; omega
    · rw [if_neg h, Nat.zero_add, this]
      constructor
      · exact fun h => .inr h
      · rintro (h1 | h1)
        · exact absurd h1.symm h
        · exact h1
theorem times_le_one {l : List Int} : (∀ d, times d l ≤ 1) ↔ l.Nodup := by
  induction l with
  | nil => simp [times]
  | cons x l ih =>
    rw [List.nodup_cons, ← ih]
    constructor
    · intro h
      refine ⟨fun hm => ?_, fun d => ?_⟩
      · have h1 := h x
        have h2 := times_pos.2 hm
        simp only [times, if_true] at h1
        omega
      · have h1 := h d
        simp only [times] at h1
        omega
    · rintro ⟨h1, h2⟩ d
      simp only [times]
      have h3 := h2 d
      by_cases hx : x = d
      · subst hx
        have : ¬ 0 < times x l := fun hp => h1 (times_pos.1 hp)
        rw [if_pos rfl]
        omega
      · rw [if_neg hx]
        omega
/-- The sum of how often each of some numbers stands in a list. -/
def sumTimes (xs : List Int) : List Int → Nat
  | [] => 0
  | d :: ds => times d xs + sumTimes xs ds
theorem sumTimes_cons (x : Int) (xs : List Int) : ∀ ds : List Int, sumTimes (x :: xs) ds = times x ds + sumTimes xs ds
  | [] => by simp [sumTimes, times]
  | d :: ds => by
    have := sumTimes_cons x xs ds
    simp only [sumTimes, times, this]
    by_cases h : x = d
    · subst h
      simp
      omega
    · rw [if_neg h, if_neg (fun e => h e.symm)]
      omega
theorem times_one {d : Int} {l : List Int} (hn : l.Nodup) (h : d ∈ l) : times d l = 1 := by
  have h1 := times_le_one.2 hn d
  have h2 := times_pos.2 h
  omega
theorem sumTimes_all {ds : List Int} (hn : ds.Nodup) : ∀ xs : List Int, (∀ x ∈ xs, x ∈ ds) → sumTimes xs ds = xs.length
  | [], _ => by
    induction ds with
    | nil => rfl
    | cons d ds ih => simp [sumTimes, times, ih (List.nodup_cons.1 hn).2] 
  | x :: xs, h => by
    rw [sumTimes_cons, times_one hn (h x (by simp)), sumTimes_all hn xs (fun y hy => h y (by simp [hy])), List.length_cons]
    omega
theorem met_le (xs : List Int) : ∀ ds : List Int, (ds.filter (fun d => decide (0 < times d xs))).length ≤ sumTimes xs ds
  | [] => by simp [sumTimes]
  | d :: ds => by
    have := met_le xs ds
    by_cases h : 0 < times d xs
    · rw [List.filter_cons_of_pos (by simpa using h), List.length_cons, sumTimes]
      omega
    · rw [List.filter_cons_of_neg (by simpa using h), sumTimes]
      omega
theorem met_eq (xs : List Int) : ∀ ds : List Int, (ds.filter (fun d => decide (0 < times d xs))).length = sumTimes xs ds ↔ ∀ d ∈ ds, times d xs ≤ 1
  | [] => by simp [sumTimes]
  | d :: ds => by
    have h1 := met_le xs ds
    have h2 := met_eq xs ds
    simp only [List.mem_cons, forall_eq_or_imp]
    rw [← h2]
    by_cases h : 0 < times d xs
    · rw [List.filter_cons_of_pos (by simpa using h), List.length_cons, sumTimes]
      omega
    · rw [List.filter_cons_of_neg (by simpa using h), sumTimes]
      omega
theorem met_not (xs : List Int) (ds : List Int) : (ds.filter (fun d => decide (0 < times d xs))).length + (ds.filter (fun d => decide (times d xs = 0))).length = ds.length := by
  induction ds with
  | nil => rfl
  | cons d ds ih =>
    by_cases h : 0 < times d xs
    · rw [List.filter_cons_of_pos (by simpa using h), List.filter_cons_of_neg (by simp; omega), List.length_cons, List.length_cons]
      omega
    · rw [List.filter_cons_of_neg (by simpa using h), List.filter_cons_of_pos (by simp; omega), List.length_cons, List.length_cons]
      omega
/-- One more at each of some places. -/
def bump (o : List Int) : List Int → List Int
  | [] => o
  | d :: ds => bump (o.set d.toNat (o.getD d.toNat 0 + 1)) ds
theorem bump_append (a b : List Int) : ∀ o, bump o (a ++ b) = bump (bump o a) b := by
  induction a with
  | nil => exact fun o => rfl
  | cons x a ih => exact fun o => ih _
theorem bump_length : ∀ (ds o : List Int), (bump o ds).length = o.length
  | [], o => rfl
  | d :: ds, o => by simp [bump, bump_length ds]
theorem bump_getD : ∀ (ds o : List Int), (∀ d ∈ ds, 0 ≤ d ∧ d < (o.length : Int)) → ∀ i : Nat, i < o.length → (bump o ds).getD i 0 = o.getD i 0 + times (i : Int) ds
  | [], o, _, i, _ => by simp [bump, times]
  | d :: ds, o, h, i, hi => by
    have hd := h d (by simp)
    rw [bump, bump_getD ds _ (fun x hx => by rw [List.length_set]; exact h x (by simp [hx])) i (by rw [List.length_set]; exact hi), times]
    by_cases e : d = (i : Int)
    · subst e
      rw [if_pos rfl, Int.toNat_natCast]
      simp [List.getD_eq_getElem?_getD, hi]
      omega
    · rw [if_neg e]
      have : d.toNat ≠ i := by omega
      simp [List.getD_eq_getElem?_getD, List.getElem?_set_ne this]
theorem bump_zeros {n : Nat} {ds : List Int} (h : ∀ d ∈ ds, 0 ≤ d ∧ d < (n : Int)) : bump (List.replicate n 0) ds = (List.range n).map (fun i : Nat => ((times (i : Int) ds : Nat) : Int)) := by
  refine List.ext_getElem (by simp [bump_length]) fun i h1 h2 => ?_
  have hi : i < n := by simpa [bump_length] using h1
  have := bump_getD ds (List.replicate n 0) (by simpa using h) i (by simpa using hi)
  rw [List.getD_eq_getElem?_getD, List.getElem?_eq_getElem h1] at this
  simp only [Option.getD_some] at this
  rw [this]
  simp [List.getD_eq_getElem?_getD, hi]
end Go.Proofs.Ytofjndbpndpjjaa.Fn
namespace Go.Proofs.Ytofjndbpndpjjaa.Fn
open Go.RowKit Go.Proofs.YtofjndbpndpjjaaW.PrintWords Go.Proofs.YtofjndbpndpjjaaW.PrintLast Go.Proofs.YtofjndbpndpjjaaW.PrintMore
set_option linter.unusedVariables false
set_option linter.unusedSimpArgs false
/-- The differences of a list's later numbers to its earlier ones, as the program comes to them: pre is had already. -/
def gaps (pre : List Int) : List Int → List Int
  | [] => []
  | m :: suf => pre.map (fun k => m - k) ++ gaps (pre ++ [m]) suf
/-- The same, by the earlier numbers. -/
def gapsUp : List Int → List Int
  | [] => []
  | x :: l => l.map (fun y => y - x) ++ gapsUp l
theorem gaps_cons (x : Int) : ∀ (suf pre : List Int), (gaps (x :: pre) suf).Perm (suf.map (fun y => y - x) ++ gaps pre suf)
  | [], pre => by simp [gaps]
  | m :: suf, pre => by
    have ih := gaps_cons x suf (pre ++ [m])
    simp only [gaps, List.map_cons, List.cons_append]
    refine List.Perm.cons _ ?_
    refine (List.Perm.append_left _ ih).trans ?_
    rw [← List.append_assoc, ← List.append_assoc]
    exact List.Perm.append_right _ List.perm_append_comm
theorem gaps_perm : ∀ l : List Int, (gaps [] l).Perm (gapsUp l)
  | [] => List.Perm.refl _
  | x :: l => by
    simp only [gaps, gapsUp, List.map_nil, List.nil_append]
    exact (gaps_cons x l []).trans (List.Perm.append_left _ (gaps_perm l))
theorem gapsUp_snoc (y : Int) : ∀ l : List Int, (gapsUp (l ++ [y])).Perm (gapsUp l ++ l.map (fun x => y - x))
  | [] => by simp [gapsUp]
  | x :: l => by
    have ih := gapsUp_snoc y l
    simp only [List.cons_append, gapsUp, List.map_append, List.map_cons, List.map_nil]
    rw [List.append_assoc, List.append_assoc]
    refine List.Perm.append_left _ ?_
    refine (List.Perm.append_left _ ih).trans ?_
    rw [← List.append_assoc]
    have : ([y - x] ++ (gapsUp l ++ l.map (fun x => y - x))).Perm (gapsUp l ++ (y - x) :: l.map (fun x => y - x)) := by
      simpa using (List.perm_middle (l₁ := gapsUp l) (a := y - x) (l₂ := l.map (fun x => y - x))).symm
    simpa using this
theorem gapsUp_back (c : Int) : ∀ l : List Int, (gapsUp (l.reverse.map (fun x => c - x))).Perm (gapsUp l)
  | [] => List.Perm.refl _
  | x :: l => by
    rw [List.reverse_cons, List.map_append, List.map_cons, List.map_nil]
    refine (gapsUp_snoc _ _).trans ?_
    refine ((gapsUp_back c l).append_right _).trans ?_
    refine List.perm_append_comm.trans ?_
    rw [gapsUp]
    refine List.Perm.append_right _ ?_
    rw [List.map_map]
    have e : ((fun z => c - x - z) ∘ fun z => c - z) = fun y => y - x := by funext y; simp only [Function.comp]; omega
    rw [e]
    exact (List.reverse_perm l).map _
theorem gapsUp_length : ∀ l : List Int, 2 * (gapsUp l).length = l.length * (l.length - 1)
  | [] => rfl
  | x :: l => by
    have ih := gapsUp_length l
    rw [gapsUp, List.length_append, List.length_map, List.length_cons, Nat.mul_add, ih, Nat.add_sub_cancel]
    cases h : l.length with
    | zero => rfl
    | succ n => simp only [Nat.add_sub_cancel]; rw [Nat.mul_comm (n + 1) n, ← Nat.add_mul]; congr 1; omega
theorem mem_gapsUp {d : Int} : ∀ {l : List Int}, l.Pairwise (· < ·) → (d ∈ gapsUp l ↔ 0 < d ∧ ∃ x ∈ l, x + d ∈ l)
  | [], _ => by simp [gapsUp]
  | x :: l, h => by
    obtain ⟨h1, h2⟩ := List.pairwise_cons.1 h
    have ih := mem_gapsUp (d := d) h2
    rw [gapsUp, List.mem_append, ih, List.mem_map]
    constructor
    · rintro (⟨y, hy, rfl⟩ | ⟨hd, z, hz, hzd⟩)
      · have := h1 y hy
        exact ⟨by omega, x, by simp, by rw [show x + (y - x) = y by omega]; simp [hy]⟩
      · exact ⟨hd, z, by simp [hz], by simp [hzd]⟩
    · rintro ⟨hd, z, hz, hzd⟩
      rcases List.mem_cons.1 hz with rfl | hz
      · rcases List.mem_cons.1 hzd with e | hzd
        · omega
        · exact .inl ⟨z + d, hzd, by omega⟩
      · rcases List.mem_cons.1 hzd with e | hzd
        · have := h1 z hz
          omega
        · exact .inr ⟨hd, z, hz, hzd⟩
/-- The last number of a list. -/
def lastOf (l : List Int) : Int := rd l ((l.length : Int) - 1)
/-- A ruler: from 0 on, growing, of at most twelve marks and the length 60. -/
def isRuler (l : List Int) : Bool := decide (1 ≤ l.length ∧ l.length ≤ 12) && decide (rd l 0 = 0) && growing l && decide (lastOf l ≤ 60)
theorem growing_drop {l : List Int} {i : Nat} (h : i + 1 < l.length) : growing (l.drop i) = (decide (rd l (i : Int) < rd l ((i + 1 : Nat) : Int)) && growing (l.drop (i + 1))) := by
  rw [List.drop_eq_getElem_cons (show i < l.length by omega), List.drop_eq_getElem_cons h, rd_nat l i (by omega), rd_nat l (i + 1) h]
  simp [growing]
theorem growing_last {l : List Int} {i : Nat} (h : i + 1 = l.length) : growing (l.drop i) = true := by
  rw [List.drop_eq_getElem_cons (show i < l.length by omega), List.drop_of_length_le (by omega)]
  rfl
theorem sorted_le_last : ∀ {l : List Int}, l.Pairwise (· < ·) → ∀ x ∈ l, x ≤ lastOf l
  | [], _, x, hx => by simp at hx
  | [y], _, x, hx => by
    have : x = y := by simpa using hx
    subst this
    simp [lastOf, rd]
  | y :: z :: l, h, x, hx => by
    have e : lastOf (y :: z :: l) = lastOf (z :: l) := by
      unfold lastOf rd
      have e1 : (((y :: z :: l).length : Int) - 1).toNat = ((z :: l).length - 1) + 1 := by simp only [List.length_cons]; omega
      have e2 : (((z :: l).length : Int) - 1).toNat = (z :: l).length - 1 := by omega
      rw [e1, e2]
      simp
    obtain ⟨h1, h2⟩ := List.pairwise_cons.1 h
    have ih := fun x hx => sorted_le_last h2 x hx
    rw [e]
    rcases List.mem_cons.1 hx with rfl | hx
    · have := ih z (by simp)
      have := h1 z (by simp)
      omega
    · exact ih x hx
theorem last_mem {l : List Int} (h : 1 ≤ l.length) : lastOf l ∈ l := by
  obtain ⟨n, hn⟩ : ∃ n : Nat, (l.length : Int) - 1 = n := ⟨l.length - 1, by omega⟩
  unfold lastOf
  rw [hn, rd_nat l n (by omega)]
  exact List.getElem_mem _
theorem isRuler_parts {l : List Int} (h : isRuler l = true) : (1 ≤ l.length ∧ l.length ≤ 12) ∧ rd l 0 = 0 ∧ l.Pairwise (· < ·) ∧ lastOf l ≤ 60 ∧ 0 ≤ lastOf l ∧ ∀ x ∈ l, 0 ≤ x ∧ x ≤ lastOf l := by
  simp only [isRuler, Bool.and_eq_true, decide_eq_true_eq] at h
  obtain ⟨⟨⟨h1, h2⟩, h3⟩, h4⟩ := h
  have hs := growing_sorted l h3
  have h0 : ∀ x ∈ l, 0 ≤ x := by
    cases l with
    | nil => simp
    | cons y l =>
      have hy : y = 0 := by simpa [rd] using h2
      subst hy
      intro x hx
      rcases List.mem_cons.1 hx with rfl | hx
      · omega
      · have := (List.pairwise_cons.1 hs).1 x hx
        omega
  exact ⟨h1, h2, hs, h4, h0 _ (last_mem h1.1), fun x hx => ⟨h0 x hx, sorted_le_last hs x hx⟩⟩
/-- The differences of a ruler lie from 1 to its length. -/
theorem gaps_range {l : List Int} (h : isRuler l = true) : ∀ d ∈ gaps [] l, 1 ≤ d ∧ d ≤ lastOf l := by
  obtain ⟨_, _, hs, _, _, hx⟩ := isRuler_parts h
  intro d hd
  obtain ⟨h1, x, hx1, hx2⟩ := (mem_gapsUp hs).1 ((gaps_perm l).mem_iff.1 hd)
  have a := hx x hx1
  have b := hx _ hx2
  omega
/-- How often each distance is measured. -/
def measuredOf (l : List Int) : List Int := (List.range (lastOf l + 1).toNat).map fun i : Nat => ((times (i : Int) (gaps [] l) : Nat) : Int)
theorem bump_bound : ∀ (ds o : List Int) (B : Int), (∀ x ∈ o, 0 ≤ x ∧ x ≤ B) → 0 ≤ B → ∀ x ∈ bump o ds, 0 ≤ x ∧ x ≤ B + ds.length
  | [], o, B, h, _, x, hx => by simpa [bump] using h x hx
  | d :: ds, o, B, h, hB, x, hx => by
    have hg : 0 ≤ o.getD d.toNat 0 ∧ o.getD d.toNat 0 ≤ B := by
      rw [List.getD_eq_getElem?_getD]
      cases e : o[d.toNat]? with
      | none => exact ⟨Int.le_refl _, hB⟩
      | some y => exact h y (List.mem_of_getElem? e)
    have := bump_bound ds _ (B + 1) (fun y hy => by
      rcases List.mem_or_eq_of_mem_set hy with hy | rfl
      · have := h y hy
        omega
      · omega) (by omega) x hx
    rw [List.length_cons]
    omega
theorem slices_Max_int_int.L0_val (c : Int) (l : List Int) (h : l.length < 4611686018427387904) : ∀ (suf pre : List Int) (a : Int), l = pre ++ suf → ∃ r, slices_Max_int_int.L0 l a (pre.length : Int) = some r ∧ (r ≤ c ↔ a ≤ c ∧ ∀ x ∈ suf, x ≤ c)
  | [], pre, a, e => by
    rw [slices_Max_int_int.L0_eq, if_neg (by rw [e]; simp)]
    exact ⟨a, rfl, by simp⟩
  | x :: suf, pre, a, e => by
    have hrd : rd l (pre.length : Int) = x := by rw [e, rd_mid]
    have hlen : pre.length < l.length := by rw [e]; simp
    have hw : wrap64 ((pre.length : Int) + 1) = ((pre ++ [x]).length : Int) := by rw [wrap_in (by omega) (by omega)]; simp
    obtain ⟨r, hr, hiff⟩ := slices_Max_int_int.L0_val c l h suf (pre ++ [x]) (mx a x) (by rw [e]; simp)
    rw [slices_Max_int_int.L0_eq, if_pos (by omega), if_pos (by omega), hrd, hw]
    refine ⟨r, hr, hiff.trans ?_⟩
    have : mx a x ≤ c ↔ a ≤ c ∧ x ≤ c := by
      unfold mx
      split <;> omega
    rw [this]
    simp [and_assoc]
theorem slices_Max_int_int.F_le (l : List Int) (h : l.length < 4611686018427387904) (h0 : 0 < l.length) (c : Int) : ∃ r, slices_Max_int_int.F l = some r ∧ (r ≤ c ↔ ∀ x ∈ l, x ≤ c) := by
  cases l with
  | nil => simp at h0
  | cons y l =>
    obtain ⟨r, hr, hiff⟩ := slices_Max_int_int.L0_val c (y :: l) h l [y] y (by simp)
    have hy : rd (y :: l) 0 = y := rfl
    rw [slices_Max_int_int.F_eq, if_neg (by rw [List.length_cons]; omega), if_pos (by rw [List.length_cons]; omega), hy]
    exact ⟨r, hr, hiff.trans (by simp)⟩
end Go.Proofs.Ytofjndbpndpjjaa.Fn
namespace Go.Proofs.Ytofjndbpndpjjaa.Fn
open Go.RowKit Go.Proofs.YtofjndbpndpjjaaW.PrintWords Go.Proofs.YtofjndbpndpjjaaW.PrintLast Go.Proofs.YtofjndbpndpjjaaW.PrintMore
set_option linter.unusedVariables false
set_option linter.unusedSimpArgs false
theorem sorted_growing : ∀ (l : List Int), l.Pairwise (· < ·) → growing l = true
  | [], _ => rfl
  | [x], _ => rfl
  | x :: y :: l, h => by
    obtain ⟨h1, h2⟩ := List.pairwise_cons.1 h
    simp only [growing, Bool.and_eq_true, decide_eq_true_eq]
    exact ⟨h1 y (by simp), sorted_growing (y :: l) h2⟩
theorem isRuler_mk {l : List Int} (h1 : 1 ≤ l.length ∧ l.length ≤ 12) (h2 : rd l 0 = 0) (h3 : l.Pairwise (· < ·)) (h4 : lastOf l ≤ 60) : isRuler l = true := by
  unfold isRuler
  rw [decide_eq_true h1, decide_eq_true h2, sorted_growing l h3, decide_eq_true h4]
  rfl
/-- A number put into a growing list. -/
def ins (a : Int) : List Int → List Int
  | [] => [a]
  | x :: t => if x < a then x :: ins a t else a :: x :: t
theorem ins_perm (a : Int) : ∀ l : List Int, (ins a l).Perm (a :: l)
  | [] => List.Perm.refl _
  | x :: t => by
    unfold ins
    split
    · exact (List.Perm.cons x (ins_perm a t)).trans (List.Perm.swap _ _ _)
    · exact List.Perm.refl _
theorem ins_mem {a x : Int} {l : List Int} : x ∈ ins a l ↔ x = a ∨ x ∈ l := by rw [(ins_perm a l).mem_iff, List.mem_cons]
theorem ins_length (a : Int) (l : List Int) : (ins a l).length = l.length + 1 := by rw [(ins_perm a l).length_eq, List.length_cons]
theorem ins_sorted {a : Int} : ∀ {l : List Int}, l.Pairwise (· < ·) → ¬ a ∈ l → (ins a l).Pairwise (· < ·)
  | [], _, _ => by simp [ins]
  | x :: t, h, ha => by
    obtain ⟨h1, h2⟩ := List.pairwise_cons.1 h
    have hne : a ≠ x := fun e => ha (by simp [e])
    have ha2 : ¬ a ∈ t := fun e => ha (by simp [e])
    unfold ins
    split
    · rename_i hlt
      refine List.pairwise_cons.2 ⟨fun y hy => ?_, ins_sorted h2 ha2⟩
      rcases ins_mem.1 hy with rfl | hy
      · exact hlt
      · exact h1 y hy
    · refine List.pairwise_cons.2 ⟨fun y hy => ?_, h⟩
      rcases List.mem_cons.1 hy with rfl | hy
      · omega
      · have := h1 y hy
        omega
theorem sorted_nodup {l : List Int} (h : l.Pairwise (· < ·)) : l.Nodup := h.imp (fun h => by omega)
/-- What comes of a mark that is there already is no ruler. -/
theorem ins_no {a : Int} {l : List Int} (h : a ∈ l) : isRuler (ins a l) = false := by
  rw [Bool.eq_false_iff]
  intro hr
  have hs := sorted_nodup (isRuler_parts hr).2.2.1
  rw [(ins_perm a l).nodup_iff] at hs
  exact (List.nodup_cons.1 hs).1 h
def addOf (l : List Int) (a : Int) : List Int × Bool := if isRuler l = true ∧ 0 ≤ a ∧ isRuler (ins a l) = true then (ins a l, true) else ([], false)
theorem addOf_len (l : List Int) (a : Int) : (addOf l a).1.length ≤ l.length + 1 := by
  unfold addOf
  split
  · rw [ins_length]
    exact Nat.le_refl _
  · simp
end Go.Proofs.Ytofjndbpndpjjaa.Fn
namespace Go.Proofs.Ytofjndbpndpjjaa.Fn
open Go.RowKit Go.Proofs.YtofjndbpndpjjaaW.PrintWords Go.Proofs.YtofjndbpndpjjaaW.PrintLast Go.Proofs.YtofjndbpndpjjaaW.PrintMore
set_option linter.unusedVariables false
set_option linter.unusedSimpArgs false
theorem residues_pair {v k m : Int} {x y : Int} (hv : 0 < v) (hk : 0 ≤ k) (hm : 0 ≤ m) (hx : 0 ≤ x ∧ x < v) (hy : 0 ≤ y ∧ y < v) (hg : Nat.gcd v.toNat k.toNat = 1) (h : Int.tmod (x * k + m) v = Int.tmod (y * k + m) v) : x = y := by
  rcases Int.lt_trichotomy x y with hl | hl | hl
  · have := residues_nodup (l := [x, y]) hv hk hm (by simp; omega) (by simp; exact hl) hg
    simp [residues, h] at this
  · exact hl
  · have := residues_nodup (l := [y, x]) hv hk hm (by simp; omega) (by simp; exact hl) hg
    simp [residues, h] at this
theorem tm_lt {a v : Int} (h0 : 0 ≤ a) (h : a < v) : Int.tmod a v = a := Int.tmod_eq_of_lt h0 h
theorem tm_ge {a v : Int} (h0 : v ≤ a) (hv : 0 ≤ v) (h : a < v + v) : Int.tmod a v = a - v := by
  have e : a = (a - v) + v := by omega
  rw [Int.tmod_eq_emod_of_nonneg (by omega)]
  have h1 := Int.add_emod_right (a - v) v
  rw [← e] at h1
  rw [h1, Int.emod_eq_of_lt (by omega) (by omega)]
/-- The differences of a circle's points, all of them. -/
def circGaps (v : Int) (S : List Int) : List Int := S.flatMap fun x => (S.filter (fun y => decide (y ≠ x))).map (fun y => Int.tmod (x - y + v) v)
/-- How many points have another one so far behind. -/
def near (v : Int) (S : List Int) (d : Int) : Nat := (S.filter (fun x => decide (Int.tmod (x - d + v) v ∈ S))).length
theorem times_flatMap {d : Int} {β : Type} (f : β → List Int) : ∀ l : List β, times d (l.flatMap f) = (l.map (fun x => times d (f x))).sum
  | [] => rfl
  | x :: l => by simp [times_append, times_flatMap f l]
theorem times_inner {v x d : Int} (hx : 0 ≤ x ∧ x < v) (hd : 0 < d ∧ d < v) : ∀ T : List Int, T.Nodup → (∀ y ∈ T, 0 ≤ y ∧ y < v) → times d ((T.filter (fun y => decide (y ≠ x))).map (fun y => Int.tmod (x - y + v) v)) = if Int.tmod (x - d + v) v ∈ T then 1 else 0
  | [], _, _ => by simp [times]
  | y :: T, hn, hT => by
    obtain ⟨h1, h2⟩ := List.nodup_cons.1 hn
    have ih := times_inner hx hd T h2 (fun z hz => hT z (by simp [hz]))
    have hy := hT y (by simp)
    have e0 : Int.tmod (x - d + v) v ≠ x := by
      by_cases h : x - d + v < v
      · rw [tm_lt (by omega) h]; omega
      · rw [tm_ge (by omega) (by omega) (by omega)]; omega
    by_cases hxy : y = x
    · subst hxy
      rw [List.filter_cons_of_neg (by simp), ih]
      simp only [List.mem_cons, e0, false_or]
    · rw [List.filter_cons_of_pos (by simpa using hxy), List.map_cons, times, ih]
      have hiff : Int.tmod (x - y + v) v = d ↔ y = Int.tmod (x - d + v) v := by
        have a1 : Int.tmod (x - y + v) v = if x < y then x - y + v else x - y := by
          by_cases h : x < y
          · rw [if_pos h, tm_lt (by omega) (by omega)]
          · rw [if_neg h, tm_ge (by omega) (by omega) (by omega)]; omega
        have a2 : Int.tmod (x - d + v) v = if x < d then x - d + v else x - d := by
          by_cases h : x < d
          · rw [if_pos h, tm_lt (by omega) (by omega)]
          · rw [if_neg h, tm_ge (by omega) (by omega) (by omega)]; omega
        rw [a1, a2]
        split <;> split <;> omega
      by_cases hyd : y = Int.tmod (x - d + v) v
      · rw [if_pos (hiff.2 hyd), if_neg (fun h => h1 (hyd ▸ h)), if_pos (by rw [← hyd]; simp)]
      · rw [if_neg (fun h => hyd (hiff.1 h)), Nat.zero_add]
        have : (Int.tmod (x - d + v) v ∈ y :: T) = (Int.tmod (x - d + v) v ∈ T) := by
          rw [List.mem_cons, eq_iff_iff]
          exact ⟨fun h => h.resolve_left (fun e => hyd e.symm), .inr⟩
        simp only [this]
theorem sum_ones {β : Type} (p : β → Bool) : ∀ l : List β, (l.map (fun x => if p x = true then 1 else 0)).sum = (l.filter p).length
  | [] => rfl
  | x :: l => by
    by_cases h : p x = true
    · rw [List.map_cons, List.sum_cons, if_pos h, List.filter_cons_of_pos h, List.length_cons, sum_ones p l, Nat.add_comm]
    · rw [List.map_cons, List.sum_cons, if_neg h, List.filter_cons_of_neg h, sum_ones p l, Nat.zero_add]
theorem times_circ {v d : Int} {S : List Int} (hn : S.Nodup) (hS : ∀ y ∈ S, 0 ≤ y ∧ y < v) (hd : 0 < d ∧ d < v) : times d (circGaps v S) = near v S d := by
  unfold circGaps near
  rw [times_flatMap, ← sum_ones]
  congr 1
  refine List.map_congr_left fun x hx => ?_
  rw [times_inner (hS x hx) hd S hn hS]
  simp
theorem circGaps_mem {v d : Int} {S : List Int} (hS : ∀ y ∈ S, 0 ≤ y ∧ y < v) (h : d ∈ circGaps v S) : 1 ≤ d ∧ d < v := by
  unfold circGaps at h
  obtain ⟨x, hx, h⟩ := List.mem_flatMap.1 h
  obtain ⟨y, hy, rfl⟩ := List.mem_map.1 h
  obtain ⟨hy, hne⟩ := List.mem_filter.1 hy
  have h1 := hS x hx
  have h2 := hS y hy
  have h3 : y ≠ x := by simpa using hne
  by_cases h : x < y
  · rw [tm_lt (by omega) (by omega)]; omega
  · rw [tm_ge (by omega) (by omega) (by omega)]; omega
theorem circGaps_zero {v : Int} {S : List Int} (hS : ∀ y ∈ S, 0 ≤ y ∧ y < v) : times 0 (circGaps v S) = 0 := by
  have : ¬ 0 < times 0 (circGaps v S) := fun h => by
    have := circGaps_mem hS (times_pos.1 h)
    omega
  omega
theorem filter_ne_length {x : Int} : ∀ {S : List Int}, S.Nodup → x ∈ S → (S.filter (fun y => decide (y ≠ x))).length + 1 = S.length
  | [], _, h => by simp at h
  | y :: S, hn, h => by
    obtain ⟨h1, h2⟩ := List.nodup_cons.1 hn
    by_cases e : y = x
    · subst e
      rw [List.filter_cons_of_neg (by simp), List.length_cons]
      congr 1
      rw [List.filter_eq_self.2]
      intro z hz
      simp only [decide_eq_true_eq]
      intro e
      exact h1 (e ▸ hz)
    · rw [List.filter_cons_of_pos (by simpa using e), List.length_cons, List.length_cons, filter_ne_length h2 ((List.mem_cons.1 h).resolve_left (fun h => e h.symm))]
theorem circGaps_length {v : Int} {S : List Int} (hn : S.Nodup) : (circGaps v S).length = S.length * (S.length - 1) := by
  unfold circGaps
  rw [count_flatMap_len]
  have : S.map (fun x => ((S.filter (fun y => decide (y ≠ x))).map (fun y => Int.tmod (x - y + v) v)).length) = S.map (fun _ => S.length - 1) := by
    refine List.map_congr_left fun x hx => ?_
    rw [List.length_map]
    have := filter_ne_length hn hx
    omega
  rw [this]
  generalize S.length - 1 = c
  induction S with
  | nil => simp
  | cons x S ih =>
    have : ∀ T : List Int, (T.map (fun _ => c)).sum = T.length * c := fun T => by
      induction T with
      | nil => simp
      | cons y T ih => rw [List.map_cons, List.sum_cons, ih, List.length_cons, Nat.add_mul, Nat.one_mul, Nat.add_comm]
    exact this _
/-- Points are as near behind as points of a perm of them. -/
theorem near_perm {v : Int} {S T : List Int} (h : S.Perm T) (d : Int) : near v S d = near v T d := by
  unfold near
  rw [(h.filter _).length_eq]
  congr 2
  funext x
  rw [decide_eq_decide]
  exact h.mem_iff
theorem near_ext {v : Int} {S T : List Int} (hS : S.Nodup) (hT : T.Nodup) (h : ∀ x, x ∈ S ↔ x ∈ T) (d : Int) : near v S d = near v T d := near_perm ((List.perm_ext_iff_of_nodup hS hT).2 h) d
theorem emod_congr {a b v : Int} (t : Int) (h : a = b + v * t) : a % v = b % v := by
  subst h
  exact Int.add_mul_emod_self_left b v t
/-- A set's multiple, moved: the differences are multiples, too. -/
theorem near_image {v k m : Int} {S : List Int} (hv : 0 < v) (hk : 0 ≤ k) (hm : 0 ≤ m) (hS : ∀ x ∈ S, 0 ≤ x ∧ x < v) (hg : Nat.gcd v.toNat k.toNat = 1) {d d' : Int} (hd : 0 ≤ d ∧ d < v) (hd' : 0 ≤ d' ∧ d' < v) (hdd : Int.tmod (d' * k) v = d) : near v (residues v k m S) d = near v S d' := by
  unfold near residues
  rw [List.filter_map, List.length_map]
  congr 1
  refine List.filter_congr fun x hx => ?_
  have hx := hS x hx
  simp only [Function.comp, decide_eq_decide]
  have hz : 0 ≤ Int.tmod (x - d' + v) v ∧ Int.tmod (x - d' + v) v < v := ⟨Int.tmod_nonneg _ (by omega), Int.tmod_lt_of_pos _ hv⟩
  have hkey : Int.tmod (Int.tmod (x * k + m) v - d + v) v = Int.tmod (Int.tmod (x - d' + v) v * k + m) v := by
    have p1 : 0 ≤ x * k := Int.mul_nonneg hx.1 hk
    have p2 : 0 ≤ Int.tmod (x - d' + v) v * k := Int.mul_nonneg hz.1 hk
    have p3 : 0 ≤ d' * k := Int.mul_nonneg hd'.1 hk
    have q1 : 0 ≤ Int.tmod (x * k + m) v := Int.tmod_nonneg _ (by omega)
    rw [Int.tmod_eq_emod_of_nonneg (a := Int.tmod (x * k + m) v - d + v) (by omega), Int.tmod_eq_emod_of_nonneg (a := Int.tmod (x - d' + v) v * k + m) (by omega), Int.tmod_eq_emod_of_nonneg (a := x * k + m) (by omega), Int.tmod_eq_emod_of_nonneg (a := x - d' + v) (by omega)]
    rw [Int.tmod_eq_emod_of_nonneg p3] at hdd
    have e1 := Int.emod_def (x * k + m) v
    have e2 := Int.emod_def (x - d' + v) v
    have e3 := Int.emod_def (d' * k) v
    rw [hdd] at e3
    rw [e1, e2]
    refine emod_congr (-((x * k + m) / v) + 1 + d' * k / v + ((x - d' + v) / v) * k - k) ?_
    rw [e3]
    simp only [Int.mul_add, Int.add_mul, Int.sub_mul, Int.mul_sub, Int.mul_neg, Int.mul_one, Int.mul_assoc]
    omega
  constructor
  · intro h
    obtain ⟨y, hy, e⟩ := List.mem_map.1 h
    rw [hkey] at e
    have := residues_pair hv hk hm (hS y hy) hz hg e
    rw [← this]
    exact hy
  · intro h
    rw [hkey]
    exact List.mem_map.2 ⟨_, h, rfl⟩
theorem len_two {α : Type} (p q : α → Bool) : ∀ l : List α, (l.filter (fun x => !p x && !q x)).length + (l.filter p).length + (l.filter q).length = l.length + (l.filter (fun x => p x && q x)).length
  | [] => rfl
  | x :: l => by
    have := len_two p q l
    cases hp : p x <;> cases hq : q x <;> simp [List.filter_cons, hp, hq] <;> omega
theorem range_nodup (v : Int) : ((List.range v.toNat).map fun n : Nat => (n : Int)).Nodup := by
  rw [List.Nodup, List.pairwise_map]
  exact List.pairwise_lt_range.imp (fun h => by omega)
theorem mem_rangeI {v x : Int} : x ∈ ((List.range v.toNat).map fun n : Nat => (n : Int)) ↔ 0 ≤ x ∧ x < v := by
  rw [List.mem_map]
  constructor
  · rintro ⟨n, hn, rfl⟩
    have := List.mem_range.1 hn
    omega
  · intro h
    exact ⟨x.toNat, List.mem_range.2 (by omega), by omega⟩
theorem shift_one {v x d : Int} (hx : 0 ≤ x ∧ x < v) (hd : 0 ≤ d ∧ d < v) : Int.tmod (x - d + v) v = if x < d then x - d + v else x - d := by
  by_cases h : x < d
  · rw [if_pos h, tm_lt (by omega) (by omega)]
  · rw [if_neg h, tm_ge (by omega) (by omega) (by omega)]; omega
theorem shift_up {v x d : Int} (hx : 0 ≤ x ∧ x < v) (hd : 0 ≤ d ∧ d < v) : Int.tmod (x + d) v = if x + d < v then x + d else x + d - v := by
  by_cases h : x + d < v
  · rw [if_pos h, tm_lt (by omega) (by omega)]
  · rw [if_neg h, tm_ge (by omega) (by omega) (by omega)]
/-- What is not in a set: its differences are as often made as the set's, and the points' number, less twice the set's. -/
theorem near_complement {v : Int} {S C : List Int} (hS : S.Nodup) (hSv : ∀ x ∈ S, 0 ≤ x ∧ x < v) (hC : C.Nodup) (hCm : ∀ x, x ∈ C ↔ (0 ≤ x ∧ x < v) ∧ x ∉ S) {d : Int} (hd : 0 ≤ d ∧ d < v) : near v C d + S.length + S.length = v.toNat + near v S d := by
  have hU := range_nodup v
  have hUm := fun x => mem_rangeI (v := v) (x := x)
  generalize ((List.range v.toNat).map fun n : Nat => (n : Int)) = U at hU hUm
  have hl : U.length = v.toNat := by
    have := ((List.perm_ext_iff_of_nodup hU (range_nodup v)).2 (fun x => (hUm x).trans mem_rangeI.symm)).length_eq
    simpa using this
  have key := len_two (fun x => decide (x ∈ S)) (fun x => decide (Int.tmod (x - d + v) v ∈ S)) U
  have nod : ∀ p : Int → Bool, (U.filter p).Nodup := fun p => hU.filter p
  have a1 : (U.filter (fun x => decide (x ∈ S))).length = S.length := by
    refine ((List.perm_ext_iff_of_nodup (nod _) hS).2 fun x => ?_).length_eq
    rw [List.mem_filter, hUm, decide_eq_true_eq]
    exact ⟨fun h => h.2, fun h => ⟨hSv x h, h⟩⟩
  have a2 : (U.filter (fun x => decide (Int.tmod (x - d + v) v ∈ S))).length = S.length := by
    have hmn : (S.map (fun x => Int.tmod (x + d) v)).Nodup := by
      rw [List.Nodup, List.pairwise_map]
      refine List.Pairwise.imp_of_mem ?_ hS
      intro x y hx hy hne e
      rw [shift_up (hSv x hx) hd, shift_up (hSv y hy) hd] at e
      have := hSv x hx
      have := hSv y hy
      split at e <;> split at e <;> omega
    have := ((List.perm_ext_iff_of_nodup (nod (fun x => decide (Int.tmod (x - d + v) v ∈ S))) hmn).2 fun x => ?_).length_eq
    · simpa using this
    · rw [List.mem_filter, hUm, decide_eq_true_eq, List.mem_map]
      constructor
      · rintro ⟨hx, h⟩
        refine ⟨_, h, ?_⟩
        have hz := hSv _ h
        rw [shift_up hz hd, shift_one hx hd]
        rw [shift_one hx hd] at hz
        split <;> split <;> omega
      · rintro ⟨y, hy, rfl⟩
        have hz := hSv y hy
        have hw : 0 ≤ Int.tmod (y + d) v ∧ Int.tmod (y + d) v < v := ⟨Int.tmod_nonneg _ (by omega), Int.tmod_lt_of_pos _ (by omega)⟩
        refine ⟨hw, ?_⟩
        have : Int.tmod (Int.tmod (y + d) v - d + v) v = y := by
          rw [shift_one hw hd]
          rw [shift_up hz hd] at hw ⊢
          split <;> split <;> omega
        rw [this]
        exact hy
  have a3 : (U.filter (fun x => decide (x ∈ S) && decide (Int.tmod (x - d + v) v ∈ S))).length = near v S d := by
    unfold near
    refine ((List.perm_ext_iff_of_nodup (nod _) (hS.filter _)).2 fun x => ?_).length_eq
    rw [List.mem_filter, List.mem_filter, hUm, Bool.and_eq_true, decide_eq_true_eq]
    exact ⟨fun h => ⟨h.2.1, h.2.2⟩, fun h => ⟨hSv x h.1, h.1, h.2⟩⟩
  have a4 : (U.filter (fun x => !decide (x ∈ S) && !decide (Int.tmod (x - d + v) v ∈ S))).length = near v C d := by
    unfold near
    refine ((List.perm_ext_iff_of_nodup (nod _) (hC.filter _)).2 fun x => ?_).length_eq
    rw [List.mem_filter, List.mem_filter, hUm, hCm]
    simp only [Bool.and_eq_true, Bool.not_eq_true', decide_eq_false_iff_not, decide_eq_true_eq, hCm]
    constructor
    · rintro ⟨hx, h1, h2⟩
      exact ⟨⟨hx, h1⟩, ⟨Int.tmod_nonneg _ (by omega), Int.tmod_lt_of_pos _ (by omega)⟩, h2⟩
    · rintro ⟨⟨hx, h1⟩, _, h2⟩
      exact ⟨hx, h1, h2⟩
  omega
theorem nodup_len_le : ∀ (A B : List Int), A.Nodup → (∀ x ∈ A, x ∈ B) → A.length ≤ B.length
  | [], B, _, _ => by simp
  | x :: A, B, hn, h => by
    obtain ⟨h1, h2⟩ := List.nodup_cons.1 hn
    have hx := h x (by simp)
    have ih := nodup_len_le A (B.erase x) h2 (fun y hy => (List.mem_erase_of_ne (fun e => h1 (by rw [← e]; exact hy))).2 (h y (by simp [hy])))
    rw [List.length_erase_of_mem hx] at ih
    have : 0 < B.length := List.length_pos_of_mem hx
    simp only [List.length_cons]
    omega
theorem near_back {v : Int} {S : List Int} (hS : S.Nodup) (hSv : ∀ x ∈ S, 0 ≤ x ∧ x < v) {d : Int} (hd : 0 < d ∧ d < v) : near v S (v - d) = near v S d := by
  have key : ∀ e f : Int, 0 < e → e < v → f = v - e → near v S f ≤ near v S e := by
    intro e f he hev hf
    unfold near
    have hn := hS.filter (fun x => decide (Int.tmod (x - f + v) v ∈ S))
    have hm : ((S.filter (fun x => decide (Int.tmod (x - f + v) v ∈ S))).map (fun x => Int.tmod (x - f + v) v)).Nodup := by
      rw [List.Nodup, List.pairwise_map]
      refine List.Pairwise.imp_of_mem ?_ hn
      intro x y hx hy hne e
      have h1 := hSv x (List.mem_filter.1 hx).1
      have h2 := hSv y (List.mem_filter.1 hy).1
      rw [shift_one h1 (by omega), shift_one h2 (by omega)] at e
      split at e <;> split at e <;> omega
    have hsub : ∀ z ∈ (S.filter (fun x => decide (Int.tmod (x - f + v) v ∈ S))).map (fun x => Int.tmod (x - f + v) v), z ∈ S.filter (fun x => decide (Int.tmod (x - e + v) v ∈ S)) := by
      intro z hz
      obtain ⟨x, hx, rfl⟩ := List.mem_map.1 hz
      obtain ⟨hx, hx2⟩ := List.mem_filter.1 hx
      have hx2 : Int.tmod (x - f + v) v ∈ S := by simpa using hx2
      refine List.mem_filter.2 ⟨hx2, ?_⟩
      have h1 := hSv x hx
      have h2 := hSv _ hx2
      have : Int.tmod (Int.tmod (x - f + v) v - e + v) v = x := by
        rw [shift_one h2 (by omega)]
        rw [shift_one h1 (by omega)] at h2 ⊢
        split <;> split <;> omega
      rw [decide_eq_true_eq, this]
      exact hx
    have h3 := nodup_len_le _ _ hm hsub
    simpa using h3
  have h1 := key d (v - d) hd.1 hd.2 rfl
  have h2 := key (v - d) d (by omega) (by omega) (by omega)
  omega
theorem cg_out {a b v : Int} (ha : 0 ≤ a) (hb : 0 ≤ b) (h : Int.tmod a v = Int.tmod b v) : ∃ t, a = b + v * t := by
  rw [Int.tmod_eq_emod_of_nonneg ha, Int.tmod_eq_emod_of_nonneg hb] at h
  have e1 := Int.emod_def a v
  have e2 := Int.emod_def b v
  exact ⟨a / v - b / v, by rw [Int.mul_sub]; omega⟩
theorem cg_in {a b v : Int} (ha : 0 ≤ a) (hb : 0 ≤ b) (t : Int) (h : a = b + v * t) : Int.tmod a v = Int.tmod b v := by
  rw [Int.tmod_eq_emod_of_nonneg ha, Int.tmod_eq_emod_of_nonneg hb]
  exact emod_congr t h
theorem cg_self {a v : Int} (ha : 0 ≤ a) : ∃ t, Int.tmod a v = a + v * t := by
  rw [Int.tmod_eq_emod_of_nonneg ha]
  have e1 := Int.emod_def a v
  exact ⟨-(a / v), by rw [Int.mul_neg]; omega⟩
theorem mem_res {v k m : Int} {S : List Int} (hv : 0 < v) (hk : 0 ≤ k) (hm : 0 ≤ m) (hS : ∀ x ∈ S, 0 ≤ x ∧ x < v) (z : Int) : z ∈ pointsOf v (residues v k m S) ↔ ∃ x ∈ S, Int.tmod (x * k + m) v = z := by
  rw [mem_pointsOf (residues_bound hv (fun x hx => by have := Int.mul_nonneg (hS x hx).1 hk; omega))]
  unfold residues
  rw [List.mem_map]
theorem isMult_iff {v : Int} {S : List Int} {m : Nat} : isMult v S m = true ↔ Nat.gcd v.toNat m = 1 ∧ ∃ a : Nat, (a : Int) < v ∧ timesSet v S m = movedSet v S a := by
  unfold isMult
  rw [Bool.and_eq_true, decide_eq_true_eq, List.any_eq_true]
  constructor
  · rintro ⟨h, a, ha, h2⟩
    have := List.mem_range'_1.1 ha
    exact ⟨h, a, by omega, of_decide_eq_true h2⟩
  · rintro ⟨h, a, ha, h2⟩
    exact ⟨h, a, List.mem_range'_1.2 (by omega), decide_eq_true h2⟩
/-- A multiplier times a multiplier is one. -/
theorem isMult_mul {v : Int} {S : List Int} (hv : 2 ≤ v) (hS : ∀ x ∈ S, 0 ≤ x ∧ x < v) {m n : Nat} (hm : isMult v S m = true) (hn : isMult v S n = true) : isMult v S (m * n % v.toNat) = true := by
  obtain ⟨gm, a, ha, em⟩ := isMult_iff.1 hm
  obtain ⟨gn, b, hb, en⟩ := isMult_iff.1 hn
  obtain ⟨t3, h3⟩ : ∃ t, ((m * n % v.toNat : Nat) : Int) = m * n + v * t := by
    refine ⟨-((m * n / v.toNat : Nat) : Int), ?_⟩
    have e := Nat.div_add_mod (m * n) v.toNat
    have e2 : ((v.toNat : Nat) : Int) = v := by omega
    have e3 : ((v.toNat * (m * n / v.toNat) + m * n % v.toNat : Nat) : Int) = ((m * n : Nat) : Int) := by rw [e]
    rw [Int.natCast_add, Int.natCast_mul, Int.natCast_mul, e2] at e3
    rw [Int.mul_neg]
    omega
  have g : Nat.gcd v.toNat (m * n % v.toNat) = 1 := by
    rw [Nat.gcd_comm, ← Nat.gcd_rec]
    exact Nat.Coprime.mul_right gm gn
  have pc : (0 : Int) ≤ a + m * b := by
    have := Int.mul_nonneg (Int.natCast_nonneg m) (Int.natCast_nonneg b)
    omega
  obtain ⟨t4, h4⟩ := cg_self (a := (a : Int) + m * b) (v := v) pc
  have hc0 : 0 ≤ Int.tmod ((a : Int) + m * b) v := Int.tmod_nonneg _ pc
  have hc1 : Int.tmod ((a : Int) + m * b) v < v := Int.tmod_lt_of_pos _ (by omega)
  generalize Int.tmod ((a : Int) + m * b) v = c at h4 hc0 hc1
  refine isMult_iff.2 ⟨g, c.toNat, by omega, ?_⟩
  rw [show ((c.toNat : Nat) : Int) = c by omega]
  have hM : (0 : Int) ≤ ((m * n % v.toNat : Nat) : Int) := Int.natCast_nonneg _
  unfold timesSet movedSet at em en ⊢
  have vp : 0 < v := by omega
  have pos : ∀ x k : Int, 0 ≤ x → 0 ≤ k → 0 ≤ x * k := fun x k h1 h2 => Int.mul_nonneg h1 h2
  refine sorted_ext _ _ (pointsOf_sorted _ _) (pointsOf_sorted _ _) fun z => ?_
  rw [mem_res vp hM (by omega) hS, mem_res vp (by omega) hc0 hS]
  have fwd : ∀ x s t : Int, 0 ≤ x → 0 ≤ s → 0 ≤ t → Int.tmod (x * n + 0) v = Int.tmod (s * 1 + b) v → Int.tmod (s * m + 0) v = Int.tmod (t * 1 + a) v → Int.tmod (x * ((m * n % v.toNat : Nat) : Int) + 0) v = Int.tmod (t * 1 + c) v := by
    intro x s t hx hs ht e1 e2
    have p1 := pos x n hx (by omega)
    have p2 := pos s m hs (by omega)
    have p3 := pos x _ hx hM
    obtain ⟨t1, h1⟩ := cg_out (by omega) (by omega) e1
    obtain ⟨t2, h2⟩ := cg_out (by omega) (by omega) e2
    refine cg_in (by omega) (by omega) (t2 + m * t1 + x * t3 - t4) ?_
    generalize ((m * n % v.toNat : Nat) : Int) = M at h3
    clear p1 p2 p3 e1 e2 em en
    grind
  constructor
  · rintro ⟨x, hx, rfl⟩
    obtain ⟨s, hs, e1⟩ := (mem_res vp (by omega) (by omega) hS _).1 (show Int.tmod (x * n + 0) v ∈ pointsOf v (residues v 1 b S) from en ▸ (mem_res vp (by omega) (by omega) hS _).2 ⟨x, hx, rfl⟩)
    obtain ⟨t, ht, e2⟩ := (mem_res vp (by omega) (by omega) hS _).1 (show Int.tmod (s * m + 0) v ∈ pointsOf v (residues v 1 a S) from em ▸ (mem_res vp (by omega) (by omega) hS _).2 ⟨s, hs, rfl⟩)
    exact ⟨t, ht, (fwd x s t (hS x hx).1 (hS s hs).1 (hS t ht).1 e1.symm e2.symm).symm⟩
  · rintro ⟨t, ht, rfl⟩
    obtain ⟨s, hs, e2⟩ := (mem_res vp (by omega) (by omega) hS _).1 (show Int.tmod (t * 1 + a) v ∈ pointsOf v (residues v m 0 S) from em ▸ (mem_res vp (by omega) (by omega) hS _).2 ⟨t, ht, rfl⟩)
    obtain ⟨x, hx, e1⟩ := (mem_res vp (by omega) (by omega) hS _).1 (show Int.tmod (s * 1 + b) v ∈ pointsOf v (residues v n 0 S) from en ▸ (mem_res vp (by omega) (by omega) hS _).2 ⟨s, hs, rfl⟩)
    exact ⟨x, hx, fwd x s t (hS x hx).1 (hS s hs).1 (hS t ht).1 e1 e2⟩
theorem mem_multsFrom {v : Int} {S : List Int} {x : Int} : ∀ (n m : Nat), x ∈ multsFrom v S n m ↔ ∃ k : Nat, x = (k : Int) ∧ m ≤ k ∧ k < m + n ∧ isMult v S k = true
  | 0, m => by
    simp only [multsFrom, List.not_mem_nil, false_iff]
    rintro ⟨k, _, h1, h2, _⟩
    omega
  | n + 1, m => by
    have ih := mem_multsFrom (v := v) (S := S) (x := x) n (m + 1)
    rw [multsFrom_step (b := isMult v S m) rfl]
    have tail : (∃ k : Nat, x = (k : Int) ∧ m + 1 ≤ k ∧ k < m + 1 + n ∧ isMult v S k = true) → ∃ k : Nat, x = (k : Int) ∧ m ≤ k ∧ k < m + (n + 1) ∧ isMult v S k = true := fun ⟨k, e, h1, h2, h3⟩ => ⟨k, e, by omega, by omega, h3⟩
    by_cases h : isMult v S m = true
    · rw [if_pos h, List.mem_cons, ih]
      constructor
      · rintro (e | h1)
        · exact ⟨m, e, Nat.le_refl _, by omega, h⟩
        · exact tail h1
      · rintro ⟨k, e, h1, h2, h3⟩
        by_cases hk : k = m
        · exact .inl (by rw [e, hk])
        · exact .inr ⟨k, e, by omega, by omega, h3⟩
    · rw [if_neg h, ih]
      constructor
      · exact tail
      · rintro ⟨k, e, h1, h2, h3⟩
        by_cases hk : k = m
        · exact absurd (hk ▸ h3) h
        · exact ⟨k, e, by omega, by omega, h3⟩
theorem mult_not_zero {v : Int} {S : List Int} (hv : 2 ≤ v) {m : Nat} (h : isMult v S m = true) : 1 ≤ m := by
  obtain ⟨g, _⟩ := isMult_iff.1 h
  rcases Nat.eq_zero_or_pos m with e | e
  · subst e
    rw [Nat.gcd_zero_right] at g
    omega
  · exact e
theorem isMult_one (v : Int) (S : List Int) (hv : 0 < v) : isMult v S 1 = true := isMult_iff.2 ⟨Nat.gcd_one_right _, 0, by omega, rfl⟩
theorem circle_parts {v : Int} {S : List Int} (h : isCircleSet v S = true) : (2 ≤ v ∧ v ≤ 31) ∧ (1 ≤ S.length ∧ S.length ≤ 8) ∧ (S.length : Int) < v ∧ (∀ x ∈ S, 0 ≤ x ∧ x < v) ∧ S.Pairwise (· < ·) ∧ S.Nodup := by
  obtain ⟨h1, h2, h3, h4, h5⟩ := isCircleSet_parts h
  have hs := growing_sorted S h5
  exact ⟨h1, h2, h3, h4, hs, hs.imp (fun h => by omega)⟩
/-- How often each difference is made. -/
def countsOf (v : Int) (S : List Int) : List Int := (List.range v.toNat).map fun i : Nat => ((times (i : Int) (circGaps v S) : Nat) : Int)
theorem countsOf_length (v : Int) (S : List Int) : (countsOf v S).length = v.toNat := by simp [countsOf]
theorem countsOf_bump {v : Int} {S : List Int} (hS : ∀ y ∈ S, 0 ≤ y ∧ y < v) : bump (List.replicate v.toNat 0) (circGaps v S) = countsOf v S := by
  refine bump_zeros fun d hd => ?_
  have := circGaps_mem hS hd
  omega
theorem circGaps_small {v : Int} {S : List Int} (hn : S.Nodup) (h : S.length ≤ 8) : (circGaps v S).length ≤ 64 := by
  rw [circGaps_length hn]
  have : S.length * (S.length - 1) ≤ 8 * 8 := Nat.mul_le_mul h (by omega)
  omega
theorem rd_counts {v : Int} {S : List Int} (hn : S.Nodup) (hS : ∀ y ∈ S, 0 ≤ y ∧ y < v) {d : Int} (hd : 0 < d ∧ d < v) : rd (countsOf v S) d = ((near v S d : Nat) : Int) := by
  obtain ⟨j, rfl⟩ : ∃ j : Nat, d = j := ⟨d.toNat, by omega⟩
  rw [rd_nat _ j (by rw [countsOf_length]; omega)]
  simp only [countsOf, List.getElem_map, List.getElem_range]
  rw [times_circ hn hS hd]
theorem nodup_index {l : List Int} (hn : l.Nodup) {i j : Nat} (hi : i < l.length) (hj : j < l.length) : l[j] = l[i] ↔ i = j := by
  constructor
  · intro e
    rcases Nat.lt_trichotomy i j with h | h | h
    · exact absurd e.symm ((List.pairwise_iff_getElem.1 hn) i j hi hj h)
    · exact h
    · exact absurd e ((List.pairwise_iff_getElem.1 hn) j i hj hi h)
  · rintro rfl
    rfl
theorem impl_counts.L1_val (v : Int) (hv : 2 ≤ v ∧ v ≤ 31) (S : List Int) (hn : S.Nodup) (hS : ∀ y ∈ S, 0 ≤ y ∧ y < v) (hl : S.length ≤ 8) (i : Nat) (hi : i < S.length) : ∀ (suf pre o : List Int), S = pre ++ suf → o.length = v.toNat → (∀ x ∈ o, 0 ≤ x ∧ x + suf.length ≤ 100000) → impl_counts.L1 v S o (i : Int) S[i] S (S.length : Int) (i : Int) S (S.length : Int) (pre.length : Int) = impl_counts.L0 v S (bump o ((suf.filter (fun y => decide (y ≠ S[i]))).map (fun y => Int.tmod (S[i] - y + v) v))) S (S.length : Int) (wrap64 ((i : Int) + 1))
  | [], pre, o, e, _, _ => by
    have hlen : S.length = pre.length := by rw [e]; simp
    rw [impl_counts.L1_eq, if_neg (by omega)]
    rfl
  | y :: suf, pre, o, e, ho, hb => by
    have hrd : rd S (pre.length : Int) = y := by
      have h1 := rd_mid pre y suf
      rw [← e] at h1
      exact h1
    have hlen : pre.length < S.length := by rw [e]; simp
    have hyj : S[pre.length] = y := by
      have := rd_nat S pre.length hlen
      rw [← this, hrd]
    have hiff := nodup_index hn hi hlen
    rw [hyj] at hiff
    have hw : wrap64 ((pre.length : Int) + 1) = ((pre ++ [y]).length : Int) := by rw [wrap_in (by omega) (by omega)]; simp
    have ih := fun o' h1 h2 => impl_counts.L1_val v hv S hn hS hl i hi suf (pre ++ [y]) o' (by rw [e]; simp) h1 h2
    rw [impl_counts.L1_eq, if_pos (by omega), if_pos (by omega), if_pos (by omega)]
    by_cases hij : (i : Int) = (pre.length : Int)
    · have hyx : y = S[i] := hiff.2 (by omega)
      rw [if_pos hij, hw, ih o ho (fun x hx => by have := hb x hx; simp only [List.length_cons] at this; omega), List.filter_cons_of_neg (by simpa using hyx)]
    · have hyx : ¬ y = S[i] := fun h => hij (by have := hiff.1 h; omega)
      have hy := hS y (by rw [e]; simp)
      have hx := hS _ (List.getElem_mem hi)
      have ed : wrap64 (wrap64 (S[i] - y) + v) = S[i] - y + v := by rw [wrap_in (n := S[i] - y) (by omega) (by omega), wrap_in (by omega) (by omega)]
      have t0 : 0 ≤ Int.tmod (S[i] - y + v) v := Int.tmod_nonneg _ (by omega)
      have t1 : Int.tmod (S[i] - y + v) v < v := Int.tmod_lt_of_pos _ (by omega)
      rw [if_neg hij, if_neg (by omega), hrd, ed]
      generalize hd : Int.tmod (S[i] - y + v) v = d at t0 t1
      have hg : 0 ≤ rd o d ∧ rd o d + ((suf.length + 1 : Nat) : Int) ≤ 100000 := by
        obtain ⟨j, rfl⟩ : ∃ j : Nat, d = j := ⟨d.toNat, by omega⟩
        rw [rd_nat o j (by omega)]
        have := hb _ (List.getElem_mem (show j < o.length by omega))
        simpa using this
      have hwv : wrap64 (rd o d + 1) = rd o d + 1 := wrap_in (by omega) (by omega)
      rw [if_pos t0, if_pos (by omega), hwv, hw, ih _ (by rw [List.length_set]; exact ho) (fun x hx => by
        rcases List.mem_or_eq_of_mem_set hx with hx | rfl
        · have := hb x hx
          simp only [List.length_cons] at this
          omega
        · omega), List.filter_cons_of_pos (by simpa using hyx), List.map_cons, hd]
      rfl
theorem impl_counts.L0_val (v : Int) (hv : 2 ≤ v ∧ v ≤ 31) (S : List Int) (hn : S.Nodup) (hS : ∀ y ∈ S, 0 ≤ y ∧ y < v) (hl : S.length ≤ 8) : ∀ (suf pre o : List Int) (c : Int), S = pre ++ suf → o.length = v.toNat → (∀ x ∈ o, 0 ≤ x ∧ x ≤ c) → 0 ≤ c → c + 8 * suf.length ≤ 50000 → impl_counts.L0 v S o S (S.length : Int) (pre.length : Int) = some (bump o (suf.flatMap fun x => (S.filter (fun y => decide (y ≠ x))).map (fun y => Int.tmod (x - y + v) v)))
  | [], pre, o, c, e, _, _, _, _ => by
    have hlen : S.length = pre.length := by rw [e]; simp
    rw [impl_counts.L0_eq, if_neg (by omega)]
    rfl
  | x :: suf, pre, o, c, e, ho, hc, hc0, hcl => by
    have hrd : rd S (pre.length : Int) = x := by
      have h1 := rd_mid pre x suf
      rw [← e] at h1
      exact h1
    have hlen : pre.length < S.length := by rw [e]; simp
    have hxj : S[pre.length] = x := by
      have := rd_nat S pre.length hlen
      rw [← this, hrd]
    have hw : wrap64 ((pre.length : Int) + 1) = ((pre ++ [x]).length : Int) := by rw [wrap_in (by omega) (by omega)]; simp
    have hL := impl_counts.L1_val v hv S hn hS hl pre.length hlen S [] o (by simp) ho (fun y hy => by have := hc y hy; simp only [List.length_cons] at hcl; omega)
    rw [hxj] at hL
    rw [List.length_cons] at hcl
    have hfl := List.length_filter_le (fun y => decide (y ≠ x)) S
    rw [impl_counts.L0_eq, if_pos (by omega), if_pos (by omega), if_pos (by omega), hrd]
    refine hL.trans ?_
    rw [hw, impl_counts.L0_val v hv S hn hS hl suf (pre ++ [x]) _ (c + 8) (by rw [e]; simp) (by rw [bump_length]; exact ho) (fun y hy => by
      have := bump_bound _ o c hc hc0 y hy
      rw [List.length_map] at this
      omega) (by omega) (by omega), List.flatMap_cons, bump_append]

theorem impl_counts.F_val {v : Int} {S : List Int} (h : isCircleSet v S = true) : impl_counts.F v S = some (countsOf v S) := by
  obtain ⟨h1, h2, h3, h4, h5, h6⟩ := circle_parts h
  rw [impl_counts.F_eq, if_pos (by omega), if_pos (by omega), ← countsOf_bump h4]
  exact impl_counts.L0_val v h1 S h6 h4 h2.2 S [] (List.replicate v.toNat 0) 0 (by simp) (by simp) (by simp) (by omega) (by omega)
theorem spec_ciAdd.L1_val (v : Int) (hv : 2 ≤ v ∧ v ≤ 31) (S : List Int) (hn : S.Nodup) (hS : ∀ y ∈ S, 0 ≤ y ∧ y < v) (hl : S.length ≤ 8) (i : Nat) (hi : i < S.length) : ∀ (suf pre o : List Int), S = pre ++ suf → o.length = v.toNat → (∀ x ∈ o, 0 ≤ x ∧ x + suf.length ≤ 100000) → spec_ciAdd.L1 v S o (i : Int) S[i] S (S.length : Int) (i : Int) S (S.length : Int) (pre.length : Int) = spec_ciAdd.L0 v S (bump o ((suf.filter (fun y => decide (y ≠ S[i]))).map (fun y => Int.tmod (S[i] - y + v) v))) S (S.length : Int) (wrap64 ((i : Int) + 1))
  | [], pre, o, e, _, _ => by
    have hlen : S.length = pre.length := by rw [e]; simp
    rw [spec_ciAdd.L1_eq, if_neg (by omega)]
    rfl
  | y :: suf, pre, o, e, ho, hb => by
    have hrd : rd S (pre.length : Int) = y := by
      have h1 := rd_mid pre y suf
      rw [← e] at h1
      exact h1
    have hlen : pre.length < S.length := by rw [e]; simp
    have hyj : S[pre.length] = y := by
      have := rd_nat S pre.length hlen
      rw [← this, hrd]
    have hiff := nodup_index hn hi hlen
    rw [hyj] at hiff
    have hw : wrap64 ((pre.length : Int) + 1) = ((pre ++ [y]).length : Int) := by rw [wrap_in (by omega) (by omega)]; simp
    have ih := fun o' h1 h2 => spec_ciAdd.L1_val v hv S hn hS hl i hi suf (pre ++ [y]) o' (by rw [e]; simp) h1 h2
    rw [spec_ciAdd.L1_eq, if_pos (by omega), if_pos (by omega), if_pos (by omega)]
    by_cases hij : (i : Int) = (pre.length : Int)
    · have hyx : y = S[i] := hiff.2 (by omega)
      rw [if_pos hij, hw, ih o ho (fun x hx => by have := hb x hx; simp only [List.length_cons] at this; omega), List.filter_cons_of_neg (by simpa using hyx)]
    · have hyx : ¬ y = S[i] := fun h => hij (by have := hiff.1 h; omega)
      have hy := hS y (by rw [e]; simp)
      have hx := hS _ (List.getElem_mem hi)
      have ed : wrap64 (wrap64 (S[i] - y) + v) = S[i] - y + v := by rw [wrap_in (n := S[i] - y) (by omega) (by omega), wrap_in (by omega) (by omega)]
      have t0 : 0 ≤ Int.tmod (S[i] - y + v) v := Int.tmod_nonneg _ (by omega)
      have t1 : Int.tmod (S[i] - y + v) v < v := Int.tmod_lt_of_pos _ (by omega)
      rw [if_neg hij, if_neg (by omega), hrd, ed]
      generalize hd : Int.tmod (S[i] - y + v) v = d at t0 t1
      have hg : 0 ≤ rd o d ∧ rd o d + ((suf.length + 1 : Nat) : Int) ≤ 100000 := by
        obtain ⟨j, rfl⟩ : ∃ j : Nat, d = j := ⟨d.toNat, by omega⟩
        rw [rd_nat o j (by omega)]
        have := hb _ (List.getElem_mem (show j < o.length by omega))
        simpa using this
      have hwv : wrap64 (rd o d + 1) = rd o d + 1 := wrap_in (by omega) (by omega)
      rw [if_pos t0, if_pos (by omega), hwv, hw, ih _ (by rw [List.length_set]; exact ho) (fun x hx => by
        rcases List.mem_or_eq_of_mem_set hx with hx | rfl
        · have := hb x hx
          simp only [List.length_cons] at this
          omega
        · omega), List.filter_cons_of_pos (by simpa using hyx), List.map_cons, hd]
      rfl
theorem spec_ciAdd.L0_val (v : Int) (hv : 2 ≤ v ∧ v ≤ 31) (S : List Int) (hn : S.Nodup) (hS : ∀ y ∈ S, 0 ≤ y ∧ y < v) (hl : S.length ≤ 8) : ∀ (suf pre o : List Int) (c : Int), S = pre ++ suf → o.length = v.toNat → (∀ x ∈ o, 0 ≤ x ∧ x ≤ c) → 0 ≤ c → c + 8 * suf.length ≤ 50000 → spec_ciAdd.L0 v S o S (S.length : Int) (pre.length : Int) = some (bump o (suf.flatMap fun x => (S.filter (fun y => decide (y ≠ x))).map (fun y => Int.tmod (x - y + v) v)))
  | [], pre, o, c, e, _, _, _, _ => by
    have hlen : S.length = pre.length := by rw [e]; simp
    rw [spec_ciAdd.L0_eq, if_neg (by omega)]
    rfl
  | x :: suf, pre, o, c, e, ho, hc, hc0, hcl => by
    have hrd : rd S (pre.length : Int) = x := by
      have h1 := rd_mid pre x suf
      rw [← e] at h1
      exact h1
    have hlen : pre.length < S.length := by rw [e]; simp
    have hxj : S[pre.length] = x := by
      have := rd_nat S pre.length hlen
      rw [← this, hrd]
    have hw : wrap64 ((pre.length : Int) + 1) = ((pre ++ [x]).length : Int) := by rw [wrap_in (by omega) (by omega)]; simp
    have hL := spec_ciAdd.L1_val v hv S hn hS hl pre.length hlen S [] o (by simp) ho (fun y hy => by have := hc y hy; simp only [List.length_cons] at hcl; omega)
    rw [hxj] at hL
    rw [List.length_cons] at hcl
    have hfl := List.length_filter_le (fun y => decide (y ≠ x)) S
    rw [spec_ciAdd.L0_eq, if_pos (by omega), if_pos (by omega), if_pos (by omega), hrd]
    refine hL.trans ?_
    rw [hw, spec_ciAdd.L0_val v hv S hn hS hl suf (pre ++ [x]) _ (c + 8) (by rw [e]; simp) (by rw [bump_length]; exact ho) (fun y hy => by
      have := bump_bound _ o c hc hc0 y hy
      rw [List.length_map] at this
      omega) (by omega) (by omega), List.flatMap_cons, bump_append]
theorem spec_ciCounts.F_val {v : Int} {S : List Int} (h : isCircleSet v S = true) : spec_ciCounts.F v [S] = some (countsOf v S) := by
  obtain ⟨h1, h2, h3, h4, h5, h6⟩ := circle_parts h
  have hL := spec_ciAdd.L0_val v h1 S h6 h4 h2.2 S [] (List.replicate v.toNat 0) 0 (by simp) (by simp) (by simp) (by omega) (by omega)
  have hF : spec_ciAdd.F v S (List.replicate v.toNat 0) = some (countsOf v S) := by
    rw [spec_ciAdd.F_eq, ← countsOf_bump h4]
    exact hL
  have e0 : rd_L2 [S] 0 = S := rfl
  have ew : wrap64 (0 + 1) = 1 := wrap_in (by omega) (by omega)
  rw [spec_ciCounts.F_eq, if_pos (by omega), if_pos (by omega), spec_ciCounts.L0_eq, if_pos (by simp), if_pos (by omega), if_pos (by simp), e0, hF]
  simp only [Option.bind_some]
  rw [ew, spec_ciCounts.L0_eq, if_neg (by simp)]
/-- How often all differences but 0 are made; 0 if not as often. -/
def evenOf (t : List Int) : Int := if ∀ x ∈ t.drop 1, x = rd t 1 then rd t 1 else 0
def lambdaVal (v : Int) (S : List Int) : Int := evenOf (countsOf v S)
theorem impl_even.L0_val (t : List Int) (ht : 1 < t.length ∧ t.length ≤ 1000) (u : List Int) (hu : u.length ≤ 1000) : ∀ (suf pre : List Int), u = pre ++ suf → impl_even.L0 t u (u.length : Int) (pre.length : Int) = some (if ∀ x ∈ suf, x = rd t 1 then rd t 1 else 0)
  | [], pre, e => by
    rw [impl_even.L0_eq, if_neg (by rw [e]; simp), if_pos (by omega), if_pos (by simp)]
  | x :: suf, pre, e => by
    have hrd : rd u (pre.length : Int) = x := by rw [e, rd_mid]
    have hlen : pre.length < u.length := by rw [e]; simp
    have hw : wrap64 ((pre.length : Int) + 1) = ((pre ++ [x]).length : Int) := by rw [wrap_in (by omega) (by omega)]; simp
    rw [impl_even.L0_eq, if_pos (by omega), if_pos (by omega), if_pos (by omega), if_pos (by omega), hrd, hw]
    by_cases hx : x = rd t 1
    · rw [if_pos hx, impl_even.L0_val t ht u hu suf (pre ++ [x]) (by rw [e]; simp)]
      simp only [List.mem_cons, forall_eq_or_imp, hx, true_and]
    · rw [if_neg hx, if_neg (fun h => hx (h x (by simp)))]

theorem impl_even.F_val (t : List Int) (ht : 1 < t.length ∧ t.length ≤ 1000) : impl_even.F t = some (evenOf t) := by
  rw [impl_even.F_eq, if_pos (by omega)]
  exact impl_even.L0_val t ht (t.drop 1) (by rw [List.length_drop]; omega) (t.drop 1) [] (by simp)
theorem spec_ciLambda.L0_val (t : List Int) (ht : 1 < t.length ∧ t.length ≤ 1000) (u : List Int) (hu : u.length ≤ 1000) : ∀ (suf pre : List Int), u = pre ++ suf → spec_ciLambda.L0 t u (u.length : Int) (pre.length : Int) = some (if ∀ x ∈ suf, x = rd t 1 then rd t 1 else 0)
  | [], pre, e => by
    rw [spec_ciLambda.L0_eq, if_neg (by rw [e]; simp), if_pos (by omega), if_pos (by simp)]
  | x :: suf, pre, e => by
    have hrd : rd u (pre.length : Int) = x := by rw [e, rd_mid]
    have hlen : pre.length < u.length := by rw [e]; simp
    have hw : wrap64 ((pre.length : Int) + 1) = ((pre ++ [x]).length : Int) := by rw [wrap_in (by omega) (by omega)]; simp
    rw [spec_ciLambda.L0_eq, if_pos (by omega), if_pos (by omega), if_pos (by omega), if_pos (by omega), hrd, hw]
    by_cases hx : x = rd t 1
    · rw [if_pos hx, spec_ciLambda.L0_val t ht u hu suf (pre ++ [x]) (by rw [e]; simp)]
      simp only [List.mem_cons, forall_eq_or_imp, hx, true_and]
    · rw [if_neg hx, if_neg (fun h => hx (h x (by simp)))]

theorem spec_ciLambda.F_val {v : Int} {S : List Int} (h : isCircleSet v S = true) : spec_ciLambda.F v [S] = some (lambdaVal v S) := by
  obtain ⟨h1, h2, h3, h4, h5, h6⟩ := circle_parts h
  have hl := countsOf_length v S
  rw [spec_ciLambda.F_eq, spec_ciCounts.F_val h]
  simp only [Option.bind_some]
  rw [if_pos (by omega)]
  exact spec_ciLambda.L0_val (countsOf v S) (by omega) ((countsOf v S).drop 1) (by rw [List.length_drop]; omega) ((countsOf v S).drop 1) [] (by simp)
theorem lambda_all {v : Int} {S : List Int} (h : isCircleSet v S = true) (hp : lambdaVal v S > 0) {d : Int} (hd : 0 < d ∧ d < v) : ((near v S d : Nat) : Int) = lambdaVal v S := by
  obtain ⟨h1, h2, h3, h4, h5, h6⟩ := circle_parts h
  have hl := countsOf_length v S
  unfold lambdaVal evenOf at hp ⊢
  split at hp
  · rename_i hall
    rw [if_pos hall, ← rd_counts h6 h4 hd]
    obtain ⟨j, rfl⟩ : ∃ j : Nat, d = ((j + 1 : Nat) : Int) := ⟨(d - 1).toNat, by omega⟩
    rw [rd_nat _ (j + 1) (by omega)]
    refine hall _ ?_
    rw [List.mem_iff_getElem]
    exact ⟨j, by rw [List.length_drop]; omega, by simp [Nat.add_comm]⟩
  · omega
theorem lambda_of {v : Int} {S : List Int} (h : isCircleSet v S = true) {c : Int} (hc : ∀ d, 0 < d → d < v → ((near v S d : Nat) : Int) = c) : lambdaVal v S = c := by
  obtain ⟨h1, h2, h3, h4, h5, h6⟩ := circle_parts h
  have hl := countsOf_length v S
  have e1 : rd (countsOf v S) 1 = c := by rw [rd_counts h6 h4 (by omega), hc 1 (by omega) (by omega)]
  unfold lambdaVal evenOf
  rw [if_pos, e1]
  intro x hx
  obtain ⟨j, hj, rfl⟩ := List.mem_iff_getElem.1 hx
  rw [List.length_drop] at hj
  have e2 : ((countsOf v S).drop 1)[j] = rd (countsOf v S) ((j + 1 : Nat) : Int) := by
    rw [rd_nat _ (j + 1) (by omega)]
    simp [Nat.add_comm]
  rw [e2, rd_counts h6 h4 (by omega), e1, hc _ (by omega) (by omega)]
def lambdaOfF (v : Int) (S : List Int) : Int × Bool := if isCircleSet v S = true then (lambdaVal v S, decide (lambdaVal v S > 0)) else (0, false)
def isDiffSetF (v : Int) (S : List Int) : Bool × Bool := if isCircleSet v S = true then (decide (lambdaVal v S > 0), true) else (false, false)
def diffCountsF (v : Int) (S : List Int) : List Int × Bool := if isCircleSet v S = true then (countsOf v S, true) else ([], false)
def aroundF (v : Int) (S : List Int) : Bool × Bool := if isCircleSet v S = true then (decide (∀ x ∈ countsOf v S, x ≤ 1), true) else (false, false)
theorem impl_LambdaOf.F_val (v : Int) (S : List Int) (h : S.length < 4611686018427387904) : impl_LambdaOf.F v S = some (lambdaOfF v S) := by
  rw [impl_LambdaOf.F_eq, impl_IsCircleSet.F_val v S h]
  simp only [Option.bind_some]
  unfold lambdaOfF
  by_cases hr : isCircleSet v S = true
  · rw [if_pos hr, if_pos hr, impl_counts.F_val hr]
    simp only [Option.bind_some]
    rw [impl_even.F_val _ (by rw [countsOf_length]; have := circle_parts hr; omega)]
    rfl
  · rw [if_neg hr, if_neg hr]
theorem spec_LambdaOf.F_val (v : Int) (S : List Int) (h : S.length < 4611686018427387904) : spec_LambdaOf.F v S = some (lambdaOfF v S) := by
  rw [spec_LambdaOf.F_eq, spec_ciGood.F_val v S h]
  simp only [Option.bind_some]
  unfold lambdaOfF
  by_cases hr : isCircleSet v S = true
  · rw [if_pos hr, if_pos hr, spec_ciLambda.F_val hr]
    rfl
  · rw [if_neg hr, if_neg hr]
theorem impl_IsDifferenceSet.F_val (v : Int) (S : List Int) (h : S.length < 4611686018427387904) : impl_IsDifferenceSet.F v S = some (isDiffSetF v S) := by
  rw [impl_IsDifferenceSet.F_eq, impl_IsCircleSet.F_val v S h]
  simp only [Option.bind_some]
  unfold isDiffSetF
  by_cases hr : isCircleSet v S = true
  · rw [if_pos hr, if_pos hr, impl_counts.F_val hr]
    simp only [Option.bind_some]
    rw [impl_even.F_val _ (by rw [countsOf_length]; have := circle_parts hr; omega)]
    rfl
  · rw [if_neg hr, if_neg hr]
theorem spec_IsDifferenceSet.F_val (v : Int) (S : List Int) (h : S.length < 4611686018427387904) : spec_IsDifferenceSet.F v S = some (isDiffSetF v S) := by
  rw [spec_IsDifferenceSet.F_eq, spec_ciGood.F_val v S h]
  simp only [Option.bind_some]
  unfold isDiffSetF
  by_cases hr : isCircleSet v S = true
  · rw [if_pos hr, if_pos hr, spec_ciLambda.F_val hr]
    rfl
  · rw [if_neg hr, if_neg hr]
theorem impl_DifferenceCounts.F_val (v : Int) (S : List Int) (h : S.length < 4611686018427387904) : impl_DifferenceCounts.F v S = some (diffCountsF v S) := by
  rw [impl_DifferenceCounts.F_eq, impl_IsCircleSet.F_val v S h]
  simp only [Option.bind_some]
  unfold diffCountsF
  by_cases hr : isCircleSet v S = true
  · rw [if_pos hr, if_pos hr, impl_counts.F_val hr]
    rfl
  · rw [if_neg hr, if_neg hr]
theorem spec_DifferenceCounts.F_val (v : Int) (S : List Int) (h : S.length < 4611686018427387904) : spec_DifferenceCounts.F v S = some (diffCountsF v S) := by
  rw [spec_DifferenceCounts.F_eq, spec_ciGood.F_val v S h]
  simp only [Option.bind_some]
  unfold diffCountsF
  by_cases hr : isCircleSet v S = true
  · rw [if_pos hr, if_pos hr, spec_ciCounts.F_val hr]
    rfl
  · rw [if_neg hr, if_neg hr]
theorem impl_IsAroundRuler.F_val (v : Int) (S : List Int) (h : S.length < 4611686018427387904) : impl_IsAroundRuler.F v S = some (aroundF v S) := by
  rw [impl_IsAroundRuler.F_eq, impl_IsCircleSet.F_val v S h]
  simp only [Option.bind_some]
  unfold aroundF
  by_cases hr : isCircleSet v S = true
  · rw [if_pos hr, if_pos hr, impl_counts.F_val hr]
    simp only [Option.bind_some]
    have hp := circle_parts hr
    have hl := countsOf_length v S
    obtain ⟨m, em, hm⟩ := slices_Max_int_int.F_le (countsOf v S) (by omega) (by omega) 1
    rw [em]
    simp only [Option.bind_some]
    rw [show decide (m ≤ 1) = decide (∀ x ∈ countsOf v S, x ≤ 1) from by rw [decide_eq_decide]; exact hm]
  · rw [if_neg hr, if_neg hr]
theorem spec_IsAroundRuler.L0_val (t : List Int) (ht : t.length ≤ 100000) : ∀ (suf pre : List Int), t = pre ++ suf → spec_IsAroundRuler.L0 t (t.length : Int) (pre.length : Int) = some (decide (∀ x ∈ suf, x ≤ 1), true)
  | [], pre, e => by
    rw [spec_IsAroundRuler.L0_eq, if_neg (by rw [e]; simp)]
    simp
  | x :: suf, pre, e => by
    have hrd : rd t (pre.length : Int) = x := by rw [e, rd_mid]
    have hlen : pre.length < t.length := by rw [e]; simp
    have hw : wrap64 ((pre.length : Int) + 1) = ((pre ++ [x]).length : Int) := by rw [wrap_in (by omega) (by omega)]; simp
    rw [spec_IsAroundRuler.L0_eq, if_pos (by omega), if_pos (by omega), if_pos (by omega), hrd, hw]
    by_cases hx : x > 1
    · have : ¬ ∀ y ∈ x :: suf, y ≤ 1 := fun h => by have := h x (by simp); omega
      rw [if_pos hx, decide_eq_false this]
    · rw [if_neg hx, spec_IsAroundRuler.L0_val t ht suf (pre ++ [x]) (by rw [e]; simp)]
      congr 2
      rw [decide_eq_decide]
      simp
      omega
theorem spec_IsAroundRuler.F_val (v : Int) (S : List Int) (h : S.length < 4611686018427387904) : spec_IsAroundRuler.F v S = some (aroundF v S) := by
  rw [spec_IsAroundRuler.F_eq, spec_ciGood.F_val v S h]
  simp only [Option.bind_some]
  unfold aroundF
  by_cases hr : isCircleSet v S = true
  · have hp := circle_parts hr
    have hl := countsOf_length v S
    rw [if_pos hr, if_pos hr, spec_ciCounts.F_val hr]
    simp only [Option.bind_some]
    exact spec_IsAroundRuler.L0_val (countsOf v S) (by omega) (countsOf v S) [] (by simp)
  · rw [if_neg hr, if_neg hr]
def moveOf (v : Int) (S : List Int) (k : Int) : List Int × Bool := if isCircleSet v S = true ∧ 0 ≤ k ∧ k < v then (movedSet v S k, true) else ([], false)
def timesSetF (v : Int) (S : List Int) (k : Int) : List Int × Bool := if isCircleSet v S = true ∧ (1 ≤ k ∧ k < v) ∧ (residues v k 0 S).Nodup then (timesSet v S k, true) else ([], false)
def complementOf (v : Int) (S : List Int) : List Int := ((List.range v.toNat).map fun n : Nat => (n : Int)).filter fun x => !decide (x ∈ S)
def complementF (v : Int) (S : List Int) : List Int × Bool := if isCircleSet v S = true ∧ isCircleSet v (complementOf v S) = true then (complementOf v S, true) else ([], false)
theorem dup_shorter : ∀ {r : List Int}, ¬ r.Nodup → ∃ r' : List Int, r'.length < r.length ∧ ∀ x ∈ r, x ∈ r'
  | [], h => absurd List.nodup_nil h
  | x :: l, h => by
    by_cases hx : x ∈ l
    · exact ⟨l, by simp, fun y hy => by
        rcases List.mem_cons.1 hy with rfl | hy
        · exact hx
        · exact hy⟩
    · have hl : ¬ l.Nodup := fun hl => h (List.nodup_cons.2 ⟨hx, hl⟩)
      obtain ⟨r', h1, h2⟩ := dup_shorter hl
      exact ⟨x :: r', by simp; omega, fun y hy => by
        rcases List.mem_cons.1 hy with rfl | hy
        · simp
        · simp [h2 y hy]⟩
theorem points_nodup_iff {v : Int} {r : List Int} (hr : ∀ x ∈ r, 0 ≤ x ∧ x < v) : (pointsOf v r).length = r.length ↔ r.Nodup := by
  have hpn : (pointsOf v r).Nodup := (pointsOf_sorted v r).imp (fun h => by omega)
  constructor
  · intro h
    refine Classical.byContradiction fun hn => ?_
    obtain ⟨r', h1, h2⟩ := dup_shorter hn
    have := nodup_len_le _ r' hpn (fun x hx => h2 x ((mem_pointsOf hr x).1 hx))
    omega
  · intro h
    exact ((List.perm_ext_iff_of_nodup hpn h).2 (mem_pointsOf hr)).length_eq
theorem impl_MoveSet.F_val (v : Int) (S : List Int) (k : Int) (h : S.length < 4611686018427387904) : impl_MoveSet.F v S k = some (moveOf v S k) := by
  rw [impl_MoveSet.F_eq, impl_IsCircleSet.F_val v S h]
  simp only [Option.bind_some]
  unfold moveOf
  by_cases hr : isCircleSet v S = true
  · rw [if_pos hr]
    by_cases h0 : k < 0
    · rw [if_pos h0, if_neg (fun h => by omega)]
    · rw [if_neg h0]
      by_cases h1 : k ≥ v
      · rw [if_pos h1, if_neg (fun h => by omega)]
      · obtain ⟨n, rfl⟩ : ∃ n : Nat, k = n := ⟨k.toNat, by omega⟩
        rw [if_neg h1, image_moved hr n (by omega), if_pos ⟨hr, by omega, by omega⟩]
        rfl
  · rw [if_neg hr, if_neg (fun h => hr h.1)]
theorem spec_MoveSet.F_val (v : Int) (S : List Int) (k : Int) (h : S.length < 4611686018427387904) : spec_MoveSet.F v S k = some (moveOf v S k) := by
  rw [spec_MoveSet.F_eq, spec_ciGood.F_val v S h]
  simp only [Option.bind_some]
  unfold moveOf
  by_cases hr : isCircleSet v S = true
  · obtain ⟨h1, h2, h3, h4, h5, h6⟩ := circle_parts hr
    rw [if_pos hr, wrap_in (n := v - 1) (by omega) (by omega), spec_l1In.f_val]
    simp only [Option.bind_some]
    by_cases hk : 0 ≤ k ∧ k < v
    · rw [if_pos (by rw [decide_eq_true hk.1, decide_eq_true (show k ≤ v - 1 by omega)]; rfl), if_pos ⟨hr, hk⟩, spec_ciMove.F_val v k S (by omega) (by omega) (by omega) (fun x hx => by have := h4 x hx; omega) (by omega)]
      rfl
    · rw [if_neg (by rw [Bool.and_eq_true, decide_eq_true_eq, decide_eq_true_eq]; omega), if_neg (fun h => hk h.2)]
  · rw [if_neg hr, if_neg (fun h => hr h.1)]
theorem impl_unlike.L0_val (l : List Int) (hl : l.length ≤ 100000) : ∀ (suf pre : List Int), l = pre ++ suf → pre.Nodup → impl_unlike.L0 l l (l.length : Int) (pre.length : Int) = some (decide l.Nodup)
  | [], pre, e, hn => by
    have : l = pre := by rw [e]; simp
    rw [impl_unlike.L0_eq, if_neg (by rw [e]; simp), decide_eq_true (by rw [this]; exact hn)]
  | x :: suf, pre, e, hn => by
    have hrd : rd l (pre.length : Int) = x := by rw [e, rd_mid]
    have hlen : pre.length < l.length := by rw [e]; simp
    have hw : wrap64 ((pre.length : Int) + 1) = ((pre ++ [x]).length : Int) := by rw [wrap_in (by omega) (by omega)]; simp
    have ht : l.take ((pre.length : Int)).toNat = pre := by rw [e, Int.toNat_natCast]; simp
    rw [impl_unlike.L0_eq, if_pos (by omega), if_pos (by omega), if_pos (by omega), if_pos (by omega), ht, hrd, slices_Contains_int_int.F_val pre x (by omega)]
    simp only [Option.bind_some]
    by_cases hx : x ∈ pre
    · have : ¬ l.Nodup := fun h => by
        rw [e, List.nodup_append] at h
        exact h.2.2 x hx x (by simp) rfl
      rw [if_pos (decide_eq_true hx), decide_eq_false this]
    · rw [if_neg (by rw [decide_eq_false hx]; decide), hw, impl_unlike.L0_val l hl suf (pre ++ [x]) (by rw [e]; simp) (List.nodup_append.2 ⟨hn, by simp, fun a ha b hb => by
        have : b = x := by simpa using hb
        intro e2
        exact hx (by rw [← this, ← e2]; exact ha)⟩)]
theorem impl_unlike.F_val (l : List Int) (hl : l.length ≤ 100000) : impl_unlike.F l = some (decide l.Nodup) := by
  rw [impl_unlike.F_eq]
  exact impl_unlike.L0_val l hl l [] (by simp) List.nodup_nil
theorem impl_TimesSet.F_val (v : Int) (S : List Int) (k : Int) (h : S.length < 4611686018427387904) : impl_TimesSet.F v S k = some (timesSetF v S k) := by
  rw [impl_TimesSet.F_eq, impl_IsCircleSet.F_val v S h]
  simp only [Option.bind_some, impl_TimesSet.J0_eq, if_true]
  unfold timesSetF
  by_cases hr : isCircleSet v S = true
  · obtain ⟨h1, h2, h3, h4, h5, h6⟩ := circle_parts hr
    rw [if_pos hr]
    by_cases h0 : k < 1
    · rw [if_pos h0, if_neg (fun h => by omega)]
    · rw [if_neg h0]
      by_cases hk : k ≥ v
      · rw [if_pos (decide_eq_true hk), if_neg (fun h => by omega)]
      · have hb : ∀ x ∈ residues v k 0 S, 0 ≤ x ∧ x < v := residues_bound (by omega) (fun x hx => by have := Int.mul_nonneg (h4 x hx).1 (show 0 ≤ k by omega); omega)
        have hp : (sortInt (residues v k 0 S)).Perm (residues v k 0 S) := List.mergeSort_perm _ _
        have hlen : (residues v k 0 S).length = S.length := by simp [residues]
        rw [if_neg (by rw [decide_eq_false hk]; decide), impl_image.F_val v k 0 S (by omega) (by omega) (by omega) (fun x hx => by have := h4 x hx; omega) (by omega)]
        simp only [Option.bind_some]
        rw [impl_unlike.F_val _ (by rw [hp.length_eq, hlen]; omega)]
        simp only [Option.bind_some]
        by_cases hn : (residues v k 0 S).Nodup
        · rw [if_pos (decide_eq_true (hp.nodup_iff.2 hn)), if_pos ⟨hr, by omega, hn⟩, sortInt_points hb hn]
          rfl
        · rw [if_neg (by rw [decide_eq_false (fun h => hn (hp.nodup_iff.1 h))]; decide), if_neg (fun h => hn h.2.2)]
  · rw [if_neg hr, if_neg (fun h => hr h.1)]
theorem spec_TimesSet.F_val (v : Int) (S : List Int) (k : Int) (h : S.length < 4611686018427387904) : spec_TimesSet.F v S k = some (timesSetF v S k) := by
  rw [spec_TimesSet.F_eq, spec_ciGood.F_val v S h]
  simp only [Option.bind_some, spec_TimesSet.J0_eq, if_true]
  unfold timesSetF
  by_cases hr : isCircleSet v S = true
  · obtain ⟨h1, h2, h3, h4, h5, h6⟩ := circle_parts hr
    rw [if_pos hr, wrap_in (n := v - 1) (by omega) (by omega), spec_l1In.f_val]
    simp only [Option.bind_some]
    by_cases hk : 1 ≤ k ∧ k < v
    · have hb : ∀ x ∈ residues v k 0 S, 0 ≤ x ∧ x < v := residues_bound (by omega) (fun x hx => by have := Int.mul_nonneg (h4 x hx).1 (show 0 ≤ k by omega); omega)
      have hlen : (residues v k 0 S).length = S.length := by simp [residues]
      rw [if_neg (by rw [decide_eq_true hk.1, decide_eq_true (show k ≤ v - 1 by omega)]; decide), spec_ciTimes.F_val v k S (by omega) (by omega) (by omega) (fun x hx => by have := h4 x hx; omega) (by omega)]
      simp only [Option.bind_some]
      have hiff := points_nodup_iff hb
      by_cases hn : (residues v k 0 S).Nodup
      · rw [if_pos (by have := hiff.2 hn; omega), if_pos ⟨hr, hk, hn⟩]
        rfl
      · rw [if_neg (fun h => hn (hiff.1 (by omega))), if_neg (fun h => hn h.2.2)]
    · rw [if_pos (by rw [Bool.not_eq_true', Bool.and_eq_false_iff, decide_eq_false_iff_not, decide_eq_false_iff_not]; omega), if_neg (fun h => hk h.2.1)]
  · rw [if_neg hr, if_neg (fun h => hr h.1)]
theorem impl_ComplementSet.L0_val (v : Int) (hv : v ≤ 31) (S : List Int) (hl : S.length ≤ 8) : ∀ (n x : Nat) (acc : List Int), (x : Int) + n = v → acc.length + n ≤ 1000 → impl_ComplementSet.L0 v S acc v (x : Int) = some (if isCircleSet v (acc ++ ((List.range' x n).map fun k : Nat => (k : Int)).filter fun y => !decide (y ∈ S)) = true then (acc ++ ((List.range' x n).map fun k : Nat => (k : Int)).filter fun y => !decide (y ∈ S), true) else ([], false))
  | 0, x, acc, hx, ha => by
    rw [impl_ComplementSet.L0_eq, if_neg (by omega), impl_IsCircleSet.F_val v acc (by omega)]
    simp only [Option.bind_some, List.range'_zero, List.map_nil, List.filter_nil, List.append_nil]
    by_cases hc : isCircleSet v acc = true
    · rw [if_pos hc, if_pos hc]
    · rw [if_neg hc, if_neg hc]
  | n + 1, x, acc, hx, ha => by
    have hw : wrap64 ((x : Int) + 1) = ((x + 1 : Nat) : Int) := by rw [wrap_in (by omega) (by omega)]; rfl
    rw [impl_ComplementSet.L0_eq, if_pos (by omega), slices_Contains_int_int.F_val S _ (by omega), hw, List.range'_succ, List.map_cons]
    simp only [Option.bind_some]
    by_cases hm : (x : Int) ∈ S
    · rw [if_pos (decide_eq_true hm), impl_ComplementSet.L0_val v hv S hl n (x + 1) acc (by omega) (by omega), List.filter_cons_of_neg (by simpa using hm)]
    · rw [if_neg (by rw [decide_eq_false hm]; decide), if_pos (by omega), impl_ComplementSet.L0_val v hv S hl n (x + 1) (acc ++ [(x : Int)]) (by omega) (by simp; omega), List.filter_cons_of_pos (by simpa using hm), List.append_assoc]
      rfl
theorem impl_ComplementSet.F_val (v : Int) (S : List Int) (h : S.length < 4611686018427387904) : impl_ComplementSet.F v S = some (complementF v S) := by
  rw [impl_ComplementSet.F_eq, impl_IsCircleSet.F_val v S h]
  simp only [Option.bind_some]
  unfold complementF complementOf
  by_cases hr : isCircleSet v S = true
  · obtain ⟨h1, h2, h3, h4, h5, h6⟩ := circle_parts hr
    have hL := impl_ComplementSet.L0_val v (by omega) S h2.2 v.toNat 0 [] (by omega) (by simp; omega)
    simp only [List.nil_append, ← List.range_eq_range'] at hL
    rw [if_pos hr]
    refine hL.trans ?_
    by_cases hc : isCircleSet v (((List.range v.toNat).map fun n : Nat => (n : Int)).filter fun x => !decide (x ∈ S)) = true
    · rw [if_pos hc, if_pos ⟨hr, hc⟩]
    · rw [if_neg hc, if_neg (fun h => hc h.2)]
  · rw [if_neg hr, if_neg (fun h => hr h.1)]
theorem spec_ComplementSet.L0_val (v : Int) (hv : v ≤ 31) (S : List Int) (hl : S.length ≤ 8) : ∀ (n x : Nat) (acc : List Int), (x : Int) + n = v → acc.length + n ≤ 1000 → spec_ComplementSet.L0 v S acc (x : Int) = some (if isCircleSet v (acc ++ ((List.range' x n).map fun k : Nat => (k : Int)).filter fun y => !decide (y ∈ S)) = true then (acc ++ ((List.range' x n).map fun k : Nat => (k : Int)).filter fun y => !decide (y ∈ S), true) else ([], false))
  | 0, x, acc, hx, ha => by
    rw [spec_ComplementSet.L0_eq, if_neg (by omega), spec_ciGood.F_val v acc (by omega)]
    simp only [Option.bind_some, List.range'_zero, List.map_nil, List.filter_nil, List.append_nil]
    by_cases hc : isCircleSet v acc = true
    · rw [if_pos hc, if_pos hc]
    · rw [if_neg hc, if_neg hc]
  | n + 1, x, acc, hx, ha => by
    have hw : wrap64 ((x : Int) + 1) = ((x + 1 : Nat) : Int) := by rw [wrap_in (by omega) (by omega)]; rfl
    rw [spec_ComplementSet.L0_eq, if_pos (by omega), spec_l1Has.F_val S _ (by omega), hw, List.range'_succ, List.map_cons]
    simp only [Option.bind_some]
    by_cases hm : (x : Int) ∈ S
    · rw [if_pos (decide_eq_true hm), spec_ComplementSet.L0_val v hv S hl n (x + 1) acc (by omega) (by omega), List.filter_cons_of_neg (by simpa using hm)]
    · rw [if_neg (by rw [decide_eq_false hm]; decide), if_pos (by omega), spec_ComplementSet.L0_val v hv S hl n (x + 1) (acc ++ [(x : Int)]) (by omega) (by simp; omega), List.filter_cons_of_pos (by simpa using hm), List.append_assoc]
      rfl
theorem spec_ComplementSet.F_val (v : Int) (S : List Int) (h : S.length < 4611686018427387904) : spec_ComplementSet.F v S = some (complementF v S) := by
  rw [spec_ComplementSet.F_eq, spec_ciGood.F_val v S h]
  simp only [Option.bind_some]
  unfold complementF complementOf
  by_cases hr : isCircleSet v S = true
  · obtain ⟨h1, h2, h3, h4, h5, h6⟩ := circle_parts hr
    have hL := spec_ComplementSet.L0_val v (by omega) S h2.2 v.toNat 0 [] (by omega) (by simp; omega)
    simp only [List.nil_append, ← List.range_eq_range'] at hL
    rw [if_pos hr]
    refine hL.trans ?_
    by_cases hc : isCircleSet v (((List.range v.toNat).map fun n : Nat => (n : Int)).filter fun x => !decide (x ∈ S)) = true
    · rw [if_pos hc, if_pos ⟨hr, hc⟩]
    · rw [if_neg hc, if_neg (fun h => hc h.2)]
  · rw [if_neg hr, if_neg (fun h => hr h.1)]
theorem rdLL_mem {L : List (List Int)} {i : Int} (h0 : 0 ≤ i) (h : i < (L.length : Int)) : rd_L2 L i = L[i.toNat]'(by omega) := by
  unfold rd_L2
  rw [List.getD_eq_getElem?_getD, List.getElem?_eq_getElem (by omega)]
  rfl
theorem spec_l1Cur_circle.L0_ok {l : List Int} (v : Int) (hv : 2 ≤ v ∧ v ≤ 15) : ∀ (c : Nat) (x : List Int) (m at_ seed : Int), x.length + c ≤ 10 → (∀ y ∈ x, 0 ≤ y ∧ y ≤ 31) → m + 4 * c ≤ 900000 → DrawSt l m at_ → ∃ S a z, spec_l1Cur_circle.L0 v x (c : Int) l at_ seed = some (v, S, a, z) ∧ S.length ≤ 40 ∧ DrawSt l (m + 4 * c) a
  | 0, x, m, at_, seed, hc, hx, hm, h => by
    have hpl := pointsOf_len v (x.map fun y => Int.tmod y v)
    rw [spec_l1Cur_circle.L0_eq, if_neg (by omega), spec_ciSet.F_val v (by omega) (by omega) x (by omega)]
    exact ⟨_, _, _, rfl, by omega, h.more (by omega)⟩
  | c + 1, x, m, at_, seed, hc, hx, hm, h => by
    obtain ⟨q, a, z, e, q0, q1, hs⟩ := spec_l1Cur_pick.ok seed v h (by omega)
    have ec : wrap64 (((c + 1 : Nat) : Int) - 1) = (c : Int) := by rw [wrap_in (by omega) (by omega)]; omega
    obtain ⟨S, a2, z2, e2, hS, hs2⟩ := spec_l1Cur_circle.L0_ok v hv c (x ++ [q]) (m + 2) a z (by simp; omega) (fun y hy => by
      rcases List.mem_append.1 hy with hy | hy
      · exact hx y hy
      · have : y = q := by simpa using hy
        omega) (by omega) hs
    rw [spec_l1Cur_circle.L0_eq, if_pos (by omega), e]
    simp only [Option.bind_some]
    rw [if_pos (by omega), ec, e2]
    exact ⟨S, a2, z2, rfl, hS, hs2.more (by omega)⟩
theorem spec_l1Cur_circle.J0_ok {l : List Int} {m at_ : Int} (b : Bool) (seed : Int) (hm : m ≤ 800000) (h : DrawSt l m at_) : ∃ v S a z, spec_l1Cur_circle.J0 b l at_ seed = some (v, S, a, z) ∧ S.length ≤ 40 ∧ DrawSt l (m + 60) a := by
  rw [spec_l1Cur_circle.J0_eq]
  cases b with
  | true =>
    rw [if_pos rfl]
    simp only [Option.bind_some]
    have hall : ∀ x ∈ ([[0, 1, 3], [0, 1, 2, 4], [0, 1, 3, 9], [0, 1, 4, 14, 16], [0, 1, 3, 8, 12, 18], [0, 1, 2, 4, 5, 8, 10], [0, 1, 3, 4, 5, 9], [0, 1]] : List (List Int)), x.length ≤ 8 ∧ ∀ y ∈ x, 0 ≤ y ∧ y ≤ 31 := by decide
    have hsz : ∀ x ∈ ([7, 7, 13, 21, 31, 15, 11, 3] : List Int), 3 ≤ x ∧ x ≤ 31 := by decide
    generalize hL : ([[0, 1, 3], [0, 1, 2, 4], [0, 1, 3, 9], [0, 1, 4, 14, 16], [0, 1, 3, 8, 12, 18], [0, 1, 2, 4, 5, 8, 10], [0, 1, 3, 4, 5, 9], [0, 1]] : List (List Int)) = L at hall ⊢
    generalize hN : ([7, 7, 13, 21, 31, 15, 11, 3] : List Int) = N at hsz ⊢
    have hL8 : L.length = 8 := by rw [← hL]; rfl
    have hN8 : N.length = 8 := by rw [← hN]; rfl
    obtain ⟨q, a1, z1, e1, q0, q1, h1⟩ := spec_l1Cur_pick.ok seed (L.length : Int) h (by omega)
    have q1' : q < (L.length : Int) := by omega
    have hv : 3 ≤ rd N q ∧ rd N q ≤ 31 := by
      obtain ⟨j, rfl⟩ : ∃ j : Nat, q = j := ⟨q.toNat, by omega⟩
      rw [rd_nat N j (by omega)]
      exact hsz _ (List.getElem_mem _)
    have hx := hall _ (List.getElem_mem (show q.toNat < L.length by omega))
    have er := rdLL_mem q0 q1'
    rw [e1]
    simp only [Option.bind_some]
    rw [if_pos q0, if_pos (by omega), if_pos (by omega), er]
    generalize L[q.toNat]'(by omega) = x at hx ⊢
    generalize rd N q = v at hv ⊢
    obtain ⟨k, a2, z2, e2, k0, k1, h2⟩ := spec_l1Cur_pick.ok z1 v h1 (by omega)
    have hpl := pointsOf_len v (residues v 1 k x)
    rw [e2]
    simp only [Option.bind_some]
    rw [spec_ciMove.F_val v k x (by omega) (by omega) (by omega) hx.2 (by omega)]
    exact ⟨v, _, _, _, rfl, by omega, h2.more (by omega)⟩
  | false =>
    rw [if_neg (by decide)]
    obtain ⟨q, a1, z1, e1, q0, q1, h1⟩ := spec_l1Cur_pick.ok seed 14 h (by omega)
    obtain ⟨p, a2, z2, e2, p0, p1, h2⟩ := spec_l1Cur_pick.ok z1 5 h1 (by omega)
    rw [e1]
    simp only [Option.bind_some]
    rw [e2]
    simp only [Option.bind_some]
    rw [wrap_in (n := 2 + q) (by omega) (by omega), wrap_in (n := 1 + p) (by omega) (by omega)]
    obtain ⟨S, a, z, e, hS, hd⟩ := spec_l1Cur_circle.L0_ok (l := l) (2 + q) (by omega) (1 + p).toNat [] (m + 2 + 2) a2 z2 (by simp; omega) (by simp) (by omega) h2
    rw [show (((1 + p).toNat : Nat) : Int) = 1 + p from by omega] at e hd
    exact ⟨2 + q, S, a, z, e, hS, hd.more (by omega)⟩
theorem spec_l1Cur_circle.ok {l : List Int} {m at_ : Int} (seed : Int) (hm : m ≤ 700000) (h : DrawSt l m at_) : ∃ v S a z, spec_l1Cur_circle.F l at_ seed = some (v, S, a, z) ∧ S.length ≤ 40 ∧ DrawSt l (m + 80) a := by
  obtain ⟨q, a1, z1, e1, q0, q1, h1⟩ := spec_l1Cur_pick.ok seed 12 h (by omega)
  rw [spec_l1Cur_circle.F_eq, e1]
  simp only [Option.bind_some]
  have rest : ∀ b, ∃ v S a z, spec_l1Cur_circle.J0 b l a1 z1 = some (v, S, a, z) ∧ S.length ≤ 40 ∧ DrawSt l (m + 80) a := fun b => by
    obtain ⟨v, S, a, z, e, hS, hd⟩ := spec_l1Cur_circle.J0_ok b z1 (by omega) h1
    exact ⟨v, S, a, z, e, hS, hd.more (by omega)⟩
  by_cases h0 : q = 0
  · obtain ⟨v, a2, z2, e2, _, h2⟩ := spec_l1Cur_among.ok z1 ([1, 2, 7, 31, 32, (-1), 4611686018427387904] : List Int) (by decide) h1 (by omega)
    obtain ⟨x, a3, z3, e3, _, h3⟩ := spec_l1Cur_among.ok z2 ([(-1), 0, 1, 31] : List Int) (by decide) h2 (by omega)
    obtain ⟨y, a4, z4, e4, _, h4⟩ := spec_l1Cur_among.ok z3 ([1, 6, 4611686018427387904] : List Int) (by decide) h3 (by omega)
    rw [if_pos h0, e2]
    simp only [Option.bind_some]
    rw [e3]
    simp only [Option.bind_some]
    rw [e4]
    exact ⟨v, [x, y], a4, z4, rfl, by simp, h4.more (by omega)⟩
  · rw [if_neg h0]
    repeat' split
    all_goals exact rest _
end Go.Proofs.Ytofjndbpndpjjaa.Fn
namespace Go.Proofs.Ytofjndbpndpjjaa.Pure
open Go.RowKit Go.Proofs.Ytofjndbpndpjjaa.Fn Go.Proofs.YtofjndbpndpjjaaW.PrintWords Go.Proofs.YtofjndbpndpjjaaW.PrintLast Go.Proofs.YtofjndbpndpjjaaW.PrintMore
set_option linter.unusedVariables false
set_option linter.unusedSimpArgs false
theorem sum_const (xs : List Int) (c : Nat) : ∀ ds : List Int, (∀ d ∈ ds, times d xs = c) → sumTimes xs ds = ds.length * c
  | [], _ => by simp [sumTimes]
  | d :: ds, h => by
    rw [sumTimes, sum_const xs c ds (fun e he => h e (by simp [he])), h d (by simp), List.length_cons, Nat.add_mul, Nat.one_mul, Nat.add_comm]
theorem sum_map (xs : List Int) : ∀ ds : List Nat, ((ds.map fun i : Nat => ((times (i : Int) xs : Nat) : Int)).sum : Int) = ((sumTimes xs (ds.map fun i : Nat => (i : Int)) : Nat) : Int)
  | [] => rfl
  | d :: ds => by
    have ih := sum_map xs ds
    simp only [List.map_cons, List.sum_cons, sumTimes, ih]
    omega
theorem counts_sum {v : Int} {S : List Int} (h : isCircleSet v S = true) : sumTimes (circGaps v S) ((List.range v.toNat).map fun i : Nat => (i : Int)) = S.length * (S.length - 1) := by
  obtain ⟨h1, h2, h3, h4, h5, h6⟩ := circle_parts h
  rw [sumTimes_all (range_nodup v) _ (fun x hx => mem_rangeI.2 (by have := circGaps_mem h4 hx; omega)), circGaps_length h6]
theorem lambda_count {v : Int} {S : List Int} (h : isCircleSet v S = true) (hp : lambdaVal v S > 0) : lambdaVal v S * (v - 1) = (S.length : Int) * ((S.length : Int) - 1) ∧ lambdaVal v S ≤ 64 := by
  obtain ⟨h1, h2, h3, h4, h5, h6⟩ := circle_parts h
  have hs := counts_sum h
  obtain ⟨c, hc⟩ : ∃ c : Nat, lambdaVal v S = c := ⟨(lambdaVal v S).toNat, by omega⟩
  have e : (List.range v.toNat).map (fun i : Nat => (i : Int)) = 0 :: (List.range' 1 (v.toNat - 1)).map fun i : Nat => (i : Int) := by
    rw [List.range_eq_range', show v.toNat = (v.toNat - 1) + 1 by omega, List.range'_succ]
    simp
  rw [e, sumTimes, circGaps_zero h4, sum_const _ c _ (fun d hd => by
    obtain ⟨k, hk, rfl⟩ := List.mem_map.1 hd
    have hk := List.mem_range'_1.1 hk
    have h7 := lambda_all h hp (d := (k : Int)) (by omega)
    rw [times_circ h6 h4 (by omega)]
    omega), List.length_map, List.length_range', Nat.zero_add] at hs
  have h8 : S.length * (S.length - 1) ≤ 8 * 8 := Nat.mul_le_mul h2.2 (by omega)
  have h9 : 1 * c ≤ (v.toNat - 1) * c := Nat.mul_le_mul_right c (by omega)
  refine ⟨?_, by omega⟩
  rw [hc, show v - 1 = ((v.toNat - 1 : Nat) : Int) by omega, show (S.length : Int) - 1 = ((S.length - 1 : Nat) : Int) by omega, ← Int.natCast_mul, ← Int.natCast_mul, Nat.mul_comm c, hs]
theorem circle_points {v : Int} {r : List Int} (hv : 2 ≤ v ∧ v ≤ 31) (hr : ∀ x ∈ r, 0 ≤ x ∧ x < v) (hn : r.Nodup) (hl : 1 ≤ r.length ∧ r.length ≤ 8) (hlv : (r.length : Int) < v) : isCircleSet v (pointsOf v r) = true := by
  have hlen := (points_nodup_iff hr).2 hn
  unfold isCircleSet
  rw [decide_eq_true hv, decide_eq_true (show 1 ≤ (pointsOf v r).length ∧ (pointsOf v r).length ≤ 8 by omega), decide_eq_true (show ((pointsOf v r).length : Int) < v by omega), sorted_growing _ (pointsOf_sorted v r)]
  simp only [Bool.true_and, Bool.and_true, List.all_eq_true, decide_eq_true_eq]
  exact fun x hx => hr x ((mem_pointsOf hr x).1 hx)
theorem image_facts {v k m : Int} {S : List Int} (h : isCircleSet v S = true) (hk : 0 ≤ k) (hm : 0 ≤ m) (hg : Nat.gcd v.toNat k.toNat = 1) : isCircleSet v (pointsOf v (residues v k m S)) = true ∧ (residues v k m S).Nodup ∧ ∀ d d' : Int, 0 ≤ d ∧ d < v → 0 ≤ d' ∧ d' < v → Int.tmod (d' * k) v = d → near v (pointsOf v (residues v k m S)) d = near v S d' := by
  obtain ⟨h1, h2, h3, h4, h5, h6⟩ := circle_parts h
  have hb : ∀ x ∈ residues v k m S, 0 ≤ x ∧ x < v := residues_bound (by omega) (fun x hx => by have := Int.mul_nonneg (h4 x hx).1 hk; omega)
  have hn : (residues v k m S).Nodup := residues_nodup (by omega) hk hm h4 h5 hg
  have hlen : (residues v k m S).length = S.length := by simp [residues]
  refine ⟨circle_points h1 hb hn (by omega) (by omega), hn, fun d d' hd hd' hdd => ?_⟩
  have hpn : (pointsOf v (residues v k m S)).Nodup := (pointsOf_sorted v _).imp (fun h => by omega)
  rw [near_ext hpn hn (fun x => mem_pointsOf hb x), near_image (by omega) hk hm h4 hg hd hd' hdd]
theorem counts_same {v : Int} {S T : List Int} (hS : isCircleSet v S = true) (hT : isCircleSet v T = true) (h : ∀ d, 0 < d → d < v → near v T d = near v S d) : countsOf v T = countsOf v S := by
  obtain ⟨h1, h2, h3, h4, h5, h6⟩ := circle_parts hS
  obtain ⟨g1, g2, g3, g4, g5, g6⟩ := circle_parts hT
  unfold countsOf
  refine List.map_congr_left fun i hi => ?_
  have hi := List.mem_range.1 hi
  by_cases h0 : i = 0
  · subst h0
    rw [show ((0 : Nat) : Int) = 0 from rfl, circGaps_zero h4, circGaps_zero g4]
  · rw [times_circ h6 h4 (by omega), times_circ g6 g4 (by omega), h i (by omega) (by omega)]
theorem moved_counts {v : Int} {S : List Int} (h : isCircleSet v S = true) {m : Int} (hm : 0 ≤ m) : isCircleSet v (movedSet v S m) = true ∧ countsOf v (movedSet v S m) = countsOf v S := by
  obtain ⟨h1, h2, h3, h4, h5, h6⟩ := circle_parts h
  obtain ⟨a, _, c⟩ := image_facts h (k := 1) (m := m) (by omega) hm (Nat.gcd_one_right _)
  refine ⟨a, counts_same h a fun d d0 d1 => c d d (by omega) (by omega) ?_⟩
  rw [Int.mul_one, tm_lt (by omega) d1]
theorem inverse_any : ∀ v : Nat, v < 32 → ∀ m : Nat, m < 6 → Nat.gcd v m = 1 → ∀ d : Nat, d < v → 0 < d → (List.range v).any (fun e => decide (0 < e) && decide (e * m % v = d)) = true := by decide +kernel
theorem inverse_there (v : Nat) (hv : v < 32) (m : Nat) (hm : m < 6) (hg : Nat.gcd v m = 1) (d : Nat) (hd : d < v) (h0 : 0 < d) : ∃ e : Nat, e < v ∧ 0 < e ∧ e * m % v = d := by
  obtain ⟨e, he, h⟩ := List.any_eq_true.1 (inverse_any v hv m hm hg d hd h0)
  rw [Bool.and_eq_true, decide_eq_true_eq, decide_eq_true_eq] at h
  exact ⟨e, List.mem_range.1 he, h⟩
theorem times_lambda {v : Int} {S : List Int} (h : isCircleSet v S = true) (hp : lambdaVal v S > 0) {m : Nat} (hm : m < 6) (hg : Nat.gcd v.toNat m = 1) : isCircleSet v (timesSet v S m) = true ∧ lambdaVal v (timesSet v S m) = lambdaVal v S := by
  obtain ⟨h1, h2, h3, h4, h5, h6⟩ := circle_parts h
  obtain ⟨a, _, c⟩ := image_facts h (k := (m : Int)) (m := 0) (by omega) (by omega) (by rw [Int.toNat_natCast]; exact hg)
  refine ⟨a, lambda_of a fun d d0 d1 => ?_⟩
  obtain ⟨e, e1, e0, ed⟩ := inverse_there v.toNat (by omega) m hm hg d.toNat (by omega) (by omega)
  have hde : Int.tmod ((e : Int) * m) v = d := by
    have e2 : v = ((v.toNat : Nat) : Int) := by omega
    rw [e2, ← Int.natCast_mul, ← Int.ofNat_tmod, ed]
    omega
  have := c d e (by omega) (by omega) hde
  have h7 := lambda_all h hp (d := (e : Int)) (by omega)
  rw [this]
  exact h7
theorem mem_complement {v : Int} {S : List Int} (x : Int) : x ∈ complementOf v S ↔ (0 ≤ x ∧ x < v) ∧ x ∉ S := by
  unfold complementOf
  rw [List.mem_filter, mem_rangeI, Bool.not_eq_true', decide_eq_false_iff_not]
theorem complement_sorted (v : Int) (S : List Int) : (complementOf v S).Pairwise (· < ·) := by
  unfold complementOf
  refine List.Pairwise.filter _ ?_
  rw [List.pairwise_map]
  exact List.pairwise_lt_range.imp (fun h => by omega)
theorem complement_back {v : Int} {S : List Int} (h : isCircleSet v S = true) : complementOf v (complementOf v S) = S := by
  obtain ⟨h1, h2, h3, h4, h5, h6⟩ := circle_parts h
  refine sorted_ext _ _ (complement_sorted v _) h5 fun x => ?_
  rw [mem_complement, mem_complement]
  constructor
  · rintro ⟨hx, hn⟩
    exact Classical.byContradiction fun hc => hn ⟨hx, hc⟩
  · exact fun hx => ⟨h4 x hx, fun hn => hn.2 hx⟩
theorem complement_length {v : Int} {S : List Int} (h : isCircleSet v S = true) : ((complementOf v S).length : Int) + S.length = v := by
  obtain ⟨h1, h2, h3, h4, h5, h6⟩ := circle_parts h
  have hU := range_nodup v
  have e1 : (((List.range v.toNat).map fun n : Nat => (n : Int)).filter fun x => decide (x ∈ S)).length = S.length := by
    refine ((List.perm_ext_iff_of_nodup (hU.filter _) h6).2 fun x => ?_).length_eq
    rw [List.mem_filter, mem_rangeI, decide_eq_true_eq]
    exact ⟨fun h => h.2, fun h => ⟨h4 x h, h⟩⟩
  have e2 : ∀ l : List Int, (l.filter fun x => decide (x ∈ S)).length + (l.filter fun x => !decide (x ∈ S)).length = l.length := fun l => by
    induction l with
    | nil => rfl
    | cons x l ih =>
      by_cases hx : x ∈ S
      · rw [List.filter_cons_of_pos (by simpa using hx), List.filter_cons_of_neg (by simpa using hx), List.length_cons, List.length_cons]
        omega
      · rw [List.filter_cons_of_neg (by simpa using hx), List.filter_cons_of_pos (by simpa using hx), List.length_cons, List.length_cons]
        omega
  have e3 := e2 ((List.range v.toNat).map fun n : Nat => (n : Int))
  rw [List.length_map, List.length_range] at e3
  unfold complementOf
  omega
theorem complement_lambda {v : Int} {S : List Int} (h : isCircleSet v S = true) (hp : lambdaVal v S > 0) (hc : isCircleSet v (complementOf v S) = true) : lambdaVal v (complementOf v S) = v - 2 * (S.length : Int) + lambdaVal v S := by
  obtain ⟨h1, h2, h3, h4, h5, h6⟩ := circle_parts h
  refine lambda_of hc fun d d0 d1 => ?_
  have hn : (complementOf v S).Nodup := (complement_sorted v S).imp (fun h => by omega)
  have := near_complement h6 h4 hn (fun x => mem_complement x) (d := d) (by omega)
  have h7 := lambda_all h hp (d := d) (by omega)
  omega
theorem zSum_L0 (t : List Int) (ht : t.length ≤ 1000) (hv : ∀ x ∈ t, 0 ≤ x ∧ x ≤ 1000) : ∀ (suf pre : List Int) (acc : Int), t = pre ++ suf → 0 ≤ acc ∧ acc + 1000 * suf.length ≤ 10000000 → laws_zSum.L0 acc t (t.length : Int) (pre.length : Int) = some (acc + suf.sum)
  | [], pre, acc, e, _ => by
    rw [laws_zSum.L0_eq, if_neg (by rw [e]; simp)]
    simp
  | x :: suf, pre, acc, e, ha => by
    have hrd : rd t (pre.length : Int) = x := by rw [e, rd_mid]
    have hlen : pre.length < t.length := by rw [e]; simp
    have hx := hv x (by rw [e]; simp)
    have hw : wrap64 ((pre.length : Int) + 1) = ((pre ++ [x]).length : Int) := by rw [wrap_in (by omega) (by omega)]; simp
    rw [List.length_cons] at ha
    rw [laws_zSum.L0_eq, if_pos (by omega), if_pos (by omega), if_pos (by omega), hrd, hw, wrap_in (n := acc + x) (by omega) (by omega), zSum_L0 t ht hv suf (pre ++ [x]) (acc + x) (by rw [e]; simp) (by omega), List.sum_cons, Int.add_assoc]
theorem counts_le {v : Int} {S : List Int} (h : isCircleSet v S = true) : ∀ x ∈ countsOf v S, 0 ≤ x ∧ x ≤ 64 := by
  obtain ⟨h1, h2, h3, h4, h5, h6⟩ := circle_parts h
  intro x hx
  obtain ⟨i, hi, rfl⟩ := List.mem_map.1 hx
  have hle : ∀ (d : Int) (l : List Int), times d l ≤ l.length := fun d l => by
    induction l with
    | nil => simp [times]
    | cons y l ih =>
      simp only [times, List.length_cons]
      split <;> omega
  have a := hle (i : Int) (circGaps v S)
  have b := circGaps_small (v := v) h6 h2.2
  omega
theorem zSum_counts {v : Int} {S : List Int} (h : isCircleSet v S = true) : laws_zSum.F (countsOf v S) = some ((S.length : Int) * ((S.length : Int) - 1)) ∧ 0 ≤ (S.length : Int) * ((S.length : Int) - 1) ∧ (S.length : Int) * ((S.length : Int) - 1) ≤ 64 := by
  obtain ⟨h1, h2, h3, h4, h5, h6⟩ := circle_parts h
  have hl := countsOf_length v S
  have hL := zSum_L0 (countsOf v S) (by omega) (fun x hx => by have := counts_le h x hx; omega) (countsOf v S) [] 0 (by simp) (by omega)
  have hs := counts_sum h
  have e1 : (S.length : Int) * ((S.length : Int) - 1) = ((S.length * (S.length - 1) : Nat) : Int) := by
    rw [show (S.length : Int) - 1 = ((S.length - 1 : Nat) : Int) by omega, ← Int.natCast_mul]
  have h8 : S.length * (S.length - 1) ≤ 8 * 8 := Nat.mul_le_mul h2.2 (by omega)
  have e2 : (countsOf v S).sum = ((S.length * (S.length - 1) : Nat) : Int) := by
    unfold countsOf
    rw [sum_map, hs]
  refine ⟨?_, by rw [e1]; omega, by rw [e1]; omega⟩
  rw [laws_zSum.F_eq, e1, ← e2]
  rw [Int.zero_add] at hL
  exact hL
theorem zCommon_val : ∀ (b a : Nat), laws_zCommon.L0 (a : Int) (b : Int) = some ((Nat.gcd a b : Nat) : Int) := by
  intro b
  induction b using Nat.strongRecOn with
  | _ b ih =>
    intro a
    rw [laws_zCommon.L0_eq]
    by_cases h : b = 0
    · subst h
      rw [if_neg (by omega), Nat.gcd_zero_right]
    · rw [if_pos (by omega), if_neg (by omega), ← Int.ofNat_tmod, ih (a % b) (Nat.mod_lt _ (by omega)) b, Nat.gcd_comm a b, Nat.gcd_rec b a, Nat.gcd_comm]
theorem zsame (x : List Int) (hx : x.length ≤ 1000) : laws_zSame.F x x = some true := by
  rw [laws_zSame.F_val x x (by omega), decide_eq_true rfl]
theorem moveOf_len (v : Int) (S : List Int) (k : Int) : (moveOf v S k).1.length ≤ 31 := by
  unfold moveOf
  split
  · rename_i h
    have := pointsOf_len v (residues v 1 k S)
    have hp := circle_parts h.1
    unfold movedSet
    dsimp only
    omega
  · simp
theorem timesSetF_len (v : Int) (S : List Int) (k : Int) : (timesSetF v S k).1.length ≤ 31 := by
  unfold timesSetF
  split
  · rename_i h
    have := pointsOf_len v (residues v k 0 S)
    have hp := circle_parts h.1
    unfold timesSet
    dsimp only
    omega
  · simp
theorem complementF_len (v : Int) (S : List Int) : (complementF v S).1.length ≤ 31 := by
  unfold complementF
  split
  · rename_i h
    have := complement_length h.1
    have hp := circle_parts h.1
    dsimp only
    omega
  · simp
theorem drawn_circle {l : List Int} (h : DrawSt l 0 0) : ∃ v S, spec_DrawIsCircleSet.F l = some (v, S) ∧ S.length ≤ 40 := by
  obtain ⟨v, S, a, z, e, hS, _⟩ := spec_l1Cur_circle.ok 0 (by omega) h
  exact ⟨v, S, by rw [spec_DrawIsCircleSet.F_eq, e]; rfl, hS⟩
theorem J10_val {l1 : List Int} (h1 : DrawSt l1 0 0) : laws_FnCirclesDiffer.J10 l1 = some true := by
  obtain ⟨w, s, a1, z1, e1, hs, hs1⟩ := spec_l1Cur_circle.ok 0 (by omega) h1
  obtain ⟨p, a2, z2, e2, _, _, hs2⟩ := spec_l1Cur_pick.ok z1 12 hs1 (by omega)
  obtain ⟨q, a3, z3, e3, _, _, hs3⟩ := spec_l1Cur_pick.ok z2 2 hs2 (by omega)
  obtain ⟨x, y, e4, hy⟩ := drawn_circle h1
  have ed : spec_DrawMoveSet.F l1 = some (w, s, wrap64 (p - q)) := by
    rw [spec_DrawMoveSet.F_eq, e1]
    simp only [Option.bind_some]
    rw [e2]
    simp only [Option.bind_some]
    rw [e3]
    rfl
  have ec : spec_DrawComplementSet.F l1 = some (x, y) := by
    rw [spec_DrawComplementSet.F_eq, e4]
    rfl
  have m1 := zsame _ (Nat.le_trans (moveOf_len w s (wrap64 (p - q))) (by omega))
  have m2 := zsame _ (Nat.le_trans (timesSetF_len w s (wrap64 (p - q))) (by omega))
  have m3 := zsame _ (Nat.le_trans (complementF_len x y) (by omega))
  rw [laws_FnCirclesDiffer.J10_eq, ed]
  simp only [Option.bind_some, impl_MoveSet.F_val w s _ (by omega), spec_MoveSet.F_val w s _ (by omega), impl_TimesSet.F_val w s _ (by omega), spec_TimesSet.F_val w s _ (by omega), ec, impl_ComplementSet.F_val x y (by omega), spec_ComplementSet.F_val x y (by omega), bne_self_eq_false, Bool.false_eq_true, if_false, m1, m2, m3, if_true]
  by_cases hc : isCircleSet x y = true ∧ isCircleSet x (complementOf x y) = true
  · have e5 : complementF x y = (complementOf x y, true) := by unfold complementF; rw [if_pos hc]
    have hb := complement_back hc.1
    have e6 : complementF x (complementOf x y) = (y, true) := by unfold complementF; rw [hb, if_pos ⟨hc.2, hc.1⟩]
    have hl := complement_length hc.1
    have hp := circle_parts hc.1
    rw [e5]
    dsimp only
    rw [if_pos rfl, impl_ComplementSet.F_val x _ (by omega), e6]
    simp only [Option.bind_some, if_true, zsame y (by omega)]
    rw [wrap_in (by omega) (by omega), hl, beq_self_eq_true]
  · have e5 : complementF x y = ([], false) := by unfold complementF; rw [if_neg hc]
    rw [e5]
    rfl
theorem L3_val {l1 : List Int} (h1 : DrawSt l1 0 0) {v : Int} {S : List Int} (h : isCircleSet v S = true) (hp : lambdaVal v S > 0) : ∀ (n m : Nat), 1 ≤ m → m + n = 6 → laws_FnCirclesDiffer.L3 l1 v S (lambdaVal v S) (m : Int) = some true
  | 0, m, hm, hn => by
    rw [laws_FnCirclesDiffer.L3_eq, decide_eq_false (show ¬ (m : Int) < 6 by omega)]
    simp only [laws_FnCirclesDiffer.J9_eq]
    split
    · exact J10_val h1
    · exact J10_val h1
  | n + 1, m, hm, hn => by
    have hq := circle_parts h
    have ih := L3_val h1 h hp n (m + 1) (by omega) (by omega)
    have hw : wrap64 ((m : Int) + 1) = ((m + 1 : Nat) : Int) := by rw [wrap_in (by omega) (by omega)]; rfl
    rw [laws_FnCirclesDiffer.L3_eq, decide_eq_true (show (m : Int) < 6 by omega)]
    simp only [laws_FnCirclesDiffer.J9_eq]
    by_cases hmv : (m : Int) < v
    · have ez : laws_zCommon.F (m : Int) v = some ((Nat.gcd m v.toNat : Nat) : Int) := by
        have := zCommon_val v.toNat m
        rw [show ((v.toNat : Nat) : Int) = v by omega] at this
        rw [laws_zCommon.F_eq]
        exact this
      rw [if_pos hmv, if_pos (by trivial), impl_TimesSet.F_val v S _ (by omega), ez, hw]
      simp only [Option.bind_some]
      by_cases hg : Nat.gcd m v.toNat = 1
      · have hg' : Nat.gcd v.toNat m = 1 := by rw [Nat.gcd_comm]; exact hg
        obtain ⟨t1, t2⟩ := times_lambda h hp (m := m) (by omega) hg'
        have hnod := (image_facts h (k := (m : Int)) (m := 0) (by omega) (by omega) (by rw [Int.toNat_natCast]; exact hg')).2.1
        have et : timesSetF v S (m : Int) = (timesSet v S m, true) := by unfold timesSetF; rw [if_pos ⟨h, by omega, hnod⟩]
        have hl := pointsOf_len v (residues v m 0 S)
        have el : lambdaOfF v (timesSet v S m) = (lambdaVal v S, true) := by unfold lambdaOfF; rw [if_pos t1, t2, decide_eq_true hp]
        rw [if_pos (by rw [hg]; rfl), et]
        dsimp only
        rw [impl_LambdaOf.F_val v _ (by unfold timesSet; omega), el]
        simp only [Option.bind_some, if_true]
        exact ih
      · rw [if_neg (by omega)]
        exact ih
    · rw [if_neg hmv, if_neg (by decide)]
      exact J10_val h1
theorem J5_val {l1 : List Int} (h1 : DrawSt l1 0 0) {v : Int} {S : List Int} (h : isCircleSet v S = true) : laws_FnCirclesDiffer.J5 l1 v S (lambdaVal v S) (decide (lambdaVal v S > 0)) = some true := by
  rw [laws_FnCirclesDiffer.J5_eq]
  by_cases hp : lambdaVal v S > 0
  · have hq := circle_parts h
    obtain ⟨c1, c2⟩ := lambda_count h hp
    obtain ⟨_, c3, c4⟩ := zSum_counts h
    have hL3 : laws_FnCirclesDiffer.J7 l1 v S (lambdaVal v S) = some true := by
      rw [laws_FnCirclesDiffer.J7_eq]
      exact L3_val h1 h hp 5 1 (by omega) (by omega)
    have w1 : wrap64 (lambdaVal v S * wrap64 (v - 1)) = (S.length : Int) * ((S.length : Int) - 1) := by
      rw [wrap_in (n := v - 1) (by omega) (by omega), c1]
      generalize (S.length : Int) * ((S.length : Int) - 1) = p at c3 c4
      exact wrap_in (by omega) (by omega)
    have w2 : wrap64 ((S.length : Int) * wrap64 ((S.length : Int) - 1)) = (S.length : Int) * ((S.length : Int) - 1) := by
      rw [wrap_in (n := (S.length : Int) - 1) (by omega) (by omega)]
      generalize (S.length : Int) * ((S.length : Int) - 1) = p at c3 c4
      exact wrap_in (by omega) (by omega)
    have w3 : wrap64 (wrap64 (v - wrap64 (2 * (S.length : Int))) + lambdaVal v S) = v - 2 * (S.length : Int) + lambdaVal v S := by
      clear c1 c3 c4 w1 w2
      rw [wrap_in (n := 2 * (S.length : Int)) (by omega) (by omega), wrap_in (n := v - 2 * (S.length : Int)) (by omega) (by omega), wrap_in (by omega) (by omega)]
    clear c1 c3 c4
    rw [if_pos (decide_eq_true hp), w1, w2, if_pos rfl, impl_ComplementSet.F_val v S (by omega)]
    simp only [Option.bind_some, laws_FnCirclesDiffer.J6_eq, w3]
    by_cases hc : isCircleSet v (complementOf v S) = true
    · have e5 : complementF v S = (complementOf v S, true) := by unfold complementF; rw [if_pos ⟨h, hc⟩]
      have hcl := complement_length h
      have hlam := complement_lambda h hp hc
      rw [e5]
      dsimp only
      rw [if_pos rfl]
      by_cases h2 : ((complementOf v S).length : Int) > 1
      · rw [if_pos (decide_eq_true h2), impl_LambdaOf.F_val v _ (by omega)]
        simp only [Option.bind_some]
        have el : lambdaOfF v (complementOf v S) = (v - 2 * (S.length : Int) + lambdaVal v S, decide (v - 2 * (S.length : Int) + lambdaVal v S > 0)) := by unfold lambdaOfF; rw [if_pos hc, hlam]
        rw [el]
        by_cases h3 : v - 2 * (S.length : Int) + lambdaVal v S > 0
        · rw [if_pos h3, if_pos (decide_eq_true h3), if_pos rfl]
          exact hL3
        · rw [if_neg h3]
          exact hL3
      · rw [if_neg (by rw [decide_eq_false h2]; decide)]
        exact hL3
    · have e5 : complementF v S = ([], false) := by unfold complementF; rw [if_neg (fun hh => hc hh.2)]
      rw [e5]
      dsimp only
      rw [if_neg (by decide), if_neg (by decide)]
      exact hL3
  · rw [if_neg (by rw [decide_eq_false hp]; decide)]
    exact J10_val h1
/-- The multipliers of a set. -/
def multsOf (v : Int) (S : List Int) : List Int := multsFrom v S (v - 1).toNat 1
theorem mem_mults {v : Int} {S : List Int} {x : Int} : x ∈ multsOf v S ↔ ∃ k : Nat, x = (k : Int) ∧ 1 ≤ k ∧ k < 1 + (v - 1).toNat ∧ isMult v S k = true := mem_multsFrom _ _
theorem L2_val {l1 : List Int} {v : Int} {S : List Int} (h : isCircleSet v S = true) (t : List Int) (m : Int) (hm : m ∈ multsOf v S) (i : Int) : ∀ (suf pre : List Int), multsOf v S = pre ++ suf → laws_FnCirclesDiffer.L2 l1 v S (lambdaVal v S) (decide (lambdaVal v S > 0)) t (multsOf v S) m (multsOf v S) ((multsOf v S).length : Int) i (multsOf v S) ((multsOf v S).length : Int) (pre.length : Int) = laws_FnCirclesDiffer.L1 l1 v S (lambdaVal v S) (decide (lambdaVal v S > 0)) t (multsOf v S) (multsOf v S) ((multsOf v S).length : Int) (wrap64 (i + 1))
  | [], pre, e => by
    have hlen : (multsOf v S).length = pre.length := by rw [e]; simp
    rw [laws_FnCirclesDiffer.L2_eq, if_neg (by omega)]
  | n :: suf, pre, e => by
    have hq := circle_parts h
    have hml : (multsOf v S).length ≤ 31 := by
      have := multsFrom_len v S (v - 1).toNat 1
      unfold multsOf
      omega
    have hrd : rd (multsOf v S) (pre.length : Int) = n := by rw [e, rd_mid]
    have hlen : pre.length < (multsOf v S).length := by rw [e]; simp
    have hw : wrap64 ((pre.length : Int) + 1) = ((pre ++ [n]).length : Int) := by rw [wrap_in (by omega) (by omega)]; simp
    obtain ⟨a, rfl, a1, a2, a3⟩ := mem_mults.1 hm
    obtain ⟨b, hb, b1, b2, b3⟩ := mem_mults.1 (show n ∈ multsOf v S by rw [e]; simp)
    have hmul := isMult_mul hq.1.1 hq.2.2.2.1 a3 b3
    have hpos := mult_not_zero hq.1.1 hmul
    have hlt : a * b % v.toNat < v.toNat := Nat.mod_lt _ (by omega)
    have hab : a * b ≤ 31 * 31 := Nat.mul_le_mul (by omega) (by omega)
    have hwm : wrap64 ((a : Int) * n) = ((a * b : Nat) : Int) := by
      rw [hb, ← Int.natCast_mul]
      generalize a * b = p at hab
      exact wrap_in (by omega) (by omega)
    have ht : Int.tmod (((a * b : Nat) : Int)) v = ((a * b % v.toNat : Nat) : Int) := by
      have e2 : v = ((v.toNat : Nat) : Int) := by omega
      rw [e2, ← Int.ofNat_tmod, Int.toNat_natCast]
    have hmem : ((a * b % v.toNat : Nat) : Int) ∈ multsOf v S := mem_mults.2 ⟨a * b % v.toNat, rfl, hpos, by omega, hmul⟩
    rw [laws_FnCirclesDiffer.L2_eq, if_pos (by omega), if_pos (by omega), if_pos (by omega), if_neg (by omega), hrd, hwm, ht, laws_zHas.F_val _ _ (by omega), decide_eq_true hmem]
    simp only [Option.bind_some, if_true]
    rw [hw]
    exact L2_val h t (a : Int) hm i suf (pre ++ [n]) (by rw [e]; simp)
theorem L1_val {l1 : List Int} (h1 : DrawSt l1 0 0) {v : Int} {S : List Int} (h : isCircleSet v S = true) : ∀ (suf pre : List Int), multsOf v S = pre ++ suf → laws_FnCirclesDiffer.L1 l1 v S (lambdaVal v S) (decide (lambdaVal v S > 0)) (countsOf v S) (multsOf v S) (multsOf v S) ((multsOf v S).length : Int) (pre.length : Int) = some true
  | [], pre, e => by
    have hq := circle_parts h
    have hlen : (multsOf v S).length = pre.length := by rw [e]; simp
    have hv2 : wrap64 (Int.tdiv v 2) = v / 2 := by rw [Int.tdiv_eq_ediv_of_nonneg (by omega), wrap_in (by omega) (by omega)]
    obtain ⟨m1, m2⟩ := moved_counts h (m := v / 2) (by omega)
    have em : moveOf v S (v / 2) = (movedSet v S (v / 2), true) := by unfold moveOf; rw [if_pos ⟨h, by omega, by omega⟩]
    have ed : diffCountsF v (movedSet v S (v / 2)) = (countsOf v S, true) := by unfold diffCountsF; rw [if_pos m1, m2]
    have hp2 := circle_parts m1
    have hcl := countsOf_length v S
    rw [laws_FnCirclesDiffer.L1_eq, if_neg (by omega), hv2, impl_MoveSet.F_val v S _ (by omega), em]
    simp only [Option.bind_some, if_true]
    rw [impl_DifferenceCounts.F_val v _ (by omega), ed]
    simp only [Option.bind_some, if_true, zsame (countsOf v S) (by omega)]
    exact J5_val h1 h
  | m :: suf, pre, e => by
    have hq := circle_parts h
    have hml : (multsOf v S).length ≤ 31 := by
      have := multsFrom_len v S (v - 1).toNat 1
      unfold multsOf
      omega
    have hrd : rd (multsOf v S) (pre.length : Int) = m := by rw [e, rd_mid]
    have hlen : pre.length < (multsOf v S).length := by rw [e]; simp
    have hw : wrap64 ((pre.length : Int) + 1) = ((pre ++ [m]).length : Int) := by rw [wrap_in (by omega) (by omega)]; simp
    have hL2 := L2_val (l1 := l1) h (countsOf v S) m (by rw [e]; simp) (pre.length : Int) (multsOf v S) [] (by simp)
    rw [laws_FnCirclesDiffer.L1_eq, if_pos (by omega), if_pos (by omega), if_pos (by omega), hrd]
    refine hL2.trans ?_
    rw [hw]
    exact L1_val h1 h suf (pre ++ [m]) (by rw [e]; simp)
theorem mults_first {v : Int} {S : List Int} (h : isCircleSet v S = true) : ∃ t, multsOf v S = 1 :: t := by
  have hq := circle_parts h
  unfold multsOf
  obtain ⟨n, hn⟩ : ∃ n, (v - 1).toNat = n + 1 := ⟨(v - 1).toNat - 1, by omega⟩
  rw [hn, multsFrom_step (b := true) (isMult_one v S (by omega)), if_pos rfl]
  exact ⟨_, rfl⟩
theorem L0_val {l1 : List Int} (h1 : DrawSt l1 0 0) {v : Int} {S : List Int} (h : isCircleSet v S = true) : ∀ (suf pre : List Int) (most : Int), countsOf v S = pre ++ suf → (most ≤ 1 ↔ ∀ x ∈ pre, x ≤ 1) → laws_FnCirclesDiffer.L0 l1 v S (lambdaVal v S) (decide (lambdaVal v S > 0)) (countsOf v S) (multsOf v S) (decide (∀ x ∈ countsOf v S, x ≤ 1)) (S.length : Int) most (countsOf v S) ((countsOf v S).length : Int) (pre.length : Int) = some true
  | [], pre, most, e, hm => by
    have hq := circle_parts h
    have hcl := countsOf_length v S
    have hpre : countsOf v S = pre := by rw [e]; simp
    have hlen : (countsOf v S).length = pre.length := by rw [hpre]
    obtain ⟨z1, z2, z3⟩ := zSum_counts h
    have w2 : wrap64 ((S.length : Int) * wrap64 ((S.length : Int) - 1)) = (S.length : Int) * ((S.length : Int) - 1) := by
      rw [wrap_in (n := (S.length : Int) - 1) (by omega) (by omega)]
      generalize (S.length : Int) * ((S.length : Int) - 1) = p at z2 z3
      exact wrap_in (by omega) (by omega)
    clear z2 z3
    obtain ⟨t, ht⟩ := mults_first h
    have hL1 := L1_val h1 h (multsOf v S) [] (by simp)
    have hdec : decide (∀ x ∈ countsOf v S, x ≤ 1) = decide (most ≤ 1) := by
      rw [decide_eq_decide, hm, hpre]
    rw [laws_FnCirclesDiffer.L0_eq, if_neg (by omega), if_pos (by omega), z1]
    simp only [Option.bind_some]
    rw [w2, if_pos rfl, hdec, bne_self_eq_false, if_neg (by decide), if_neg (by rw [ht, List.length_cons]; omega), if_pos (by rw [ht, List.length_cons]; omega), if_pos (by rw [ht]; rfl)]
    exact hL1
  | x :: suf, pre, most, e, hm => by
    have hq := circle_parts h
    obtain ⟨q1, q2, q3, q4, q5, q6⟩ := hq
    have hcl := countsOf_length v S
    have hrd : rd (countsOf v S) (pre.length : Int) = x := by rw [e, rd_mid]
    have hlen : pre.length < (countsOf v S).length := by rw [e]; simp
    have hw : wrap64 ((pre.length : Int) + 1) = ((pre ++ [x]).length : Int) := by rw [wrap_in (by omega) (by omega)]; simp
    have go : ∀ most', (most' ≤ 1 ↔ most ≤ 1 ∧ x ≤ 1) → laws_FnCirclesDiffer.L0 l1 v S (lambdaVal v S) (decide (lambdaVal v S > 0)) (countsOf v S) (multsOf v S) (decide (∀ x ∈ countsOf v S, x ≤ 1)) (S.length : Int) most' (countsOf v S) ((countsOf v S).length : Int) (wrap64 ((pre.length : Int) + 1)) = some true := fun most' hm' => by
      rw [hw]
      refine L0_val h1 h suf (pre ++ [x]) most' (by rw [e]; simp) (hm'.trans ?_)
      rw [hm]
      constructor
      · rintro ⟨a, b⟩ y hy
        rcases List.mem_append.1 hy with hy | hy
        · exact a y hy
        · have : y = x := by simpa using hy
          omega
      · exact fun a => ⟨fun y hy => a y (by simp [hy]), a x (by simp)⟩
    have hJ2 : laws_FnCirclesDiffer.J2 l1 v S (lambdaVal v S) (decide (lambdaVal v S > 0)) (countsOf v S) (multsOf v S) (decide (∀ x ∈ countsOf v S, x ≤ 1)) (S.length : Int) most x (countsOf v S) ((countsOf v S).length : Int) (pre.length : Int) false = some true := by
      rw [laws_FnCirclesDiffer.J2_eq, if_neg (by decide)]
      by_cases hx : x > most
      · rw [if_pos hx]
        exact go x (by omega)
      · rw [if_neg hx]
        exact go most (by omega)
    rw [laws_FnCirclesDiffer.L0_eq, if_pos (by omega), if_pos (by omega), if_pos (by omega), hrd]
    by_cases h0 : (pre.length : Int) = 0
    · have hx0 : x = 0 := by
        rw [← hrd, h0]
        have : rd (countsOf v S) ((0 : Nat) : Int) = 0 := by
          rw [rd_nat _ 0 (by omega)]
          simp only [countsOf, List.getElem_map, List.getElem_range]
          rw [show ((0 : Nat) : Int) = 0 from rfl, circGaps_zero q4]
          rfl
        exact this
      rw [if_pos h0, if_pos hx0, if_neg (by omega)]
      exact hJ2
    · have hd : 0 < (pre.length : Int) ∧ (pre.length : Int) < v := by omega
      have hwv : wrap64 (v - (pre.length : Int)) = v - (pre.length : Int) := wrap_in (by omega) (by omega)
      have hx2 : x = rd (countsOf v S) (v - (pre.length : Int)) := by
        rw [← hrd, rd_counts q6 q4 hd, rd_counts q6 q4 (by omega), near_back q6 q4 hd]
      rw [if_neg h0, if_pos (by omega), hwv, if_pos (by omega), if_pos (by omega), ← hx2, bne_self_eq_false]
      exact hJ2
set_option maxHeartbeats 2000000 in
theorem FnCirclesDiffer : laws_FnCirclesDiffer.Pure := by
  intro l0 l1 _ _ hw0 _ _ hw1
  refine Lim.rounds (laws_FnCirclesDiffer.F_lim l0 l1) ?_
  rw [laws_FnCirclesDiffer.F_eq, laws_big.f_val]
  simp only [Option.bind_some]
  by_cases hbig : 1048576 < l0.length ∨ 1048576 < l0.length + l1.length
  · rw [if_pos (decide_eq_true hbig)]
  rw [if_neg (by rw [decide_eq_false hbig]; decide)]
  have h0 := draw_start (l := l0) (by omega) hw0
  have h1 := draw_start (l := l1) (by omega) hw1
  obtain ⟨v, S, e1, hS⟩ := drawn_circle h0
  have ed : spec_DrawLambdaOf.F l0 = some (v, S) := by
    rw [spec_DrawLambdaOf.F_eq, e1]
    rfl
  have eis : spec_IsCircleSet.F v S = some (isCircleSet v S) := by
    rw [spec_IsCircleSet.F_eq, spec_ciGood.F_val v S (by omega)]
    rfl
  have v1 := impl_LambdaOf.F_val v S (by omega)
  have v2 := spec_LambdaOf.F_val v S (by omega)
  have v3 := impl_IsDifferenceSet.F_val v S (by omega)
  have v4 := spec_IsDifferenceSet.F_val v S (by omega)
  have v5 := impl_DifferenceCounts.F_val v S (by omega)
  have v6 := spec_DifferenceCounts.F_val v S (by omega)
  have v7 := impl_MultipliersOf.F_val v S (by omega)
  have v8 := spec_MultipliersOf.F_val v S (by omega)
  have v9 := impl_IsAroundRuler.F_val v S (by omega)
  have v10 := spec_IsAroundRuler.F_val v S (by omega)
  have v11 := impl_IsCircleSet.F_val v S (by omega)
  unfold lambdaOfF at v1 v2
  unfold isDiffSetF at v3 v4
  unfold diffCountsF at v5 v6
  unfold multipliersOf at v7 v8
  unfold aroundF at v9 v10
  by_cases hr : isCircleSet v S = true
  · have hq := circle_parts hr
    have hcl := countsOf_length v S
    have k1 := zsame (countsOf v S) (by omega)
    have k2 := zsame (multsOf v S) (by have := multsFrom_len v S (v - 1).toNat 1; unfold multsOf; omega)
    have hL := L0_val h1 hr (countsOf v S) [] 0 (by simp) (by simp)
    rw [if_pos hr] at v1 v2 v3 v4 v5 v6 v7 v8 v9 v10
    rw [show multsFrom v S (v - 1).toNat 1 = multsOf v S from rfl] at v7 v8
    rw [hr] at v11 eis
    rw [ed, Option.bind_some, v1, Option.bind_some, v2, Option.bind_some, v3, Option.bind_some, v4, Option.bind_some, v5, Option.bind_some, v6, Option.bind_some, v7, Option.bind_some, v8, Option.bind_some, v9, Option.bind_some, v10, Option.bind_some]
    dsimp only
    clear v1 v2 v3 v4 v5 v6 v7 v8 v9 v10 hq hcl hS
    simp only [bne_self_eq_false, Bool.false_eq_true, if_false, if_true, k1, k2, v11, eis, Option.bind_some]
    rw [laws_FnCirclesDiffer.J0_eq, if_neg (by decide), if_pos rfl]
    exact hL
  · have hrf : isCircleSet v S = false := Bool.eq_false_iff.2 hr
    have k1 := zsame [] (by simp)
    rw [if_neg hr] at v1 v2 v3 v4 v5 v6 v7 v8 v9 v10
    rw [hrf] at v11 eis
    rw [ed, Option.bind_some, v1, Option.bind_some, v2, Option.bind_some, v3, Option.bind_some, v4, Option.bind_some, v5, Option.bind_some, v6, Option.bind_some, v7, Option.bind_some, v8, Option.bind_some, v9, Option.bind_some, v10, Option.bind_some]
    dsimp only
    simp only [bne_self_eq_false, Bool.false_eq_true, if_false, if_true, k1, v11, eis, Option.bind_some]
    rw [laws_FnCirclesDiffer.J0_eq, if_neg (by decide), if_neg (by decide), laws_FnCirclesDiffer.J5_eq, if_neg (by decide)]
    exact J10_val h1
end Go.Proofs.Ytofjndbpndpjjaa.Pure
