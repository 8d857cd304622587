/- The machine's side and plain lemmas for FnRulersMeasure: texts of this session, merged by its program (part 4). -/
import Derived.Test.YtofjndbpndpjjaaMFnRulersMeasure0
import Derived.Test.YtofjndbpndpjjaaMFnRulersMeasure1
import Derived.Test.YtofjndbpndpjjaaMFnRulersMeasure2
import Derived.Test.YtofjndbpndpjjaaMFnRulersMeasure3
namespace Go.Proofs.Ytofjndbpndpjjaa.Fn
open Go.RowKit Go.Proofs.YtofjndbpndpjjaaW.PrintWords Go.Proofs.YtofjndbpndpjjaaW.PrintLast Go.Proofs.YtofjndbpndpjjaaW.PrintMore
set_option linter.unusedVariables false
set_option linter.unusedSimpArgs false
/-- The numbers k, k + 1, .., n of them. -/
def marks : Nat → Int → List Int
  | 0, _ => []
  | n + 1, k => k :: marks n (k + 1)
theorem marks_length : ∀ n k, (marks n k).length = n
  | 0, _ => rfl
  | n + 1, k => by simp [marks, marks_length n]
end Go.Proofs.Ytofjndbpndpjjaa.Fn
namespace Go.Proofs.Ytofjndbpndpjjaa.Fn
open Go.RowKit Go.Proofs.YtofjndbpndpjjaaW.PrintWords Go.Proofs.YtofjndbpndpjjaaW.PrintLast Go.Proofs.YtofjndbpndpjjaaW.PrintMore
set_option linter.unusedVariables false
set_option linter.unusedSimpArgs false
theorem slices_Clone_int_int.f_val (l : List Int) (h : l.length < 17592186044416) : slices_Clone_int_int.f l = some l := by
  unfold slices_Clone_int_int.f
  rw [if_pos h]
theorem spec_l1Own.f_val (l : List Int) (h : l.length < 17592186044416) : spec_l1Own.f l = some l := by
  unfold spec_l1Own.f
  simp [h]
theorem spec_l1In.f_val (a b c : Int) : spec_l1In.f a b c = some (decide (b ≤ a) && decide (a ≤ c)) := by
  unfold spec_l1In.f
  by_cases h : a ≥ b
  · rw [if_pos h]
    simp [show b ≤ a from h]
  · rw [if_neg h]
    simp [show ¬ b ≤ a from h]
end Go.Proofs.Ytofjndbpndpjjaa.Fn
namespace Go.Proofs.Ytofjndbpndpjjaa.Fn
open Go.RowKit Go.Proofs.YtofjndbpndpjjaaW.PrintWords Go.Proofs.YtofjndbpndpjjaaW.PrintLast Go.Proofs.YtofjndbpndpjjaaW.PrintMore
set_option linter.unusedVariables false
set_option linter.unusedSimpArgs false
theorem spec_l1Has.L0_val (n : Int) : ∀ (suf pre : List Int), (pre ++ suf).length < 4611686018427387904 → spec_l1Has.L0 n (pre ++ suf) ((pre ++ suf).length : Int) (pre.length : Int) = some (decide (n ∈ suf))
  | [], pre, h => by
    rw [spec_l1Has.L0_eq, range_end]
    simp
  | x :: suf, pre, h => by
    rw [spec_l1Has.L0_eq, range_step, rd_mid, wrap_mid h, app_mid pre x suf, spec_l1Has.L0_val n suf (pre ++ [x]) (by simpa using h)]
    by_cases h1 : x = n
    · rw [if_pos h1]
      simp [h1]
    · rw [if_neg h1]
      have : ¬ n = x := fun h => h1 h.symm
      simp [this]
theorem spec_l1Has.F_val (l : List Int) (n : Int) (h : l.length < 4611686018427387904) : spec_l1Has.F l n = some (decide (n ∈ l)) := by
  rw [spec_l1Has.F_eq]
  have := spec_l1Has.L0_val n l [] (by simpa using h)
  simpa using this
/-- The first place of a number, the first one counted as i; -1 where it does not stand. -/
def indexFrom (n : Int) : Nat → List Int → Int
  | _, [] => -1
  | i, x :: l => if n = x then (i : Int) else indexFrom n (i + 1) l
theorem indexFrom_mem (n : Int) : ∀ (l : List Int) (i : Nat), 0 ≤ indexFrom n i l ↔ n ∈ l
  | [], i => by simp [indexFrom]
  | x :: l, i => by
    have ih := indexFrom_mem n l (i + 1)
    by_cases h : n = x
    · simp [indexFrom, h]
    · simp [indexFrom, h, ih]
theorem slices_Index_int_int.L0_val (n : Int) : ∀ (suf pre : List Int), (pre ++ suf).length < 4611686018427387904 → slices_Index_int_int.L0 (pre ++ suf) n ((pre ++ suf).length : Int) (pre.length : Int) = some (indexFrom n pre.length suf)
  | [], pre, h => by
    rw [slices_Index_int_int.L0_eq, range_end]
    rfl
  | x :: suf, pre, h => by
    have e : (pre ++ [x]).length = pre.length + 1 := by simp
    rw [slices_Index_int_int.L0_eq, range_step, rd_mid, wrap_mid h, app_mid pre x suf, slices_Index_int_int.L0_val n suf (pre ++ [x]) (by simpa using h), e, indexFrom]
    split <;> rfl
theorem slices_Index_int_int.F_val (l : List Int) (n : Int) (h : l.length < 4611686018427387904) : slices_Index_int_int.F l n = some (indexFrom n 0 l) := by
  rw [slices_Index_int_int.F_eq]
  have := slices_Index_int_int.L0_val n l [] (by simpa using h)
  simpa using this
theorem slices_Contains_int_int.F_val (l : List Int) (n : Int) (h : l.length < 4611686018427387904) : slices_Contains_int_int.F l n = some (decide (n ∈ l)) := by
  rw [slices_Contains_int_int.F_eq, slices_Index_int_int.F_val l n h]
  simp only [Option.bind_some]
  have := indexFrom_mem n l 0
  congr 1
  rw [decide_eq_decide]
  exact this
end Go.Proofs.Ytofjndbpndpjjaa.Fn
namespace Go.Proofs.Ytofjndbpndpjjaa.Fn
open Go.RowKit Go.Proofs.YtofjndbpndpjjaaW.PrintWords Go.Proofs.YtofjndbpndpjjaaW.PrintLast Go.Proofs.YtofjndbpndpjjaaW.PrintMore
set_option linter.unusedVariables false
set_option linter.unusedSimpArgs false
/-- Points of a circle, growing. -/
def growing : List Int → Bool
  | [] => true
  | [_] => true
  | x :: y :: l => decide (x < y) && growing (y :: l)
def isCircleSet (v : Int) (l : List Int) : Bool := decide (2 ≤ v ∧ v ≤ 31) && decide (1 ≤ l.length ∧ l.length ≤ 8) && decide ((l.length : Int) < v) && l.all (fun x => decide (0 ≤ x ∧ x < v)) && growing l
theorem isCircleSet_parts {v : Int} {l : List Int} (h : isCircleSet v l = true) : (2 ≤ v ∧ v ≤ 31) ∧ (1 ≤ l.length ∧ l.length ≤ 8) ∧ (l.length : Int) < v ∧ (∀ x ∈ l, 0 ≤ x ∧ x < v) ∧ growing l = true := by
  simp only [isCircleSet, Bool.and_eq_true, decide_eq_true_eq, List.all_eq_true] at h
  obtain ⟨⟨⟨⟨h1, h2⟩, h3⟩, h4⟩, h5⟩ := h
  exact ⟨h1, h2, h3, h4, h5⟩
theorem growing_snoc : ∀ (l : List Int) (x y : Int), growing (l ++ [x, y]) = (growing (l ++ [x]) && decide (x < y))
  | [], x, y => by simp [growing]
  | [z], x, y => by simp [growing]
  | z :: u :: l, x, y => by
    have ih := growing_snoc (u :: l) x y
    simp only [List.cons_append, growing] at ih ⊢
    rw [ih, Bool.and_assoc]
theorem growing_sorted : ∀ (l : List Int), growing l = true → l.Pairwise (· < ·)
  | [], _ => List.Pairwise.nil
  | [x], _ => by simp
  | x :: y :: l, h => by
    simp only [growing, Bool.and_eq_true, decide_eq_true_eq] at h
    have ih := growing_sorted (y :: l) h.2
    refine List.pairwise_cons.2 ⟨fun z hz => ?_, ih⟩
    rcases List.mem_cons.1 hz with rfl | hz
    · exact h.1
    · exact Int.lt_trans h.1 ((List.pairwise_cons.1 ih).1 z hz)
/-- The points k times x and m behind. -/
def residues (v k m : Int) (l : List Int) : List Int := l.map fun x => Int.tmod (x * k + m) v
/-- The points of a circle that are in a list, growing. -/
def pointsOf (v : Int) (r : List Int) : List Int := ((List.range v.toNat).map fun n : Nat => (n : Int)).filter fun x => decide (x ∈ r)
theorem sorted_ext : ∀ (a b : List Int), a.Pairwise (· < ·) → b.Pairwise (· < ·) → (∀ x, x ∈ a ↔ x ∈ b) → a = b
  | [], [], _, _, _ => rfl
  | [], y :: b, _, _, h => by have := (h y).2 (by simp); cases this
  | x :: a, [], _, _, h => by have := (h x).1 (by simp); cases this
  | x :: a, y :: b, ha, hb, h => by
    obtain ⟨ha1, ha2⟩ := List.pairwise_cons.1 ha
    obtain ⟨hb1, hb2⟩ := List.pairwise_cons.1 hb
    have hxy : x = y := by
      have h1 := (h x).1 (by simp)
      have h2 := (h y).2 (by simp)
      rcases List.mem_cons.1 h1 with e | h1
      · exact e
      · rcases List.mem_cons.1 h2 with e | h2
        · exact e.symm
        · have := hb1 x h1
          have := ha1 y h2
          omega
    subst hxy
    congr 1
    refine sorted_ext a b ha2 hb2 fun z => ⟨fun hz => ?_, fun hz => ?_⟩
    · rcases List.mem_cons.1 ((h z).1 (by simp [hz])) with e | h1
      · have := ha1 z hz
        omega
      · exact h1
    · rcases List.mem_cons.1 ((h z).2 (by simp [hz])) with e | h1
      · have := hb1 z hz
        omega
      · exact h1
theorem pointsOf_sorted (v : Int) (r : List Int) : (pointsOf v r).Pairwise (· < ·) := by
  unfold pointsOf
  refine List.Pairwise.filter _ ?_
  rw [List.pairwise_map]
  exact List.pairwise_lt_range.imp (fun h => by omega)
theorem mem_pointsOf {v : Int} {r : List Int} (hr : ∀ x ∈ r, 0 ≤ x ∧ x < v) (x : Int) : x ∈ pointsOf v r ↔ x ∈ r := by
  unfold pointsOf
  rw [List.mem_filter, List.mem_map, decide_eq_true_eq]
  constructor
  · exact fun h => h.2
  · intro h
    have := hr x h
    exact ⟨⟨x.toNat, List.mem_range.2 (by omega), by omega⟩, h⟩
theorem residues_bound {v k m : Int} {l : List Int} (hv : 0 < v) (h : ∀ x ∈ l, 0 ≤ x * k + m) : ∀ x ∈ residues v k m l, 0 ≤ x ∧ x < v := by
  intro x hx
  obtain ⟨y, hy, rfl⟩ := List.mem_map.1 hx
  have := h y hy
  exact ⟨Int.tmod_nonneg _ this, Int.tmod_lt_of_pos _ hv⟩
theorem sortInt_sorted {r : List Int} (hn : r.Nodup) : (sortInt r).Pairwise (· < ·) := by
  have h1 : (sortInt r).Pairwise fun x y => decide (x ≤ y) = true := by
    unfold sortInt
    exact List.pairwise_mergeSort (fun a b c h1 h2 => by simp only [decide_eq_true_eq] at h1 h2 ⊢; omega) (fun a b => by simp only [Bool.or_eq_true, decide_eq_true_eq]; omega) r
  have h2 : (sortInt r).Nodup := (List.mergeSort_perm r _).nodup_iff.2 hn
  have h3 := List.Pairwise.and h1 h2
  exact h3.imp (fun h => by
    have a := h.1
    have b := h.2
    simp only [decide_eq_true_eq] at a
    omega)
theorem sortInt_points {v : Int} {r : List Int} (hr : ∀ x ∈ r, 0 ≤ x ∧ x < v) (hn : r.Nodup) : sortInt r = pointsOf v r := by
  refine sorted_ext _ _ (sortInt_sorted hn) (pointsOf_sorted v r) fun x => ?_
  rw [mem_pointsOf hr x]
  exact (List.mergeSort_perm r _).mem_iff
end Go.Proofs.Ytofjndbpndpjjaa.Fn
namespace Go.Proofs.Ytofjndbpndpjjaa.Fn
open Go.RowKit Go.Proofs.YtofjndbpndpjjaaW.PrintWords Go.Proofs.YtofjndbpndpjjaaW.PrintLast Go.Proofs.YtofjndbpndpjjaaW.PrintMore
set_option linter.unusedVariables false
set_option linter.unusedSimpArgs false
/-- The input's bytes are bytes. -/
def BytesOk (l : List Int) : Prop := ∀ x ∈ l, 0 ≤ x ∧ x ≤ 255
theorem wrap_u64 (n : Int) : IntKind.u64.wrap n = n % 18446744073709551616 := by simp [IntKind.wrap, IntKind.bits, IntKind.signed]
theorem low_byte (x : Int) (h0 : 0 ≤ x) (h1 : x < 18446744073709551616) : Go.bits .and .u64 x 255 = x % 256 := by
  have := bits_mask .u64 64 (by decide) (fun n h0 h1 => by rw [wrap_u64]; omega) 8 (by decide) x h0 (by omega)
  simpa using this
theorem top_byte (n : Int) : ∃ b, wrap64 (Go.bits .and .u64 (IntKind.u64.wrap n / 1099511627776) 255) = b ∧ 0 ≤ b ∧ b ≤ 255 := by
  have h := wrap_u64 n
  generalize IntKind.u64.wrap n = m at *
  rw [low_byte _ (by omega) (by omega), wrap_in (by omega) (by omega)]
  exact ⟨_, rfl, by omega, by omega⟩
theorem spec_l1Cur_next.ok {l : List Int} (hl : BytesOk l) (hn : l.length < 4611686018427387904) (at_ seed : Int) (h0 : 0 ≤ at_) (h1 : at_ < 4611686018427387904) : ∃ b z, spec_l1Cur_next.f l at_ seed = some (b, at_ + 1, z) ∧ 0 ≤ b ∧ b ≤ 255 := by
  unfold spec_l1Cur_next.f
  rw [wrap_in (n := at_ + 1) (by omega) (by omega)]
  by_cases ha : at_ < (l.length : Int)
  · have hm : rd l at_ ∈ l := by
      obtain ⟨i, rfl⟩ : ∃ i : Nat, at_ = i := ⟨at_.toNat, by omega⟩
      rw [rd_nat l i (by omega)]
      exact List.getElem_mem _
    have hb := hl _ hm
    rw [if_pos ha, if_pos h0, if_pos (by omega), wrap_in (n := rd l at_) (by omega) (by omega)]
    exact ⟨_, _, rfl, hb.1, hb.2⟩
  · rw [if_neg ha]
    by_cases hb : at_ + 1 ≤ (l.length : Int)
    · rw [if_pos hb]
      exact ⟨_, _, rfl, by omega, by omega⟩
    · rw [if_neg hb]
      obtain ⟨b, e, h2, h3⟩ := top_byte (IntKind.u64.wrap (IntKind.u64.wrap (seed * 6364136223846793005)) + 1442695040888963407)
      exact ⟨b, _, by rw [e], h2, h3⟩
/-- The state of a draw: the input, and a place that is no greater than m. -/
structure DrawSt (l : List Int) (m at_ : Int) : Prop where
  bytes : BytesOk l
  len : l.length < 4611686018427387904
  at0 : 0 ≤ at_
  atm : at_ ≤ m
theorem DrawSt.more {l : List Int} {m m' a : Int} (h : DrawSt l m a) (hm : m ≤ m') : DrawSt l m' a := ⟨h.1, h.2, h.3, Int.le_trans h.4 hm⟩
theorem tmod_range {x n : Int} (hx : 0 ≤ x) (hn : 0 < n) : 0 ≤ Int.tmod x n ∧ Int.tmod x n < n := ⟨Int.tmod_nonneg n hx, Int.tmod_lt_of_pos x hn⟩
theorem spec_l1Cur_pick.ok {l : List Int} {m at_ : Int} (seed n : Int) (h : DrawSt l m at_) (hm : m ≤ 4000000000000000000) : ∃ r a z, spec_l1Cur_pick.f l at_ seed n = some (r, a, z) ∧ 0 ≤ r ∧ (r < n ∨ r = 0) ∧ DrawSt l (m + 2) a := by
  obtain ⟨hl, hn, h0, h1⟩ := h
  unfold spec_l1Cur_pick.f
  by_cases hn1 : n ≤ 1
  · rw [if_pos hn1]
    exact ⟨0, _, _, rfl, by omega, .inr rfl, hl, hn, h0, by omega⟩
  · rw [if_neg hn1]
    obtain ⟨b, z, e, b0, b1⟩ := spec_l1Cur_next.ok hl hn at_ seed h0 (by omega)
    rw [e]
    simp only [Option.bind_some]
    by_cases hn2 : n > 200
    · rw [if_pos hn2]
      obtain ⟨b', z', e', b0', b1'⟩ := spec_l1Cur_next.ok hl hn (at_ + 1) z (by omega) (by omega)
      rw [e']
      simp only [Option.bind_some]
      rw [if_neg (by omega), wrap_in (n := b * 256) (by omega) (by omega), wrap_in (n := b * 256 + b') (by omega) (by omega)]
      have := tmod_range (x := b * 256 + b') (n := n) (by omega) (by omega)
      exact ⟨_, _, _, rfl, this.1, .inl this.2, hl, hn, by omega, by omega⟩
    · rw [if_neg hn2, if_neg (by omega)]
      have := tmod_range (x := b) (n := n) b0 (by omega)
      exact ⟨_, _, _, rfl, this.1, .inl this.2, hl, hn, by omega, by omega⟩
theorem spec_l1Cur_one.ok {l : List Int} {m at_ : Int} (seed n : Int) (h : DrawSt l m at_) (hm : m ≤ 4000000000000000000) : ∃ r a z, spec_l1Cur_one.f l at_ seed n = some (r, a, z) ∧ DrawSt l (m + 2) a := by
  obtain ⟨r, a, z, e, _, _, hs⟩ := spec_l1Cur_pick.ok seed n h hm
  exact ⟨r == 0, a, z, by unfold spec_l1Cur_one.f; rw [e]; rfl, hs⟩
theorem spec_l1Cur_among.ok {l : List Int} {m at_ : Int} (seed : Int) (xs : List Int) (hx : 0 < xs.length) (h : DrawSt l m at_) (hm : m ≤ 4000000000000000000) : ∃ r a z, spec_l1Cur_among.f l at_ seed xs = some (r, a, z) ∧ r ∈ xs ∧ DrawSt l (m + 2) a := by
  obtain ⟨r, a, z, e, h0, h1, hs⟩ := spec_l1Cur_pick.ok seed (xs.length : Int) h hm
  have hr : r < (xs.length : Int) := by omega
  have hmem : rd xs r ∈ xs := by
    obtain ⟨i, rfl⟩ : ∃ i : Nat, r = i := ⟨r.toNat, by omega⟩
    rw [rd_nat xs i (by omega)]
    exact List.getElem_mem _
  exact ⟨rd xs r, a, z, by unfold spec_l1Cur_among.f; rw [e]; simp only [Option.bind_some]; rw [if_pos h0, if_pos hr], hmem, hs⟩
theorem laws_big.f_val (a b : List Int) : laws_big.f a b = some (decide (1048576 < a.length ∨ 1048576 < a.length + b.length)) := by
  unfold laws_big.f
  by_cases h : (a.length : Int) > 1048576
  · rw [if_pos h, decide_eq_true (by omega)]
  · rw [if_neg h, wrap_in (by omega) (by omega)]
    by_cases h2 : (b.length : Int) > 1048576 - (a.length : Int)
    · rw [decide_eq_true h2, decide_eq_true (by omega)]
    · rw [decide_eq_false h2, decide_eq_false (by omega)]
/-- An input of bytes, as a draw begins. -/
theorem draw_start {l : List Int} (h : l.length ≤ 1048576) (hw : ∀ x ∈ l, (Lit.int .u8 x).wf = true) : DrawSt l 0 0 := by
  refine ⟨fun x hx => ?_, by omega, by omega, by omega⟩
  have := hw x hx
  simp [Lit.wf] at this
  have h1 : IntKind.u8.min = 0 := by decide
  have h2 : IntKind.u8.max = 255 := by decide
  rw [h1, h2] at this
  omega
end Go.Proofs.Ytofjndbpndpjjaa.Fn
namespace Go.Proofs.Ytofjndbpndpjjaa.Fn
open Go.RowKit Go.Proofs.YtofjndbpndpjjaaW.PrintWords Go.Proofs.YtofjndbpndpjjaaW.PrintLast Go.Proofs.YtofjndbpndpjjaaW.PrintMore
set_option linter.unusedVariables false
set_option linter.unusedSimpArgs false
def lessOf : List Int → List Int → Bool
  | [], [] => false
  | [], _ :: _ => true
  | _ :: _, [] => false
  | x :: a, y :: b => if x = y then lessOf a b else decide (x < y)
theorem wrap_up {n i : Nat} (h : i < n) (hn : n < 4611686018427387904) : wrap64 ((i : Int) + 1) = ((i + 1 : Nat) : Int) := by
  rw [wrap_in (by omega) (by omega)]
  rfl
theorem laws_jSame.L0_val (a b : List Int) (hl : a.length = b.length) (h : a.length < 4611686018427387904) : ∀ (m i : Nat), i + m = a.length → laws_jSame.L0 a b (a.length : Int) (i : Int) = some (decide (a.drop i = b.drop i))
  | 0, i, hm => by
    rw [laws_jSame.L0_eq, if_neg (by omega), List.drop_of_length_le (by omega), List.drop_of_length_le (by omega)]
    rfl
  | m + 1, i, hm => by
    rw [laws_jSame.L0_eq, if_pos (by omega), if_pos (by omega), if_pos (by omega), if_pos (by omega), rd_nat a i (by omega), rd_nat b i (by omega), wrap_up (n := a.length) (by omega) h, laws_jSame.L0_val a b hl h m (i + 1) (by omega), List.drop_eq_getElem_cons (l := a) (i := i) (by omega), List.drop_eq_getElem_cons (l := b) (i := i) (by omega)]
    by_cases e : a[i]'(by omega) = b[i]'(by omega)
    · rw [if_pos e]
      congr 1
      rw [decide_eq_decide, e]
      exact ⟨fun h => by rw [h], fun h => (List.cons.inj h).2⟩
    · rw [if_neg e, decide_eq_false (fun h => e (List.cons.inj h).1)]
theorem laws_jSame.F_val (a b : List Int) (h : a.length < 4611686018427387904) : laws_jSame.F a b = some (decide (a = b)) := by
  rw [laws_jSame.F_eq]
  by_cases e : a.length = b.length
  · rw [if_pos (by omega)]
    have := laws_jSame.L0_val a b e h a.length 0 (by omega)
    simpa using this
  · rw [if_neg (by omega), decide_eq_false (fun hab => e (by rw [hab]))]
theorem laws_jHas.L0_val (n : Int) (a : List Int) (h : a.length < 4611686018427387904) : ∀ (m i : Nat), i + m = a.length → laws_jHas.L0 n a (a.length : Int) (i : Int) = some (decide (n ∈ a.drop i))
  | 0, i, hm => by
    rw [laws_jHas.L0_eq, if_neg (by omega), List.drop_of_length_le (by omega)]
    rfl
  | m + 1, i, hm => by
    rw [laws_jHas.L0_eq, if_pos (by omega), if_pos (by omega), if_pos (by omega), rd_nat a i (by omega), wrap_up (n := a.length) (by omega) h, laws_jHas.L0_val n a h m (i + 1) (by omega), List.drop_eq_getElem_cons (l := a) (i := i) (by omega)]
    by_cases e : a[i]'(by omega) = n
    · rw [if_pos e, decide_eq_true (by rw [e]; exact List.mem_cons_self)]
    · rw [if_neg e]
      congr 1
      rw [decide_eq_decide, List.mem_cons]
      exact ⟨.inr, fun h => h.resolve_left (fun h => e h.symm)⟩
theorem laws_jHas.F_val (a : List Int) (n : Int) (h : a.length < 4611686018427387904) : laws_jHas.F a n = some (decide (n ∈ a)) := by
  rw [laws_jHas.F_eq]
  have := laws_jHas.L0_val n a h a.length 0 (by omega)
  simpa using this
end Go.Proofs.Ytofjndbpndpjjaa.Fn
namespace Go.Proofs.Ytofjndbpndpjjaa.Fn
open Go.RowKit Go.Proofs.YtofjndbpndpjjaaW.PrintWords Go.Proofs.YtofjndbpndpjjaaW.PrintLast Go.Proofs.YtofjndbpndpjjaaW.PrintMore
set_option linter.unusedVariables false
set_option linter.unusedSimpArgs false
theorem count_flatMap_len {α β : Type} (l : List α) (f : α → List β) : (l.flatMap f).length = (l.map (fun x => (f x).length)).sum := by
  induction l with
  | nil => rfl
  | cons x l ih => simp [ih]
/-- How often a number stands in a list. -/
def times (d : Int) : List Int → Nat
  | [] => 0
  | x :: l => (if x = d then 1 else 0) + times d l
theorem times_append (d : Int) : ∀ a b : List Int, times d (a ++ b) = times d a + times d b
  | [], b => by simp [times]
  | x :: a, b => by
    have := times_append d a b
    simp only [List.cons_append, times, this]
    omega
theorem times_perm {d : Int} {a b : List Int} (h : a.Perm b) : times d a = times d b := by
  induction h with
  | nil => rfl
  | cons x _ ih => simp only [times, ih]
  | swap x y l => simp only [times]; omega
  | trans _ _ h1 h2 => exact h1.trans h2
theorem times_pos {d : Int} : ∀ {l : List Int}, 0 < times d l ↔ d ∈ l
  | [] => by simp [times]
  | x :: l => by
    have := times_pos (d := d) (l := l)
    simp only [times, List.mem_cons]
    by_cases h : x = d
    · simp [h]; omega
    · rw [if_neg h, Nat.zero_add, this]
      constructor
      · exact fun h => .inr h
      · rintro (h1 | h1)
        · exact absurd h1.symm h
        · exact h1
theorem times_le_one {l : List Int} : (∀ d, times d l ≤ 1) ↔ l.Nodup := by
  induction l with
  | nil => simp [times]
  | cons x l ih =>
    rw [List.nodup_cons, ← ih]
    constructor
    · intro h
      refine ⟨fun hm => ?_, fun d => ?_⟩
      · have h1 := h x
        have h2 := times_pos.2 hm
        simp only [times, if_true] at h1
        omega
      · have h1 := h d
        simp only [times] at h1
        omega
    · rintro ⟨h1, h2⟩ d
      simp only [times]
      have h3 := h2 d
      by_cases hx : x = d
      · subst hx
        have : ¬ 0 < times x l := fun hp => h1 (times_pos.1 hp)
        rw [if_pos rfl]
        omega
      · rw [if_neg hx]
        omega
/-- The sum of how often each of some numbers stands in a list. -/
def sumTimes (xs : List Int) : List Int → Nat
  | [] => 0
  | d :: ds => times d xs + sumTimes xs ds
theorem sumTimes_cons (x : Int) (xs : List Int) : ∀ ds : List Int, sumTimes (x :: xs) ds = times x ds + sumTimes xs ds
  | [] => by simp [sumTimes, times]
  | d :: ds => by
    have := sumTimes_cons x xs ds
    simp only [sumTimes, times, this]
    by_cases h : x = d
    · subst h
      simp
      omega
    · rw [if_neg h, if_neg (fun e => h e.symm)]
      omega
theorem times_one {d : Int} {l : List Int} (hn : l.Nodup) (h : d ∈ l) : times d l = 1 := by
  have h1 := times_le_one.2 hn d
  have h2 := times_pos.2 h
  omega
theorem sumTimes_all {ds : List Int} (hn : ds.Nodup) : ∀ xs : List Int, (∀ x ∈ xs, x ∈ ds) → sumTimes xs ds = xs.length
  | [], _ => by
    induction ds with
    | nil => rfl
    | cons d ds ih => simp [sumTimes, times, ih (List.nodup_cons.1 hn).2] 
  | x :: xs, h => by
    rw [sumTimes_cons, times_one hn (h x (by simp)), sumTimes_all hn xs (fun y hy => h y (by simp [hy])), List.length_cons]
    omega
theorem met_le (xs : List Int) : ∀ ds : List Int, (ds.filter (fun d => decide (0 < times d xs))).length ≤ sumTimes xs ds
  | [] => by simp [sumTimes]
  | d :: ds => by
    have := met_le xs ds
    by_cases h : 0 < times d xs
    · rw [List.filter_cons_of_pos (by simpa using h), List.length_cons, sumTimes]
      omega
    · rw [List.filter_cons_of_neg (by simpa using h), sumTimes]
      omega
theorem met_eq (xs : List Int) : ∀ ds : List Int, (ds.filter (fun d => decide (0 < times d xs))).length = sumTimes xs ds ↔ ∀ d ∈ ds, times d xs ≤ 1
  | [] => by simp [sumTimes]
  | d :: ds => by
    have h1 := met_le xs ds
    have h2 := met_eq xs ds
    simp only [List.mem_cons, forall_eq_or_imp]
    rw [← h2]
    by_cases h : 0 < times d xs
    · rw [List.filter_cons_of_pos (by simpa using h), List.length_cons, sumTimes]
      omega
    · rw [List.filter_cons_of_neg (by simpa using h), sumTimes]
      omega
theorem met_not (xs : List Int) (ds : List Int) : (ds.filter (fun d => decide (0 < times d xs))).length + (ds.filter (fun d => decide (times d xs = 0))).length = ds.length := by
  induction ds with
  | nil => rfl
  | cons d ds ih =>
    by_cases h : 0 < times d xs
    · rw [List.filter_cons_of_pos (by simpa using h), List.filter_cons_of_neg (by simp; omega), List.length_cons, List.length_cons]
      omega
    · rw [List.filter_cons_of_neg (by simpa using h), List.filter_cons_of_pos (by simp; omega), List.length_cons, List.length_cons]
      omega
/-- One more at each of some places. -/
def bump (o : List Int) : List Int → List Int
  | [] => o
  | d :: ds => bump (o.set d.toNat (o.getD d.toNat 0 + 1)) ds
theorem bump_append (a b : List Int) : ∀ o, bump o (a ++ b) = bump (bump o a) b := by
  induction a with
  | nil => exact fun o => rfl
  | cons x a ih => exact fun o => ih _
theorem bump_length : ∀ (ds o : List Int), (bump o ds).length = o.length
  | [], o => rfl
  | d :: ds, o => by simp [bump, bump_length ds]
theorem bump_getD : ∀ (ds o : List Int), (∀ d ∈ ds, 0 ≤ d ∧ d < (o.length : Int)) → ∀ i : Nat, i < o.length → (bump o ds).getD i 0 = o.getD i 0 + times (i : Int) ds
  | [], o, _, i, _ => by simp [bump, times]
  | d :: ds, o, h, i, hi => by
    have hd := h d (by simp)
    rw [bump, bump_getD ds _ (fun x hx => by rw [List.length_set]; exact h x (by simp [hx])) i (by rw [List.length_set]; exact hi), times]
    by_cases e : d = (i : Int)
    · subst e
      rw [if_pos rfl, Int.toNat_natCast]
      simp [List.getD_eq_getElem?_getD, hi]
      omega
    · rw [if_neg e]
      have : d.toNat ≠ i := by omega
      simp [List.getD_eq_getElem?_getD, List.getElem?_set_ne this]
theorem bump_zeros {n : Nat} {ds : List Int} (h : ∀ d ∈ ds, 0 ≤ d ∧ d < (n : Int)) : bump (List.replicate n 0) ds = (List.range n).map (fun i : Nat => ((times (i : Int) ds : Nat) : Int)) := by
  refine List.ext_getElem (by simp [bump_length]) fun i h1 h2 => ?_
  have hi : i < n := by simpa [bump_length] using h1
  have := bump_getD ds (List.replicate n 0) (by simpa using h) i (by simpa using hi)
  rw [List.getD_eq_getElem?_getD, List.getElem?_eq_getElem h1] at this
  simp only [Option.getD_some] at this
  rw [this]
  simp [List.getD_eq_getElem?_getD, hi]
end Go.Proofs.Ytofjndbpndpjjaa.Fn
namespace Go.Proofs.Ytofjndbpndpjjaa.Fn
open Go.RowKit Go.Proofs.YtofjndbpndpjjaaW.PrintWords Go.Proofs.YtofjndbpndpjjaaW.PrintLast Go.Proofs.YtofjndbpndpjjaaW.PrintMore
set_option linter.unusedVariables false
set_option linter.unusedSimpArgs false
/-- The differences of a list's later numbers to its earlier ones, as the program comes to them: pre is had already. -/
def gaps (pre : List Int) : List Int → List Int
  | [] => []
  | m :: suf => pre.map (fun k => m - k) ++ gaps (pre ++ [m]) suf
/-- The same, by the earlier numbers. -/
def gapsUp : List Int → List Int
  | [] => []
  | x :: l => l.map (fun y => y - x) ++ gapsUp l
theorem gaps_cons (x : Int) : ∀ (suf pre : List Int), (gaps (x :: pre) suf).Perm (suf.map (fun y => y - x) ++ gaps pre suf)
  | [], pre => by simp [gaps]
  | m :: suf, pre => by
    have ih := gaps_cons x suf (pre ++ [m])
    simp only [gaps, List.map_cons, List.cons_append]
    refine List.Perm.cons _ ?_
    refine (List.Perm.append_left _ ih).trans ?_
    rw [← List.append_assoc, ← List.append_assoc]
    exact List.Perm.append_right _ List.perm_append_comm
theorem gaps_perm : ∀ l : List Int, (gaps [] l).Perm (gapsUp l)
  | [] => List.Perm.refl _
  | x :: l => by
    simp only [gaps, gapsUp, List.map_nil, List.nil_append]
    exact (gaps_cons x l []).trans (List.Perm.append_left _ (gaps_perm l))
theorem gapsUp_snoc (y : Int) : ∀ l : List Int, (gapsUp (l ++ [y])).Perm (gapsUp l ++ l.map (fun x => y - x))
  | [] => by simp [gapsUp]
  | x :: l => by
    have ih := gapsUp_snoc y l
    simp only [List.cons_append, gapsUp, List.map_append, List.map_cons, List.map_nil]
    rw [List.append_assoc, List.append_assoc]
    refine List.Perm.append_left _ ?_
    refine (List.Perm.append_left _ ih).trans ?_
    rw [← List.append_assoc]
    have : ([y - x] ++ (gapsUp l ++ l.map (fun x => y - x))).Perm (gapsUp l ++ (y - x) :: l.map (fun x => y - x)) := by
      simpa using (List.perm_middle (l₁ := gapsUp l) (a := y - x) (l₂ := l.map (fun x => y - x))).symm
    simpa using this
theorem gapsUp_back (c : Int) : ∀ l : List Int, (gapsUp (l.reverse.map (fun x => c - x))).Perm (gapsUp l)
  | [] => List.Perm.refl _
  | x :: l => by
    rw [List.reverse_cons, List.map_append, List.map_cons, List.map_nil]
    refine (gapsUp_snoc _ _).trans ?_
    refine ((gapsUp_back c l).append_right _).trans ?_
    refine List.perm_append_comm.trans ?_
    rw [gapsUp]
    refine List.Perm.append_right _ ?_
    rw [List.map_map]
    have e : ((fun z => c - x - z) ∘ fun z => c - z) = fun y => y - x := by funext y; simp only [Function.comp]; omega
    rw [e]
    exact (List.reverse_perm l).map _
theorem gapsUp_length : ∀ l : List Int, 2 * (gapsUp l).length = l.length * (l.length - 1)
  | [] => rfl
  | x :: l => by
    have ih := gapsUp_length l
    rw [gapsUp, List.length_append, List.length_map, List.length_cons, Nat.mul_add, ih, Nat.add_sub_cancel]
    cases h : l.length with
    | zero => rfl
    | succ n => simp only [Nat.add_sub_cancel]; rw [Nat.mul_comm (n + 1) n, ← Nat.add_mul]; congr 1; omega
theorem mem_gapsUp {d : Int} : ∀ {l : List Int}, l.Pairwise (· < ·) → (d ∈ gapsUp l ↔ 0 < d ∧ ∃ x ∈ l, x + d ∈ l)
  | [], _ => by simp [gapsUp]
  | x :: l, h => by
    obtain ⟨h1, h2⟩ := List.pairwise_cons.1 h
    have ih := mem_gapsUp (d := d) h2
    rw [gapsUp, List.mem_append, ih, List.mem_map]
    constructor
    · rintro (⟨y, hy, rfl⟩ | ⟨hd, z, hz, hzd⟩)
      · have := h1 y hy
        exact ⟨by omega, x, by simp, by rw [show x + (y - x) = y by omega]; simp [hy]⟩
      · exact ⟨hd, z, by simp [hz], by simp [hzd]⟩
    · rintro ⟨hd, z, hz, hzd⟩
      rcases List.mem_cons.1 hz with rfl | hz
      · rcases List.mem_cons.1 hzd with e | hzd
        · omega
        · exact .inl ⟨z + d, hzd, by omega⟩
      · rcases List.mem_cons.1 hzd with e | hzd
        · have := h1 z hz
          omega
        · exact .inr ⟨hd, z, hz, hzd⟩
/-- The last number of a list. -/
def lastOf (l : List Int) : Int := rd l ((l.length : Int) - 1)
/-- A ruler: from 0 on, growing, of at most twelve marks and the length 60. -/
def isRuler (l : List Int) : Bool := decide (1 ≤ l.length ∧ l.length ≤ 12) && decide (rd l 0 = 0) && growing l && decide (lastOf l ≤ 60)
theorem growing_drop {l : List Int} {i : Nat} (h : i + 1 < l.length) : growing (l.drop i) = (decide (rd l (i : Int) < rd l ((i + 1 : Nat) : Int)) && growing (l.drop (i + 1))) := by
  rw [List.drop_eq_getElem_cons (show i < l.length by omega), List.drop_eq_getElem_cons h, rd_nat l i (by omega), rd_nat l (i + 1) h]
  simp [growing]
theorem growing_last {l : List Int} {i : Nat} (h : i + 1 = l.length) : growing (l.drop i) = true := by
  rw [List.drop_eq_getElem_cons (show i < l.length by omega), List.drop_of_length_le (by omega)]
  rfl
theorem sorted_le_last : ∀ {l : List Int}, l.Pairwise (· < ·) → ∀ x ∈ l, x ≤ lastOf l
  | [], _, x, hx => by simp at hx
  | [y], _, x, hx => by
    have : x = y := by simpa using hx
    subst this
    simp [lastOf, rd]
  | y :: z :: l, h, x, hx => by
    have e : lastOf (y :: z :: l) = lastOf (z :: l) := by
      unfold lastOf rd
      have e1 : (((y :: z :: l).length : Int) - 1).toNat = ((z :: l).length - 1) + 1 := by simp only [List.length_cons]; omega
      have e2 : (((z :: l).length : Int) - 1).toNat = (z :: l).length - 1 := by omega
      rw [e1, e2]
      simp
    obtain ⟨h1, h2⟩ := List.pairwise_cons.1 h
    have ih := fun x hx => sorted_le_last h2 x hx
    rw [e]
    rcases List.mem_cons.1 hx with rfl | hx
    · have := ih z (by simp)
      have := h1 z (by simp)
      omega
    · exact ih x hx
theorem last_mem {l : List Int} (h : 1 ≤ l.length) : lastOf l ∈ l := by
  obtain ⟨n, hn⟩ : ∃ n : Nat, (l.length : Int) - 1 = n := ⟨l.length - 1, by omega⟩
  unfold lastOf
  rw [hn, rd_nat l n (by omega)]
  exact List.getElem_mem _
theorem isRuler_parts {l : List Int} (h : isRuler l = true) : (1 ≤ l.length ∧ l.length ≤ 12) ∧ rd l 0 = 0 ∧ l.Pairwise (· < ·) ∧ lastOf l ≤ 60 ∧ 0 ≤ lastOf l ∧ ∀ x ∈ l, 0 ≤ x ∧ x ≤ lastOf l := by
  simp only [isRuler, Bool.and_eq_true, decide_eq_true_eq] at h
  obtain ⟨⟨⟨h1, h2⟩, h3⟩, h4⟩ := h
  have hs := growing_sorted l h3
  have h0 : ∀ x ∈ l, 0 ≤ x := by
    cases l with
    | nil => simp
    | cons y l =>
      have hy : y = 0 := by simpa [rd] using h2
      subst hy
      intro x hx
      rcases List.mem_cons.1 hx with rfl | hx
      · omega
      · have := (List.pairwise_cons.1 hs).1 x hx
        omega
  exact ⟨h1, h2, hs, h4, h0 _ (last_mem h1.1), fun x hx => ⟨h0 x hx, sorted_le_last hs x hx⟩⟩
/-- The differences of a ruler lie from 1 to its length. -/
theorem gaps_range {l : List Int} (h : isRuler l = true) : ∀ d ∈ gaps [] l, 1 ≤ d ∧ d ≤ lastOf l := by
  obtain ⟨_, _, hs, _, _, hx⟩ := isRuler_parts h
  intro d hd
  obtain ⟨h1, x, hx1, hx2⟩ := (mem_gapsUp hs).1 ((gaps_perm l).mem_iff.1 hd)
  have a := hx x hx1
  have b := hx _ hx2
  omega
/-- How often each distance is measured. -/
def measuredOf (l : List Int) : List Int := (List.range (lastOf l + 1).toNat).map fun i : Nat => ((times (i : Int) (gaps [] l) : Nat) : Int)
theorem bump_bound : ∀ (ds o : List Int) (B : Int), (∀ x ∈ o, 0 ≤ x ∧ x ≤ B) → 0 ≤ B → ∀ x ∈ bump o ds, 0 ≤ x ∧ x ≤ B + ds.length
  | [], o, B, h, _, x, hx => by simpa [bump] using h x hx
  | d :: ds, o, B, h, hB, x, hx => by
    have hg : 0 ≤ o.getD d.toNat 0 ∧ o.getD d.toNat 0 ≤ B := by
      rw [List.getD_eq_getElem?_getD]
      cases e : o[d.toNat]? with
      | none => exact ⟨Int.le_refl _, hB⟩
      | some y => exact h y (List.mem_of_getElem? e)
    have := bump_bound ds _ (B + 1) (fun y hy => by
      rcases List.mem_or_eq_of_mem_set hy with hy | rfl
      · have := h y hy
        omega
      · omega) (by omega) x hx
    rw [List.length_cons]
    omega
theorem impl_IsRuler.L0_val (l : List Int) (h : l.length < 4611686018427387904) : ∀ (m i : Nat), i + 1 + m = l.length → impl_IsRuler.L0 l ((i + 1 : Nat) : Int) = some (growing (l.drop i))
  | 0, i, hm => by
    rw [impl_IsRuler.L0_eq, if_neg (by omega), growing_last (by omega)]
  | m + 1, i, hm => by
    have ih := impl_IsRuler.L0_val l h m (i + 1) (by omega)
    have e1 : wrap64 (((i + 1 : Nat) : Int) - 1) = (i : Int) := by rw [wrap_in (by omega) (by omega)]; omega
    have e2 : wrap64 (((i + 1 : Nat) : Int) + 1) = ((i + 1 + 1 : Nat) : Int) := wrap_in (n := ((i + 1 : Nat) : Int) + 1) (by omega) (by omega)
    rw [impl_IsRuler.L0_eq, if_pos (by omega), e1, if_pos (by omega), if_pos (by omega), if_pos (by omega), e2, ih, growing_drop (i := i) (by omega)]
    by_cases hlt : rd l (i : Int) < rd l ((i + 1 : Nat) : Int)
    · rw [if_neg (by omega), decide_eq_true hlt, Bool.true_and]
    · rw [if_pos (by omega), decide_eq_false hlt, Bool.false_and]
theorem impl_IsRuler.F_val (l : List Int) (h : l.length < 4611686018427387904) : impl_IsRuler.F l = some (isRuler l) := by
  rw [impl_IsRuler.F_eq]
  unfold isRuler
  simp only [impl_IsRuler.J0_eq, if_true]
  by_cases h1 : (l.length : Int) < 1
  · rw [if_pos h1, decide_eq_false (show ¬ (1 ≤ l.length ∧ l.length ≤ 12) by omega)]
    simp
  · rw [if_neg h1]
    by_cases h2 : (l.length : Int) > 12
    · rw [if_pos h2, decide_eq_false (show ¬ (1 ≤ l.length ∧ l.length ≤ 12) by omega)]
      simp
    · have hL := impl_IsRuler.L0_val l h (l.length - 1) 0 (by omega)
      have ew : wrap64 ((l.length : Int) - 1) = (l.length : Int) - 1 := wrap_in (by omega) (by omega)
      rw [if_neg h2, if_pos (by omega), decide_eq_true (show (1 ≤ l.length ∧ l.length ≤ 12) by omega), ew]
      by_cases h3 : rd l 0 = 0
      · rw [if_pos h3, if_pos (by omega), if_pos (by omega), decide_eq_true h3]
        unfold lastOf
        by_cases h4 : rd l ((l.length : Int) - 1) > 60
        · rw [if_pos (decide_eq_true h4), decide_eq_false (show ¬ rd l ((l.length : Int) - 1) ≤ 60 by omega), Bool.and_false]
        · rw [if_neg (by rw [decide_eq_false h4]; decide), decide_eq_true (show rd l ((l.length : Int) - 1) ≤ 60 by omega)]
          simpa using hL
      · rw [if_neg h3, decide_eq_false h3]
        simp
theorem spec_ruGood.L0_val (l : List Int) (h : l.length < 4611686018427387904) : ∀ (m i : Nat), i + 1 + m = l.length → spec_ruGood.L0 l ((i + 1 : Nat) : Int) = some (growing (l.drop i) && decide (lastOf l ≤ 60))
  | 0, i, hm => by
    have ew : wrap64 ((l.length : Int) - 1) = (l.length : Int) - 1 := wrap_in (by omega) (by omega)
    rw [spec_ruGood.L0_eq, if_neg (by omega), growing_last (by omega), ew, if_pos (by omega), if_pos (by omega), Bool.true_and]
    rfl
  | m + 1, i, hm => by
    have ih := spec_ruGood.L0_val l h m (i + 1) (by omega)
    have e1 : wrap64 (((i + 1 : Nat) : Int) - 1) = (i : Int) := by rw [wrap_in (by omega) (by omega)]; omega
    have e2 : wrap64 (((i + 1 : Nat) : Int) + 1) = ((i + 1 + 1 : Nat) : Int) := wrap_in (n := ((i + 1 : Nat) : Int) + 1) (by omega) (by omega)
    rw [spec_ruGood.L0_eq, if_pos (by omega), if_pos (by omega), e1, if_pos (by omega), if_pos (by omega), e2, ih, growing_drop (i := i) (by omega)]
    by_cases hlt : rd l (i : Int) < rd l ((i + 1 : Nat) : Int)
    · rw [if_neg (by omega), decide_eq_true hlt, Bool.true_and]
    · rw [if_pos (by omega), decide_eq_false hlt, Bool.false_and, Bool.false_and]
theorem spec_ruGood.F_val (l : List Int) (h : l.length < 4611686018427387904) : spec_ruGood.F l = some (isRuler l) := by
  rw [spec_ruGood.F_eq, spec_l1In.f_val]
  unfold isRuler
  simp only [spec_ruGood.J0_eq, if_true, Option.bind_some]
  by_cases h1 : 1 ≤ l.length ∧ l.length ≤ 12
  · have hL := spec_ruGood.L0_val l h (l.length - 1) 0 (by omega)
    rw [decide_eq_true (show (1 : Int) ≤ l.length by omega), decide_eq_true (show (l.length : Int) ≤ 12 by omega), if_pos (show (true && true) = true from rfl), if_pos (by omega), decide_eq_true h1]
    by_cases h3 : rd l 0 = 0
    · rw [if_neg (by simp [h3]), decide_eq_true h3]
      simpa using hL
    · rw [if_pos (by simp [h3]), decide_eq_false h3]
      simp
  · rw [if_neg (by simp; omega), decide_eq_false h1]
    simp
theorem measured_start {l : List Int} (h : isRuler l = true) : bump (List.replicate (lastOf l + 1).toNat 0) (gaps [] l) = measuredOf l ∧ (gaps [] l).length ≤ 200 := by
  have hp := isRuler_parts h
  refine ⟨bump_zeros fun d hd => ?_, ?_⟩
  · have := gaps_range h d hd
    omega
  · have h1 := gapsUp_length l
    have h2 := (gaps_perm l).length_eq
    have h3 : l.length * (l.length - 1) ≤ 12 * 12 := Nat.mul_le_mul hp.1.2 (by omega)
    omega
theorem impl_measured.L1_val (x0 : List Int) (m : Int) (x16 : List Int) (x17 x18 : Int) (t : List Int) (ht : t.length ≤ 1000) (hm : -1000000 ≤ m ∧ m ≤ 1000000) (htv : ∀ k ∈ t, -1000000 ≤ k ∧ k ≤ 1000000) : ∀ (suf pre o : List Int), t = pre ++ suf → (∀ k ∈ suf, 0 ≤ m - k ∧ m - k < (o.length : Int)) → (∀ x ∈ o, 0 ≤ x ∧ x + suf.length ≤ 1000000) → impl_measured.L1 x0 o m x16 x17 x18 t (t.length : Int) (pre.length : Int) = impl_measured.L0 x0 (bump o (suf.map fun k => m - k)) x16 x17 (wrap64 (x18 + 1))
  | [], pre, o, e, _, _ => by
    rw [impl_measured.L1_eq, if_neg (by rw [e]; simp)]
    rfl
  | k :: suf, pre, o, e, hk, ho => by
    have hrd : rd t (pre.length : Int) = k := by rw [e, rd_mid]
    have hlen : pre.length < t.length := by rw [e]; simp
    have hw : wrap64 ((pre.length : Int) + 1) = ((pre ++ [k]).length : Int) := by rw [wrap_in (by omega) (by omega)]; simp
    have hk1 := hk k (by simp)
    have hkv := htv k (by rw [e]; simp)
    have hwk : wrap64 (m - k) = m - k := wrap_in (by omega) (by omega)
    have hg : 0 ≤ rd o (m - k) ∧ rd o (m - k) + ((suf.length + 1 : Nat) : Int) ≤ 1000000 := by
      obtain ⟨j, hj⟩ : ∃ j : Nat, m - k = j := ⟨(m - k).toNat, by omega⟩
      rw [hj, rd_nat o j (by omega)]
      have := ho _ (List.getElem_mem (show j < o.length by omega))
      simpa using this
    have hwv : wrap64 (rd o (m - k) + 1) = rd o (m - k) + 1 := wrap_in (by omega) (by omega)
    rw [impl_measured.L1_eq, if_pos (by omega), if_pos (by omega), if_pos (by omega), hrd, hwk, if_pos hk1.1, if_pos hk1.2, hwv, hw, impl_measured.L1_val x0 m x16 x17 x18 t ht hm htv suf (pre ++ [k]) _ (by rw [e]; simp) (fun y hy => by rw [List.length_set]; exact hk y (by simp [hy])) (fun y hy => by
      rcases List.mem_or_eq_of_mem_set hy with hy | rfl
      · have := ho y hy
        simp only [List.length_cons] at this
        omega
      · omega)]
    rfl
theorem impl_measured.L0_val (l : List Int) (hl : l.length ≤ 1000) (hv : ∀ k ∈ l, 0 ≤ k ∧ k ≤ 1000) (hs : l.Pairwise (· < ·)) (n : Nat) (hn : lastOf l < (n : Int)) : ∀ (suf pre o : List Int) (c : Int), l = pre ++ suf → o.length = n → (∀ x ∈ o, 0 ≤ x ∧ x ≤ c) → 0 ≤ c → c + (gaps pre suf).length ≤ 900000 → impl_measured.L0 l o l (l.length : Int) (pre.length : Int) = some (bump o (gaps pre suf))
  | [], pre, o, c, e, _, _, _, _ => by
    rw [impl_measured.L0_eq, if_neg (by rw [e]; simp)]
    rfl
  | m :: suf, pre, o, c, e, ho, hc, hc0, hcl => by
    have hrd : rd l (pre.length : Int) = m := by rw [e, rd_mid]
    have hlen : pre.length < l.length := by rw [e]; simp
    have hw : wrap64 ((pre.length : Int) + 1) = ((pre ++ [m]).length : Int) := by rw [wrap_in (by omega) (by omega)]; simp
    have htk : l.take ((pre.length : Int)).toNat = pre := by rw [e, Int.toNat_natCast]; simp
    have hmv := hv m (by rw [e]; simp)
    have hml := sorted_le_last hs m (by rw [e]; simp)
    have hp : ∀ k ∈ pre, 0 ≤ m - k ∧ m - k < (o.length : Int) := fun k hk => by
      have h1 := hv k (by rw [e]; simp [hk])
      rw [e] at hs
      have h2 := (List.pairwise_append.1 hs).2.2 k hk m (by simp)
      rw [ho]
      omega
    rw [gaps, List.length_append, List.length_map] at hcl
    have hL := impl_measured.L1_val l m l (l.length : Int) (pre.length : Int) pre (by omega) (by omega) (fun k hk => by have := hv k (by rw [e]; simp [hk]); omega) pre [] o (by simp) hp (fun x hx => by have := hc x hx; omega)
    rw [impl_measured.L0_eq, if_pos (by omega), if_pos (by omega), if_pos (by omega), if_pos (by omega), hrd, htk]
    have hL' : impl_measured.L1 l o m l (l.length : Int) (pre.length : Int) pre (pre.length : Int) 0 = _ := hL
    rw [hL', hw, impl_measured.L0_val l hl hv hs n hn suf (pre ++ [m]) _ (c + pre.length) (by rw [e]; simp) (by rw [bump_length]; exact ho) (fun x hx => by
      have := bump_bound _ o c hc hc0 x hx
      simpa using this) (by omega) (by omega), gaps, bump_append]

theorem impl_measured.F_val (l : List Int) (h : isRuler l = true) : impl_measured.F l = some (measuredOf l) := by
  obtain ⟨h1, h2, hs, h4, h5, hv⟩ := isRuler_parts h
  obtain ⟨m1, m2⟩ := measured_start h
  have ew : wrap64 ((l.length : Int) - 1) = (l.length : Int) - 1 := wrap_in (by omega) (by omega)
  have el : wrap64 (rd l ((l.length : Int) - 1) + 1) = lastOf l + 1 := by unfold lastOf at *; rw [wrap_in (by omega) (by omega)]
  have hL := impl_measured.L0_val l (by omega) (fun k hk => by have := hv k hk; omega) hs (lastOf l + 1).toNat (by omega) l [] (List.replicate (lastOf l + 1).toNat 0) 0 (by simp) (by simp) (by simp) (by omega) (by omega)
  rw [impl_measured.F_eq, ew, if_pos (by omega), if_pos (by omega), el, if_pos (by omega), if_pos (by omega), ← m1]
  exact hL
theorem spec_ruLength.f_val (l : List Int) (h : 1 ≤ l.length ∧ l.length ≤ 1000) : spec_ruLength.f l = some (lastOf l) := by
  have ew : wrap64 ((l.length : Int) - 1) = (l.length : Int) - 1 := wrap_in (by omega) (by omega)
  unfold spec_ruLength.f
  rw [ew, if_pos (by omega), if_pos (by omega)]
  rfl
theorem spec_ruTimes.L1_val (x0 : List Int) (m : Int) (x16 : List Int) (x17 x18 : Int) (t : List Int) (ht : t.length ≤ 1000) (hm : -1000000 ≤ m ∧ m ≤ 1000000) (htv : ∀ k ∈ t, -1000000 ≤ k ∧ k ≤ 1000000) : ∀ (suf pre o : List Int), t = pre ++ suf → (∀ k ∈ suf, 0 ≤ m - k ∧ m - k < (o.length : Int)) → (∀ x ∈ o, 0 ≤ x ∧ x + suf.length ≤ 1000000) → spec_ruTimes.L1 x0 o m x16 x17 x18 t (t.length : Int) (pre.length : Int) = spec_ruTimes.L0 x0 (bump o (suf.map fun k => m - k)) x16 x17 (wrap64 (x18 + 1))
  | [], pre, o, e, _, _ => by
    rw [spec_ruTimes.L1_eq, if_neg (by rw [e]; simp)]
    rfl
  | k :: suf, pre, o, e, hk, ho => by
    have hrd : rd t (pre.length : Int) = k := by rw [e, rd_mid]
    have hlen : pre.length < t.length := by rw [e]; simp
    have hw : wrap64 ((pre.length : Int) + 1) = ((pre ++ [k]).length : Int) := by rw [wrap_in (by omega) (by omega)]; simp
    have hk1 := hk k (by simp)
    have hkv := htv k (by rw [e]; simp)
    have hwk : wrap64 (m - k) = m - k := wrap_in (by omega) (by omega)
    have hg : 0 ≤ rd o (m - k) ∧ rd o (m - k) + ((suf.length + 1 : Nat) : Int) ≤ 1000000 := by
      obtain ⟨j, hj⟩ : ∃ j : Nat, m - k = j := ⟨(m - k).toNat, by omega⟩
      rw [hj, rd_nat o j (by omega)]
      have := ho _ (List.getElem_mem (show j < o.length by omega))
      simpa using this
    have hwv : wrap64 (rd o (m - k) + 1) = rd o (m - k) + 1 := wrap_in (by omega) (by omega)
    rw [spec_ruTimes.L1_eq, if_pos (by omega), if_pos (by omega), if_pos (by omega), hrd, hwk, if_pos hk1.1, if_pos hk1.2, hwv, hw, spec_ruTimes.L1_val x0 m x16 x17 x18 t ht hm htv suf (pre ++ [k]) _ (by rw [e]; simp) (fun y hy => by rw [List.length_set]; exact hk y (by simp [hy])) (fun y hy => by
      rcases List.mem_or_eq_of_mem_set hy with hy | rfl
      · have := ho y hy
        simp only [List.length_cons] at this
        omega
      · omega)]
    rfl
theorem spec_ruTimes.L0_val (l : List Int) (hl : l.length ≤ 1000) (hv : ∀ k ∈ l, 0 ≤ k ∧ k ≤ 1000) (hs : l.Pairwise (· < ·)) (n : Nat) (hn : lastOf l < (n : Int)) : ∀ (suf pre o : List Int) (c : Int), l = pre ++ suf → o.length = n → (∀ x ∈ o, 0 ≤ x ∧ x ≤ c) → 0 ≤ c → c + (gaps pre suf).length ≤ 900000 → spec_ruTimes.L0 l o l (l.length : Int) (pre.length : Int) = some (bump o (gaps pre suf))
  | [], pre, o, c, e, _, _, _, _ => by
    rw [spec_ruTimes.L0_eq, if_neg (by rw [e]; simp)]
    rfl
  | m :: suf, pre, o, c, e, ho, hc, hc0, hcl => by
    have hrd : rd l (pre.length : Int) = m := by rw [e, rd_mid]
    have hlen : pre.length < l.length := by rw [e]; simp
    have hw : wrap64 ((pre.length : Int) + 1) = ((pre ++ [m]).length : Int) := by rw [wrap_in (by omega) (by omega)]; simp
    have htk : l.take ((pre.length : Int)).toNat = pre := by rw [e, Int.toNat_natCast]; simp
    have hmv := hv m (by rw [e]; simp)
    have hml := sorted_le_last hs m (by rw [e]; simp)
    have hp : ∀ k ∈ pre, 0 ≤ m - k ∧ m - k < (o.length : Int) := fun k hk => by
      have h1 := hv k (by rw [e]; simp [hk])
      rw [e] at hs
      have h2 := (List.pairwise_append.1 hs).2.2 k hk m (by simp)
      rw [ho]
      omega
    rw [gaps, List.length_append, List.length_map] at hcl
    have hL := spec_ruTimes.L1_val l m l (l.length : Int) (pre.length : Int) pre (by omega) (by omega) (fun k hk => by have := hv k (by rw [e]; simp [hk]); omega) pre [] o (by simp) hp (fun x hx => by have := hc x hx; omega)
    rw [spec_ruTimes.L0_eq, if_pos (by omega), if_pos (by omega), if_pos (by omega), if_pos (by omega), hrd, htk]
    have hL' : spec_ruTimes.L1 l o m l (l.length : Int) (pre.length : Int) pre (pre.length : Int) 0 = _ := hL
    rw [hL', hw, spec_ruTimes.L0_val l hl hv hs n hn suf (pre ++ [m]) _ (c + pre.length) (by rw [e]; simp) (by rw [bump_length]; exact ho) (fun x hx => by
      have := bump_bound _ o c hc hc0 x hx
      simpa using this) (by omega) (by omega), gaps, bump_append]

theorem spec_ruTimes.F_sorted (l : List Int) (h1 : 1 ≤ l.length ∧ l.length ≤ 1000) (hv : ∀ k ∈ l, 0 ≤ k ∧ k ≤ 1000) (hs : l.Pairwise (· < ·)) (hg : (gaps [] l).length ≤ 900000) : spec_ruTimes.F l = some (bump (List.replicate (lastOf l + 1).toNat 0) (gaps [] l)) := by
  have hlv := hv _ (last_mem h1.1)
  have el : wrap64 (lastOf l + 1) = lastOf l + 1 := wrap_in (by omega) (by omega)
  have hL := spec_ruTimes.L0_val l (by omega) hv hs (lastOf l + 1).toNat (by omega) l [] (List.replicate (lastOf l + 1).toNat 0) 0 (by simp) (by simp) (by simp) (by omega) (by omega)
  rw [spec_ruTimes.F_eq, spec_ruLength.f_val l h1]
  simp only [Option.bind_some]
  rw [el, if_pos (by omega), if_pos (by omega)]
  exact hL
theorem spec_ruTimes.F_val (l : List Int) (h : isRuler l = true) : spec_ruTimes.F l = some (measuredOf l) := by
  obtain ⟨h1, h2, hs, h4, h5, hv⟩ := isRuler_parts h
  obtain ⟨m1, m2⟩ := measured_start h
  rw [spec_ruTimes.F_sorted l (by omega) (fun k hk => by have := hv k hk; omega) hs (by omega), m1]
/-- The places of a list at which something is so, the first one counted as i. -/
def spots (p : Int → Int → Bool) : Nat → List Int → List Int
  | _, [] => []
  | i, x :: t => if p (i : Int) x = true then (i : Int) :: spots p (i + 1) t else spots p (i + 1) t
theorem spots_length (p : Int → Int → Bool) : ∀ (t : List Int) (i : Nat), (spots p i t).length ≤ t.length
  | [], _ => by simp [spots]
  | x :: t, i => by
    have := spots_length p t (i + 1)
    unfold spots
    split
    · simp; omega
    · simp; omega
theorem spots_map (p : Int → Int → Bool) (f : Nat → Int) : ∀ (n i : Nat), spots p i ((List.range' i n).map f) = (((List.range' i n).map fun k : Nat => (k : Int)).filter fun d => p d (f d.toNat))
  | 0, i => by simp [spots]
  | n + 1, i => by
    have ih := spots_map p f n (i + 1)
    rw [List.range'_succ, List.map_cons, List.map_cons, spots, ih]
    by_cases h : p (i : Int) (f i) = true
    · rw [if_pos h, List.filter_cons_of_pos (by simpa using h)]
    · rw [if_neg h, List.filter_cons_of_neg (by simpa using h)]
/-- The numbers from 0 up to one. -/
def upTo (n : Int) : List Int := (List.range (n + 1).toNat).map fun k : Nat => (k : Int)
theorem mem_upTo {n x : Int} : x ∈ upTo n ↔ 0 ≤ x ∧ x ≤ n := by
  unfold upTo
  rw [List.mem_map]
  constructor
  · rintro ⟨k, hk, rfl⟩
    have := List.mem_range.1 hk
    omega
  · intro h
    exact ⟨x.toNat, List.mem_range.2 (by omega), by omega⟩
theorem upTo_sorted (n : Int) : (upTo n).Pairwise (· < ·) := by
  unfold upTo
  rw [List.pairwise_map]
  exact List.pairwise_lt_range.imp (fun h => by omega)
/-- The distances that are measured, and those that are not. -/
def distancesOf (l : List Int) : List Int := (upTo (lastOf l)).filter fun d => decide (0 < times d (gaps [] l))
def missingOf (l : List Int) : List Int := (upTo (lastOf l)).filter fun d => decide (0 < d) && decide (times d (gaps [] l) = 0)
theorem spots_measured (p : Int → Int → Bool) (l : List Int) : spots p 0 (measuredOf l) = (upTo (lastOf l)).filter fun d => p d ((times d (gaps [] l) : Nat) : Int) := by
  unfold measuredOf upTo
  rw [List.range_eq_range', spots_map p (fun i : Nat => ((times (i : Int) (gaps [] l) : Nat) : Int))]
  refine List.filter_congr fun d hd => ?_
  obtain ⟨k, hk, rfl⟩ := List.mem_map.1 hd
  simp
theorem measured_length (l : List Int) : (measuredOf l).length = (lastOf l + 1).toNat := by simp [measuredOf]
theorem rd_measured {l : List Int} {d : Int} (h0 : 0 ≤ d) (h : d ≤ lastOf l) : rd (measuredOf l) d = ((times d (gaps [] l) : Nat) : Int) := by
  obtain ⟨j, rfl⟩ : ∃ j : Nat, d = j := ⟨d.toNat, by omega⟩
  rw [rd_nat _ j (by rw [measured_length]; omega)]
  simp [measuredOf]
def isDiff (l : List Int) : Bool := decide ((gaps [] l).Nodup)
def isWholeR (l : List Int) : Bool := decide (missingOf l = [])
theorem diff_iff {l : List Int} (h : isRuler l = true) : (gaps [] l).Nodup ↔ ∀ x ∈ measuredOf l, x ≤ 1 := by
  have hr := gaps_range h
  rw [← times_le_one]
  unfold measuredOf
  constructor
  · intro hd x hx
    obtain ⟨k, hk, rfl⟩ := List.mem_map.1 hx
    have := hd k
    omega
  · intro hx d
    rcases Nat.eq_zero_or_pos (times d (gaps [] l)) with e | e
    · omega
    · have h1 := hr d (times_pos.1 e)
      have h2 := hx _ (List.mem_map.2 ⟨d.toNat, List.mem_range.2 (by omega), rfl⟩)
      rw [show ((d.toNat : Nat) : Int) = d by omega] at h2
      omega
theorem impl_DistancesOf.L0_val (t : List Int) (ht : t.length ≤ 1000) : ∀ (suf pre acc : List Int), t = pre ++ suf → acc.length + suf.length ≤ 100000 → impl_DistancesOf.L0 acc t (t.length : Int) (pre.length : Int) = some (acc ++ spots (fun _ x => decide (x > 0)) pre.length suf, true)
  | [], pre, acc, e, _ => by
    rw [impl_DistancesOf.L0_eq, if_neg (by rw [e]; simp)]
    simp [spots]
  | x :: suf, pre, acc, e, ha => by
    have ha' : acc.length + (suf.length + 1) ≤ 100000 := by simpa using ha
    have hrd : rd t (pre.length : Int) = x := by rw [e, rd_mid]
    have hlen : pre.length < t.length := by rw [e]; simp
    have hpl : (pre ++ [x]).length = pre.length + 1 := by simp
    have hw : wrap64 ((pre.length : Int) + 1) = ((pre ++ [x]).length : Int) := by rw [wrap_in (by omega) (by omega)]; simp
    rw [impl_DistancesOf.L0_eq, if_pos (by omega), if_pos (by omega), if_pos (by omega), hrd, hw, spots]
    by_cases hx : x > 0
    · rw [if_pos hx, if_pos (by omega), if_pos (decide_eq_true hx), impl_DistancesOf.L0_val t ht suf (pre ++ [x]) _ (by rw [e]; simp) (by simp; omega), hpl]
      simp
    · rw [if_neg hx, if_neg (by rw [decide_eq_false hx]; decide), impl_DistancesOf.L0_val t ht suf (pre ++ [x]) _ (by rw [e]; simp) (by omega), hpl]
theorem impl_DistancesOf.F_val (l : List Int) (h : l.length < 4611686018427387904) : impl_DistancesOf.F l = some (if isRuler l = true then (distancesOf l, true) else ([], false)) := by
  rw [impl_DistancesOf.F_eq, impl_IsRuler.F_val l h]
  simp only [Option.bind_some]
  by_cases hr : isRuler l = true
  · rw [if_pos hr, if_pos hr, impl_measured.F_val l hr]
    simp only [Option.bind_some]
    obtain ⟨h1, h2, hs, h4, h5, hv⟩ := isRuler_parts hr
    have hL := impl_DistancesOf.L0_val (measuredOf l) (by rw [measured_length]; omega) (measuredOf l) [] [] (by simp) (by rw [measured_length]; simp; omega)
    rw [List.length_nil, spots_measured, List.nil_append] at hL
    rw [show ((fun d => decide (((times d (gaps [] l) : Nat) : Int) > 0)) : Int → Bool) = fun d => decide (0 < times d (gaps [] l)) from funext fun d => by rw [decide_eq_decide]; omega] at hL
    exact hL
  · rw [if_neg hr, if_neg hr]
theorem spec_DistancesOf.L0_val (t : List Int) (ht : t.length ≤ 1000) : ∀ (suf pre acc : List Int), t = pre ++ suf → acc.length + suf.length ≤ 100000 → spec_DistancesOf.L0 acc t (t.length : Int) (pre.length : Int) = some (acc ++ spots (fun _ x => decide (x > 0)) pre.length suf, true)
  | [], pre, acc, e, _ => by
    rw [spec_DistancesOf.L0_eq, if_neg (by rw [e]; simp)]
    simp [spots]
  | x :: suf, pre, acc, e, ha => by
    have ha' : acc.length + (suf.length + 1) ≤ 100000 := by simpa using ha
    have hrd : rd t (pre.length : Int) = x := by rw [e, rd_mid]
    have hlen : pre.length < t.length := by rw [e]; simp
    have hpl : (pre ++ [x]).length = pre.length + 1 := by simp
    have hw : wrap64 ((pre.length : Int) + 1) = ((pre ++ [x]).length : Int) := by rw [wrap_in (by omega) (by omega)]; simp
    rw [spec_DistancesOf.L0_eq, if_pos (by omega), if_pos (by omega), if_pos (by omega), hrd, hw, spots]
    by_cases hx : x > 0
    · rw [if_pos hx, if_pos (by omega), if_pos (decide_eq_true hx), spec_DistancesOf.L0_val t ht suf (pre ++ [x]) _ (by rw [e]; simp) (by simp; omega), hpl]
      simp
    · rw [if_neg hx, if_neg (by rw [decide_eq_false hx]; decide), spec_DistancesOf.L0_val t ht suf (pre ++ [x]) _ (by rw [e]; simp) (by omega), hpl]
theorem spec_DistancesOf.F_val (l : List Int) (h : l.length < 4611686018427387904) : spec_DistancesOf.F l = some (if isRuler l = true then (distancesOf l, true) else ([], false)) := by
  rw [spec_DistancesOf.F_eq, spec_ruGood.F_val l h]
  simp only [Option.bind_some]
  by_cases hr : isRuler l = true
  · rw [if_pos hr, if_pos hr, spec_ruTimes.F_val l hr]
    simp only [Option.bind_some]
    obtain ⟨h1, h2, hs, h4, h5, hv⟩ := isRuler_parts hr
    have hL := spec_DistancesOf.L0_val (measuredOf l) (by rw [measured_length]; omega) (measuredOf l) [] [] (by simp) (by rw [measured_length]; simp; omega)
    rw [List.length_nil, spots_measured, List.nil_append] at hL
    rw [show ((fun d => decide (((times d (gaps [] l) : Nat) : Int) > 0)) : Int → Bool) = fun d => decide (0 < times d (gaps [] l)) from funext fun d => by rw [decide_eq_decide]; omega] at hL
    exact hL
  · rw [if_neg hr, if_neg hr]
theorem impl_MissingDistances.L0_val (t : List Int) (ht : t.length ≤ 1000) : ∀ (suf pre acc : List Int), t = pre ++ suf → acc.length + suf.length ≤ 100000 → impl_MissingDistances.L0 acc t (t.length : Int) (pre.length : Int) = some (acc ++ spots (fun d x => decide (d > 0) && decide (x = 0)) pre.length suf, true)
  | [], pre, acc, e, _ => by
    rw [impl_MissingDistances.L0_eq, if_neg (by rw [e]; simp)]
    simp [spots]
  | x :: suf, pre, acc, e, ha => by
    have ha' : acc.length + (suf.length + 1) ≤ 100000 := by simpa using ha
    have hrd : rd t (pre.length : Int) = x := by rw [e, rd_mid]
    have hlen : pre.length < t.length := by rw [e]; simp
    have hpl : (pre ++ [x]).length = pre.length + 1 := by simp
    have hw : wrap64 ((pre.length : Int) + 1) = ((pre ++ [x]).length : Int) := by rw [wrap_in (by omega) (by omega)]; simp
    rw [impl_MissingDistances.L0_eq, if_pos (by omega), if_pos (by omega), if_pos (by omega), hrd, hw, spots]
    by_cases hd : (pre.length : Int) > 0
    · rw [if_pos hd]
      by_cases hx : x = 0
      · rw [if_pos hx, if_pos (by omega), if_pos (by rw [decide_eq_true hd, decide_eq_true hx]; rfl), impl_MissingDistances.L0_val t ht suf (pre ++ [x]) _ (by rw [e]; simp) (by simp; omega), hpl]
        simp
      · rw [if_neg hx, if_neg (by rw [decide_eq_false hx]; simp), impl_MissingDistances.L0_val t ht suf (pre ++ [x]) _ (by rw [e]; simp) (by omega), hpl]
    · rw [if_neg hd, if_neg (by rw [decide_eq_false hd]; simp), impl_MissingDistances.L0_val t ht suf (pre ++ [x]) _ (by rw [e]; simp) (by omega), hpl]
theorem impl_MissingDistances.F_val (l : List Int) (h : l.length < 4611686018427387904) : impl_MissingDistances.F l = some (if isRuler l = true then (missingOf l, true) else ([], false)) := by
  rw [impl_MissingDistances.F_eq, impl_IsRuler.F_val l h]
  simp only [Option.bind_some]
  by_cases hr : isRuler l = true
  · rw [if_pos hr, if_pos hr, impl_measured.F_val l hr]
    simp only [Option.bind_some]
    obtain ⟨h1, h2, hs, h4, h5, hv⟩ := isRuler_parts hr
    have hL := impl_MissingDistances.L0_val (measuredOf l) (by rw [measured_length]; omega) (measuredOf l) [] [] (by simp) (by rw [measured_length]; simp; omega)
    rw [List.length_nil, spots_measured, List.nil_append] at hL
    rw [show ((fun d => decide (d > 0) && decide (((times d (gaps [] l) : Nat) : Int) = 0)) : Int → Bool) = fun d => decide (0 < d) && decide (times d (gaps [] l) = 0) from funext fun d => by congr 1; rw [decide_eq_decide]; omega] at hL
    exact hL
  · rw [if_neg hr, if_neg hr]
theorem spec_MissingDistances.L0_val (t : List Int) (ht : t.length ≤ 1000) : ∀ (suf pre acc : List Int), t = pre ++ suf → acc.length + suf.length ≤ 100000 → spec_MissingDistances.L0 acc t (t.length : Int) (pre.length : Int) = some (acc ++ spots (fun d x => decide (d > 0) && decide (x = 0)) pre.length suf, true)
  | [], pre, acc, e, _ => by
    rw [spec_MissingDistances.L0_eq, if_neg (by rw [e]; simp)]
    simp [spots]
  | x :: suf, pre, acc, e, ha => by
    have ha' : acc.length + (suf.length + 1) ≤ 100000 := by simpa using ha
    have hrd : rd t (pre.length : Int) = x := by rw [e, rd_mid]
    have hlen : pre.length < t.length := by rw [e]; simp
    have hpl : (pre ++ [x]).length = pre.length + 1 := by simp
    have hw : wrap64 ((pre.length : Int) + 1) = ((pre ++ [x]).length : Int) := by rw [wrap_in (by omega) (by omega)]; simp
    rw [spec_MissingDistances.L0_eq, if_pos (by omega), if_pos (by omega), if_pos (by omega), hrd, hw, spots]
    by_cases hd : (pre.length : Int) > 0
    · rw [if_pos hd]
      by_cases hx : x = 0
      · rw [if_pos hx, if_pos (by omega), if_pos (by rw [decide_eq_true hd, decide_eq_true hx]; rfl), spec_MissingDistances.L0_val t ht suf (pre ++ [x]) _ (by rw [e]; simp) (by simp; omega), hpl]
        simp
      · rw [if_neg hx, if_neg (by rw [decide_eq_false hx]; simp), spec_MissingDistances.L0_val t ht suf (pre ++ [x]) _ (by rw [e]; simp) (by omega), hpl]
    · rw [if_neg hd, if_neg (by rw [decide_eq_false hd]; simp), spec_MissingDistances.L0_val t ht suf (pre ++ [x]) _ (by rw [e]; simp) (by omega), hpl]
theorem spec_MissingDistances.F_val (l : List Int) (h : l.length < 4611686018427387904) : spec_MissingDistances.F l = some (if isRuler l = true then (missingOf l, true) else ([], false)) := by
  rw [spec_MissingDistances.F_eq, spec_ruGood.F_val l h]
  simp only [Option.bind_some]
  by_cases hr : isRuler l = true
  · rw [if_pos hr, if_pos hr, spec_ruTimes.F_val l hr]
    simp only [Option.bind_some]
    obtain ⟨h1, h2, hs, h4, h5, hv⟩ := isRuler_parts hr
    have hL := spec_MissingDistances.L0_val (measuredOf l) (by rw [measured_length]; omega) (measuredOf l) [] [] (by simp) (by rw [measured_length]; simp; omega)
    rw [List.length_nil, spots_measured, List.nil_append] at hL
    rw [show ((fun d => decide (d > 0) && decide (((times d (gaps [] l) : Nat) : Int) = 0)) : Int → Bool) = fun d => decide (0 < d) && decide (times d (gaps [] l) = 0) from funext fun d => by congr 1; rw [decide_eq_decide]; omega] at hL
    exact hL
  · rw [if_neg hr, if_neg hr]
theorem impl_LengthOfRuler.F_val (l : List Int) (h : l.length < 4611686018427387904) : impl_LengthOfRuler.F l = some (if isRuler l = true then (lastOf l, true) else (0, false)) := by
  rw [impl_LengthOfRuler.F_eq, impl_IsRuler.F_val l h]
  simp only [Option.bind_some]
  by_cases hr : isRuler l = true
  · have hp := isRuler_parts hr
    have ew : wrap64 ((l.length : Int) - 1) = (l.length : Int) - 1 := wrap_in (by omega) (by omega)
    rw [if_pos hr, if_pos hr, ew, if_pos (by omega), if_pos (by omega)]
    rfl
  · rw [if_neg hr, if_neg hr]
theorem spec_LengthOfRuler.F_val (l : List Int) (h : l.length < 4611686018427387904) : spec_LengthOfRuler.F l = some (if isRuler l = true then (lastOf l, true) else (0, false)) := by
  rw [spec_LengthOfRuler.F_eq, spec_ruGood.F_val l h]
  simp only [Option.bind_some]
  by_cases hr : isRuler l = true
  · have hp := isRuler_parts hr
    rw [if_pos hr, if_pos hr, spec_ruLength.f_val l (by omega)]
    rfl
  · rw [if_neg hr, if_neg hr]
theorem slices_Max_int_int.L0_val (c : Int) (l : List Int) (h : l.length < 4611686018427387904) : ∀ (suf pre : List Int) (a : Int), l = pre ++ suf → ∃ r, slices_Max_int_int.L0 l a (pre.length : Int) = some r ∧ (r ≤ c ↔ a ≤ c ∧ ∀ x ∈ suf, x ≤ c)
  | [], pre, a, e => by
    rw [slices_Max_int_int.L0_eq, if_neg (by rw [e]; simp)]
    exact ⟨a, rfl, by simp⟩
  | x :: suf, pre, a, e => by
    have hrd : rd l (pre.length : Int) = x := by rw [e, rd_mid]
    have hlen : pre.length < l.length := by rw [e]; simp
    have hw : wrap64 ((pre.length : Int) + 1) = ((pre ++ [x]).length : Int) := by rw [wrap_in (by omega) (by omega)]; simp
    obtain ⟨r, hr, hiff⟩ := slices_Max_int_int.L0_val c l h suf (pre ++ [x]) (mx a x) (by rw [e]; simp)
    rw [slices_Max_int_int.L0_eq, if_pos (by omega), if_pos (by omega), hrd, hw]
    refine ⟨r, hr, hiff.trans ?_⟩
    have : mx a x ≤ c ↔ a ≤ c ∧ x ≤ c := by
      unfold mx
      split <;> omega
    rw [this]
    simp [and_assoc]
theorem slices_Max_int_int.F_le (l : List Int) (h : l.length < 4611686018427387904) (h0 : 0 < l.length) (c : Int) : ∃ r, slices_Max_int_int.F l = some r ∧ (r ≤ c ↔ ∀ x ∈ l, x ≤ c) := by
  cases l with
  | nil => simp at h0
  | cons y l =>
    obtain ⟨r, hr, hiff⟩ := slices_Max_int_int.L0_val c (y :: l) h l [y] y (by simp)
    have hy : rd (y :: l) 0 = y := rfl
    rw [slices_Max_int_int.F_eq, if_neg (by rw [List.length_cons]; omega), if_pos (by rw [List.length_cons]; omega), hy]
    exact ⟨r, hr, hiff.trans (by simp)⟩
theorem impl_different.F_val (l : List Int) (h : isRuler l = true) : impl_different.F l = some (isDiff l) := by
  have hp := isRuler_parts h
  obtain ⟨r, hr, hiff⟩ := slices_Max_int_int.F_le (measuredOf l) (by rw [measured_length]; omega) (by rw [measured_length]; omega) 1
  rw [impl_different.F_eq, impl_measured.F_val l h]
  simp only [Option.bind_some, hr]
  congr 1
  unfold isDiff
  rw [decide_eq_decide, hiff, diff_iff h]
theorem spec_ruDifferent.L0_val (t : List Int) (ht : t.length ≤ 100000) : ∀ (suf pre : List Int), t = pre ++ suf → spec_ruDifferent.L0 t (t.length : Int) (pre.length : Int) = some (decide (∀ x ∈ suf, x ≤ 1))
  | [], pre, e => by
    rw [spec_ruDifferent.L0_eq, if_neg (by rw [e]; simp)]
    simp
  | x :: suf, pre, e => by
    have hrd : rd t (pre.length : Int) = x := by rw [e, rd_mid]
    have hlen : pre.length < t.length := by rw [e]; simp
    have hw : wrap64 ((pre.length : Int) + 1) = ((pre ++ [x]).length : Int) := by rw [wrap_in (by omega) (by omega)]; simp
    rw [spec_ruDifferent.L0_eq, if_pos (by omega), if_pos (by omega), if_pos (by omega), hrd, hw]
    by_cases hx : x > 1
    · rw [if_pos hx]
      have : ¬ ∀ y ∈ x :: suf, y ≤ 1 := fun h => by have := h x (by simp); omega
      rw [decide_eq_false this]
    · rw [if_neg hx, spec_ruDifferent.L0_val t ht suf (pre ++ [x]) (by rw [e]; simp)]
      congr 1
      rw [decide_eq_decide]
      simp
      omega
theorem spec_ruDifferent.F_val (l : List Int) (h : isRuler l = true) : spec_ruDifferent.F l = some (isDiff l) := by
  have hp := isRuler_parts h
  rw [spec_ruDifferent.F_eq, spec_ruTimes.F_val l h]
  simp only [Option.bind_some]
  have := spec_ruDifferent.L0_val (measuredOf l) (by rw [measured_length]; omega) (measuredOf l) [] (by simp)
  unfold isDiff
  rw [show decide ((gaps [] l).Nodup) = decide (∀ x ∈ measuredOf l, x ≤ 1) from by rw [decide_eq_decide]; exact diff_iff h]
  exact this
theorem whole_iff {l : List Int} (h : isRuler l = true) : missingOf l = [] ↔ ¬ (0 : Int) ∈ (measuredOf l).drop 1 := by
  have hp := isRuler_parts h
  have e : (measuredOf l).drop 1 = (List.range' 1 (lastOf l).toNat).map (fun i : Nat => ((times (i : Int) (gaps [] l) : Nat) : Int)) := by
    unfold measuredOf
    rw [show (lastOf l + 1).toNat = (lastOf l).toNat + 1 by omega, List.range_eq_range', List.range'_succ]
    simp
  rw [e, List.mem_map]
  unfold missingOf
  rw [List.filter_eq_nil_iff]
  constructor
  · rintro h1 ⟨i, hi, hz⟩
    have hi := List.mem_range'_1.1 hi
    exact h1 i (mem_upTo.2 (by omega)) (by rw [decide_eq_true (by omega), decide_eq_true (by omega)]; rfl)
  · intro h1 d hd hb
    rw [Bool.and_eq_true, decide_eq_true_eq, decide_eq_true_eq] at hb
    have := mem_upTo.1 hd
    exact h1 ⟨d.toNat, List.mem_range'_1.2 (by omega), by rw [show ((d.toNat : Nat) : Int) = d by omega, hb.2]; rfl⟩
theorem impl_whole.F_val (l : List Int) (h : isRuler l = true) : impl_whole.F l = some (isWholeR l) := by
  have hp := isRuler_parts h
  have hl := measured_length l
  rw [impl_whole.F_eq, impl_measured.F_val l h]
  simp only [Option.bind_some]
  rw [if_pos (by omega), slices_Contains_int_int.F_val _ _ (by rw [List.length_drop]; omega)]
  simp only [Option.bind_some]
  congr 1
  unfold isWholeR
  rw [← decide_not, decide_eq_decide]
  exact (whole_iff h).symm
theorem spec_ruWhole.L0_val (t : List Int) (ht : t.length ≤ 100000) : ∀ (suf pre : List Int), t = pre ++ suf → 0 < pre.length → spec_ruWhole.L0 t (t.length : Int) (pre.length : Int) = some (!decide ((0 : Int) ∈ suf))
  | [], pre, e, _ => by
    rw [spec_ruWhole.L0_eq, if_neg (by rw [e]; simp)]
    simp
  | x :: suf, pre, e, hp => by
    have hrd : rd t (pre.length : Int) = x := by rw [e, rd_mid]
    have hlen : pre.length < t.length := by rw [e]; simp
    have hw : wrap64 ((pre.length : Int) + 1) = ((pre ++ [x]).length : Int) := by rw [wrap_in (by omega) (by omega)]; simp
    rw [spec_ruWhole.L0_eq, if_pos (by omega), if_pos (by omega), if_pos (by omega), if_pos (by omega), hrd, hw]
    by_cases hx : x = 0
    · rw [if_pos hx]
      simp [hx]
    · rw [if_neg hx, spec_ruWhole.L0_val t ht suf (pre ++ [x]) (by rw [e]; simp) (by simp)]
      have : ¬ (0 : Int) = x := fun e => hx e.symm
      simp [this]
theorem spec_ruWhole.F_val (l : List Int) (h : isRuler l = true) : spec_ruWhole.F l = some (isWholeR l) := by
  have hp := isRuler_parts h
  have hl := measured_length l
  rw [spec_ruWhole.F_eq, spec_ruTimes.F_val l h]
  simp only [Option.bind_some]
  have hw := whole_iff h
  cases hm : measuredOf l with
  | nil => rw [hm] at hl; simp at hl; omega
  | cons x t =>
    have hL := spec_ruWhole.L0_val (x :: t) (by rw [← hm]; omega) t [x] (by simp) (by simp)
    rw [hm] at hw hl
    rw [spec_ruWhole.L0_eq, if_pos (by simp), if_pos (by omega), if_pos (by simp), if_neg (by omega)]
    have e : wrap64 ((0 : Int) + 1) = (([x] : List Int).length : Int) := by rw [wrap_in (by omega) (by omega)]; rfl
    rw [e, hL]
    unfold isWholeR
    rw [← decide_not]
    congr 1
    rw [decide_eq_decide]
    exact hw.symm
theorem impl_IsDifferent.F_val (l : List Int) (h : l.length < 4611686018427387904) : impl_IsDifferent.F l = some (if isRuler l = true then (isDiff l, true) else (false, false)) := by
  rw [impl_IsDifferent.F_eq, impl_IsRuler.F_val l h]
  simp only [Option.bind_some]
  by_cases hr : isRuler l = true
  · rw [if_pos hr, if_pos hr, impl_different.F_val l hr]
    rfl
  · rw [if_neg hr, if_neg hr]
theorem spec_IsDifferent.F_val (l : List Int) (h : l.length < 4611686018427387904) : spec_IsDifferent.F l = some (if isRuler l = true then (isDiff l, true) else (false, false)) := by
  rw [spec_IsDifferent.F_eq, spec_ruGood.F_val l h]
  simp only [Option.bind_some]
  by_cases hr : isRuler l = true
  · rw [if_pos hr, if_pos hr, spec_ruDifferent.F_val l hr]
    rfl
  · rw [if_neg hr, if_neg hr]
theorem impl_IsWhole.F_val (l : List Int) (h : l.length < 4611686018427387904) : impl_IsWhole.F l = some (if isRuler l = true then (isWholeR l, true) else (false, false)) := by
  rw [impl_IsWhole.F_eq, impl_IsRuler.F_val l h]
  simp only [Option.bind_some]
  by_cases hr : isRuler l = true
  · rw [if_pos hr, if_pos hr, impl_whole.F_val l hr]
    rfl
  · rw [if_neg hr, if_neg hr]
theorem spec_IsWhole.F_val (l : List Int) (h : l.length < 4611686018427387904) : spec_IsWhole.F l = some (if isRuler l = true then (isWholeR l, true) else (false, false)) := by
  rw [spec_IsWhole.F_eq, spec_ruGood.F_val l h]
  simp only [Option.bind_some]
  by_cases hr : isRuler l = true
  · rw [if_pos hr, if_pos hr, spec_ruWhole.F_val l hr]
    rfl
  · rw [if_neg hr, if_neg hr]
/-- The ruler from its other end. -/
def backOf (l : List Int) : List Int := l.reverse.map fun x => lastOf l - x
theorem impl_BackRuler.L0_val (l : List Int) (h1 : 1 ≤ l.length ∧ l.length ≤ 1000) (hv : ∀ x ∈ l, 0 ≤ x ∧ x ≤ lastOf l) (hl : lastOf l ≤ 1000) : ∀ (i : Nat) (acc : List Int), i ≤ l.length → acc.length + i ≤ 10000 → impl_BackRuler.L0 l acc ((i : Int) - 1) = some (acc ++ (l.take i).reverse.map (fun x => lastOf l - x), true)
  | 0, acc, _, _ => by
    rw [impl_BackRuler.L0_eq, if_neg (by omega)]
    simp
  | i + 1, acc, hi, ha => by
    have ew : wrap64 ((l.length : Int) - 1) = (l.length : Int) - 1 := wrap_in (by omega) (by omega)
    have hx := hv _ (List.getElem_mem (show i < l.length by omega))
    have er : rd l (((i + 1 : Nat) : Int) - 1) = l[i] := by rw [show ((i + 1 : Nat) : Int) - 1 = (i : Int) by omega, rd_nat l i (by omega)]
    have hwv : wrap64 (lastOf l - rd l (((i + 1 : Nat) : Int) - 1)) = lastOf l - l[i] := by rw [er, wrap_in (by omega) (by omega)]
    have hw : wrap64 (((i + 1 : Nat) : Int) - 1 - 1) = (i : Int) - 1 := by rw [wrap_in (by omega) (by omega)]; omega
    have ih := impl_BackRuler.L0_val l h1 hv hl i (acc ++ [lastOf l - l[i]]) (by omega) (by simp; omega)
    unfold lastOf at hwv ih ⊢
    rw [impl_BackRuler.L0_eq, if_pos (by omega), ew, if_pos (by omega), if_pos (by omega), if_pos (by omega), if_pos (by omega), if_pos (by omega), hwv, hw, ih]
    rw [List.take_succ_eq_append_getElem (by omega)]
    simp only [List.reverse_append, List.reverse_singleton, List.map_append, List.map_cons, List.map_nil, List.append_assoc]
theorem impl_BackRuler.F_val (l : List Int) (h : l.length < 4611686018427387904) : impl_BackRuler.F l = some (if isRuler l = true then (backOf l, true) else ([], false)) := by
  rw [impl_BackRuler.F_eq, impl_IsRuler.F_val l h]
  simp only [Option.bind_some]
  by_cases hr : isRuler l = true
  · obtain ⟨h1, h2, hs, h4, h5, hv⟩ := isRuler_parts hr
    have ew : wrap64 ((l.length : Int) - 1) = (l.length : Int) - 1 := wrap_in (by omega) (by omega)
    have hL := impl_BackRuler.L0_val l (by omega) hv (by omega) l.length [] (by omega) (by simp; omega)
    rw [if_pos hr, if_pos hr, ew, hL, List.take_length]
    rfl
  · rw [if_neg hr, if_neg hr]
theorem spec_BackRuler.L0_val (l : List Int) (h1 : 1 ≤ l.length ∧ l.length ≤ 1000) (hv : ∀ x ∈ l, 0 ≤ x ∧ x ≤ lastOf l) (hl : lastOf l ≤ 1000) : ∀ (i : Nat) (acc : List Int), i ≤ l.length → acc.length + i ≤ 10000 → spec_BackRuler.L0 l acc ((i : Int) - 1) = some (acc ++ (l.take i).reverse.map (fun x => lastOf l - x), true)
  | 0, acc, _, _ => by
    rw [spec_BackRuler.L0_eq, if_neg (by omega)]
    simp
  | i + 1, acc, hi, ha => by
    have hx := hv _ (List.getElem_mem (show i < l.length by omega))
    have er : rd l (((i + 1 : Nat) : Int) - 1) = l[i] := by rw [show ((i + 1 : Nat) : Int) - 1 = (i : Int) by omega, rd_nat l i (by omega)]
    have hwv : wrap64 (lastOf l - rd l (((i + 1 : Nat) : Int) - 1)) = lastOf l - l[i] := by rw [er, wrap_in (by omega) (by omega)]
    have hw : wrap64 (((i + 1 : Nat) : Int) - 1 - 1) = (i : Int) - 1 := by rw [wrap_in (by omega) (by omega)]; omega
    have ih := spec_BackRuler.L0_val l h1 hv hl i (acc ++ [lastOf l - l[i]]) (by omega) (by simp; omega)
    rw [spec_BackRuler.L0_eq, if_pos (by omega), spec_ruLength.f_val l (by omega)]
    simp only [Option.bind_some]
    rw [if_pos (by omega), if_pos (by omega), if_pos (by omega), hwv, hw, ih]
    rw [List.take_succ_eq_append_getElem (by omega)]
    simp only [List.reverse_append, List.reverse_singleton, List.map_append, List.map_cons, List.map_nil, List.append_assoc]
theorem spec_BackRuler.F_val (l : List Int) (h : l.length < 4611686018427387904) : spec_BackRuler.F l = some (if isRuler l = true then (backOf l, true) else ([], false)) := by
  rw [spec_BackRuler.F_eq, spec_ruGood.F_val l h]
  simp only [Option.bind_some]
  by_cases hr : isRuler l = true
  · obtain ⟨h1, h2, hs, h4, h5, hv⟩ := isRuler_parts hr
    have ew : wrap64 ((l.length : Int) - 1) = (l.length : Int) - 1 := wrap_in (by omega) (by omega)
    have hL := spec_BackRuler.L0_val l (by omega) hv (by omega) l.length [] (by omega) (by simp; omega)
    rw [if_pos hr, if_pos hr, ew, hL, List.take_length]
    rfl
  · rw [if_neg hr, if_neg hr]
/-- How often a distance is measured. -/
def timesOf (l : List Int) (d : Int) : Int × Bool := if isRuler l = true ∧ 1 ≤ d ∧ d ≤ 60 then (((times d (gaps [] l) : Nat) : Int), true) else (0, false)
theorem times_far {l : List Int} (h : isRuler l = true) {d : Int} (hd : lastOf l < d) : times d (gaps [] l) = 0 := by
  have : ¬ 0 < times d (gaps [] l) := fun hp => by
    have := gaps_range h d (times_pos.1 hp)
    omega
  omega
/-- The first mark with another one so far behind. -/
def measureIn (l : List Int) (d : Int) : List Int → Int × Int × Bool
  | [] => (0, 0, false)
  | x :: t => if x + d ∈ l then (x, x + d, true) else measureIn l d t
def measureWith (l : List Int) (d : Int) : Int × Int × Bool := if isRuler l = true ∧ 1 ≤ d ∧ d ≤ 60 then measureIn l d l else (0, 0, false)
theorem measureIn_some {l : List Int} {d : Int} : ∀ t : List Int, (measureIn l d t).2.2 = true → (measureIn l d t).1 ∈ t ∧ (measureIn l d t).2.1 ∈ l ∧ (measureIn l d t).2.1 = (measureIn l d t).1 + d
  | [], h => by simp [measureIn] at h
  | x :: t, h => by
    unfold measureIn at h ⊢
    split
    · rename_i hx
      exact ⟨by simp, hx, rfl⟩
    · rename_i hx
      rw [if_neg hx] at h
      have := measureIn_some t h
      exact ⟨by simp [this.1], this.2⟩
theorem measureIn_iff {l : List Int} {d : Int} : ∀ t : List Int, (measureIn l d t).2.2 = true ↔ ∃ x ∈ t, x + d ∈ l
  | [] => by simp [measureIn]
  | x :: t => by
    have ih := measureIn_iff (l := l) (d := d) t
    unfold measureIn
    by_cases hx : x + d ∈ l
    · rw [if_pos hx]
      simp [hx]
    · rw [if_neg hx, ih]
      simp [hx]
theorem impl_isDistance.f_val (d : Int) : impl_isDistance.f d = some (decide (1 ≤ d ∧ d ≤ 60)) := by
  unfold impl_isDistance.f
  by_cases h : d ≥ 1
  · rw [if_pos h]
    congr 1
    rw [decide_eq_decide]
    omega
  · rw [if_neg h, decide_eq_false (by omega)]
theorem spec_ruDistance.f_val (d : Int) : spec_ruDistance.f d = some (decide (1 ≤ d ∧ d ≤ 60)) := by
  unfold spec_ruDistance.f
  rw [spec_l1In.f_val]
  simp only [Option.bind_some]
  congr 1
  rw [← Bool.decide_and]
theorem impl_TimesMeasured.F_val (l : List Int) (d : Int) (h : l.length < 4611686018427387904) : impl_TimesMeasured.F l d = some (timesOf l d) := by
  rw [impl_TimesMeasured.F_eq, impl_IsRuler.F_val l h, impl_isDistance.f_val]
  simp only [Option.bind_some, impl_TimesMeasured.J0_eq, if_true]
  unfold timesOf
  by_cases hr : isRuler l = true
  · rw [if_pos hr]
    by_cases hd : 1 ≤ d ∧ d ≤ 60
    · have hp := isRuler_parts hr
      have hl := measured_length l
      rw [if_neg (by rw [decide_eq_true hd]; decide), if_pos ⟨hr, hd⟩, impl_measured.F_val l hr]
      simp only [Option.bind_some]
      by_cases hf : lastOf l < d
      · rw [if_pos (by omega), times_far hr hf]
        rfl
      · rw [if_neg (by omega), if_pos (by omega), if_pos (by omega), rd_measured (by omega) (by omega)]
    · rw [if_pos (by rw [decide_eq_false hd]; decide), if_neg (fun h => hd h.2)]
  · rw [if_neg hr, if_neg (fun h => hr h.1)]
theorem spec_TimesMeasured.F_val (l : List Int) (d : Int) (h : l.length < 4611686018427387904) : spec_TimesMeasured.F l d = some (timesOf l d) := by
  rw [spec_TimesMeasured.F_eq, spec_ruGood.F_val l h, spec_ruDistance.f_val]
  simp only [Option.bind_some, spec_TimesMeasured.J0_eq, if_true]
  unfold timesOf
  by_cases hr : isRuler l = true
  · rw [if_pos hr]
    by_cases hd : 1 ≤ d ∧ d ≤ 60
    · have hp := isRuler_parts hr
      have hl := measured_length l
      rw [if_neg (by rw [decide_eq_true hd]; decide), if_pos ⟨hr, hd⟩, spec_ruLength.f_val l (by omega), spec_ruTimes.F_val l hr]
      simp only [Option.bind_some]
      by_cases hf : lastOf l < d
      · rw [if_pos (by omega), times_far hr hf]
        rfl
      · rw [if_neg (by omega), if_pos (by omega), if_pos (by omega), rd_measured (by omega) (by omega)]
    · rw [if_pos (by rw [decide_eq_false hd]; decide), if_neg (fun h => hd h.2)]
  · rw [if_neg hr, if_neg (fun h => hr h.1)]
theorem impl_MeasureWith.L0_val (l : List Int) (hl : l.length ≤ 1000) (hv : ∀ x ∈ l, 0 ≤ x ∧ x ≤ 1000) (d : Int) (hd : 0 ≤ d ∧ d ≤ 1000) : ∀ (suf pre : List Int), l = pre ++ suf → impl_MeasureWith.L0 l d l (l.length : Int) (pre.length : Int) = some (measureIn l d suf)
  | [], pre, e => by
    rw [impl_MeasureWith.L0_eq, if_neg (by rw [e]; simp)]
    rfl
  | x :: suf, pre, e => by
    have hrd : rd l (pre.length : Int) = x := by rw [e, rd_mid]
    have hlen : pre.length < l.length := by rw [e]; simp
    have hx := hv x (by rw [e]; simp)
    have hw : wrap64 ((pre.length : Int) + 1) = ((pre ++ [x]).length : Int) := by rw [wrap_in (by omega) (by omega)]; simp
    have hwx : wrap64 (x + d) = x + d := wrap_in (by omega) (by omega)
    rw [impl_MeasureWith.L0_eq, if_pos (by omega), if_pos (by omega), if_pos (by omega), hrd, hwx, slices_Contains_int_int.F_val l _ (by omega)]
    simp only [Option.bind_some]
    unfold measureIn
    by_cases h : x + d ∈ l
    · rw [if_pos (decide_eq_true h), if_pos h]
    · rw [if_neg (by rw [decide_eq_false h]; decide), if_neg h, hw, impl_MeasureWith.L0_val l hl hv d hd suf (pre ++ [x]) (by rw [e]; simp)]
theorem impl_MeasureWith.F_val (l : List Int) (d : Int) (h : l.length < 4611686018427387904) : impl_MeasureWith.F l d = some (measureWith l d) := by
  rw [impl_MeasureWith.F_eq, impl_IsRuler.F_val l h, impl_isDistance.f_val]
  simp only [Option.bind_some, impl_MeasureWith.J0_eq, if_true]
  unfold measureWith
  by_cases hr : isRuler l = true
  · rw [if_pos hr]
    by_cases hd : 1 ≤ d ∧ d ≤ 60
    · obtain ⟨h1, h2, hs, h4, h5, hv⟩ := isRuler_parts hr
      rw [if_neg (by rw [decide_eq_true hd]; decide), if_pos ⟨hr, hd⟩]
      exact impl_MeasureWith.L0_val l (by omega) (fun x hx => by have := hv x hx; omega) d (by omega) l [] (by simp)
    · rw [if_pos (by rw [decide_eq_false hd]; decide), if_neg (fun h => hd h.2)]
  · rw [if_neg hr, if_neg (fun h => hr h.1)]
theorem spec_MeasureWith.L0_val (l : List Int) (hl : l.length ≤ 1000) (hv : ∀ x ∈ l, 0 ≤ x ∧ x ≤ 1000) (d : Int) (hd : 0 ≤ d ∧ d ≤ 1000) : ∀ (suf pre : List Int), l = pre ++ suf → spec_MeasureWith.L0 l d l (l.length : Int) (pre.length : Int) = some (measureIn l d suf)
  | [], pre, e => by
    rw [spec_MeasureWith.L0_eq, if_neg (by rw [e]; simp)]
    rfl
  | x :: suf, pre, e => by
    have hrd : rd l (pre.length : Int) = x := by rw [e, rd_mid]
    have hlen : pre.length < l.length := by rw [e]; simp
    have hx := hv x (by rw [e]; simp)
    have hw : wrap64 ((pre.length : Int) + 1) = ((pre ++ [x]).length : Int) := by rw [wrap_in (by omega) (by omega)]; simp
    have hwx : wrap64 (x + d) = x + d := wrap_in (by omega) (by omega)
    rw [spec_MeasureWith.L0_eq, if_pos (by omega), if_pos (by omega), if_pos (by omega), hrd, hwx, spec_l1Has.F_val l _ (by omega)]
    simp only [Option.bind_some]
    unfold measureIn
    by_cases h : x + d ∈ l
    · rw [if_pos (decide_eq_true h), if_pos h]
    · rw [if_neg (by rw [decide_eq_false h]; decide), if_neg h, hw, spec_MeasureWith.L0_val l hl hv d hd suf (pre ++ [x]) (by rw [e]; simp)]
theorem spec_MeasureWith.F_val (l : List Int) (d : Int) (h : l.length < 4611686018427387904) : spec_MeasureWith.F l d = some (measureWith l d) := by
  rw [spec_MeasureWith.F_eq, spec_ruGood.F_val l h, spec_ruDistance.f_val]
  simp only [Option.bind_some, spec_MeasureWith.J0_eq, if_true]
  unfold measureWith
  by_cases hr : isRuler l = true
  · rw [if_pos hr]
    by_cases hd : 1 ≤ d ∧ d ≤ 60
    · obtain ⟨h1, h2, hs, h4, h5, hv⟩ := isRuler_parts hr
      rw [if_neg (by rw [decide_eq_true hd]; decide), if_pos ⟨hr, hd⟩]
      exact spec_MeasureWith.L0_val l (by omega) (fun x hx => by have := hv x hx; omega) d (by omega) l [] (by simp)
    · rw [if_pos (by rw [decide_eq_false hd]; decide), if_neg (fun h => hd h.2)]
  · rw [if_neg hr, if_neg (fun h => hr h.1)]
end Go.Proofs.Ytofjndbpndpjjaa.Fn
namespace Go.Proofs.Ytofjndbpndpjjaa.Fn
open Go.RowKit Go.Proofs.YtofjndbpndpjjaaW.PrintWords Go.Proofs.YtofjndbpndpjjaaW.PrintLast Go.Proofs.YtofjndbpndpjjaaW.PrintMore
set_option linter.unusedVariables false
set_option linter.unusedSimpArgs false
theorem sorted_growing : ∀ (l : List Int), l.Pairwise (· < ·) → growing l = true
  | [], _ => rfl
  | [x], _ => rfl
  | x :: y :: l, h => by
    obtain ⟨h1, h2⟩ := List.pairwise_cons.1 h
    simp only [growing, Bool.and_eq_true, decide_eq_true_eq]
    exact ⟨h1 y (by simp), sorted_growing (y :: l) h2⟩
theorem isRuler_mk {l : List Int} (h1 : 1 ≤ l.length ∧ l.length ≤ 12) (h2 : rd l 0 = 0) (h3 : l.Pairwise (· < ·)) (h4 : lastOf l ≤ 60) : isRuler l = true := by
  unfold isRuler
  rw [decide_eq_true h1, decide_eq_true h2, sorted_growing l h3, decide_eq_true h4]
  rfl
/-- A number put into a growing list. -/
def ins (a : Int) : List Int → List Int
  | [] => [a]
  | x :: t => if x < a then x :: ins a t else a :: x :: t
theorem ins_perm (a : Int) : ∀ l : List Int, (ins a l).Perm (a :: l)
  | [] => List.Perm.refl _
  | x :: t => by
    unfold ins
    split
    · exact (List.Perm.cons x (ins_perm a t)).trans (List.Perm.swap _ _ _)
    · exact List.Perm.refl _
theorem ins_mem {a x : Int} {l : List Int} : x ∈ ins a l ↔ x = a ∨ x ∈ l := by rw [(ins_perm a l).mem_iff, List.mem_cons]
theorem ins_length (a : Int) (l : List Int) : (ins a l).length = l.length + 1 := by rw [(ins_perm a l).length_eq, List.length_cons]
theorem ins_sorted {a : Int} : ∀ {l : List Int}, l.Pairwise (· < ·) → ¬ a ∈ l → (ins a l).Pairwise (· < ·)
  | [], _, _ => by simp [ins]
  | x :: t, h, ha => by
    obtain ⟨h1, h2⟩ := List.pairwise_cons.1 h
    have hne : a ≠ x := fun e => ha (by simp [e])
    have ha2 : ¬ a ∈ t := fun e => ha (by simp [e])
    unfold ins
    split
    · rename_i hlt
      refine List.pairwise_cons.2 ⟨fun y hy => ?_, ins_sorted h2 ha2⟩
      rcases ins_mem.1 hy with rfl | hy
      · exact hlt
      · exact h1 y hy
    · refine List.pairwise_cons.2 ⟨fun y hy => ?_, h⟩
      rcases List.mem_cons.1 hy with rfl | hy
      · omega
      · have := h1 y hy
        omega
theorem sorted_nodup {l : List Int} (h : l.Pairwise (· < ·)) : l.Nodup := h.imp (fun h => by omega)
/-- What comes of a mark that is there already is no ruler. -/
theorem ins_no {a : Int} {l : List Int} (h : a ∈ l) : isRuler (ins a l) = false := by
  rw [Bool.eq_false_iff]
  intro hr
  have hs := sorted_nodup (isRuler_parts hr).2.2.1
  rw [(ins_perm a l).nodup_iff] at hs
  exact (List.nodup_cons.1 hs).1 h
def addOf (l : List Int) (a : Int) : List Int × Bool := if isRuler l = true ∧ 0 ≤ a ∧ isRuler (ins a l) = true then (ins a l, true) else ([], false)
theorem addOf_len (l : List Int) (a : Int) : (addOf l a).1.length ≤ l.length + 1 := by
  unfold addOf
  split
  · rw [ins_length]
    exact Nat.le_refl _
  · simp
theorem sort_ins {a : Int} {l : List Int} (hs : l.Pairwise (· < ·)) (ha : ¬ a ∈ l) : sortInt (l ++ [a]) = ins a l := by
  have hn : (l ++ [a]).Nodup := List.nodup_append.2 ⟨sorted_nodup hs, by simp, fun x hx y hy => by
    have : y = a := by simpa using hy
    intro e
    exact ha (by rw [← this, ← e]; exact hx)⟩
  refine sorted_ext _ _ (sortInt_sorted hn) (ins_sorted hs ha) fun x => ?_
  rw [ins_mem]
  unfold sortInt
  rw [(List.mergeSort_perm _ _).mem_iff, List.mem_append, List.mem_singleton]
  exact Or.comm
theorem impl_AddMark.F_val (l : List Int) (a : Int) (h : l.length < 4611686018427387904) : impl_AddMark.F l a = some (addOf l a) := by
  rw [impl_AddMark.F_eq, impl_IsRuler.F_val l h]
  simp only [Option.bind_some, impl_AddMark.J0_eq, if_true]
  unfold addOf
  by_cases hr : isRuler l = true
  · rw [if_pos hr]
    by_cases ha : a < 0
    · rw [if_pos ha, if_neg (fun h => by have := h.2.1; omega)]
    · obtain ⟨h1, h2, hs, h4, h5, hv⟩ := isRuler_parts hr
      rw [if_neg ha, slices_Contains_int_int.F_val l a h]
      simp only [Option.bind_some]
      by_cases hm : a ∈ l
      · rw [if_pos (decide_eq_true hm), if_neg (fun h => by rw [ins_no hm] at h; exact absurd h.2.2 (by decide))]
      · rw [if_neg (by rw [decide_eq_false hm]; decide), slices_Clone_int_int.f_val l (by omega)]
        simp only [Option.bind_some]
        have hf : slices_Sort_int_int.f (l ++ [a]) = some (sortInt (l ++ [a])) := by
          unfold slices_Sort_int_int.f
          rw [if_pos (by simp; omega)]
        rw [if_pos (by omega), hf, sort_ins hs hm]
        simp only [Option.bind_some]
        rw [impl_IsRuler.F_val _ (by rw [ins_length]; omega)]
        simp only [Option.bind_some]
        by_cases hi : isRuler (ins a l) = true
        · rw [if_pos hi, if_pos ⟨hr, by omega, hi⟩]
        · rw [if_neg hi, if_neg (fun h => hi h.2.2)]
  · rw [if_neg hr, if_neg (fun h => hr h.1)]
theorem spec_ruAdd.L0_val (l : List Int) (a : Int) (hl : l.length ≤ 1000) : ∀ (suf pre : List Int), l = pre ++ suf → spec_ruAdd.L0 l a (pre.length : Int) = some (pre ++ ins a suf, isRuler (pre ++ ins a suf))
  | [], pre, e => by
    have ht : l.take ((pre.length : Int)).toNat = pre := by rw [e, Int.toNat_natCast]; simp
    have hd : l.drop ((pre.length : Int)).toNat = [] := by rw [e, Int.toNat_natCast]; simp
    have hlen : l.length = pre.length := by rw [e]; simp
    rw [spec_ruAdd.L0_eq, if_neg (by omega), if_pos (by omega), if_pos (by omega), ht, hd, spec_l1Own.f_val pre (by omega)]
    simp only [Option.bind_some]
    rw [if_pos (by omega)]
    simp only [List.append_nil, List.length_nil, Nat.add_zero]
    rw [if_pos (by simp; omega), spec_ruGood.F_val _ (by simp; omega)]
    rfl
  | x :: suf, pre, e => by
    have hrd : rd l (pre.length : Int) = x := by rw [e, rd_mid]
    have hlen : l.length = pre.length + (suf.length + 1) := by rw [e]; simp
    have hw : wrap64 ((pre.length : Int) + 1) = ((pre ++ [x]).length : Int) := by rw [wrap_in (by omega) (by omega)]; simp
    have ht : l.take ((pre.length : Int)).toNat = pre := by rw [e, Int.toNat_natCast]; simp
    have hd : l.drop ((pre.length : Int)).toNat = x :: suf := by rw [e, Int.toNat_natCast]; simp
    have ih := spec_ruAdd.L0_val l a hl suf (pre ++ [x]) (by rw [e]; simp)
    rw [spec_ruAdd.L0_eq, if_pos (by omega), if_pos (by omega), hrd, hw]
    unfold ins
    by_cases hx : x < a
    · rw [if_pos hx, if_pos hx, ih]
      simp
    · rw [if_neg hx, if_neg hx, if_pos (by omega), ht, hd, spec_l1Own.f_val pre (by omega)]
      simp only [Option.bind_some]
      rw [if_pos (by omega), if_pos (by simp; omega), spec_ruGood.F_val _ (by simp; omega)]
      simp
theorem spec_ruAdd.F_val (l : List Int) (a : Int) (hl : l.length ≤ 1000) : spec_ruAdd.F l a = some (ins a l, isRuler (ins a l)) := by
  rw [spec_ruAdd.F_eq]
  exact spec_ruAdd.L0_val l a hl l [] (by simp)
theorem spec_AddMark.F_val (l : List Int) (a : Int) (h : l.length < 4611686018427387904) : spec_AddMark.F l a = some (addOf l a) := by
  rw [spec_AddMark.F_eq, spec_ruGood.F_val l h]
  simp only [Option.bind_some, spec_AddMark.J0_eq, if_true]
  unfold addOf
  by_cases hr : isRuler l = true
  · have hp := isRuler_parts hr
    rw [if_pos hr]
    by_cases ha : a < 0
    · rw [if_pos (decide_eq_true ha), if_neg (fun h => by have := h.2.1; omega)]
    · rw [if_neg (by rw [decide_eq_false ha]; decide), spec_ruAdd.F_val l a (by omega)]
      simp only [Option.bind_some]
      by_cases hi : isRuler (ins a l) = true
      · rw [if_pos hi, if_pos ⟨hr, by omega, hi⟩]
      · rw [if_neg hi, if_neg (fun h => hi h.2.2)]
  · rw [if_neg hr, if_neg (fun h => hr h.1)]
/-- Marks that keep a ruler different, from the i-th on. -/
def freeFrom (l : List Int) (i n : Nat) : List Int := ((List.range' i n).map fun k : Nat => (k : Int)).filter fun a => isRuler (ins a l) && isDiff (ins a l)
theorem freeFrom_step (l : List Int) (i n : Nat) : freeFrom l i (n + 1) = if (isRuler (ins (i : Int) l) && isDiff (ins (i : Int) l)) = true then (i : Int) :: freeFrom l (i + 1) n else freeFrom l (i + 1) n := by
  unfold freeFrom
  rw [List.range'_succ, List.map_cons, List.filter_cons]
theorem freeFrom_len (l : List Int) (i n : Nat) : (freeFrom l i n).length ≤ n := by
  unfold freeFrom
  refine Nat.le_trans (List.length_filter_le _ _) ?_
  simp
def freeOf (l : List Int) : List Int × Bool := if isRuler l = true ∧ isDiff l = true then (freeFrom l 1 (lastOf l - 1).toNat, true) else ([], false)
theorem mem_freeFrom {l : List Int} {i n : Nat} {a : Int} : a ∈ freeFrom l i n ↔ ((i : Int) ≤ a ∧ a < i + n) ∧ isRuler (ins a l) = true ∧ isDiff (ins a l) = true := by
  unfold freeFrom
  rw [List.mem_filter, List.mem_map, Bool.and_eq_true]
  constructor
  · rintro ⟨⟨k, hk, rfl⟩, h⟩
    have := List.mem_range'_1.1 hk
    exact ⟨by omega, h⟩
  · rintro ⟨h1, h2⟩
    exact ⟨⟨a.toNat, List.mem_range'_1.2 (by omega), by omega⟩, h2⟩
theorem impl_FreeMarks.L0_val (l : List Int) (hr : isRuler l = true) : ∀ (n i : Nat) (acc : List Int), 1 ≤ i → ((i : Int) + n = lastOf l ∨ n = 0 ∧ lastOf l ≤ i) → acc.length + n ≤ 1000 → impl_FreeMarks.L0 l acc (i : Int) = some (acc ++ freeFrom l i n, true)
  | 0, i, acc, h1, hn, ha => by
    have hp := isRuler_parts hr
    have ew : wrap64 ((l.length : Int) - 1) = (l.length : Int) - 1 := wrap_in (by omega) (by omega)
    have hlast : ¬ (i : Int) < rd l ((l.length : Int) - 1) := by
      unfold lastOf at hn
      omega
    rw [impl_FreeMarks.L0_eq, ew, if_pos (by omega), if_pos (by omega), if_neg hlast]
    simp [freeFrom]
  | n + 1, i, acc, h1, hn, ha => by
    have hp := isRuler_parts hr
    have ew : wrap64 ((l.length : Int) - 1) = (l.length : Int) - 1 := wrap_in (by omega) (by omega)
    have hlast : (i : Int) < rd l ((l.length : Int) - 1) := by
      unfold lastOf at hn
      omega
    have hw : wrap64 ((i : Int) + 1) = ((i + 1 : Nat) : Int) := by
      have := hp.2.2.2.1
      rw [wrap_in (by omega) (by omega)]
      rfl
    have ih := fun acc' ha' => impl_FreeMarks.L0_val l hr n (i + 1) acc' (by omega) (by omega) ha'
    rw [impl_FreeMarks.L0_eq, ew, if_pos (by omega), if_pos (by omega), if_pos hlast, impl_AddMark.F_val l _ (by omega), hw, freeFrom_step]
    simp only [Option.bind_some]
    by_cases hi : isRuler (ins (i : Int) l) = true
    · have ea : addOf l (i : Int) = (ins (i : Int) l, true) := by unfold addOf; rw [if_pos ⟨hr, by omega, hi⟩]
      rw [ea, if_pos rfl, impl_different.F_val _ hi, hi, Bool.true_and]
      simp only [Option.bind_some]
      by_cases hd : isDiff (ins (i : Int) l) = true
      · rw [if_pos hd, if_pos hd, if_pos (by omega), ih _ (by simp; omega)]
        simp
      · rw [if_neg hd, if_neg hd, ih _ (by omega)]
    · have ea : addOf l (i : Int) = ([], false) := by unfold addOf; rw [if_neg (fun h => hi h.2.2)]
      have eb : ¬ (isRuler (ins (i : Int) l) && isDiff (ins (i : Int) l)) = true := by rw [Bool.eq_false_iff.2 hi]; simp
      rw [ea, if_neg (by decide), if_neg eb, ih _ (by omega)]
theorem impl_FreeMarks.F_val (l : List Int) (h : l.length < 4611686018427387904) : impl_FreeMarks.F l = some (freeOf l) := by
  rw [impl_FreeMarks.F_eq, impl_IsRuler.F_val l h]
  simp only [Option.bind_some, impl_FreeMarks.J0_eq, if_true]
  unfold freeOf
  by_cases hr : isRuler l = true
  · rw [if_pos hr, impl_different.F_val l hr]
    simp only [Option.bind_some]
    by_cases hd : isDiff l = true
    · have hp := isRuler_parts hr
      rw [if_neg (by rw [hd]; decide), if_pos ⟨hr, hd⟩]
      have hL := impl_FreeMarks.L0_val l hr (lastOf l - 1).toNat 1 [] (by omega) (by omega) (by simp; omega)
      rw [List.nil_append] at hL
      exact hL
    · rw [if_pos (by rw [Bool.eq_false_iff.2 hd]; rfl), if_neg (fun h => hd h.2)]
  · rw [if_neg hr, if_neg (fun h => hr h.1)]
theorem spec_FreeMarks.L0_val (l : List Int) (hr : isRuler l = true) : ∀ (n i : Nat) (acc : List Int), 1 ≤ i → ((i : Int) + n = lastOf l ∨ n = 0 ∧ lastOf l ≤ i) → acc.length + n ≤ 1000 → spec_FreeMarks.L0 l acc (i : Int) = some (acc ++ freeFrom l i n, true)
  | 0, i, acc, h1, hn, ha => by
    have hp := isRuler_parts hr
    rw [spec_FreeMarks.L0_eq, spec_ruLength.f_val l (by omega)]
    simp only [Option.bind_some]
    rw [if_neg (by omega)]
    simp [freeFrom]
  | n + 1, i, acc, h1, hn, ha => by
    have hp := isRuler_parts hr
    have hw : wrap64 ((i : Int) + 1) = ((i + 1 : Nat) : Int) := by
      have := hp.2.2.2.1
      rw [wrap_in (by omega) (by omega)]
      rfl
    have ih := fun acc' ha' => spec_FreeMarks.L0_val l hr n (i + 1) acc' (by omega) (by omega) ha'
    rw [spec_FreeMarks.L0_eq, spec_ruLength.f_val l (by omega)]
    simp only [Option.bind_some]
    rw [if_pos (by omega), spec_ruAdd.F_val l _ (by omega), hw, freeFrom_step]
    simp only [Option.bind_some]
    by_cases hi : isRuler (ins (i : Int) l) = true
    · rw [if_pos hi, spec_ruDifferent.F_val _ hi, hi, Bool.true_and]
      simp only [Option.bind_some]
      by_cases hd : isDiff (ins (i : Int) l) = true
      · rw [if_pos hd, if_pos hd, if_pos (by omega), ih _ (by simp; omega)]
        simp
      · rw [if_neg hd, if_neg hd, ih _ (by omega)]
    · have eb : ¬ (isRuler (ins (i : Int) l) && isDiff (ins (i : Int) l)) = true := by rw [Bool.eq_false_iff.2 hi]; simp
      rw [if_neg hi, if_neg eb, ih _ (by omega)]
theorem spec_FreeMarks.F_val (l : List Int) (h : l.length < 4611686018427387904) : spec_FreeMarks.F l = some (freeOf l) := by
  rw [spec_FreeMarks.F_eq, spec_ruGood.F_val l h]
  simp only [Option.bind_some, spec_FreeMarks.J0_eq, if_true]
  unfold freeOf
  by_cases hr : isRuler l = true
  · rw [if_pos hr, spec_ruDifferent.F_val l hr]
    simp only [Option.bind_some]
    by_cases hd : isDiff l = true
    · have hp := isRuler_parts hr
      rw [if_neg (by rw [hd]; decide), if_pos ⟨hr, hd⟩]
      have hL := spec_FreeMarks.L0_val l hr (lastOf l - 1).toNat 1 [] (by omega) (by omega) (by simp; omega)
      rw [List.nil_append] at hL
      exact hL
    · rw [if_pos (by rw [Bool.eq_false_iff.2 hd]; rfl), if_neg (fun h => hd h.2)]
  · rw [if_neg hr, if_neg (fun h => hr h.1)]
theorem lastOf_snoc (l : List Int) (y : Int) : lastOf (l ++ [y]) = y := by
  unfold lastOf
  have e : (((l ++ [y]).length : Int) - 1) = (l.length : Int) := by simp
  rw [e, rd_mid]
theorem isRuler_snoc {l : List Int} {y : Int} (h : isRuler l = true) (h1 : lastOf l < y) (h2 : y ≤ 60) (h3 : l.length ≤ 11) : isRuler (l ++ [y]) = true := by
  obtain ⟨g1, g2, gs, g4, g5, gv⟩ := isRuler_parts h
  refine isRuler_mk (by simp; omega) ?_ ?_ (by rw [lastOf_snoc]; exact h2)
  · cases l with
    | nil => simp at g1
    | cons x l => simpa [rd] using g2
  · refine List.pairwise_append.2 ⟨gs, by simp, fun a ha b hb => ?_⟩
    have : b = y := by simpa using hb
    have := (gv a ha).2
    omega
theorem spec_l1Cur_ruler.L1_ok {l : List Int} : ∀ (n : Nat) (x : List Int) (m at_ seed : Int), x.length + n = 13 → 1 ≤ x.length → -1000 ≤ lastOf x ∧ lastOf x + n ≤ 1000 → m + 4 * n ≤ 900000 → DrawSt l m at_ → ∃ r a z, spec_l1Cur_ruler.L1 x l at_ seed = some (r, a, z) ∧ r.length ≤ 13 ∧ DrawSt l (m + 4 * n + 2) a
  | 0, x, m, at_, seed, hn, h1, hl, hm, h => by
    obtain ⟨q, a, z, e, q0, q1, hs⟩ := spec_l1Cur_pick.ok seed 2 h (by omega)
    rw [spec_l1Cur_ruler.L1_eq, e]
    simp only [Option.bind_some]
    rw [wrap_in (n := 12 + q) (by omega) (by omega), if_neg (by omega)]
    exact ⟨x, a, z, rfl, by omega, hs.more (by omega)⟩
  | n + 1, x, m, at_, seed, hn, h1, hl, hm, h => by
    obtain ⟨q, a, z, e, q0, q1, hs⟩ := spec_l1Cur_pick.ok seed 2 h (by omega)
    have ew : wrap64 ((x.length : Int) - 1) = (x.length : Int) - 1 := wrap_in (by omega) (by omega)
    have el : wrap64 (rd x ((x.length : Int) - 1) + 1) = lastOf x + 1 := by unfold lastOf at *; rw [wrap_in (by omega) (by omega)]
    obtain ⟨r, a2, z2, e2, hr, hs2⟩ := spec_l1Cur_ruler.L1_ok n (x ++ [lastOf x + 1]) (m + 2) a z (by simp; omega) (by simp) (by rw [lastOf_snoc]; omega) (by omega) hs
    rw [spec_l1Cur_ruler.L1_eq, e]
    simp only [Option.bind_some]
    rw [wrap_in (n := 12 + q) (by omega) (by omega)]
    by_cases hq : (x.length : Int) < 12 + q
    · rw [if_pos hq, ew, if_pos (by omega), if_pos (by omega), if_pos (by omega), el, e2]
      exact ⟨r, a2, z2, rfl, hr, hs2.more (by omega)⟩
    · rw [if_neg hq]
      exact ⟨x, a, z, rfl, by omega, hs.more (by omega)⟩
theorem spec_l1Cur_ruler.L0_ok {l : List Int} (b : Bool) : ∀ (c : Nat) (x : List Int) (m at_ seed : Int), isRuler x = true → x.length + c ≤ 6 → lastOf x ≤ 6 * ((x.length : Int) - 1) → m + 2 * c ≤ 800000 → DrawSt l m at_ → ∃ r a z, spec_l1Cur_ruler.L0 x b (c : Int) l at_ seed = some (r, a, z) ∧ r.length ≤ 13 ∧ DrawSt l (m + 2 * c + 100) a
  | 0, x, m, at_, seed, hx, hc, hl, hm, h => by
    have hp := isRuler_parts hx
    obtain ⟨q, a, z, e, q0, q1, hs⟩ := spec_l1Cur_pick.ok seed 14 h (by omega)
    rw [spec_l1Cur_ruler.L0_eq, if_neg (by omega), e]
    simp only [Option.bind_some]
    by_cases h0 : q = 0
    · obtain ⟨p, a2, z2, e2, p0, p1, hs2⟩ := spec_l1Cur_pick.ok z (x.length : Int) hs (by omega)
      obtain ⟨v, a3, z3, e3, _, hs3⟩ := spec_l1Cur_among.ok z2 ([(-1), 0, 1, 60, 61, 4611686018427387904] : List Int) (by decide) hs2 (by omega)
      rw [if_pos h0, e2]
      simp only [Option.bind_some]
      rw [e3]
      simp only [Option.bind_some]
      rw [if_pos p0, if_pos (by omega)]
      exact ⟨_, _, _, rfl, by rw [List.length_set]; omega, hs3.more (by omega)⟩
    · rw [if_neg h0]
      by_cases h1 : q = 1
      · rw [if_pos h1]
        exact ⟨_, _, _, rfl, by simp, hs.more (by omega)⟩
      · rw [if_neg h1]
        by_cases h2 : q = 2
        · rw [if_pos h2]
          obtain ⟨r, a2, z2, e2, hr, hs2⟩ := spec_l1Cur_ruler.L1_ok (l := l) (13 - x.length) x (m + 2) a z (by omega) (by omega) (by omega) (by omega) hs
          exact ⟨r, a2, z2, e2, hr, hs2.more (by omega)⟩
        · rw [if_neg h2]
          exact ⟨_, _, _, rfl, by omega, hs.more (by omega)⟩
  | c + 1, x, m, at_, seed, hx, hc, hl, hm, h => by
    have hp := isRuler_parts hx
    obtain ⟨q, a, z, e, q0, q1, hs⟩ := spec_l1Cur_pick.ok seed 6 h (by omega)
    have ew : wrap64 ((x.length : Int) - 1) = (x.length : Int) - 1 := wrap_in (by omega) (by omega)
    have el : wrap64 (wrap64 (rd x ((x.length : Int) - 1) + 1) + q) = lastOf x + 1 + q := by
      unfold lastOf at *
      rw [wrap_in (n := rd x ((x.length : Int) - 1) + 1) (by omega) (by omega), wrap_in (by omega) (by omega)]
    have ec : wrap64 (((c + 1 : Nat) : Int) - 1) = (c : Int) := by rw [wrap_in (by omega) (by omega)]; omega
    have hy : isRuler (x ++ [lastOf x + 1 + q]) = true := isRuler_snoc hx (by omega) (by omega) (by omega)
    obtain ⟨r1, a1, z1, e1, hr1, hs1⟩ := spec_l1Cur_ruler.L0_ok b c x (m + 2) a z hx (by omega) hl (by omega) hs
    obtain ⟨r2, a2, z2, e2, hr2, hs2⟩ := spec_l1Cur_ruler.L0_ok b c (x ++ [lastOf x + 1 + q]) (m + 2) a z hy (by simp; omega) (by rw [lastOf_snoc]; simp; omega) (by omega) hs
    rw [spec_l1Cur_ruler.L0_eq, if_pos (by omega), spec_l1Own.f_val x (by omega)]
    simp only [Option.bind_some]
    rw [ew, if_pos (by omega), if_pos (by omega), e]
    simp only [Option.bind_some]
    rw [if_pos (by omega), el, ec]
    cases b with
    | true =>
      rw [if_pos rfl, spec_ruDifferent.F_val _ hy]
      simp only [Option.bind_some]
      split
      · exact ⟨r2, a2, z2, e2, hr2, hs2.more (by omega)⟩
      · exact ⟨r1, a1, z1, e1, hr1, hs1.more (by omega)⟩
    | false =>
      rw [if_neg (by decide)]
      exact ⟨r2, a2, z2, e2, hr2, hs2.more (by omega)⟩
theorem spec_l1Cur_ruler.ok {l : List Int} {m at_ : Int} (seed : Int) (hm : m ≤ 700000) (h : DrawSt l m at_) : ∃ r a z, spec_l1Cur_ruler.F l at_ seed = some (r, a, z) ∧ r.length ≤ 13 ∧ DrawSt l (m + 120) a := by
  obtain ⟨b, a1, z1, e1, h1⟩ := spec_l1Cur_one.ok seed 2 h (by omega)
  obtain ⟨q, a2, z2, e2, q0, q1, h2⟩ := spec_l1Cur_pick.ok z1 6 h1 (by omega)
  obtain ⟨c, rfl⟩ : ∃ c : Nat, q = c := ⟨q.toNat, by omega⟩
  obtain ⟨r, a, z, e, hr, hs⟩ := spec_l1Cur_ruler.L0_ok (l := l) b c [0] (m + 2 + 2) a2 z2 (by decide) (by simp; omega) (by decide) (by omega) h2
  rw [spec_l1Cur_ruler.F_eq, e1]
  simp only [Option.bind_some]
  rw [e2]
  simp only [Option.bind_some]
  exact ⟨r, a, z, e, hr, hs.more (by omega)⟩
theorem spec_l1Cur_distance.ok {l : List Int} {m at_ : Int} (seed : Int) (hm : m ≤ 700000) (h : DrawSt l m at_) : ∃ r a z, spec_l1Cur_distance.f l at_ seed = some (r, a, z) ∧ DrawSt l (m + 10) a := by
  obtain ⟨b, a1, z1, e1, h1⟩ := spec_l1Cur_one.ok seed 10 h (by omega)
  unfold spec_l1Cur_distance.f
  rw [e1]
  simp only [Option.bind_some]
  cases b with
  | true =>
    obtain ⟨v, a2, z2, e2, _, h2⟩ := spec_l1Cur_among.ok z1 ([(-1), 0, 60, 61, 4611686018427387904] : List Int) (by decide) h1 (by omega)
    rw [if_pos rfl, e2]
    exact ⟨_, _, _, rfl, h2.more (by omega)⟩
  | false =>
    obtain ⟨v, a2, z2, e2, _, _, h2⟩ := spec_l1Cur_pick.ok z1 16 h1 (by omega)
    rw [if_neg (by decide), e2]
    exact ⟨_, _, _, rfl, h2.more (by omega)⟩
end Go.Proofs.Ytofjndbpndpjjaa.Fn
namespace Go.Proofs.Ytofjndbpndpjjaa.Pure
open Go.RowKit Go.Proofs.Ytofjndbpndpjjaa.Fn Go.Proofs.YtofjndbpndpjjaaW.PrintWords Go.Proofs.YtofjndbpndpjjaaW.PrintLast Go.Proofs.YtofjndbpndpjjaaW.PrintMore
set_option linter.unusedVariables false
set_option linter.unusedSimpArgs false
theorem upTo_cons {n : Int} (h : 0 ≤ n) : upTo n = 0 :: (List.range' 1 n.toNat).map fun k : Nat => (k : Int) := by
  unfold upTo
  rw [show (n + 1).toNat = n.toNat + 1 by omega, List.range_eq_range', List.range'_succ]
  rfl
theorem upTo_length {n : Int} (h : 0 ≤ n) : ((upTo n).length : Int) = n + 1 := by
  unfold upTo
  simp
  omega
theorem upTo_nodup (n : Int) : (upTo n).Nodup := sorted_nodup (upTo_sorted n)
theorem times_zero {l : List Int} (h : isRuler l = true) : times 0 (gaps [] l) = 0 := by
  have : ¬ 0 < times 0 (gaps [] l) := fun hp => by
    have := gaps_range h 0 (times_pos.1 hp)
    omega
  omega
theorem both_lengths {l : List Int} (h : isRuler l = true) : ((distancesOf l).length : Int) + (missingOf l).length = lastOf l := by
  have hp := isRuler_parts h
  have h1 := met_not (gaps [] l) (upTo (lastOf l))
  have h2 := upTo_length (n := lastOf l) hp.2.2.2.2.1
  have h3 : ((upTo (lastOf l)).filter (fun d => decide (times d (gaps [] l) = 0))).length = (missingOf l).length + 1 := by
    unfold missingOf
    rw [upTo_cons hp.2.2.2.2.1, List.filter_cons_of_pos (by rw [times_zero h]; rfl), List.filter_cons_of_neg (by simp), List.length_cons]
    congr 2
    refine List.filter_congr fun d hd => ?_
    obtain ⟨k, hk, rfl⟩ := List.mem_map.1 hd
    have := List.mem_range'_1.1 hk
    rw [decide_eq_true (show (0 : Int) < (k : Int) by omega), Bool.true_and]
  unfold distancesOf
  omega
theorem sum_upTo {l : List Int} (h : isRuler l = true) : sumTimes (gaps [] l) (upTo (lastOf l)) = (gaps [] l).length :=
  sumTimes_all (upTo_nodup _) _ fun x hx => mem_upTo.2 (by have := gaps_range h x hx; omega)
theorem diff_count {l : List Int} (h : isRuler l = true) : isDiff l = decide ((distancesOf l).length = (gaps [] l).length) := by
  unfold isDiff distancesOf
  rw [decide_eq_decide, ← sum_upTo h, met_eq, ← times_le_one]
  constructor
  · exact fun h1 d _ => h1 d
  · intro h1 d
    rcases Nat.eq_zero_or_pos (times d (gaps [] l)) with e | e
    · omega
    · have := gaps_range h d (times_pos.1 e)
      exact h1 d (mem_upTo.2 (by omega))
theorem pairs_val {l : List Int} (h : l.length ≤ 12) : wrap64 (Int.tdiv (wrap64 ((l.length : Int) * wrap64 ((l.length : Int) - 1))) 2) = ((gaps [] l).length : Int) ∧ (gaps [] l).length ≤ 100 := by
  have h1 := gapsUp_length l
  rw [← (gaps_perm l).length_eq] at h1
  have h3 : l.length * (l.length - 1) ≤ 12 * 11 := Nat.mul_le_mul h (by omega)
  have e : (l.length : Int) * wrap64 ((l.length : Int) - 1) = 2 * ((gaps [] l).length : Int) := by
    rw [wrap_in (by omega) (by omega)]
    rcases Nat.eq_zero_or_pos l.length with h0 | h0
    · have h5 : (gaps [] l).length = 0 := by rw [h0] at h1; omega
      rw [h5, h0]
      simp
    · have e2 : (l.length : Int) - 1 = ((l.length - 1 : Nat) : Int) := by omega
      rw [e2, ← Int.natCast_mul, ← h1]
      simp
  refine ⟨?_, by omega⟩
  rw [e]
  generalize (gaps [] l).length = g at *
  rw [wrap_in (n := 2 * (g : Int)) (by omega) (by omega), Int.tdiv_eq_ediv_of_nonneg (by omega), Int.mul_ediv_cancel_left _ (by omega), wrap_in (by omega) (by omega)]
theorem back_ruler {l : List Int} (h : isRuler l = true) : isRuler (backOf l) = true ∧ lastOf (backOf l) = lastOf l ∧ distancesOf (backOf l) = distancesOf l ∧ backOf (backOf l) = l := by
  obtain ⟨h1, h2, hs, h4, h5, hv⟩ := isRuler_parts h
  have hlast : lastOf (backOf l) = lastOf l := by
    unfold backOf
    cases hl : l with
    | nil => rw [hl] at h1; simp at h1
    | cons x t =>
      have hx : x = 0 := by rw [hl] at h2; simpa [rd] using h2
      rw [List.reverse_cons, List.map_append, List.map_cons, List.map_nil, lastOf_snoc, hx]
      omega
  have hfirst : rd (backOf l) 0 = 0 := by
    unfold backOf
    rcases List.eq_nil_or_concat l with e | ⟨p, y, e⟩
    · rw [e] at h1
      simp at h1
    · have e' : l = p ++ [y] := by simpa using e
      rw [e', List.reverse_append, lastOf_snoc]
      simp [rd]
  have hsorted : (backOf l).Pairwise (· < ·) := by
    unfold backOf
    rw [List.pairwise_map, List.pairwise_reverse]
    exact hs.imp (fun h => by omega)
  have hback : isRuler (backOf l) = true := isRuler_mk (by unfold backOf; simpa using h1) hfirst hsorted (by omega)
  refine ⟨hback, hlast, ?_, ?_⟩
  · unfold distancesOf
    rw [hlast]
    refine List.filter_congr fun d _ => ?_
    have hpm : (gaps [] (backOf l)).Perm (gaps [] l) := ((gaps_perm _).trans (gapsUp_back (lastOf l) l)).trans (gaps_perm l).symm
    rw [times_perm hpm]
  · have e : backOf (backOf l) = (backOf l).reverse.map fun x => lastOf (backOf l) - x := rfl
    rw [hlast] at e
    rw [e]
    unfold backOf
    rw [← List.map_reverse, List.reverse_reverse, List.map_map]
    have : ((fun x => lastOf l - x) ∘ fun x => lastOf l - x) = id := by
      funext x
      simp only [Function.comp, id]
      omega
    rw [this, List.map_id]
theorem measure_iff {l : List Int} (h : isRuler l = true) (d : Int) (hd : 1 ≤ d) : (measureIn l d l).2.2 = decide (0 < times d (gaps [] l)) := by
  have hp := isRuler_parts h
  rw [Bool.eq_iff_iff, measureIn_iff, decide_eq_true_eq, times_pos, (gaps_perm l).mem_iff, mem_gapsUp hp.2.2.1]
  exact ⟨fun h => ⟨by omega, h⟩, fun h => h.2⟩
theorem J3_val {l1 : List Int} (h1 : DrawSt l1 0 0) : laws_FnRulersMeasure.J3 l1 = some true := by
  obtain ⟨r, a1, z1, e1, hr, hs1⟩ := spec_l1Cur_ruler.ok 0 (by omega) h1
  obtain ⟨d, a2, z2, e2, hs2⟩ := spec_l1Cur_distance.ok z1 (by omega) hs1
  have hb : ∃ b at_, spec_DrawAddMark.F l1 = some (b, at_) ∧ b.length ≤ 13 := by
    obtain ⟨o, a3, z3, e3, hs3⟩ := spec_l1Cur_one.ok 0 12 h1 (by omega)
    obtain ⟨b, a4, z4, e4, hb, hs4⟩ := spec_l1Cur_ruler.ok z3 (by omega) hs3
    rw [spec_DrawAddMark.F_eq, e3]
    simp only [Option.bind_some]
    cases o with
    | true =>
      obtain ⟨v, a5, z5, e5, _, hs5⟩ := spec_l1Cur_among.ok z4 ([(-1), 60, 61, 4611686018427387904] : List Int) (by decide) hs4 (by omega)
      rw [if_pos rfl, e4]
      simp only [Option.bind_some]
      rw [e5]
      exact ⟨b, v, rfl, hb⟩
    | false =>
      obtain ⟨v, a5, z5, e5, _, _, hs5⟩ := spec_l1Cur_pick.ok z4 25 hs4 (by omega)
      rw [if_neg (by decide), e4]
      simp only [Option.bind_some]
      rw [e5]
      exact ⟨b, v, rfl, hb⟩
  obtain ⟨b, at_, eb, hb⟩ := hb
  have ed : spec_DrawTimesMeasured.F l1 = some (r, d) := by
    rw [spec_DrawTimesMeasured.F_eq, e1]
    simp only [Option.bind_some]
    rw [e2]
    rfl
  have hal := addOf_len b at_
  have q := laws_jSame.F_val (addOf b at_).1 (addOf b at_).1 (by omega)
  rw [decide_eq_true rfl] at q
  rw [laws_FnRulersMeasure.J3_eq, ed]
  simp only [Option.bind_some, impl_TimesMeasured.F_val r d (by omega), spec_TimesMeasured.F_val r d (by omega), impl_MeasureWith.F_val r d (by omega), spec_MeasureWith.F_val r d (by omega), eb, impl_AddMark.F_val b at_ (by omega), spec_AddMark.F_val b at_ (by omega), beq_self_eq_true, if_true, q]
  by_cases ha : (addOf b at_).2 = true
  · have hc : isRuler b = true ∧ 0 ≤ at_ ∧ isRuler (ins at_ b) = true := by
      unfold addOf at ha
      split at ha
      · rename_i h
        exact h
      · exact absurd ha (by decide)
    have e1' : (addOf b at_).1 = ins at_ b := by unfold addOf; rw [if_pos hc]
    rw [if_pos ha, e1', impl_IsRuler.F_val _ (by rw [ins_length]; omega), hc.2.2]
    simp only [Option.bind_some, if_true]
    rw [laws_jHas.F_val _ _ (by rw [ins_length]; omega), decide_eq_true (ins_mem.2 (.inl rfl))]
    rfl
  · rw [if_neg ha]
theorem L1_val {l1 l : List Int} (h1 : DrawSt l1 0 0) (hr : isRuler l = true) : ∀ (n i : Nat), 1 ≤ i → ((i : Int) + n = lastOf l ∨ n = 0 ∧ lastOf l ≤ i) → laws_FnRulersMeasure.L1 l1 l (lastOf l) (freeOf l).1 (freeOf l).2 (l.length : Int) (i : Int) = some true
  | 0, i, hi, hn => by
    rw [laws_FnRulersMeasure.L1_eq, if_neg (by omega)]
    exact J3_val h1
  | n + 1, i, hi, hn => by
    have hp := isRuler_parts hr
    have hw : wrap64 ((i : Int) + 1) = ((i + 1 : Nat) : Int) := by
      have := hp.2.2.2.1
      rw [wrap_in (by omega) (by omega)]
      rfl
    have hw2 : wrap64 ((l.length : Int) + 1) = (l.length : Int) + 1 := wrap_in (by omega) (by omega)
    have ih := L1_val h1 hr n (i + 1) (by omega) (by omega)
    rw [laws_FnRulersMeasure.L1_eq, if_pos (by omega), impl_AddMark.F_val l _ (by omega), hw, hw2]
    simp only [Option.bind_some]
    by_cases hin : isRuler (ins (i : Int) l) = true
    · have ea : addOf l (i : Int) = (ins (i : Int) l, true) := by unfold addOf; rw [if_pos ⟨hr, by omega, hin⟩]
      have hlen := ins_length (i : Int) l
      rw [ea]
      dsimp only
      rw [if_pos rfl, impl_IsDifferent.F_val _ (by omega), if_pos hin]
      simp only [Option.bind_some, if_true]
      rw [if_pos (show ((ins (i : Int) l).length : Int) = (l.length : Int) + 1 by omega), ih]
      by_cases hd : isDiff l = true
      · have ef : freeOf l = (freeFrom l 1 (lastOf l - 1).toNat, true) := by unfold freeOf; rw [if_pos ⟨hr, hd⟩]
        have hfl := freeFrom_len l 1 (lastOf l - 1).toNat
        rw [ef]
        dsimp only
        rw [if_pos rfl, laws_jHas.F_val _ _ (by have := hp.2.2.2.1; omega)]
        simp only [Option.bind_some]
        have em : decide ((i : Int) ∈ freeFrom l 1 (lastOf l - 1).toNat) = isDiff (ins (i : Int) l) := by
          rw [Bool.eq_iff_iff, decide_eq_true_eq, mem_freeFrom]
          constructor
          · exact fun h => h.2.2
          · exact fun h => ⟨by omega, hin, h⟩
        rw [em, bne_self_eq_false, if_neg (by decide)]
      · have ef : freeOf l = ([], false) := by unfold freeOf; rw [if_neg (fun h => hd h.2)]
        rw [ef, if_neg (by decide)]
    · have ea : addOf l (i : Int) = ([], false) := by unfold addOf; rw [if_neg (fun h => hin h.2.2)]
      rw [ea, if_neg (by decide), ih]
set_option maxHeartbeats 2000000 in
theorem L0_val {l1 l : List Int} (h1 : DrawSt l1 0 0) (hr : isRuler l = true) : ∀ (n i s : Nat), 1 ≤ i → (i : Int) + n = lastOf l + 1 → s + sumTimes (gaps [] l) ((List.range' i n).map fun k : Nat => (k : Int)) = (gaps [] l).length → laws_FnRulersMeasure.L0 l1 l (distancesOf l) (lastOf l) (missingOf l) (freeOf l).1 (freeOf l).2 (l.length : Int) ((gaps [] l).length : Int) (s : Int) (i : Int) = some true
  | 0, i, s, hi, hn, hs => by
    have hp := isRuler_parts hr
    simp only [List.range'_zero, List.map_nil, sumTimes] at hs
    rw [laws_FnRulersMeasure.L0_eq, if_neg (by omega), if_pos (by omega)]
    have := L1_val h1 hr (lastOf l - 1).toNat 1 (by omega) (by omega)
    exact this
  | n + 1, i, s, hi, hn, hs => by
    have hp := isRuler_parts hr
    have hg := (pairs_val (l := l) (by omega)).2
    have h60 := hp.2.2.2.1
    rw [List.range'_succ, List.map_cons, sumTimes] at hs
    have hw : wrap64 ((i : Int) + 1) = ((i + 1 : Nat) : Int) := by rw [wrap_in (by omega) (by omega)]; rfl
    have hws : wrap64 ((s : Int) + ((times (i : Int) (gaps [] l) : Nat) : Int)) = ((s + times (i : Int) (gaps [] l) : Nat) : Int) := by rw [wrap_in (by omega) (by omega)]; rfl
    have ih := L0_val h1 hr n (i + 1) (s + times (i : Int) (gaps [] l)) (by omega) (by omega) (by omega)
    have et : timesOf l (i : Int) = (((times (i : Int) (gaps [] l) : Nat) : Int), true) := by unfold timesOf; rw [if_pos ⟨hr, by omega, by omega⟩]
    have em : measureWith l (i : Int) = measureIn l (i : Int) l := by unfold measureWith; rw [if_pos ⟨hr, by omega, by omega⟩]
    have em2 := measure_iff hr (i : Int) (by omega)
    have ed : decide ((i : Int) ∈ distancesOf l) = decide (0 < times (i : Int) (gaps [] l)) := by
      rw [decide_eq_decide]
      unfold distancesOf
      rw [List.mem_filter, mem_upTo, decide_eq_true_eq]
      exact ⟨fun h => h.2, fun h => ⟨by omega, h⟩⟩
    have emi : decide ((i : Int) ∈ missingOf l) = !decide (0 < times (i : Int) (gaps [] l)) := by
      rw [← decide_not, decide_eq_decide]
      unfold missingOf
      rw [List.mem_filter, mem_upTo, Bool.and_eq_true, decide_eq_true_eq, decide_eq_true_eq]
      constructor
      · intro h
        omega
      · intro h
        exact ⟨by omega, by omega, by omega⟩
    have egt : decide (((times (i : Int) (gaps [] l) : Nat) : Int) > 0) = decide (0 < times (i : Int) (gaps [] l)) := by rw [decide_eq_decide]; omega
    have hdl : (distancesOf l).length ≤ 61 := by
      unfold distancesOf
      have h2 := upTo_length (n := lastOf l) hp.2.2.2.2.1
      have := List.length_filter_le (fun d => decide (0 < times d (gaps [] l))) (upTo (lastOf l))
      omega
    have hml : (missingOf l).length ≤ 61 := by
      have := both_lengths hr
      omega
    rw [laws_FnRulersMeasure.L0_eq, if_pos (by omega), impl_TimesMeasured.F_val l _ (by omega), impl_MeasureWith.F_val l _ (by omega), et, em]
    simp only [Option.bind_some, if_true]
    rw [laws_jHas.F_val _ _ (by omega), laws_jHas.F_val _ _ (by omega), ed, emi, egt]
    simp only [Option.bind_some]
    rw [bne_self_eq_false, if_neg (by decide), em2]
    have hx : (decide (0 < times (i : Int) (gaps [] l)) == !decide (0 < times (i : Int) (gaps [] l))) = false := by cases decide (0 < times (i : Int) (gaps [] l)) <;> rfl
    rw [hx, if_neg (by decide), bne_self_eq_false, if_neg (by decide), hws, hw, ih]
    by_cases ht : 0 < times (i : Int) (gaps [] l)
    · obtain ⟨m1, m2, m3⟩ := measureIn_some l (by rw [em2]; exact decide_eq_true ht)
      have v1 := hp.2.2.2.2.2 _ m1
      have hwd : wrap64 ((measureIn l (i : Int) l).2.1 - (measureIn l (i : Int) l).1) = (i : Int) := by rw [m3, wrap_in (by omega) (by omega)]; omega
      rw [if_pos (decide_eq_true ht), if_pos hwd, laws_jHas.F_val _ _ (by omega), decide_eq_true m1]
      simp only [Option.bind_some, if_true]
      rw [laws_jHas.F_val _ _ (by omega), decide_eq_true m2]
      rfl
    · rw [if_neg (by rw [decide_eq_false ht]; decide)]
theorem sum_from_one {l : List Int} (hr : isRuler l = true) : 0 + sumTimes (gaps [] l) ((List.range' 1 (lastOf l).toNat).map fun k : Nat => (k : Int)) = (gaps [] l).length := by
  have := sum_upTo hr
  rw [upTo_cons (isRuler_parts hr).2.2.2.2.1, sumTimes, times_zero hr] at this
  exact this
theorem L0_start {l1 l : List Int} (h1 : DrawSt l1 0 0) (hr : isRuler l = true) : laws_FnRulersMeasure.L0 l1 l (distancesOf l) (lastOf l) (missingOf l) (freeOf l).1 (freeOf l).2 (l.length : Int) ((gaps [] l).length : Int) 0 1 = some true := by
  have h0 := (isRuler_parts hr).2.2.2.2.1
  have e : ((1 : Nat) : Int) + (((lastOf l).toNat : Nat) : Int) = lastOf l + 1 := by
    generalize lastOf l = n at h0 ⊢
    omega
  exact L0_val h1 hr (lastOf l).toNat 1 0 (Nat.le_refl 1) e (sum_from_one hr)
theorem len_le {l : List Int} (hr : isRuler l = true) : (distancesOf l).length ≤ 1000 ∧ (missingOf l).length ≤ 1000 ∧ (backOf l).length ≤ 1000 ∧ l.length ≤ 1000 := by
  have hp := isRuler_parts hr
  have h60 := hp.2.2.2.1
  have := both_lengths hr
  have hbl : (backOf l).length = l.length := by unfold backOf; simp
  omega
theorem idx_ok {l : List Int} (hr : isRuler l = true) : (0 : Int) ≤ (l.length : Int) - 1 ∧ (l.length : Int) - 1 < (l.length : Int) ∧ wrap64 ((l.length : Int) - 1) = (l.length : Int) - 1 ∧ wrap64 (((distancesOf l).length : Int) + (missingOf l).length) = lastOf l := by
  have hp := isRuler_parts hr
  have h60 := hp.2.2.2.1
  have hdm := both_lengths hr
  refine ⟨by omega, by omega, wrap_in (by omega) (by omega), ?_⟩
  rw [wrap_in (by omega) (by omega)]
  exact hdm
theorem diff_flag {l : List Int} (hr : isRuler l = true) : (isDiff l != (((distancesOf l).length : Int) == ((gaps [] l).length : Int))) = false := by
  have e : (((distancesOf l).length : Int) == ((gaps [] l).length : Int)) = isDiff l := by
    rw [diff_count hr, Bool.eq_iff_iff, beq_iff_eq, decide_eq_true_eq]
    omega
  rw [e, bne_self_eq_false]
theorem whole_flag (l : List Int) : (isWholeR l != (((missingOf l).length : Int) == 0)) = false := by
  have e : (((missingOf l).length : Int) == 0) = isWholeR l := by
    unfold isWholeR
    rw [Bool.eq_iff_iff, beq_iff_eq, decide_eq_true_eq, ← List.length_eq_zero_iff]
    omega
  rw [e, bne_self_eq_false]
set_option maxHeartbeats 2000000 in
theorem FnRulersMeasure : laws_FnRulersMeasure.Pure := by
  intro l0 l1 _ _ hw0 _ _ hw1
  refine Lim.rounds (laws_FnRulersMeasure.F_lim l0 l1) ?_
  rw [laws_FnRulersMeasure.F_eq, laws_big.f_val]
  simp only [Option.bind_some]
  by_cases hbig : 1048576 < l0.length ∨ 1048576 < l0.length + l1.length
  · rw [if_pos (decide_eq_true hbig)]
  rw [if_neg (by rw [decide_eq_false hbig]; decide)]
  have h0 := draw_start (l := l0) (by omega) hw0
  have h1 := draw_start (l := l1) (by omega) hw1
  obtain ⟨l, a1, z1, e1, hl, hs1⟩ := spec_l1Cur_ruler.ok 0 (by omega) h0
  have ed : spec_DrawDistancesOf.F l0 = some l := by
    rw [spec_DrawDistancesOf.F_eq, spec_DrawIsRuler.F_eq, e1]
    rfl
  have eis : spec_IsRuler.F l = some (isRuler l) := by
    rw [spec_IsRuler.F_eq, spec_ruGood.F_val l (by omega)]
    rfl
  have same : ∀ x : List Int, x.length ≤ 1000 → laws_jSame.F x x = some true := fun x hx => by
    rw [laws_jSame.F_val x x (by omega), decide_eq_true rfl]
  have v1 := impl_DistancesOf.F_val l (by omega)
  have v2 := spec_DistancesOf.F_val l (by omega)
  have v3 := impl_LengthOfRuler.F_val l (by omega)
  have v4 := spec_LengthOfRuler.F_val l (by omega)
  have v5 := impl_MissingDistances.F_val l (by omega)
  have v6 := spec_MissingDistances.F_val l (by omega)
  have v7 := impl_IsDifferent.F_val l (by omega)
  have v8 := spec_IsDifferent.F_val l (by omega)
  have v9 := impl_IsWhole.F_val l (by omega)
  have v10 := spec_IsWhole.F_val l (by omega)
  have v11 := impl_BackRuler.F_val l (by omega)
  have v12 := spec_BackRuler.F_val l (by omega)
  have v13 := impl_FreeMarks.F_val l (by omega)
  have v14 := spec_FreeMarks.F_val l (by omega)
  have v15 := impl_IsRuler.F_val l (by omega)
  by_cases hr : isRuler l = true
  · have hp := isRuler_parts hr
    have h60 := hp.2.2.2.1
    obtain ⟨hb1, hb2, hb3, hb4⟩ := back_ruler hr
    have hdm := both_lengths hr
    have hg := pairs_val (l := l) (by omega)
    have hfl : (freeOf l).1.length ≤ 1000 := by
      unfold freeOf
      split
      · have := freeFrom_len l 1 (lastOf l - 1).toNat
        simp only
        omega
      · simp
    have hbl : (backOf l).length = l.length := by unfold backOf; simp
    have hfree : (freeOf l).2 = isDiff l := by
      unfold freeOf
      by_cases hd : isDiff l = true
      · rw [if_pos ⟨hr, hd⟩, hd]
      · rw [if_neg (fun h => hd h.2), Bool.eq_false_iff.2 hd]
    rw [if_pos hr] at v1 v2 v3 v4 v5 v6 v7 v8 v9 v10 v11 v12
    rw [hr] at v15 eis
    rw [ed, Option.bind_some, v1, Option.bind_some, v2, Option.bind_some, v3, Option.bind_some, v4, Option.bind_some, v5, Option.bind_some, v6, Option.bind_some, v7, Option.bind_some, v8, Option.bind_some, v9, Option.bind_some, v10, Option.bind_some, v11, Option.bind_some, v12, Option.bind_some, v13, Option.bind_some, v14, Option.bind_some]
    dsimp only
    simp only [bne_self_eq_false, Bool.false_eq_true, if_false, if_true, same (distancesOf l) (len_le hr).1, same (missingOf l) (len_le hr).2.1, same (backOf l) (len_le hr).2.2.1, same _ hfl, v15, eis, Option.bind_some, hfree]
    obtain ⟨i1, i2, ew, ew2⟩ := idx_ok hr
    obtain ⟨k1, k2, k3, k4⟩ := len_le hr
    have hd1 := diff_flag hr
    have hw1' := whole_flag l
    have hL := L0_start h1 hr
    rw [hfree] at hL
    have hpair := hg.1
    rw [ew] at hpair
    have w1 := impl_DistancesOf.F_val (backOf l) (Nat.lt_of_le_of_lt k3 (by decide))
    have w2 := impl_BackRuler.F_val (backOf l) (Nat.lt_of_le_of_lt k3 (by decide))
    rw [if_pos hb1, hb3] at w1
    rw [if_pos hb1, hb4] at w2
    have sd := same (distancesOf l) k1
    have sl := same l k4
    clear hb1 hb2 hb3 hb4 hdm hg hfl hbl v1 v2 v3 v4 v5 v6 v7 v8 v9 v10 v11 v12 v13 v14 v15 eis
    rw [laws_FnRulersMeasure.J0_eq, if_neg (by decide), if_pos rfl, w1, Option.bind_some, w2, Option.bind_some, ew, if_pos i1, if_pos i2, if_pos (show lastOf l = rd l ((l.length : Int) - 1) from rfl)]
    dsimp only
    rw [if_pos rfl, sd, Option.bind_some, if_pos rfl, if_pos rfl, sl, Option.bind_some, if_pos rfl, ew2, if_pos rfl, hpair, hd1, if_neg (by decide), hw1', if_neg (by decide)]
    exact hL
  · have hrf : isRuler l = false := Bool.eq_false_iff.2 hr
    have hfree : freeOf l = ([], false) := by unfold freeOf; rw [if_neg (fun h => hr h.1)]
    rw [if_neg hr] at v1 v2 v3 v4 v5 v6 v7 v8 v9 v10 v11 v12
    rw [hrf] at v15 eis
    rw [hfree] at v13 v14
    have sn := same [] (by simp)
    rw [ed, Option.bind_some, v1, Option.bind_some, v2, Option.bind_some, v3, Option.bind_some, v4, Option.bind_some, v5, Option.bind_some, v6, Option.bind_some, v7, Option.bind_some, v8, Option.bind_some, v9, Option.bind_some, v10, Option.bind_some, v11, Option.bind_some, v12, Option.bind_some, v13, Option.bind_some, v14, Option.bind_some]
    dsimp only
    simp only [bne_self_eq_false, Bool.false_eq_true, if_false, if_true, sn, v15, eis, Option.bind_some]
    rw [laws_FnRulersMeasure.J0_eq, if_neg (by decide), if_neg (by decide)]
    exact J3_val h1
end Go.Proofs.Ytofjndbpndpjjaa.Pure
