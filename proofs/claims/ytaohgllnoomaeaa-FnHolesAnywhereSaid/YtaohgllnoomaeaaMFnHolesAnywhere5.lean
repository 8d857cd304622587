/- The machine's side and plain lemmas for FnHolesAnywhere: texts of this session, merged by its program (part 5). -/
import Derived.Test.YtaohgllnoomaeaaMFnHolesAnywhere0
import Derived.Test.YtaohgllnoomaeaaMFnHolesAnywhere1
import Derived.Test.YtaohgllnoomaeaaMFnHolesAnywhere2
import Derived.Test.YtaohgllnoomaeaaMFnHolesAnywhere3
import Derived.Test.YtaohgllnoomaeaaMFnHolesAnywhere4
namespace Go.Proofs.Ytaohgllnoomaeaa.Fn
open Go.RowKit Go.Proofs.YtaohgllnoomaeaaW.PrintWords Go.Proofs.YtaohgllnoomaeaaW.PrintLast Go.Proofs.YtaohgllnoomaeaaW.PrintMore
set_option linter.unusedVariables false
set_option linter.unusedSimpArgs false
/-- The input's bytes are bytes. -/
def BytesOk (l : List Int) : Prop := ∀ x ∈ l, 0 ≤ x ∧ x ≤ 255
theorem wrap_u64 (n : Int) : IntKind.u64.wrap n = n % 18446744073709551616 := by simp [IntKind.wrap, IntKind.bits, IntKind.signed]
theorem low_byte (x : Int) (h0 : 0 ≤ x) (h1 : x < 18446744073709551616) : Go.bits .and .u64 x 255 = x % 256 := by
  have := bits_mask .u64 64 (by decide) (fun n h0 h1 => by rw [wrap_u64]; omega) 8 (by decide) x h0 (by omega)
  simpa using this
theorem top_byte (n : Int) : ∃ b, wrap64 (Go.bits .and .u64 (IntKind.u64.wrap n / 1099511627776) 255) = b ∧ 0 ≤ b ∧ b ≤ 255 := by
  have h := wrap_u64 n
  generalize IntKind.u64.wrap n = m at *
  rw [low_byte _ (by omega) (by omega), wrap_in (by omega) (by omega)]
  exact ⟨_, rfl, by omega, by omega⟩
theorem spec_l1Cur_next.ok {l : List Int} (hl : BytesOk l) (hn : l.length < 4611686018427387904) (at_ seed : Int) (h0 : 0 ≤ at_) (h1 : at_ < 4611686018427387904) : ∃ b z, spec_l1Cur_next.f l at_ seed = some (b, at_ + 1, z) ∧ 0 ≤ b ∧ b ≤ 255 := by
  unfold spec_l1Cur_next.f
  rw [wrap_in (n := at_ + 1) (by omega) (by omega)]
  by_cases ha : at_ < (l.length : Int)
  · have hm : rd l at_ ∈ l := by
      obtain ⟨i, rfl⟩ : ∃ i : Nat, at_ = i := ⟨at_.toNat, by omega⟩
      rw [rd_nat l i (by omega)]
      exact List.getElem_mem _
    have hb := hl _ hm
    rw [if_pos ha, if_pos h0, if_pos (by omega), wrap_in (n := rd l at_) (by omega) (by omega)]
    exact ⟨_, _, rfl, hb.1, hb.2⟩
  · rw [if_neg ha]
    by_cases hb : at_ + 1 ≤ (l.length : Int)
    · rw [if_pos hb]
      exact ⟨_, _, rfl, by omega, by omega⟩
    · rw [if_neg hb]
      obtain ⟨b, e, h2, h3⟩ := top_byte (IntKind.u64.wrap (IntKind.u64.wrap (seed * 6364136223846793005)) + 1442695040888963407)
      exact ⟨b, _, by rw [e], h2, h3⟩
/-- The state of a draw: the input, and a place that is no greater than m. -/
structure DrawSt (l : List Int) (m at_ : Int) : Prop where
  bytes : BytesOk l
  len : l.length < 4611686018427387904
  at0 : 0 ≤ at_
  atm : at_ ≤ m
theorem DrawSt.more {l : List Int} {m m' a : Int} (h : DrawSt l m a) (hm : m ≤ m') : DrawSt l m' a := ⟨h.1, h.2, h.3, Int.le_trans h.4 hm⟩
theorem tmod_range {x n : Int} (hx : 0 ≤ x) (hn : 0 < n) : 0 ≤ Int.tmod x n ∧ Int.tmod x n < n := ⟨Int.tmod_nonneg n hx, Int.tmod_lt_of_pos x hn⟩
theorem spec_l1Cur_pick.ok {l : List Int} {m at_ : Int} (seed n : Int) (h : DrawSt l m at_) (hm : m ≤ 4000000000000000000) : ∃ r a z, spec_l1Cur_pick.f l at_ seed n = some (r, a, z) ∧ 0 ≤ r ∧ (r < n ∨ r = 0) ∧ DrawSt l (m + 2) a := by
  obtain ⟨hl, hn, h0, h1⟩ := h
  unfold spec_l1Cur_pick.f
  by_cases hn1 : n ≤ 1
  · rw [if_pos hn1]
    exact ⟨0, _, _, rfl, by omega, .inr rfl, hl, hn, h0, by omega⟩
  · rw [if_neg hn1]
    obtain ⟨b, z, e, b0, b1⟩ := spec_l1Cur_next.ok hl hn at_ seed h0 (by omega)
    rw [e]
    simp only [Option.bind_some]
    by_cases hn2 : n > 200
    · rw [if_pos hn2]
      obtain ⟨b', z', e', b0', b1'⟩ := spec_l1Cur_next.ok hl hn (at_ + 1) z (by omega) (by omega)
      rw [e']
      simp only [Option.bind_some]
      rw [if_neg (by omega), wrap_in (n := b * 256) (by omega) (by omega), wrap_in (n := b * 256 + b') (by omega) (by omega)]
      have := tmod_range (x := b * 256 + b') (n := n) (by omega) (by omega)
      exact ⟨_, _, _, rfl, this.1, .inl this.2, hl, hn, by omega, by omega⟩
    · rw [if_neg hn2, if_neg (by omega)]
      have := tmod_range (x := b) (n := n) b0 (by omega)
      exact ⟨_, _, _, rfl, this.1, .inl this.2, hl, hn, by omega, by omega⟩
theorem spec_l1Cur_one.ok {l : List Int} {m at_ : Int} (seed n : Int) (h : DrawSt l m at_) (hm : m ≤ 4000000000000000000) : ∃ r a z, spec_l1Cur_one.f l at_ seed n = some (r, a, z) ∧ DrawSt l (m + 2) a := by
  obtain ⟨r, a, z, e, _, _, hs⟩ := spec_l1Cur_pick.ok seed n h hm
  exact ⟨r == 0, a, z, by unfold spec_l1Cur_one.f; rw [e]; rfl, hs⟩
theorem spec_l1Cur_among.ok {l : List Int} {m at_ : Int} (seed : Int) (xs : List Int) (hx : 0 < xs.length) (h : DrawSt l m at_) (hm : m ≤ 4000000000000000000) : ∃ r a z, spec_l1Cur_among.f l at_ seed xs = some (r, a, z) ∧ r ∈ xs ∧ DrawSt l (m + 2) a := by
  obtain ⟨r, a, z, e, h0, h1, hs⟩ := spec_l1Cur_pick.ok seed (xs.length : Int) h hm
  have hr : r < (xs.length : Int) := by omega
  have hmem : rd xs r ∈ xs := by
    obtain ⟨i, rfl⟩ : ∃ i : Nat, r = i := ⟨r.toNat, by omega⟩
    rw [rd_nat xs i (by omega)]
    exact List.getElem_mem _
  exact ⟨rd xs r, a, z, by unfold spec_l1Cur_among.f; rw [e]; simp only [Option.bind_some]; rw [if_pos h0, if_pos hr], hmem, hs⟩
theorem spec_l1Cur_many.ok {l : List Int} {m at_ : Int} (seed : Int) (h : DrawSt l m at_) (hm : m ≤ 3000000000000000000) : ∃ r a z, spec_l1Cur_many.f l at_ seed = some (r, a, z) ∧ -1 ≤ r ∧ r ≤ 4611686018427387904 ∧ DrawSt l (m + 4) a := by
  unfold spec_l1Cur_many.f
  obtain ⟨b, a, z, e, hs⟩ := spec_l1Cur_one.ok seed 10 h (by omega)
  rw [e]
  simp only [Option.bind_some]
  cases b with
  | true =>
    rw [if_pos rfl]
    obtain ⟨r, a', z', e', hr, hs'⟩ := spec_l1Cur_among.ok z ([(-1), 0, 20, 21, 4611686018427387904] : List Int) (by decide) hs (by omega)
    rw [e']
    simp only [List.mem_cons, List.not_mem_nil, or_false] at hr
    exact ⟨r, a', z', rfl, by omega, by omega, hs'.more (by omega)⟩
  | false =>
    rw [if_neg (by decide)]
    obtain ⟨r, a', z', e', h0, h1, hs'⟩ := spec_l1Cur_pick.ok z 20 hs (by omega)
    rw [e']
    simp only [Option.bind_some]
    rw [wrap_in (n := 1 + r) (by omega) (by omega)]
    exact ⟨_, _, _, rfl, by omega, by omega, hs'.more (by omega)⟩
theorem laws_big.f_val (a b : List Int) : laws_big.f a b = some (decide (1048576 < a.length ∨ 1048576 < a.length + b.length)) := by
  unfold laws_big.f
  by_cases h : (a.length : Int) > 1048576
  · rw [if_pos h, decide_eq_true (by omega)]
  · rw [if_neg h, wrap_in (by omega) (by omega)]
    by_cases h2 : (b.length : Int) > 1048576 - (a.length : Int)
    · rw [decide_eq_true h2, decide_eq_true (by omega)]
    · rw [decide_eq_false h2, decide_eq_false (by omega)]
/-- An input of bytes, as a draw begins. -/
theorem draw_start {l : List Int} (h : l.length ≤ 1048576) (hw : ∀ x ∈ l, (Lit.int .u8 x).wf = true) : DrawSt l 0 0 := by
  refine ⟨fun x hx => ?_, by omega, by omega, by omega⟩
  have := hw x hx
  simp [Lit.wf] at this
  have h1 : IntKind.u8.min = 0 := by decide
  have h2 : IntKind.u8.max = 255 := by decide
  rw [h1, h2] at this
  omega
end Go.Proofs.Ytaohgllnoomaeaa.Fn
namespace Go.Proofs.Ytaohgllnoomaeaa.Fn
open Go.RowKit Go.Proofs.YtaohgllnoomaeaaW.PrintWords Go.Proofs.YtaohgllnoomaeaaW.PrintLast Go.Proofs.YtaohgllnoomaeaaW.PrintMore
set_option linter.unusedVariables false
set_option linter.unusedSimpArgs false
def lessOf : List Int → List Int → Bool
  | [], [] => false
  | [], _ :: _ => true
  | _ :: _, [] => false
  | x :: a, y :: b => if x = y then lessOf a b else decide (x < y)
theorem wrap_up {n i : Nat} (h : i < n) (hn : n < 4611686018427387904) : wrap64 ((i : Int) + 1) = ((i + 1 : Nat) : Int) := by
  rw [wrap_in (by omega) (by omega)]
  rfl
theorem laws_jSame.L0_val (a b : List Int) (hl : a.length = b.length) (h : a.length < 4611686018427387904) : ∀ (m i : Nat), i + m = a.length → laws_jSame.L0 a b (a.length : Int) (i : Int) = some (decide (a.drop i = b.drop i))
  | 0, i, hm => by
    rw [laws_jSame.L0_eq, if_neg (by omega), List.drop_of_length_le (by omega), List.drop_of_length_le (by omega)]
    rfl
  | m + 1, i, hm => by
    rw [laws_jSame.L0_eq, if_pos (by omega), if_pos (by omega), if_pos (by omega), if_pos (by omega), rd_nat a i (by omega), rd_nat b i (by omega), wrap_up (n := a.length) (by omega) h, laws_jSame.L0_val a b hl h m (i + 1) (by omega), List.drop_eq_getElem_cons (l := a) (i := i) (by omega), List.drop_eq_getElem_cons (l := b) (i := i) (by omega)]
    by_cases e : a[i]'(by omega) = b[i]'(by omega)
    · rw [if_pos e]
      congr 1
      rw [decide_eq_decide, e]
      exact ⟨fun h => by rw [h], fun h => (List.cons.inj h).2⟩
    · rw [if_neg e, decide_eq_false (fun h => e (List.cons.inj h).1)]
theorem laws_jSame.F_val (a b : List Int) (h : a.length < 4611686018427387904) : laws_jSame.F a b = some (decide (a = b)) := by
  rw [laws_jSame.F_eq]
  by_cases e : a.length = b.length
  · rw [if_pos (by omega)]
    have := laws_jSame.L0_val a b e h a.length 0 (by omega)
    simpa using this
  · rw [if_neg (by omega), decide_eq_false (fun hab => e (by rw [hab]))]
theorem laws_jRows.L0_val (a b : List (List Int)) (hl : a.length = b.length) (h : a.length < 4611686018427387904) (hx : ∀ x ∈ a, x.length < 4611686018427387904) : ∀ (m i : Nat), i + m = a.length → laws_jRows.L0 a b (a.length : Int) (i : Int) = some (decide (a.drop i = b.drop i))
  | 0, i, hm => by
    rw [laws_jRows.L0_eq, if_neg (by omega), List.drop_of_length_le (by omega), List.drop_of_length_le (by omega)]
    rfl
  | m + 1, i, hm => by
    have ea : rd_L2 a (i : Int) = a[i]'(by omega) := by unfold rd_L2; rw [Int.toNat_natCast, List.getD_eq_getElem?_getD, List.getElem?_eq_getElem (by omega)]; rfl
    have eb : rd_L2 b (i : Int) = b[i]'(by omega) := by unfold rd_L2; rw [Int.toNat_natCast, List.getD_eq_getElem?_getD, List.getElem?_eq_getElem (by omega)]; rfl
    rw [laws_jRows.L0_eq, if_pos (by omega), if_pos (by omega), if_pos (by omega), if_pos (by omega), ea, eb, laws_jSame.F_val _ _ (hx _ (List.getElem_mem _)), wrap_up (n := a.length) (by omega) h, laws_jRows.L0_val a b hl h hx m (i + 1) (by omega), List.drop_eq_getElem_cons (l := a) (i := i) (by omega), List.drop_eq_getElem_cons (l := b) (i := i) (by omega)]
    simp only [Option.bind_some]
    by_cases e : a[i]'(by omega) = b[i]'(by omega)
    · rw [if_pos (by simp [e])]
      congr 1
      rw [decide_eq_decide, e]
      exact ⟨fun h => by rw [h], fun h => (List.cons.inj h).2⟩
    · rw [if_neg (by simp [e]), decide_eq_false (fun h => e (List.cons.inj h).1)]
theorem laws_jRows.F_val (a b : List (List Int)) (h : a.length < 4611686018427387904) (hx : ∀ x ∈ a, x.length < 4611686018427387904) : laws_jRows.F a b = some (decide (a = b)) := by
  rw [laws_jRows.F_eq]
  by_cases e : a.length = b.length
  · rw [if_pos (by omega)]
    have := laws_jRows.L0_val a b e h hx a.length 0 (by omega)
    simpa using this
  · rw [if_neg (by omega), decide_eq_false (fun hab => e (by rw [hab]))]
theorem laws_jLess.L0_val (a b : List Int) (h : a.length < 4611686018427387904) : ∀ (m i : Nat), i + m = a.length → i ≤ b.length → laws_jLess.L0 a b (i : Int) = some (lessOf (a.drop i) (b.drop i))
  | 0, i, hm, hb => by
    rw [laws_jLess.L0_eq, if_neg (by omega), laws_jLess.J1_eq, if_neg (by decide), List.drop_of_length_le (l := a) (by omega)]
    by_cases e : i < b.length
    · rw [List.drop_eq_getElem_cons (l := b) (i := i) e, lessOf, decide_eq_true (by omega)]
    · rw [List.drop_of_length_le (l := b) (by omega), lessOf, decide_eq_false (by omega)]
  | m + 1, i, hm, hb => by
    rw [laws_jLess.L0_eq, if_pos (by omega), laws_jLess.J1_eq, List.drop_eq_getElem_cons (l := a) (i := i) (by omega)]
    by_cases e : i < b.length
    · rw [if_pos (by simpa using e), if_pos (by omega), if_pos (by omega), if_pos (by omega), rd_nat a i (by omega), rd_nat b i e, List.drop_eq_getElem_cons (l := b) (i := i) e, lessOf, wrap_up (n := a.length) (by omega) h, laws_jLess.L0_val a b h m (i + 1) (by omega) (by omega)]
      by_cases e2 : a[i]'(by omega) = b[i]
      · rw [if_pos e2, if_pos e2]
      · rw [if_neg e2, if_neg e2]
    · rw [if_neg (by simpa using e), List.drop_of_length_le (l := b) (by omega), lessOf, decide_eq_false (by omega)]
theorem laws_jLess.F_val (a b : List Int) (h : a.length < 4611686018427387904) : laws_jLess.F a b = some (lessOf a b) := by
  rw [laws_jLess.F_eq]
  have := laws_jLess.L0_val a b h a.length 0 (by omega) (by omega)
  simpa using this
end Go.Proofs.Ytaohgllnoomaeaa.Fn
namespace Go.Proofs.Ytaohgllnoomaeaa.Fn
open Go.RowKit Go.Proofs.YtaohgllnoomaeaaW.PrintWords Go.Proofs.YtaohgllnoomaeaaW.PrintLast Go.Proofs.YtaohgllnoomaeaaW.PrintMore
set_option linter.unusedVariables false
set_option linter.unusedSimpArgs false
theorem lessOf_lex : ∀ (x y : List Int), LexLt x y → lessOf x y = true
  | [], y, ⟨i, _, _, h, _⟩ => by simp at h
  | _ :: _, [], ⟨i, _, _, _, h⟩ => by simp at h
  | a :: x, b :: y, ⟨i, h1, h2, h3, h4⟩ => by
    have r0 : ∀ (c : Int) (l : List Int), rd (c :: l) 0 = c := fun c l => rfl
    have rs : ∀ (c : Int) (l : List Int) (j : Nat), rd (c :: l) ((j + 1 : Nat) : Int) = rd l (j : Int) := fun c l j => by
      unfold rd
      rw [Int.toNat_natCast, Int.toNat_natCast]
      rfl
    cases i with
    | zero =>
      have h2' : a < b := h2
      rw [lessOf, if_neg (by omega), decide_eq_true h2']
    | succ i =>
      have e : a = b := h1 0 (by omega)
      rw [lessOf, if_pos e]
      refine lessOf_lex x y ⟨i, fun j hj => ?_, ?_, by simpa using h3, by simpa using h4⟩
      · have := h1 (j + 1) (by omega)
        rw [rs, rs] at this
        exact this
      · rw [rs, rs] at h2
        exact h2
theorem skolem_kind (n : Nat) (h1 : 1 ≤ n) (h2 : n ≤ 9) : KindFit (2 * n) n 1 0 (-1) := ⟨skolem_fit n h1, by omega, by omega, by omega, by omega, by omega, by omega⟩
theorem hooked_kind (n : Nat) (h1 : 1 ≤ n) (h2 : n ≤ 9) : KindFit (2 * n + 1) n 1 0 (2 * (n : Int) - 1) := ⟨hooked_fit n h1, by omega, by omega, by omega, by omega, by omega, by omega⟩
theorem langford_kind (n : Nat) (d : Int) (h1 : 1 ≤ n) (h2 : n ≤ 9) (h3 : 1 ≤ d) (h4 : d + n ≤ 20) : KindFit (2 * n) n d 1 (-1) := ⟨langford_fit n h1, by omega, by omega, by omega, by omega, by omega, by omega⟩
theorem len_pos {l : List (List Int)} {x : List Int} (h : x ∈ l) : 0 < l.length := List.length_pos_of_mem h
theorem some_row {l : List (List Int)} (h : 0 < l.length) : ∃ x, x ∈ l := by
  cases l with
  | nil => simp at h
  | cons x l => exact ⟨x, by simp⟩
theorem skolem_parity {n : Nat} {x : List Int} (h : RowOk (2 * n) n 1 0 (-1) x) : n % 4 ≤ 1 := by
  have := h.parity (by omega)
  rw [if_neg (by omega)] at this
  have h1 := tri_even n
  have h2 := tri_even (2 * n)
  omega
theorem skolem_there (n : Nat) (h1 : 1 ≤ n) (h2 : n ≤ 8) : (0 < (skolemRows n).length) ↔ n % 4 ≤ 1 := by
  have k := fun (m : Nat) (h1 : 1 ≤ m) (h2 : m ≤ 9) => skolem_kind m h1 h2
  constructor
  · intro h
    obtain ⟨x, hx⟩ := some_row h
    exact skolem_parity ((rowsOf_ok (k n h1 (by omega)) x).1 hx)
  · intro h
    rcases (by omega : n = 1 ∨ n = 4 ∨ n = 5 ∨ n = 8) with rfl | rfl | rfl | rfl
    · exact len_pos ((rowsOf_ok (k 1 (by omega) (by omega)) [1, 1]).2 (rowOk_iff.1 (by decide +kernel)))
    · exact len_pos ((rowsOf_ok (k 4 (by omega) (by omega)) [1, 1, 3, 4, 2, 3, 2, 4]).2 (rowOk_iff.1 (by decide +kernel)))
    · exact len_pos ((rowsOf_ok (k 5 (by omega) (by omega)) [1, 1, 3, 4, 5, 3, 2, 4, 2, 5]).2 (rowOk_iff.1 (by decide +kernel)))
    · exact len_pos ((rowsOf_ok (k 8 (by omega) (by omega)) [1, 1, 2, 5, 2, 6, 7, 8, 5, 3, 4, 6, 3, 7, 4, 8]).2 (rowOk_iff.1 (by decide +kernel)))
theorem hooked_parity {n : Nat} {x : List Int} (hn : 1 ≤ n) (h : RowOk (2 * n + 1) n 1 0 (2 * (n : Int) - 1) x) : 2 ≤ n % 4 := by
  have := h.parity (by omega)
  rw [if_pos (by omega)] at this
  have h1 := tri_even n
  have h2 := tri_even (2 * n + 1)
  omega
theorem hooked_there (n : Nat) (h1 : 1 ≤ n) (h2 : n ≤ 7) : (0 < (hookedRows n).length) ↔ 2 ≤ n % 4 := by
  have k := fun (m : Nat) (h1 : 1 ≤ m) (h2 : m ≤ 9) => hooked_kind m h1 h2
  constructor
  · intro h
    obtain ⟨x, hx⟩ := some_row h
    exact hooked_parity h1 ((rowsOf_ok (k n h1 (by omega)) x).1 hx)
  · intro h
    rcases (by omega : n = 2 ∨ n = 3 ∨ n = 6 ∨ n = 7) with rfl | rfl | rfl | rfl
    · exact len_pos ((rowsOf_ok (k 2 (by omega) (by omega)) [1, 1, 2, 0, 2]).2 (rowOk_iff.1 (by decide +kernel)))
    · exact len_pos ((rowsOf_ok (k 3 (by omega) (by omega)) [1, 1, 2, 3, 2, 0, 3]).2 (rowOk_iff.1 (by decide +kernel)))
    · exact len_pos ((rowsOf_ok (k 6 (by omega) (by omega)) [1, 1, 2, 5, 2, 4, 6, 3, 5, 4, 3, 0, 6]).2 (rowOk_iff.1 (by decide +kernel)))
    · exact len_pos ((rowsOf_ok (k 7 (by omega) (by omega)) [1, 1, 2, 5, 2, 6, 4, 7, 5, 3, 4, 6, 3, 0, 7]).2 (rowOk_iff.1 (by decide +kernel)))
/-- What is found is a Skolem row. -/
theorem RowOk.count0 {p N : Nat} {from_ s hole : Int} {r : List Int} (h : RowOk p N from_ s hole r) : r.count 0 = if 0 ≤ hole then 1 else 0 := by
  rw [← placesOf_count, h.holes]
  split <;> rfl
theorem RowOk.skolem {p N : Nat} {r : List Int} (h : RowOk p N 1 0 (-1) r) : skolemOf r = (N : Int) := by
  have h0 := h.count0
  rw [skolemOf_yes h.pairs h.fits (by rw [h0, if_neg (by omega)]), h.nums, if_pos (fromOf_up 1 N), numbersUp_len]
theorem RowOk.oneHole {p N : Nat} {hole : Int} {r : List Int} (hh : 0 ≤ hole) (h : RowOk p N 1 0 hole r) : oneHole r = true := by
  unfold Fn.oneHole
  rw [h.pairs, h.fits, h.holes, if_pos hh]
  rfl
theorem RowOk.extended {p N : Nat} {hole : Int} {r : List Int} (hh : 0 ≤ hole) (h : RowOk p N 1 0 hole r) : extendedOf r = ((N : Int), hole) := by
  unfold extendedOf orderOf
  rw [if_pos (h.oneHole hh), h.nums, if_pos (fromOf_up 1 N), numbersUp_len, h.holes, if_pos hh]
  rfl
theorem RowOk.hooked {N : Nat} {r : List Int} (hN : 1 ≤ N) (h : RowOk (2 * N + 1) N 1 0 (2 * (N : Int) - 1) r) : hookedOf r = (N : Int) := by
  unfold hookedOf
  rw [h.extended (by omega), if_pos]
  show 2 * (N : Int) - 1 = (r.length : Int) - 2
  rw [h.len]
  omega
def isSkolem (l : List Int) : Bool × Bool := if isPairs l = true then (decide (skolemOf l > 0), true) else (false, false)
theorem impl_IsSkolem.F_val (l : List Int) (h : l.length < 17592186044416) : impl_IsSkolem.F l = some (isSkolem l) := by
  rw [impl_IsSkolem.F_eq, impl_isPairs.F_val l (by omega)]
  simp only [Option.bind_some, impl_skolem.F_val l h]
  unfold isSkolem
  by_cases h1 : isPairs l = true
  · rw [if_pos h1, if_pos h1]
  · rw [if_neg h1, if_neg h1]
def numberOk (n : Int) : Bool := decide (1 ≤ n ∧ n ≤ 20)
theorem impl_isNumber.f_val (n : Int) : impl_isNumber.f n = some (numberOk n) := by
  unfold impl_isNumber.f numberOk
  by_cases h1 : n ≥ 1 <;> by_cases h2 : n ≤ 20 <;> simp [h1, h2] <;> omega
def skolemThere (n : Int) : Bool × Bool := if numberOk n = true then (decide (Int.tmod n 4 ≤ 1), true) else (false, false)
theorem impl_IsSkolemThere.f_val (n : Int) : impl_IsSkolemThere.f n = some (skolemThere n) := by
  unfold impl_IsSkolemThere.f skolemThere
  rw [impl_isNumber.f_val]
  simp only [Option.bind_some]
  split <;> rfl
end Go.Proofs.Ytaohgllnoomaeaa.Fn
namespace Go.Proofs.Ytaohgllnoomaeaa.Fn
open Go.RowKit Go.Proofs.YtaohgllnoomaeaaW.PrintWords Go.Proofs.YtaohgllnoomaeaaW.PrintLast Go.Proofs.YtaohgllnoomaeaaW.PrintMore
set_option linter.unusedVariables false
set_option linter.unusedSimpArgs false
theorem extRows_eq (n hole : Int) : extRows n hole = rowsOf (2 * n.toNat + 1) n.toNat 1 0 hole := rfl
theorem ext_fit (n : Nat) (hole : Int) (h0 : 0 ≤ hole) (h1 : hole ≤ 2 * n) : PlacesFit (2 * n + 1) n hole := by
  refine ⟨by omega, ?_⟩
  rw [if_pos h0]
  omega
theorem ext_kind (n : Nat) (hole : Int) (hn : 1 ≤ n ∧ n ≤ 9) (h0 : 0 ≤ hole) (h1 : hole ≤ 2 * n) : KindFit (2 * n + 1) n 1 0 hole := ⟨ext_fit n hole h0 h1, by omega, by omega, by omega, by omega, by omega, by omega⟩
theorem ext_parity {n : Nat} {hole : Int} {x : List Int} (h0 : 0 ≤ hole) (h : RowOk (2 * n + 1) n 1 0 hole x) : hole % 2 = 0 ↔ n % 4 ≤ 1 := by
  have := h.parity (by omega)
  rw [if_pos h0] at this
  have h1 := tri_even n
  have h2 := tri_even (2 * n + 1)
  omega
/-- One row for each n and hole. -/
def extSome : Nat → Nat → List Int
  | 1, 0 => [0, 1, 1]
  | 1, 2 => [1, 1, 0]
  | 2, 1 => [2, 0, 2, 1, 1]
  | 2, 3 => [1, 1, 2, 0, 2]
  | 3, 1 => [2, 0, 2, 3, 1, 1, 3]
  | 3, 3 => [1, 1, 3, 0, 2, 3, 2]
  | 3, 5 => [1, 1, 2, 3, 2, 0, 3]
  | 4, 0 => [0, 1, 1, 3, 4, 2, 3, 2, 4]
  | 4, 2 => [1, 1, 0, 3, 4, 2, 3, 2, 4]
  | 4, 4 => [1, 1, 3, 4, 0, 3, 2, 4, 2]
  | 4, 6 => [1, 1, 2, 4, 2, 3, 0, 4, 3]
  | 4, 8 => [1, 1, 3, 4, 2, 3, 2, 4, 0]
  | 5, 0 => [0, 1, 1, 3, 4, 5, 3, 2, 4, 2, 5]
  | 5, 2 => [1, 1, 0, 3, 4, 5, 3, 2, 4, 2, 5]
  | 5, 4 => [1, 1, 3, 5, 0, 3, 4, 2, 5, 2, 4]
  | 5, 6 => [1, 1, 2, 5, 2, 4, 0, 3, 5, 4, 3]
  | 5, 8 => [1, 1, 2, 4, 2, 5, 3, 4, 0, 3, 5]
  | 5, 10 => [1, 1, 3, 4, 5, 3, 2, 4, 2, 5, 0]
  | 6, 1 => [2, 0, 2, 3, 4, 6, 3, 5, 4, 1, 1, 6, 5]
  | 6, 3 => [1, 1, 3, 0, 5, 3, 6, 4, 2, 5, 2, 4, 6]
  | 6, 5 => [1, 1, 2, 6, 2, 0, 4, 5, 3, 6, 4, 3, 5]
  | 6, 7 => [1, 1, 2, 5, 2, 6, 4, 0, 5, 3, 4, 6, 3]
  | 6, 9 => [1, 1, 2, 4, 2, 5, 6, 4, 3, 0, 5, 3, 6]
  | 6, 11 => [1, 1, 2, 5, 2, 4, 6, 3, 5, 4, 3, 0, 6]
  | _, _ => []
theorem ext_some1 : ∀ h : Nat, h ≤ 2 → (h % 2 = 0 ↔ 1 % 4 ≤ 1) → rowOk (2 * 1 + 1) 1 1 0 (h : Int) (extSome 1 h) = true := by
  intro h h1 h2
  rcases (by omega : h = 0 ∨ h = 2) with rfl | rfl
  all_goals decide +kernel
theorem ext_some2 : ∀ h : Nat, h ≤ 4 → (h % 2 = 0 ↔ 2 % 4 ≤ 1) → rowOk (2 * 2 + 1) 2 1 0 (h : Int) (extSome 2 h) = true := by
  intro h h1 h2
  rcases (by omega : h = 1 ∨ h = 3) with rfl | rfl
  all_goals decide +kernel
theorem ext_some3 : ∀ h : Nat, h ≤ 6 → (h % 2 = 0 ↔ 3 % 4 ≤ 1) → rowOk (2 * 3 + 1) 3 1 0 (h : Int) (extSome 3 h) = true := by
  intro h h1 h2
  rcases (by omega : h = 1 ∨ h = 3 ∨ h = 5) with rfl | rfl | rfl
  all_goals decide +kernel
theorem ext_some4 : ∀ h : Nat, h ≤ 8 → (h % 2 = 0 ↔ 4 % 4 ≤ 1) → rowOk (2 * 4 + 1) 4 1 0 (h : Int) (extSome 4 h) = true := by
  intro h h1 h2
  rcases (by omega : h = 0 ∨ h = 2 ∨ h = 4 ∨ h = 6 ∨ h = 8) with rfl | rfl | rfl | rfl | rfl
  all_goals decide +kernel
theorem ext_some5 : ∀ h : Nat, h ≤ 10 → (h % 2 = 0 ↔ 5 % 4 ≤ 1) → rowOk (2 * 5 + 1) 5 1 0 (h : Int) (extSome 5 h) = true := by
  intro h h1 h2
  rcases (by omega : h = 0 ∨ h = 2 ∨ h = 4 ∨ h = 6 ∨ h = 8 ∨ h = 10) with rfl | rfl | rfl | rfl | rfl | rfl
  all_goals decide +kernel
theorem ext_some6 : ∀ h : Nat, h ≤ 12 → (h % 2 = 0 ↔ 6 % 4 ≤ 1) → rowOk (2 * 6 + 1) 6 1 0 (h : Int) (extSome 6 h) = true := by
  intro h h1 h2
  rcases (by omega : h = 1 ∨ h = 3 ∨ h = 5 ∨ h = 7 ∨ h = 9 ∨ h = 11) with rfl | rfl | rfl | rfl | rfl | rfl
  all_goals decide +kernel
theorem ext_there (n : Nat) (h1 : 1 ≤ n) (h2 : n ≤ 6) (hole : Int) (h3 : 0 ≤ hole) (h4 : hole ≤ 2 * n) : (0 < (extRows (n : Int) hole).length) ↔ (hole % 2 = 0 ↔ n % 4 ≤ 1) := by
  rw [extRows_eq, Int.toNat_natCast]
  constructor
  · intro h
    obtain ⟨x, hx⟩ := some_row h
    exact ext_parity h3 ((rowsOf_ok (ext_kind n hole (by omega) h3 h4) x).1 hx)
  · intro h
    obtain ⟨k, rfl⟩ : ∃ k : Nat, hole = (k : Int) := ⟨hole.toNat, by omega⟩
    have hk : k % 2 = 0 ↔ n % 4 ≤ 1 := by omega
    refine len_pos ((rowsOf_ok (ext_kind n k (by omega) h3 h4) (extSome n k)).2 (rowOk_iff.1 ?_))
    rcases (by omega : n = 1 ∨ n = 2 ∨ n = 3 ∨ n = 4 ∨ n = 5 ∨ n = 6) with rfl | rfl | rfl | rfl | rfl | rfl
    · exact ext_some1 k (by omega) hk
    · exact ext_some2 k (by omega) hk
    · exact ext_some3 k (by omega) hk
    · exact ext_some4 k (by omega) hk
    · exact ext_some5 k (by omega) hk
    · exact ext_some6 k (by omega) hk
end Go.Proofs.Ytaohgllnoomaeaa.Fn
namespace Go.Proofs.Ytaohgllnoomaeaa.Fn
open Go.RowKit Go.Proofs.YtaohgllnoomaeaaW.PrintWords Go.Proofs.YtaohgllnoomaeaaW.PrintLast Go.Proofs.YtaohgllnoomaeaaW.PrintMore
set_option linter.unusedVariables false
set_option linter.unusedSimpArgs false
theorem spec_l1Cur_surePairs.L0_ok {l : List Int} (s : Int) (hs : 0 ≤ s ∧ s ≤ 1) : ∀ (c : Nat) (row : List Int) (m at_ seed : Int), c ≤ 10 → row.length ≤ 100 → m + 8 * c ≤ 1000000 → DrawSt l m at_ → ∃ r a z, spec_l1Cur_surePairs.L0 s row (c : Int) l at_ seed = some (r, a, z) ∧ r.length = row.length ∧ DrawSt l (m + 8 * c) a
  | 0, row, m, at_, seed, _, _, _, h => by
    rw [spec_l1Cur_surePairs.L0_eq, if_neg (by omega)]
    exact ⟨row, at_, seed, rfl, rfl, h.more (by omega)⟩
  | c + 1, row, m, at_, seed, hc, hr, hm, h => by
    obtain ⟨p, a1, z1, e1, p0, p1, h1⟩ := spec_l1Cur_pick.ok seed 8 h (by omega)
    have ec : wrap64 (((c + 1 : Nat) : Int) - 1) = (c : Int) := by rw [wrap_in (by omega) (by omega)]; omega
    have again : ∀ (row' : List Int) (m' a z : Int), row'.length = row.length → m' ≤ m + 8 → DrawSt l m' a → ∃ r a' z', spec_l1Cur_surePairs.L0 s row' (wrap64 (((c + 1 : Nat) : Int) - 1)) l a z = some (r, a', z') ∧ r.length = row.length ∧ DrawSt l (m + 8 * ((c + 1 : Nat) : Int)) a' := fun row' m' a z e hm' hd => by
      rw [ec]
      obtain ⟨r, a', z', e', l', d'⟩ := spec_l1Cur_surePairs.L0_ok s hs c row' (m + 8) a z (by omega) (by omega) (by omega) (hd.more hm')
      exact ⟨r, a', z', e', l'.trans e, d'.more (by omega)⟩
    rw [spec_l1Cur_surePairs.L0_eq, if_pos (by omega), e1]
    simp only [Option.bind_some]
    rw [wrap_in (n := 1 + p) (by omega) (by omega), spec_l1Has.F_val _ _ (by omega)]
    simp only [Option.bind_some]
    by_cases hmem : decide ((1 + p) ∈ row) = true
    · rw [if_pos hmem, spec_l1Cur_surePairs.J1_eq, if_pos rfl]
      exact again row (m + 2) a1 z1 rfl (by omega) h1
    · rw [if_neg hmem, spec_l1Cur_surePairs.J1_eq]
      rw [wrap_in (n := 1 + p + s) (by omega) (by omega), wrap_in (n := 1 + p + s + 1) (by omega) (by omega)]
      by_cases hlen : (row.length : Int) < 1 + p + s + 1
      · rw [if_pos (decide_eq_true hlen)]
        exact again row (m + 2) a1 z1 rfl (by omega) h1
      · rw [if_neg (by rw [decide_eq_false hlen]; decide), wrap_in (n := (row.length : Int) - (1 + p)) (by omega) (by omega), wrap_in (n := (row.length : Int) - (1 + p) - s) (by omega) (by omega)]
        obtain ⟨i, a2, z2, e2, i0, i1, h2⟩ := spec_l1Cur_pick.ok z1 ((row.length : Int) - (1 + p) - s) h1 (by omega)
        rw [e2]
        simp only [Option.bind_some]
        obtain ⟨b, a3, z3, e3, h3⟩ := spec_l1Cur_one.ok z2 12 h2 (by omega)
        rw [e3]
        simp only [Option.bind_some]
        rw [wrap_in (n := i + (1 + p)) (by omega) (by omega), wrap_in (n := i + (1 + p) + s) (by omega) (by omega)]
        have hi : i < (row.length : Int) := by omega
        have hj : i + (1 + p) + s < (row.length : Int) := by omega
        cases b with
        | true =>
          obtain ⟨j, a4, z4, e4, j0, j1, h4⟩ := spec_l1Cur_pick.ok z3 (row.length : Int) h3 (by omega)
          have hj' : j < (row.length : Int) := by omega
          rw [if_pos rfl, e4]
          simp only [Option.bind_some]
          by_cases hij : i = j
          · rw [if_pos hij]
            exact again row _ a4 z4 rfl (by omega) h4
          · rw [if_neg hij, if_pos i0, if_pos hi]
            by_cases z0 : rd row i = 0
            · rw [if_pos z0, if_pos j0, if_pos hj']
              by_cases z1 : rd row j = 0
              · rw [if_pos z1]
                exact again _ _ a4 z4 (by simp) (by omega) h4
              · rw [if_neg z1]
                exact again row _ a4 z4 rfl (by omega) h4
            · rw [if_neg z0]
              exact again row _ a4 z4 rfl (by omega) h4
        | false =>
          rw [if_neg (by decide), if_neg (by omega), if_pos i0, if_pos hi]
          by_cases z0 : rd row i = 0
          · rw [if_pos z0, if_pos (by omega), if_pos hj]
            by_cases z1 : rd row (i + (1 + p) + s) = 0
            · rw [if_pos z1]
              exact again _ _ a3 z3 (by simp) (by omega) h3
            · rw [if_neg z1]
              exact again row _ a3 z3 rfl (by omega) h3
          · rw [if_neg z0]
            exact again row _ a3 z3 rfl (by omega) h3
theorem spec_l1Cur_surePairs.ok {l : List Int} {m at_ : Int} (seed s : Int) (hs : 0 ≤ s ∧ s ≤ 1) (hm : m ≤ 900000) (h : DrawSt l m at_) : ∃ r a z, spec_l1Cur_surePairs.F l at_ seed s = some (r, a, z) ∧ r.length ≤ 14 ∧ DrawSt l (m + 60) a := by
  obtain ⟨p, a1, z1, e1, p0, p1, h1⟩ := spec_l1Cur_pick.ok seed 15 h (by omega)
  obtain ⟨q, a2, z2, e2, q0, q1, h2⟩ := spec_l1Cur_pick.ok z1 6 h1 (by omega)
  rw [spec_l1Cur_surePairs.F_eq, e1]
  simp only [Option.bind_some]
  rw [if_pos p0, if_pos (by omega), e2]
  simp only [Option.bind_some]
  rw [wrap_in (n := 1 + q) (by omega) (by omega)]
  obtain ⟨r, a, z, e, hl, hd⟩ := spec_l1Cur_surePairs.L0_ok (l := l) s hs (1 + q).toNat (List.replicate p.toNat 0) (m + 2 + 2) a2 z2 (by omega) (by simp; omega) (by omega) h2
  rw [show (((1 + q).toNat : Nat) : Int) = 1 + q from by omega] at e hd
  exact ⟨r, a, z, e, by rw [hl]; simp; omega, hd.more (by omega)⟩
theorem rd_rows {L : List (List Int)} {i : Nat} (h : i < L.length) : rd_L2 L (i : Int) = L[i] := by
  unfold rd_L2
  rw [Int.toNat_natCast, List.getD_eq_getElem?_getD, List.getElem?_eq_getElem h]
  rfl
theorem rd_rows_mem {L : List (List Int)} {i : Int} (h0 : 0 ≤ i) (h : i < (L.length : Int)) : rd_L2 L i ∈ L := by
  obtain ⟨j, rfl⟩ : ∃ j : Nat, i = j := ⟨i.toNat, by omega⟩
  rw [rd_rows (by omega)]
  exact List.getElem_mem _
theorem spec_l1Cur_row.J0_ok {l : List Int} {m at_ : Int} (b : Bool) (seed : Int) (hm : m ≤ 800000) (h : DrawSt l m at_) : ∃ r a z, spec_l1Cur_row.J0 b l at_ seed = some (r, a, z) ∧ r.length ≤ 14 ∧ DrawSt l (m + 80) a := by
  rw [spec_l1Cur_row.J0_eq]
  cases b with
  | true =>
    rw [if_pos rfl]
    simp only [Option.bind_some]
    have hlen : ∀ x ∈ ([[1, 1], [3, 1, 2, 1, 3, 2], [1, 1, 2, 0, 2], [4, 2, 3, 2, 4, 3, 1, 1], [2, 3, 4, 2, 1, 3, 1, 4], [4, 1, 3, 1, 2, 4, 3, 2], [3, 1, 1, 3, 2, 0, 2], [5, 2, 4, 2, 3, 5, 4, 3, 1, 1], [2, 3, 2, 0, 3]] : List (List Int)), x.length ≤ 14 := by decide
    generalize hL : ([[1, 1], [3, 1, 2, 1, 3, 2], [1, 1, 2, 0, 2], [4, 2, 3, 2, 4, 3, 1, 1], [2, 3, 4, 2, 1, 3, 1, 4], [4, 1, 3, 1, 2, 4, 3, 2], [3, 1, 1, 3, 2, 0, 2], [5, 2, 4, 2, 3, 5, 4, 3, 1, 1], [2, 3, 2, 0, 3]] : List (List Int)) = L at hlen ⊢
    have hL9 : L.length = 9 := by rw [← hL]; rfl
    obtain ⟨p, a1, z1, e1, p0, p1, h1⟩ := spec_l1Cur_pick.ok seed (L.length : Int) h (by omega)
    have p1' : p < (L.length : Int) := by omega
    have hx := hlen _ (rd_rows_mem p0 p1')
    rw [e1]
    simp only [Option.bind_some]
    rw [if_pos p0, if_pos p1', spec_l1Own.f_val _ (by omega)]
    simp only [Option.bind_some]
    obtain ⟨b, a2, z2, e2, h2⟩ := spec_l1Cur_one.ok z1 3 h1 (by omega)
    rw [e2]
    simp only [Option.bind_some]
    cases b with
    | true =>
      rw [if_pos rfl, spec_roBack.F_val _ (by omega)]
      exact ⟨_, _, _, rfl, by simpa using hx, h2.more (by omega)⟩
    | false =>
      rw [if_neg (by decide)]
      exact ⟨_, _, _, rfl, hx, h2.more (by omega)⟩
  | false =>
    rw [if_neg (by decide)]
    obtain ⟨p, a1, z1, e1, p0, p1, h1⟩ := spec_l1Cur_pick.ok seed 2 h (by omega)
    rw [e1]
    simp only [Option.bind_some]
    obtain ⟨r, a2, z2, e2, hr, h2⟩ := spec_l1Cur_surePairs.ok z1 p (by omega) (by omega) h1
    rw [e2]
    exact ⟨_, _, _, rfl, hr, h2.more (by omega)⟩
theorem spec_l1Cur_row.ok {l : List Int} {m at_ : Int} (seed : Int) (hm : m ≤ 700000) (h : DrawSt l m at_) : ∃ r a z, spec_l1Cur_row.F l at_ seed = some (r, a, z) ∧ r.length ≤ 41 ∧ DrawSt l (m + 100) a := by
  obtain ⟨p, a1, z1, e1, p0, p1, h1⟩ := spec_l1Cur_pick.ok seed 14 h (by omega)
  rw [spec_l1Cur_row.F_eq, e1]
  simp only [Option.bind_some]
  have rest : ∀ b, ∃ r a z, spec_l1Cur_row.J0 b l a1 z1 = some (r, a, z) ∧ r.length ≤ 41 ∧ DrawSt l (m + 100) a := fun b => by
    obtain ⟨r, a, z, e, hr, hd⟩ := spec_l1Cur_row.J0_ok b z1 (by omega) h1
    exact ⟨r, a, z, e, by omega, hd.more (by omega)⟩
  by_cases h0 : p = 0
  · rw [if_pos h0]
    obtain ⟨q, a2, z2, e2, q0, q1, h2⟩ := spec_l1Cur_pick.ok z1 2 h1 (by omega)
    rw [e2]
    simp only [Option.bind_some]
    obtain ⟨r, a3, z3, e3, hr, h3⟩ := spec_l1Cur_surePairs.ok z2 q (by omega) (by omega) h2
    rw [e3]
    simp only [Option.bind_some]
    obtain ⟨x, a4, z4, e4, _, h4⟩ := spec_l1Cur_among.ok z3 ([(-1), 1, 20, 21, 4611686018427387904] : List Int) (by decide) h3 (by omega)
    rw [e4]
    simp only [Option.bind_some]
    rw [if_pos (by omega)]
    exact ⟨_, _, _, rfl, by simp; omega, h4.more (by omega)⟩
  · rw [if_neg h0]
    by_cases h1' : p = 1
    · rw [if_pos h1']
      obtain ⟨q, a2, z2, e2, q0, q1, h2⟩ := spec_l1Cur_pick.ok z1 2 h1 (by omega)
      rw [e2]
      simp only [Option.bind_some]
      rw [wrap_in (n := 40 + q) (by omega) (by omega), if_pos (by omega), if_pos (by omega)]
      exact ⟨_, _, _, rfl, by simp; omega, h2.more (by omega)⟩
    · rw [if_neg h1']
      split
      · exact rest _
      · split
        · exact rest _
        · exact rest _
theorem spec_seSkolem.f_val (n : Nat) (hn : 1 ≤ n ∧ n ≤ 9) (most : Nat) (hm : most ≤ 1000000) : spec_seSkolem.f (n : Int) (most : Int) = some ((skolemRows n).take most) := by
  unfold spec_seSkolem.f
  rw [if_pos (by omega), Int.toNat_natCast, seSkolemRun_rows n (by omega) most hm]
  rfl
theorem spec_l1Cur_soughtRow.ok {l : List Int} {m at_ : Int} (seed : Int) (hm : m ≤ 600000) (h : DrawSt l m at_) : ∃ r a z, spec_l1Cur_soughtRow.F l at_ seed = some (r, a, z) ∧ r.length ≤ 41 ∧ DrawSt l (m + 120) a := by
  obtain ⟨b, a1, z1, e1, h1⟩ := spec_l1Cur_one.ok seed 6 h (by omega)
  rw [spec_l1Cur_soughtRow.F_eq, e1]
  simp only [Option.bind_some]
  cases b with
  | true =>
    rw [if_pos rfl]
    obtain ⟨r, a2, z2, e2, hr, h2⟩ := spec_l1Cur_row.ok z1 (by omega) h1
    rw [e2]
    exact ⟨_, _, _, rfl, hr, h2.more (by omega)⟩
  | false =>
    rw [if_neg (by decide)]
    obtain ⟨x, a2, z2, e2, hx, h2⟩ := spec_l1Cur_among.ok z1 ([1, 4, 5, 4, 5, 8] : List Int) (by decide) h1 (by omega)
    simp only [List.mem_cons, List.not_mem_nil, or_false] at hx
    rw [e2]
    simp only [Option.bind_some]
    obtain ⟨n, rfl⟩ : ∃ n : Nat, x = n := ⟨x.toNat, by omega⟩
    have hn : 1 ≤ n ∧ n ≤ 8 ∧ n % 4 ≤ 1 := by omega
    rw [show (60 : Int) = ((60 : Nat) : Int) from rfl, spec_seSkolem.f_val n (by omega) 60 (by omega)]
    simp only [Option.bind_some]
    have hp := (skolem_there n hn.1 hn.2.1).2 hn.2.2
    have hm : ∀ y ∈ (skolemRows n).take 60, y.length ≤ 16 := fun y hy => by
      have := skolemRows_mem hn.1 y (List.mem_of_mem_take hy)
      omega
    have hl : 0 < ((skolemRows n).take 60).length := by rw [List.length_take]; omega
    generalize hL : (skolemRows n).take 60 = L at hm hl
    obtain ⟨p, a3, z3, e3, p0, p1, h3⟩ := spec_l1Cur_pick.ok z2 (L.length : Int) h2 (by omega)
    have p1' : p < (L.length : Int) := by omega
    have hy := hm _ (rd_rows_mem p0 p1')
    rw [e3]
    simp only [Option.bind_some]
    rw [if_pos p0, if_pos p1']
    obtain ⟨b, a4, z4, e4, h4⟩ := spec_l1Cur_one.ok z3 3 h3 (by omega)
    rw [e4]
    simp only [Option.bind_some]
    cases b with
    | true =>
      rw [if_pos rfl, spec_roBack.F_val _ (by omega)]
      exact ⟨_, _, _, rfl, by simp; omega, h4.more (by omega)⟩
    | false =>
      rw [if_neg (by decide)]
      exact ⟨_, _, _, rfl, by omega, h4.more (by omega)⟩
end Go.Proofs.Ytaohgllnoomaeaa.Fn
namespace Go.Proofs.Ytaohgllnoomaeaa.Fn
open Go.RowKit Go.Proofs.YtaohgllnoomaeaaW.PrintWords Go.Proofs.YtaohgllnoomaeaaW.PrintLast Go.Proofs.YtaohgllnoomaeaaW.PrintMore
set_option linter.unusedVariables false
set_option linter.unusedSimpArgs false
theorem atOf_zero (l : List Int) (k : Nat) : atOf (l ++ [0]) k = atOf l k := by
  unfold atOf
  split
  · rfl
  · rename_i h
    unfold placesOf
    rw [placesFrom_snoc, if_neg (by omega), List.append_nil]
theorem pairsOk_zero (l : List Int) : pairsOk (l ++ [0]) = pairsOk l := by
  unfold pairsOk
  simp only [atOf_zero]
theorem fitsAt_zero (l : List Int) (s : Int) : fitsAt (l ++ [0]) s = fitsAt l s := by
  unfold fitsAt
  simp only [atOf_zero]
theorem numbersOf_zero (l : List Int) : numbersOf (l ++ [0]) = numbersOf l := by
  unfold numbersOf numbersFrom
  congr 1
  refine List.filter_congr (fun k hk => ?_)
  have := List.mem_range'_1.1 hk
  simp
  omega
theorem isRow_zero (l : List Int) : isRow (l ++ [0]) = (isRow l && decide (l.length ≤ 39)) := by
  unfold isRow
  rw [Bool.eq_iff_iff]
  simp only [List.length_append, List.length_cons, List.length_nil, List.all_append, List.all_cons, List.all_nil, Bool.and_eq_true, decide_eq_true_eq]
  constructor
  · rintro ⟨h1, h2, _⟩
    exact ⟨⟨by omega, h2⟩, by omega⟩
  · rintro ⟨⟨_, h2⟩, h3⟩
    exact ⟨by omega, h2, ⟨by omega, by omega⟩, trivial⟩
theorem placesOf_zero (l : List Int) : placesOf (l ++ [0]) 0 = placesOf l 0 ++ [(l.length : Int)] := by
  unfold placesOf
  rw [placesFrom_snoc, if_pos rfl]
  simp
theorem rd_app_left (a b : List Int) (p : Nat) (h : p < a.length) : rd (a ++ b) (p : Int) = rd a p := by
  rw [rd_nat _ p (by simp; omega), rd_nat a p h, List.getElem_append_left h]
theorem fromOf_get (k : Int) : ∀ (l : List Int) (i : Nat), fromOf k i l = true → ∀ j (h : j < l.length), l[j] = k + ((i + j : Nat) : Int)
  | [], i, _, j, h => by simp at h
  | x :: l, i, hf, j, h => by
    rw [fromOf, Bool.and_eq_true, decide_eq_true_eq] at hf
    cases j with
    | zero => simpa using hf.1
    | succ j =>
      have := fromOf_get k l (i + 1) hf.2 j (by simpa using h)
      simp only [List.getElem_cons_succ, this]
      omega
theorem fromOf_ups {k : Int} {l : List Int} (h : fromOf k 0 l = true) : l = numbersUp k l.length := by
  refine List.ext_getElem (by rw [numbersUp_len]) (fun j h1 h2 => ?_)
  rw [fromOf_get k l 0 h j h1]
  simp [numbersUp]
theorem RowOk.snoc {N : Nat} {x : List Int} (hN : N ≤ 19) (h : RowOk (2 * N) N 1 0 (-1) x) : RowOk (2 * N + 1) N 1 0 (2 * (N : Int)) (x ++ [0]) := by
  have hp := h.pairs
  unfold isPairs at hp
  rw [Bool.and_eq_true] at hp
  refine ⟨by simp [h.len], ?_, by rw [fitsAt_zero]; exact h.fits, by rw [numbersOf_zero]; exact h.nums, ?_⟩
  · unfold isPairs
    rw [isRow_zero, pairsOk_zero, hp.1, hp.2, h.len, decide_eq_true (by omega)]
    rfl
  · rw [placesOf_zero, h.holes, h.len, if_neg (by omega), if_pos (by omega)]
    simp
theorem RowOk.unsnoc {N : Nat} {y : List Int} (h : RowOk (2 * N + 1) N 1 0 (2 * (N : Int)) y) : ∃ x, y = x ++ [0] ∧ RowOk (2 * N) N 1 0 (-1) x := by
  have hl := h.len
  have hy : y ≠ [] := fun e => by rw [e] at hl; simp at hl
  have hd := List.dropLast_concat_getLast hy
  have hdl : y.dropLast.length = 2 * N := by simp; omega
  have hm : (2 * (N : Int)) ∈ placesOf y 0 := by rw [h.holes, if_pos (by omega)]; simp
  have hz := ((mem_placesOf y 0 _).1 hm).2.2
  have ha : y.getLast hy = 0 := by
    have e := rd_mid y.dropLast (y.getLast hy) []
    rw [hd, hdl] at e
    rw [← e, ← hz]
    congr 1
  rw [ha] at hd
  refine ⟨y.dropLast, hd.symm, ?_⟩
  have hp := h.pairs
  have hf := h.fits
  have hn := h.nums
  have hh := h.holes
  rw [← hd] at hp hf hn hh
  rw [fitsAt_zero] at hf
  rw [numbersOf_zero] at hn
  rw [placesOf_zero, hdl, if_pos (by omega)] at hh
  unfold isPairs at hp
  rw [isRow_zero, pairsOk_zero] at hp
  simp only [Bool.and_eq_true] at hp
  refine ⟨hdl, ?_, hf, hn, ?_⟩
  · unfold isPairs
    rw [hp.1.1, hp.2]
    rfl
  · rw [if_neg (by omega)]
    have := congrArg List.length hh
    simp at this
    exact this
theorem len_le_inj : ∀ (A B : List (List Int)) (f : List Int → List Int), A.Pairwise (fun a b => ¬ a = b) → (∀ x ∈ A, f x ∈ B) → (∀ x ∈ A, ∀ y ∈ A, f x = f y → x = y) → A.length ≤ B.length
  | [], B, f, _, _, _ => by simp
  | x :: A, B, f, hp, hf, hi => by
    have hx := hf x (by simp)
    have hp' := List.pairwise_cons.1 hp
    have ih := len_le_inj A (B.erase (f x)) f hp'.2 (fun y hy => by
      refine (List.mem_erase_of_ne ?_).2 (hf y (by simp [hy]))
      intro e
      exact hp'.1 y hy (hi x (by simp) y (by simp [hy]) e.symm)) (fun y hy z hz e => hi y (by simp [hy]) z (by simp [hz]) e)
    rw [List.length_erase_of_mem hx] at ih
    have : 0 < B.length := List.length_pos_of_mem hx
    simp only [List.length_cons]
    omega
theorem rowsOf_apart {p N : Nat} {from_ s hole : Int} (hp : PlacesFit p N hole) (hf : 1 ≤ from_) (hs : 0 ≤ s) : (rowsOf p N from_ s hole).Pairwise (fun a b => ¬ a = b) :=
  (rowsOf_sorted hp hf hs).imp (fun h => h.ne)
theorem ext_turned_le (n : Nat) (hn : 1 ≤ n ∧ n ≤ 9) (hole : Int) (h0 : 0 ≤ hole) (h1 : hole ≤ 2 * n) : (rowsOf (2 * n + 1) n 1 0 hole).length ≤ (rowsOf (2 * n + 1) n 1 0 (2 * n - hole)).length := by
  have k1 := ext_kind n hole hn h0 h1
  have k2 := ext_kind n (2 * n - hole) hn (by omega) (by omega)
  refine len_le_inj _ _ List.reverse (rowsOf_apart k1.fit (by omega) (by omega)) (fun x hx => ?_) (fun x _ y _ e => List.reverse_inj.1 e)
  have := ((rowsOf_ok k1 x).1 hx).back (by omega)
  rw [if_pos h0, show (((2 * n + 1 : Nat) : Int) - 1 - hole) = 2 * n - hole from by omega] at this
  exact (rowsOf_ok k2 _).2 this
theorem ext_turned (n : Nat) (hn : 1 ≤ n ∧ n ≤ 9) (hole : Int) (h0 : 0 ≤ hole) (h1 : hole ≤ 2 * n) : (rowsOf (2 * n + 1) n 1 0 (2 * n - hole)).length = (rowsOf (2 * n + 1) n 1 0 hole).length := by
  have a := ext_turned_le n hn hole h0 h1
  have b := ext_turned_le n hn (2 * n - hole) (by omega) (by omega)
  rw [show 2 * (n : Int) - (2 * n - hole) = hole from by omega] at b
  omega
theorem ext_skolem (n : Nat) (hn : 1 ≤ n ∧ n ≤ 9) : (rowsOf (2 * n + 1) n 1 0 (2 * n)).length = (skolemRows n).length := by
  have k1 := ext_kind n (2 * n) hn (by omega) (by omega)
  have k2 := skolem_kind n hn.1 hn.2
  have a := len_le_inj (skolemRows n) (rowsOf (2 * n + 1) n 1 0 (2 * n)) (fun x => x ++ [0]) (rowsOf_apart k2.fit (by omega) (by omega)) (fun x hx => (rowsOf_ok k1 _).2 (((rowsOf_ok k2 x).1 hx).snoc (by omega))) (fun x _ y _ e => List.append_cancel_right e)
  have b := len_le_inj (rowsOf (2 * n + 1) n 1 0 (2 * n)) (skolemRows n) List.dropLast (rowsOf_apart k1.fit (by omega) (by omega)) (fun y hy => by
    obtain ⟨x, e, hx⟩ := ((rowsOf_ok k1 y).1 hy).unsnoc
    rw [e, List.dropLast_concat]
    exact (rowsOf_ok k2 x).2 hx) (fun y hy z hz e => by
    obtain ⟨x, ex, _⟩ := ((rowsOf_ok k1 y).1 hy).unsnoc
    obtain ⟨u, eu, _⟩ := ((rowsOf_ok k1 z).1 hz).unsnoc
    rw [ex, eu, List.dropLast_concat, List.dropLast_concat] at e
    rw [ex, eu, e])
  omega
/-- What stands behind an extended row's kind. -/
theorem ext_of {l : List Int} (h : ¬ (extendedOf l).1 = 0) : ∃ N : Nat, (extendedOf l).1 = N ∧ 1 ≤ N ∧ N ≤ 19 ∧ 0 ≤ (extendedOf l).2 ∧ (extendedOf l).2 ≤ 2 * N ∧ RowOk (2 * N + 1) N 1 0 (extendedOf l).2 l := by
  obtain ⟨h1, h2, h3⟩ := extendedOf_pos h
  obtain ⟨p1, p2, p3⟩ := oneHole_pairs h1
  have e1 : (extendedOf l).1 = orderOf l := by unfold extendedOf; rw [if_pos h1]
  have hf : fromOf 1 0 (numbersOf l) = true := by
    by_cases hf : fromOf 1 0 (numbersOf l) = true
    · exact hf
    · rw [e1] at h2
      unfold orderOf at h2
      rw [if_neg hf] at h2
      omega
  have e2 : (extendedOf l).1 = ((numbersOf l).length : Int) := by rw [e1]; unfold orderOf; rw [if_pos hf]
  have hl := row_length p1
  rw [← placesOf_count, p3] at hl
  have h40 := isRow_len (isPairs_row p1)
  have hh : placesOf l 0 = [(extendedOf l).2] := by
    rw [h3]
    match hq : placesOf l 0, p3 with
    | [a], _ => rfl
  have hm := (mem_placesOf l 0 (extendedOf l).2).1 (by rw [hh]; simp)
  refine ⟨(numbersOf l).length, e2, by omega, by omega, hm.1, by omega, by omega, p1, p2, fromOf_ups hf, ?_⟩
  rw [if_pos hm.1]
  exact hh
theorem frontTo_eq (l : List Int) (i : Nat) (h1 : ¬ rd l i = 0) : ∀ (n s : Nat), s ≤ i → i < s + n → (∀ k : Nat, s ≤ k → k < i → rd l k = 0) → frontTo l s n = i
  | 0, s, hs, hn, _ => by omega
  | n + 1, s, hs, hn, hz => by
    rw [frontTo]
    by_cases e : s = i
    · subst e
      rw [if_neg h1]
    · rw [if_pos (hz s (by omega) (by omega))]
      exact frontTo_eq l i h1 n (s + 1) (by omega) (by omega) (fun k hk hi => hz k (by omega) hi)
theorem backTo_eq (l : List Int) (i j : Nat) (hij : i < j) (h1 : ¬ rd l ((j - 1 : Nat) : Int) = 0) : ∀ (m : Nat), j ≤ m → (∀ k : Nat, j ≤ k → k < m → rd l k = 0) → backTo l i m = j
  | 0, hm, _ => by omega
  | m + 1, hm, hz => by
    rw [backTo]
    by_cases e : j = m + 1
    · rw [if_neg]
      · exact e.symm
      · rintro ⟨_, h⟩
        apply h1
        rw [e]
        exact h
    · rw [if_pos ⟨by omega, hz m (by omega) (by omega)⟩]
      exact backTo_eq l i j hij h1 m (by omega) (fun k hk hi => hz k hk (by omega))
theorem trimmed_eq {l : List Int} {i j : Nat} (hij : i < j) (hj : j ≤ l.length) (h0 : ∀ k : Nat, k < i → rd l k = 0) (h1 : ¬ rd l i = 0) (h2 : ¬ rd l ((j - 1 : Nat) : Int) = 0) (h3 : ∀ k : Nat, j ≤ k → k < l.length → rd l k = 0) : trimmed l = (l.take j).drop i := by
  unfold trimmed
  rw [frontTo_eq l i h1 l.length 0 (by omega) (by omega) (fun k _ hk => h0 k hk), backTo_eq l i j hij h2 l.length hj h3]
theorem RowOk.full {p N : Nat} {x : List Int} (h : RowOk p N 1 0 (-1) x) (k : Nat) (hk : k < x.length) : ¬ rd x k = 0 := fun e => by
  have := (mem_placesOf x 0 (k : Int)).2 ⟨by omega, by omega, e⟩
  rw [h.holes, if_neg (by omega)] at this
  simp at this
/-- The row without its hole at an end: a Skolem row, and what is left when it is trimmed. -/
theorem ext_bare {l : List Int} (h : (skolemOfExtended l).2 = true) : isSkolem (skolemOfExtended l).1 = (true, true) ∧ trimRow l = ((skolemOfExtended l).1, true) ∧ l.length ≤ 40 := by
  have hn : ¬ (extendedOf l).1 = 0 := fun e => by
    unfold skolemOfExtended at h
    rw [if_pos e] at h
    simp at h
  obtain ⟨N, e, hN, hN2, hh0, hh1, hr⟩ := ext_of hn
  have h40 := isRow_len (isPairs_row hr.pairs)
  have sk : ∀ x, RowOk (2 * N) N 1 0 (-1) x → isSkolem x = (true, true) := fun x hx => by
    unfold isSkolem
    rw [if_pos hx.pairs, hx.skolem, decide_eq_true (by omega)]
  have tr : ∀ y, trimmed l = y → trimRow l = (y, true) := fun y hy => by
    unfold trimRow
    rw [if_pos (isPairs_row hr.pairs), hy]
  have hlen := hr.len
  unfold skolemOfExtended at h ⊢
  rw [if_neg hn] at h ⊢
  by_cases h0 : (extendedOf l).2 = 0
  · rw [if_pos h0]
    rw [h0] at hr
    have hb := hr.back (by omega)
    rw [if_pos (by omega), show (((2 * N + 1 : Nat) : Int) - 1 - 0) = 2 * N from by omega] at hb
    obtain ⟨x, ex, hx⟩ := hb.unsnoc
    have el : l = 0 :: x.reverse := by
      have := congrArg List.reverse ex
      simpa using this
    have hx2 := hx.back (by omega)
    rw [if_neg (by omega)] at hx2
    have hxl := hx2.len
    have hf := hx2.full
    generalize x.reverse = y at el hx2 hxl hf
    subst el
    have rs : ∀ k : Nat, rd ((0 : Int) :: y) ((k + 1 : Nat) : Int) = rd y k := fun k => by
      unfold rd
      rw [Int.toNat_natCast, Int.toNat_natCast]
      rfl
    refine ⟨sk _ hx2, tr _ ?_, h40⟩
    have := trimmed_eq (l := (0 : Int) :: y) (i := 1) (j := y.length + 1) (by omega) (by simp) (fun k hk => by
      have : k = 0 := by omega
      subst this
      rfl) (by rw [show ((1 : Nat) : Int) = ((0 + 1 : Nat) : Int) from rfl, rs]; exact hf 0 (by omega)) (by
      obtain ⟨m, hm⟩ : ∃ m, y.length = m + 1 := ⟨y.length - 1, by omega⟩
      rw [show y.length + 1 - 1 = m + 1 from by omega, rs]
      exact hf m (by omega)) (fun k h1 h2 => by simp at h2; omega)
    rw [this]
    simp
  · rw [if_neg h0] at h ⊢
    by_cases h2 : (extendedOf l).2 = (l.length : Int) - 1
    · rw [if_pos h2]
      rw [show (extendedOf l).2 = 2 * (N : Int) from by omega] at hr
      obtain ⟨x, ex, hx⟩ := hr.unsnoc
      have hxl := hx.len
      have hf := hx.full
      subst ex
      have e1 : (x ++ [0]).take ((x ++ [(0 : Int)]).length - 1) = x := by simp
      rw [e1]
      refine ⟨sk _ hx, tr _ ?_, h40⟩
      have := trimmed_eq (l := x ++ [0]) (i := 0) (j := x.length) (by omega) (by simp) (fun k hk => by omega) (by rw [rd_app_left _ _ 0 (by omega)]; exact hf 0 (by omega)) (by rw [rd_app_left _ _ _ (by omega)]; exact hf _ (by omega)) (fun k h1 h2 => by
        have : k = x.length := by simp at h2; omega
        subst this
        exact rd_mid x 0 [])
      rw [this]
      simp
    · rw [if_neg h2] at h
      simp at h
end Go.Proofs.Ytaohgllnoomaeaa.Fn
namespace Go.Proofs.Ytaohgllnoomaeaa.Fn
open Go.RowKit Go.Proofs.YtaohgllnoomaeaaW.PrintWords Go.Proofs.YtaohgllnoomaeaaW.PrintLast Go.Proofs.YtaohgllnoomaeaaW.PrintMore
set_option linter.unusedVariables false
set_option linter.unusedSimpArgs false
theorem spec_seAll.f_val {n hole : Int} (h : extOk n hole = true) (most : Nat) (hm : most ≤ 1000000) : spec_seAll.f 1 n 0 hole (most : Int) = some ((extRows n hole).take most) := by
  have hd := of_decide_eq_true h
  unfold spec_seAll.f
  rw [if_pos (by omega), if_pos (by omega), show (n - 1 + 1).toNat = n.toNat from by omega, seF_rows h most hm]
  rfl
theorem spec_l1Cur_extended.J0_ok {l : List Int} {m at_ : Int} (n hole seed : Int) (h : extOk n hole = true) (hm : m ≤ 600000) (hd : DrawSt l m at_) : ∃ r a z, spec_l1Cur_extended.J0 n hole l at_ seed = some (r, a, z) ∧ r.length ≤ 41 ∧ DrawSt l (m + 110) a := by
  have ho := of_decide_eq_true h
  rw [spec_l1Cur_extended.J0_eq, show (40 : Int) = ((40 : Nat) : Int) from rfl, spec_seAll.f_val h 40 (by omega)]
  simp only [Option.bind_some]
  have hm2 : ∀ y ∈ (extRows n hole).take 40, y.length ≤ 16 := fun y hy => by
    have := extRows_mem (List.mem_of_mem_take hy)
    omega
  have hl : ((extRows n hole).take 40).length ≤ 40 := by simp; omega
  generalize hL : (extRows n hole).take 40 = L at hm2 hl
  by_cases h0 : (L.length : Int) = 0
  · rw [if_pos h0]
    obtain ⟨r, a2, z2, e2, hr, h2⟩ := spec_l1Cur_row.ok seed (by omega) hd
    rw [e2]
    exact ⟨_, _, _, rfl, hr, h2.more (by omega)⟩
  · rw [if_neg h0]
    obtain ⟨p, a3, z3, e3, p0, p1, h3⟩ := spec_l1Cur_pick.ok seed (L.length : Int) hd (by omega)
    have p1' : p < (L.length : Int) := by omega
    have hy := hm2 _ (rd_rows_mem p0 p1')
    rw [e3]
    simp only [Option.bind_some]
    rw [if_pos p0, if_pos p1']
    exact ⟨_, _, _, rfl, by omega, h3.more (by omega)⟩
theorem spec_l1Cur_extended.ok {l : List Int} {m at_ : Int} (seed : Int) (hm : m ≤ 500000) (h : DrawSt l m at_) : ∃ r a z, spec_l1Cur_extended.F l at_ seed = some (r, a, z) ∧ r.length ≤ 41 ∧ DrawSt l (m + 120) a := by
  obtain ⟨b, a1, z1, e1, h1⟩ := spec_l1Cur_one.ok seed 6 h (by omega)
  rw [spec_l1Cur_extended.F_eq, e1]
  simp only [Option.bind_some]
  cases b with
  | true =>
    rw [if_pos rfl]
    obtain ⟨r, a2, z2, e2, hr, h2⟩ := spec_l1Cur_row.ok z1 (by omega) h1
    rw [e2]
    exact ⟨_, _, _, rfl, hr, h2.more (by omega)⟩
  | false =>
    rw [if_neg (by decide)]
    obtain ⟨p, a2, z2, e2, p0, p1, h2⟩ := spec_l1Cur_pick.ok z1 5 h1 (by omega)
    rw [e2]
    simp only [Option.bind_some]
    rw [wrap_in (n := 1 + p) (by omega) (by omega), wrap_in (n := 1 + p + 1) (by omega) (by omega)]
    obtain ⟨q, a3, z3, e3, q0, q1, h3⟩ := spec_l1Cur_pick.ok z2 (1 + p + 1) h2 (by omega)
    rw [e3]
    simp only [Option.bind_some]
    rw [wrap_in (n := 2 * q) (by omega) (by omega)]
    have fin : ∀ hole, 0 ≤ hole → hole ≤ 2 * (1 + p) → ∃ r a z, spec_l1Cur_extended.J0 (1 + p) hole l a3 z3 = some (r, a, z) ∧ r.length ≤ 41 ∧ DrawSt l (m + 120) a := fun hole g0 g1 => by
      obtain ⟨r, a, z, e, hr, hd⟩ := spec_l1Cur_extended.J0_ok (1 + p) hole z3 (decide_eq_true (by omega)) (by omega) h3
      exact ⟨r, a, z, e, hr, hd.more (by omega)⟩
    by_cases h4 : Int.tmod (1 + p) 4 ≤ 1
    · rw [if_pos h4]
      exact fin _ (by omega) (by omega)
    · rw [if_neg h4, wrap_in (n := 2 * (1 + p)) (by omega) (by omega), wrap_in (n := 2 * (1 + p) - 1) (by omega) (by omega), wrap_in (n := 2 * q + 1) (by omega) (by omega)]
      unfold spec_l1Least.f
      by_cases h5 : 2 * (1 + p) - 1 < 2 * q + 1
      · rw [if_pos h5]
        exact fin _ (by omega) (by omega)
      · rw [if_neg h5]
        exact fin _ (by omega) (by omega)
theorem spec_DrawSkolemOfExtended.ok {l : List Int} (h : DrawSt l 0 0) : ∃ r, spec_DrawSkolemOfExtended.F l = some r ∧ r.length ≤ 42 := by
  obtain ⟨p, a1, z1, e1, p0, p1, h1⟩ := spec_l1Cur_pick.ok 0 4 h (by omega)
  rw [spec_DrawSkolemOfExtended.F_eq, e1]
  simp only [Option.bind_some]
  by_cases c0 : p = 0
  · rw [if_pos c0]
    obtain ⟨r, a2, z2, e2, hr, h2⟩ := spec_l1Cur_soughtRow.ok z1 (by omega) h1
    rw [e2]
    simp only [Option.bind_some]
    rw [if_pos (by simp; omega)]
    exact ⟨_, rfl, by simp; omega⟩
  · rw [if_neg c0]
    by_cases c1 : p = 1
    · rw [if_pos c1]
      obtain ⟨r, a2, z2, e2, hr, h2⟩ := spec_l1Cur_soughtRow.ok z1 (by omega) h1
      rw [e2]
      simp only [Option.bind_some]
      rw [spec_l1Own.f_val _ (by omega)]
      simp only [Option.bind_some]
      rw [if_pos (by omega)]
      exact ⟨_, rfl, by simp; omega⟩
    · rw [if_neg c1]
      obtain ⟨r, a2, z2, e2, hr, h2⟩ := spec_l1Cur_extended.ok z1 (by omega) h1
      rw [e2]
      exact ⟨r, rfl, by omega⟩
theorem spec_DrawIsExtendedThere.ok {l : List Int} (h : DrawSt l 0 0) : ∃ p, spec_DrawIsExtendedThere.f l = some p := by
  obtain ⟨r, a1, z1, e1, _, _, h1⟩ := spec_l1Cur_many.ok 0 h (by omega)
  unfold spec_DrawIsExtendedThere.f
  rw [e1]
  simp only [Option.bind_some]
  have m1 : ∃ t, spec_l1Most.f 1 r = some t := by unfold spec_l1Most.f; split <;> exact ⟨_, rfl⟩
  obtain ⟨t, ht⟩ := m1
  have m2 : ∃ t', spec_l1Least.f 30 t = some t' := by unfold spec_l1Least.f; split <;> exact ⟨_, rfl⟩
  obtain ⟨t', ht'⟩ := m2
  rw [ht]
  simp only [Option.bind_some]
  rw [ht']
  simp only [Option.bind_some]
  obtain ⟨q, a2, z2, e2, _, _, h2⟩ := spec_l1Cur_pick.ok z1 (wrap64 (wrap64 (2 * t') + 2)) h1 (by omega)
  rw [e2]
  simp only [Option.bind_some]
  obtain ⟨q', a3, z3, e3, _, _, h3⟩ := spec_l1Cur_pick.ok z2 9 h2 (by omega)
  rw [e3]
  exact ⟨_, rfl⟩
def extThere (n hole : Int) : Bool × Bool := if numberOk n = true ∧ 0 ≤ hole ∧ hole ≤ 2 * n then (decide (Int.tmod hole 2 = 0) == decide (Int.tmod n 4 ≤ 1), true) else (false, false)
theorem impl_IsExtendedThere.f_val (n hole : Int) : impl_IsExtendedThere.f n hole = some (extThere n hole) := by
  unfold impl_IsExtendedThere.f extThere
  rw [impl_isNumber.f_val]
  simp only [Option.bind_some]
  by_cases h1 : numberOk n = true
  · have hd := of_decide_eq_true h1
    rw [if_pos h1, wrap_in (n := 2 * n) (by omega) (by omega)]
    by_cases h2 : hole < 0
    · rw [if_pos h2, if_neg (by omega)]
    · rw [if_neg h2]
      by_cases h3 : hole > 2 * n
      · rw [if_pos h3, if_neg (by omega)]
      · rw [if_neg h3, if_pos ⟨h1, by omega, by omega⟩]
        by_cases h4 : Int.tmod hole 2 = 0 <;> by_cases h5 : Int.tmod n 4 ≤ 1 <;> simp [h4, h5]
  · rw [if_neg h1, if_neg (fun h => h1 h.1)]
theorem spec_IsExtendedThere.f_val (n hole : Int) : spec_IsExtendedThere.f n hole = some (extThere n hole) := by
  have ha : spec_hoAsked.f n 20 hole = some (decide ((1 ≤ n ∧ n ≤ 20) ∧ 0 ≤ hole ∧ hole ≤ 2 * n)) := by
    unfold spec_hoAsked.f
    rw [spec_l1In.f_val]
    simp only [Option.bind_some]
    by_cases h : 1 ≤ n ∧ n ≤ 20
    · rw [if_pos (by simp [h]), spec_l1In.f_val, wrap_in (by omega) (by omega)]
      simp [h]
    · rw [if_neg (by simpa using h), decide_eq_false (fun e => h e.1)]
  unfold spec_IsExtendedThere.f
  rw [ha]
  simp only [Option.bind_some]
  unfold extThere numberOk
  by_cases h : (1 ≤ n ∧ n ≤ 20) ∧ 0 ≤ hole ∧ hole ≤ 2 * n
  · rw [if_pos (decide_eq_true h), if_pos ⟨decide_eq_true h.1, h.2⟩]
    by_cases h4 : Int.tmod hole 2 = 0 <;> by_cases h5 : Int.tmod n 4 ≤ 1 <;> simp [h4, h5]
  · rw [if_neg (by simpa using h), if_neg (fun e => h ⟨of_decide_eq_true e.1, e.2⟩)]
theorem impl_BackRow.F_val (l : List Int) (h : l.length < 17592186044416) : impl_BackRow.F l = some (if isRow l = true then (l.reverse, true) else ([], false)) := by
  rw [impl_BackRow.F_eq, impl_IsRow.F_val l (by omega)]
  simp only [Option.bind_some, impl_back.F_val l h]
  by_cases h1 : isRow l = true
  · rw [if_pos h1, if_pos h1]
  · rw [if_neg h1, if_neg h1]
end Go.Proofs.Ytaohgllnoomaeaa.Fn
namespace Go.Proofs.Ytaohgllnoomaeaa.Pure
open Go.RowKit Go.Proofs.Ytaohgllnoomaeaa.Fn Go.Proofs.YtaohgllnoomaeaaW.PrintWords Go.Proofs.YtaohgllnoomaeaaW.PrintLast Go.Proofs.YtaohgllnoomaeaaW.PrintMore
set_option linter.unusedVariables false
set_option linter.unusedSimpArgs false
theorem drawn_ext {l : List Int} (h : DrawSt l 0 0) : ∃ n hole, spec_DrawAllExtended.f l = some (n, hole) ∧ 0 ≤ n ∧ n ≤ 8 ∧ n ≠ 7 := by
  obtain ⟨r, a, z, e, hr, hs⟩ := spec_l1Cur_among.ok 0 ([1, 2, 3, 4, 5, 6, 3, 4, 0, 8] : List Int) (by decide) h (by omega)
  simp only [List.mem_cons, List.not_mem_nil, or_false] at hr
  obtain ⟨p, a2, z2, e2, _, _, h2⟩ := spec_l1Cur_pick.ok z (wrap64 (wrap64 (2 * r) + 2)) hs (by omega)
  obtain ⟨q, a3, z3, e3, _, _, h3⟩ := spec_l1Cur_pick.ok z2 9 h2 (by omega)
  refine ⟨r, wrap64 (p - wrap64 (Int.tdiv q 8)), ?_, by omega, by omega, by omega⟩
  unfold spec_DrawAllExtended.f spec_DrawCountExtended.f
  rw [e]
  simp only [Option.bind_some]
  rw [e2]
  simp only [Option.bind_some]
  rw [e3]
  rfl
theorem before {L : List (List Int)} (hs : L.Pairwise LexLt) {i : Nat} (h : i + 1 < L.length) : lessOf (L[i]'(by omega)) L[i + 1] = true :=
  lessOf_lex _ _ (List.pairwise_iff_getElem.1 hs i (i + 1) (by omega) h (by omega))
theorem J6_true (l : List Int) (hl : l.length ≤ 42) : laws_FnHolesAnywhere.J6 l (skolemOfExtended l).1 (skolemOfExtended l).2 false = some true := by
  have hlen := skolemOfExtended_len l
  rw [laws_FnHolesAnywhere.J6_eq, if_neg (by decide)]
  by_cases h : (skolemOfExtended l).2 = true
  · obtain ⟨h1, h2, h3⟩ := ext_bare h
    rw [if_pos h, impl_IsSkolem.F_val _ (by omega), h1, impl_TrimRow.F_val l (by omega), h2]
    simp only [Option.bind_some, if_true]
    rw [laws_jSame.F_val _ _ (by omega), decide_eq_true rfl]
    rfl
  · rw [if_neg h]
theorem J5_true {l : List Int} (h : DrawSt l 0 0) : laws_FnHolesAnywhere.J5 l = some true := by
  obtain ⟨r, e, hr⟩ := spec_DrawSkolemOfExtended.ok h
  obtain ⟨⟨a, b⟩, e2⟩ := spec_DrawIsExtendedThere.ok h
  have hj := J6_true r hr
  have hlen := skolemOfExtended_len r
  have hs := laws_jSame.F_val (skolemOfExtended r).1 (skolemOfExtended r).1 (by omega)
  rw [decide_eq_true rfl] at hs
  have hi : ((holeOf r).2 != (isExtended r).1) = false ∨ (isExtended r).2 = false ∧ ((holeOf r).2 != false) = false := by
    unfold holeOf isExtended
    by_cases h1 : isPairs r = true
    · rw [if_pos h1]
      by_cases h2 : (extendedOf r).1 = 0
      · rw [if_pos h2, h2]
        exact .inl rfl
      · have := (extendedOf_pos h2).2.1
        rw [if_neg h2, decide_eq_true this]
        exact .inl rfl
    · have h2 : (extendedOf r).1 = 0 := by
        by_cases h3 : (extendedOf r).1 = 0
        · exact h3
        · exact absurd (oneHole_pairs (extendedOf_pos h3).1).1 h1
      rw [if_neg h1, if_pos h2]
      exact .inl rfl
  rw [laws_FnHolesAnywhere.J5_eq]
  simp only [e, e2, impl_SkolemOfExtended.F_val r (by omega), spec_SkolemOfExtended.F_val r (by omega), impl_IsExtended.F_val r (by omega), spec_IsExtended.F_val r (by omega), impl_HoleOf.F_val r (by omega), spec_HoleOf.F_val r (by omega), impl_IsExtendedThere.f_val, spec_IsExtendedThere.f_val, Option.bind_some, bne_self_eq_false, Bool.false_eq_true, if_false, hs, if_true]
  rcases hi with hi | ⟨hi, hi2⟩
  · by_cases h2 : (isExtended r).2 = true
    · rw [if_pos h2, hi]
      exact hj
    · rw [if_neg h2]
      have h3 : (isExtended r).1 = false := by
        unfold isExtended at h2 ⊢
        split
        · rename_i hp
          rw [if_pos hp] at h2
          exact absurd rfl h2
        · rfl
      rw [h3] at hi
      rw [hi]
      exact hj
  · rw [if_neg (by rw [hi]; decide), hi2]
    exact hj
theorem J4_true {l1 : List Int} (hJ : laws_FnHolesAnywhere.J5 l1 = some true) {n : Nat} (hn : 1 ≤ n ∧ n ≤ 7) (hole : Int) : laws_FnHolesAnywhere.J4 l1 (n : Int) hole ((rowsOf (2 * n + 1) n 1 0 hole).length : Int) = some true := by
  rw [laws_FnHolesAnywhere.J4_eq, wrap_in (n := 2 * (n : Int)) (by omega) (by omega), wrap_in (n := 2 * (n : Int) - 1) (by omega) (by omega)]
  by_cases h : hole = 2 * (n : Int) - 1
  · rw [if_pos h, impl_CountHooked.f_val, countHooked, if_pos (show hookedOk (n : Int) = true from decide_eq_true (by omega)), kindCount]
    simp only [Option.bind_some, if_true, Int.toNat_natCast, hookedRows]
    rw [h, if_pos rfl]
    exact hJ
  · rw [if_neg h]
    exact hJ
theorem J3_true {l1 : List Int} (hJ : laws_FnHolesAnywhere.J5 l1 = some true) {n : Nat} (hn : 1 ≤ n ∧ n ≤ 7) (hole : Int) (b : Bool) (hb : b = true → hole = 2 * n ∨ hole = 0) : laws_FnHolesAnywhere.J3 l1 (n : Int) hole ((rowsOf (2 * n + 1) n 1 0 hole).length : Int) b = some true := by
  rw [laws_FnHolesAnywhere.J3_eq]
  cases b with
  | false =>
    rw [if_neg (by decide)]
    exact J4_true hJ hn hole
  | true =>
    have e : (rowsOf (2 * n + 1) n 1 0 hole).length = (skolemRows n).length := by
      rcases hb rfl with rfl | rfl
      · exact ext_skolem n (by omega)
      · have := ext_turned n (by omega) 0 (by omega) (by omega)
        rw [Int.sub_zero] at this
        rw [← this]
        exact ext_skolem n (by omega)
    rw [if_pos rfl, impl_CountSkolem.f_val, countSkolem, if_pos (show skolemOk (n : Int) = true from decide_eq_true (by omega)), kindCount]
    simp only [Option.bind_some, if_true, Int.toNat_natCast]
    rw [if_pos (by rw [e])]
    exact J4_true hJ hn hole
theorem L0_val {l1 : List Int} (hJ : laws_FnHolesAnywhere.J5 l1 = some true) {n : Nat} (hn : 1 ≤ n ∧ n ≤ 7) {hole : Int} (h0 : 0 ≤ hole) (h1 : hole ≤ 2 * n) {L : List (List Int)} (hL : L = rowsOf (2 * n + 1) n 1 0 hole) (hl : L.length ≤ 5040) (hr : ∀ x ∈ L, RowOk (2 * n + 1) n 1 0 hole x) (hs : L.Pairwise LexLt) : ∀ m i : Nat, i + m = L.length → laws_FnHolesAnywhere.L0 l1 (n : Int) hole L (L.length : Int) L (L.length : Int) (i : Int) = some true
  | 0, i, hm => by
    rw [laws_FnHolesAnywhere.L0_eq, if_neg (by omega), wrap_in (n := 2 * (n : Int)) (by omega) (by omega), hL]
    by_cases h : hole = 2 * (n : Int)
    · rw [if_pos h]
      exact J3_true hJ hn hole true (fun _ => .inl h)
    · rw [if_neg h]
      exact J3_true hJ hn hole _ (fun h => .inr (by simpa using h))
  | m + 1, i, hm => by
    have hi : i < L.length := by omega
    have hx := hr _ (List.getElem_mem hi)
    have hlen := hx.len
    have ih := L0_val hJ hn h0 h1 hL hl hr hs m (i + 1) (by omega)
    have hb := hx.back (by omega)
    rw [if_pos h0, show (((2 * n + 1 : Nat) : Int) - 1 - hole) = 2 * n - hole from by omega] at hb
    have hex : isExtended L[i] = (true, true) := by
      unfold isExtended
      rw [if_pos hx.pairs, hx.extended h0, decide_eq_true (by show (n : Int) > 0; omega)]
    have hho : holeOf L[i] = (hole, true) := by
      unfold holeOf
      rw [hx.extended h0, if_neg (by show ¬ (n : Int) = 0; omega)]
    have hho2 : holeOf (L[i]).reverse = (2 * (n : Int) - hole, true) := by
      unfold holeOf
      rw [hb.extended (by omega), if_neg (by show ¬ (n : Int) = 0; omega)]
    have hrow := isPairs_row hx.pairs
    rw [laws_FnHolesAnywhere.L0_eq, if_pos (by omega), if_pos (by omega), if_pos (by omega), rd_rows hi, impl_IsExtended.F_val _ (by omega), hex, impl_HoleOf.F_val _ (by omega), hho, impl_BackRow.F_val _ (by omega), if_pos hrow, wrap_up (n := L.length) hi (by omega), wrap_in (n := 2 * (n : Int)) (by omega) (by omega), wrap_in (n := 2 * (n : Int) - hole) (by omega) (by omega)]
    simp only [Option.bind_some]
    rw [impl_HoleOf.F_val _ (by simp; omega), hho2]
    simp only [Option.bind_some, if_true]
    by_cases hz : i = 0
    · rw [if_neg (by omega)]
      exact ih
    · obtain ⟨j, rfl⟩ : ∃ j, i = j + 1 := ⟨i - 1, by omega⟩
      have hj : j < L.length := by omega
      have e : wrap64 (((j + 1 : Nat) : Int) - 1) = (j : Int) := by rw [wrap_in (by omega) (by omega)]; omega
      have hlj := (hr _ (List.getElem_mem hj)).len
      rw [if_pos (by omega), e, if_pos (by omega), if_pos (by omega), rd_rows hj, laws_jLess.F_val _ _ (by omega), before hs hi]
      simp only [Option.bind_some, if_true]
      exact ih
theorem first_ext {n hole : Int} (h : extOk n hole = true) : (firstExtended n hole).2 = decide (0 < (extRows n hole).length) ∧ ∀ h0 : 0 < (extRows n hole).length, (firstExtended n hole).1 = (extRows n hole)[0] := by
  unfold firstExtended
  rw [if_pos h]
  cases hL : extRows n hole with
  | nil => exact ⟨rfl, fun h => absurd h (by simp)⟩
  | cons x l => exact ⟨by simp, fun _ => rfl⟩
theorem FnHolesAnywhere : laws_FnHolesAnywhere.Pure := by
  intro l0 l1 _ _ hw0 _ _ hw1
  refine Lim.rounds (laws_FnHolesAnywhere.F_lim l0 l1) ?_
  rw [laws_FnHolesAnywhere.F_eq, laws_big.f_val]
  simp only [Option.bind_some]
  by_cases hbig : 1048576 < l0.length ∨ 1048576 < l0.length + l1.length
  · rw [if_pos (decide_eq_true hbig)]
  rw [if_neg (by rw [decide_eq_false hbig]; decide)]
  have h0 := draw_start (l := l0) (by omega) hw0
  have h1 := draw_start (l := l1) (by omega) hw1
  have hJ := J5_true h1
  obtain ⟨n, hole, hn, n0, n1, n7⟩ := drawn_ext h0
  have hfl := firstExtended_len n hole
  have q2 := laws_jSame.F_val (firstExtended n hole).1 (firstExtended n hole).1 (by omega)
  rw [decide_eq_true rfl] at q2
  by_cases hok : extOk n hole = true
  · have hd := of_decide_eq_true hok
    obtain ⟨m, rfl⟩ : ∃ m : Nat, n = m := ⟨n.toNat, by omega⟩
    have hm : 1 ≤ m ∧ m ≤ 6 := by omega
    have hll := extRows_len hok
    have hmem := fun x (hx : x ∈ extRows m hole) => extRows_mem hx
    have hrw := extRows_eq m hole
    rw [Int.toNat_natCast] at hrw
    have k1 := ext_kind m hole (by omega) hd.2.2.1 hd.2.2.2
    have hr : ∀ x ∈ extRows m hole, RowOk (2 * m + 1) m 1 0 hole x := fun x hx => (rowsOf_ok k1 x).1 (by rw [← hrw]; exact hx)
    have hs : (extRows m hole).Pairwise LexLt := by rw [hrw]; exact rowsOf_sorted k1.fit (by omega) (by omega)
    have ht := ext_there m hm.1 hm.2 hole hd.2.2.1 hd.2.2.2
    have hturn := ext_turned m (by omega) hole hd.2.2.1 hd.2.2.2
    have hturn2 : extRows m (2 * (m : Int) - hole) = rowsOf (2 * m + 1) m 1 0 (2 * m - hole) := by rw [extRows_eq, Int.toNat_natCast]
    have hok2 : extOk m (2 * (m : Int) - hole) = true := decide_eq_true (by omega)
    obtain ⟨f2, f1⟩ := first_ext hok
    have hth : extThere m hole = (decide ((extRows m hole).length > 0), true) := by
      unfold extThere numberOk
      rw [if_pos ⟨decide_eq_true (by omega), by omega, by omega⟩]
      congr 1
      have e1 : Int.tmod hole 2 = hole % 2 := Int.tmod_eq_emod_of_nonneg (by omega)
      have e2 : Int.tmod (m : Int) 4 = ((m % 4 : Nat) : Int) := by rw [Int.tmod_eq_emod_of_nonneg (by omega)]; omega
      rw [e1, e2, Bool.eq_iff_iff, beq_iff_eq, decide_eq_true_eq, decide_eq_decide]
      refine Iff.trans ?_ ht.symm
      omega
    rw [← hturn2, ← hrw] at hturn
    generalize hL : extRows m hole = L at *
    have q1 := laws_jRows.F_val L L (by omega) (fun x hx => by have := hmem x hx; omega)
    rw [decide_eq_true rfl] at q1
    have ec2 : ((L.length : Int) > 0) ↔ 0 < L.length := by omega
    have ec3 : (L.length > 0) ↔ 0 < L.length := Iff.rfl
    simp only [hn, impl_IsExtendedThere.f_val, impl_CountExtended.f_val, spec_CountExtended.f_val, impl_AllExtended.f_val, spec_AllExtended.f_val, impl_FirstExtended.f_val, spec_FirstExtended.f_val, countExtended, allExtended, if_pos hok, Option.bind_some, bne_self_eq_false, Bool.false_eq_true, if_false, if_true, hth, hL, q1, q2, f2, ec2, ec3]
    rw [laws_FnHolesAnywhere.J0_eq, if_neg (by decide), if_pos rfl, wrap_in (n := 2 * (m : Int)) (by omega) (by omega), wrap_in (n := 2 * (m : Int) - hole) (by omega) (by omega), impl_CountExtended.f_val, countExtended, if_pos hok2]
    simp only [Option.bind_some, hturn, bne_self_eq_false, if_true]
    have hfin : laws_FnHolesAnywhere.J1 l1 (m : Int) hole L (L.length : Int) false = some true := by
      rw [laws_FnHolesAnywhere.J1_eq, if_neg (by decide)]
      exact L0_val hJ (by omega) hd.2.2.1 hd.2.2.2 hrw hll hr hs L.length 0 (by omega)
    by_cases hz : 0 < L.length
    · have e := rd_rows (L := L) (i := 0) hz
      rw [show ((0 : Nat) : Int) = 0 from rfl] at e
      rw [if_pos (by omega), if_pos (by omega), e, ← f1 hz, q2]
      simp only [Option.bind_some, if_true]
      exact hfin
    · rw [if_neg (by omega)]
      exact hfin
  · have q1 := laws_jRows.F_val [] [] (by simp) (by simp)
    rw [decide_eq_true rfl] at q1
    have f0 : firstExtended n hole = ([], false) := by unfold firstExtended; rw [if_neg hok]
    rw [f0] at q2
    simp only [hn, impl_IsExtendedThere.f_val, impl_CountExtended.f_val, spec_CountExtended.f_val, impl_AllExtended.f_val, spec_AllExtended.f_val, impl_FirstExtended.f_val, spec_FirstExtended.f_val, f0, countExtended, allExtended, if_neg hok, Option.bind_some, bne_self_eq_false, Bool.false_eq_true, if_false, if_true, q1, q2, laws_FnHolesAnywhere.J0_eq]
    exact hJ
end Go.Proofs.Ytaohgllnoomaeaa.Pure
