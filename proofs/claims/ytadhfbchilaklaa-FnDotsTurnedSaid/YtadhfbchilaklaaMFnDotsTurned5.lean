/- The machine's side and plain lemmas for FnDotsTurned: texts of this session, merged by its program (part 5). -/
import Derived.Test.YtadhfbchilaklaaMFnDotsTurned0
import Derived.Test.YtadhfbchilaklaaMFnDotsTurned1
import Derived.Test.YtadhfbchilaklaaMFnDotsTurned2
import Derived.Test.YtadhfbchilaklaaMFnDotsTurned3
import Derived.Test.YtadhfbchilaklaaMFnDotsTurned4
namespace Go.Proofs.Ytadhfbchilaklaa.Fn
open Go.RowKit Go.Proofs.YtadhfbchilaklaaW.PrintWords Go.Proofs.YtadhfbchilaklaaW.PrintLast Go.Proofs.YtadhfbchilaklaaW.PrintMore
set_option linter.unusedVariables false
set_option linter.unusedSimpArgs false
theorem slices_Clone_int_int.f_val (l : List Int) (h : l.length < 17592186044416) : slices_Clone_int_int.f l = some l := by
  unfold slices_Clone_int_int.f
  rw [if_pos h]
theorem spec_l1Own.f_val (l : List Int) (h : l.length < 17592186044416) : spec_l1Own.f l = some l := by
  unfold spec_l1Own.f
  simp [h]
theorem spec_l1In.f_val (a b c : Int) : spec_l1In.f a b c = some (decide (b ≤ a) && decide (a ≤ c)) := by
  unfold spec_l1In.f
  by_cases h : a ≥ b
  · rw [if_pos h]
    simp [show b ≤ a from h]
  · rw [if_neg h]
    simp [show ¬ b ≤ a from h]
end Go.Proofs.Ytadhfbchilaklaa.Fn
namespace Go.Proofs.Ytadhfbchilaklaa.Fn
open Go.RowKit Go.Proofs.YtadhfbchilaklaaW.PrintWords Go.Proofs.YtadhfbchilaklaaW.PrintLast Go.Proofs.YtadhfbchilaklaaW.PrintMore
set_option linter.unusedVariables false
set_option linter.unusedSimpArgs false
theorem spec_l1Has.L0_val (n : Int) : ∀ (suf pre : List Int), (pre ++ suf).length < 4611686018427387904 → spec_l1Has.L0 n (pre ++ suf) ((pre ++ suf).length : Int) (pre.length : Int) = some (decide (n ∈ suf))
  | [], pre, h => by
    rw [spec_l1Has.L0_eq, range_end]
    simp
  | x :: suf, pre, h => by
    rw [spec_l1Has.L0_eq, range_step, rd_mid, wrap_mid h, app_mid pre x suf, spec_l1Has.L0_val n suf (pre ++ [x]) (by simpa using h)]
    by_cases h1 : x = n
    · rw [if_pos h1]
      simp [h1]
    · rw [if_neg h1]
      have : ¬ n = x := fun h => h1 h.symm
      simp [this]
theorem spec_l1Has.F_val (l : List Int) (n : Int) (h : l.length < 4611686018427387904) : spec_l1Has.F l n = some (decide (n ∈ l)) := by
  rw [spec_l1Has.F_eq]
  have := spec_l1Has.L0_val n l [] (by simpa using h)
  simpa using this
/-- The first place of a number, the first one counted as i; -1 where it does not stand. -/
def indexFrom (n : Int) : Nat → List Int → Int
  | _, [] => -1
  | i, x :: l => if n = x then (i : Int) else indexFrom n (i + 1) l
theorem indexFrom_mem (n : Int) : ∀ (l : List Int) (i : Nat), 0 ≤ indexFrom n i l ↔ n ∈ l
  | [], i => by simp [indexFrom]
  | x :: l, i => by
    have ih := indexFrom_mem n l (i + 1)
    by_cases h : n = x
    · simp [indexFrom, h]
    · simp [indexFrom, h, ih]
theorem slices_Index_int_int.L0_val (n : Int) : ∀ (suf pre : List Int), (pre ++ suf).length < 4611686018427387904 → slices_Index_int_int.L0 (pre ++ suf) n ((pre ++ suf).length : Int) (pre.length : Int) = some (indexFrom n pre.length suf)
  | [], pre, h => by
    rw [slices_Index_int_int.L0_eq, range_end]
    rfl
  | x :: suf, pre, h => by
    have e : (pre ++ [x]).length = pre.length + 1 := by simp
    rw [slices_Index_int_int.L0_eq, range_step, rd_mid, wrap_mid h, app_mid pre x suf, slices_Index_int_int.L0_val n suf (pre ++ [x]) (by simpa using h), e, indexFrom]
    split <;> rfl
theorem slices_Index_int_int.F_val (l : List Int) (n : Int) (h : l.length < 4611686018427387904) : slices_Index_int_int.F l n = some (indexFrom n 0 l) := by
  rw [slices_Index_int_int.F_eq]
  have := slices_Index_int_int.L0_val n l [] (by simpa using h)
  simpa using this
theorem slices_Contains_int_int.F_val (l : List Int) (n : Int) (h : l.length < 4611686018427387904) : slices_Contains_int_int.F l n = some (decide (n ∈ l)) := by
  rw [slices_Contains_int_int.F_eq, slices_Index_int_int.F_val l n h]
  simp only [Option.bind_some]
  have := indexFrom_mem n l 0
  congr 1
  rw [decide_eq_decide]
  exact this
end Go.Proofs.Ytadhfbchilaklaa.Fn
namespace Go.Proofs.Ytadhfbchilaklaa.Fn
open Go.RowKit Go.Proofs.YtadhfbchilaklaaW.PrintWords Go.Proofs.YtadhfbchilaklaaW.PrintLast Go.Proofs.YtadhfbchilaklaaW.PrintMore
set_option linter.unusedVariables false
set_option linter.unusedSimpArgs false
theorem spec_roBack.L0_val (l : List Int) (hl : l.length < 4611686018427387904) : ∀ (n : Nat) (acc : List Int), n ≤ l.length → acc.length + n < 17592186044416 → spec_roBack.L0 l acc ((n : Int) - 1) = some (acc ++ (l.take n).reverse)
  | 0, acc, h, ha => by
    rw [spec_roBack.L0_eq, if_neg (by omega)]
    simp
  | n + 1, acc, h, ha => by
    have e : ((n + 1 : Nat) : Int) - 1 = (n : Int) := by omega
    rw [e, spec_roBack.L0_eq, if_pos (by omega), if_pos (by omega), if_pos (by omega), if_pos (by omega), wrap_in (n := (n : Int) - 1) (by omega) (by omega), spec_roBack.L0_val l hl n _ (by omega) (by simp; omega), rd_nat l n (by omega), List.take_succ_eq_append_getElem (by omega), List.reverse_append]
    simp
theorem spec_roBack.F_val (l : List Int) (h : l.length < 17592186044416) : spec_roBack.F l = some l.reverse := by
  rw [spec_roBack.F_eq, wrap_in (by omega) (by omega)]
  have := spec_roBack.L0_val l (by omega) l.length [] (Nat.le_refl _) (by simpa using h)
  simpa using this
theorem slices_Reverse_int_int.L0_val : ∀ (n : Nat) (mid pre suf : List Int), mid.length = n → (pre ++ mid ++ suf).length < 4611686018427387904 → slices_Reverse_int_int.L0 (pre ++ mid ++ suf) (pre.length : Int) ((pre.length : Int) + mid.length - 1) = some (pre ++ mid.reverse ++ suf)
  | 0, mid, pre, suf, hn, h => by
    obtain rfl : mid = [] := List.eq_nil_of_length_eq_zero hn
    rw [slices_Reverse_int_int.L0_eq, if_neg (by simp; omega)]
    simp
  | 1, mid, pre, suf, hn, h => by
    obtain ⟨x, rfl⟩ := List.length_eq_one_iff.1 hn
    rw [slices_Reverse_int_int.L0_eq, if_neg (by simp)]
    simp
  | n + 2, mid, pre, suf, hn, h => by
    obtain ⟨x, m, rfl⟩ : ∃ x m, mid = x :: m := by cases mid with | nil => simp at hn | cons x m => exact ⟨x, m, rfl⟩
    obtain ⟨m, y, rfl⟩ : ∃ m' y, m = m' ++ [y] := by
      rcases List.eq_nil_or_concat m with rfl | ⟨m', y, rfl⟩
      · simp at hn
      · exact ⟨m', y, by simp⟩
    have hm : m.length = n := by simp at hn; omega
    have hl : pre.length + (m.length + 2) + suf.length < 4611686018427387904 := by simp at h; omega
    have e1 : pre ++ x :: (m ++ [y]) ++ suf = pre ++ x :: (m ++ y :: suf) := by simp
    have e2 : pre ++ x :: (m ++ [y]) ++ suf = (pre ++ x :: m) ++ y :: suf := by simp
    have e3 : (pre.length : Int) + ((x :: (m ++ [y])).length : Int) - 1 = ((pre ++ x :: m).length : Int) := by simp; omega
    have r1 : rd (pre ++ x :: (m ++ [y]) ++ suf) (pre.length : Int) = x := by rw [e1]; exact rd_mid pre x _
    have r2 : rd (pre ++ x :: (m ++ [y]) ++ suf) ((pre ++ x :: m).length : Int) = y := by rw [e2]; exact rd_mid _ y suf
    have l1 : ((pre ++ x :: m).length : Int) = (pre.length : Int) + m.length + 1 := by simp; omega
    have ll : ((pre ++ x :: (m ++ [y]) ++ suf).length : Int) = (pre.length : Int) + m.length + 2 + suf.length := by simp; omega
    rw [e3, slices_Reverse_int_int.L0_eq, if_pos (by omega), if_pos (by omega), if_pos (by omega), if_pos (by omega), if_pos (by omega), r1, r2, Int.toNat_natCast, Int.toNat_natCast]
    have es : ((pre ++ x :: (m ++ [y]) ++ suf).set pre.length y).set (pre ++ x :: m).length x = (pre ++ [y]) ++ m ++ ([x] ++ suf) := by
      rw [e1, List.set_append_right _ _ (Nat.le_refl _), Nat.sub_self, List.set_cons_zero]
      rw [show pre ++ y :: (m ++ y :: suf) = (pre ++ y :: m) ++ y :: suf by simp, List.set_append_right _ _ (by simp), show (pre ++ x :: m).length - (pre ++ y :: m).length = 0 by simp, List.set_cons_zero]
      simp
    have w1 : wrap64 ((pre.length : Int) + 1) = ((pre ++ [y]).length : Int) := by rw [wrap_in (by omega) (by omega)]; simp
    have w2 : wrap64 (((pre ++ x :: m).length : Int) - 1) = ((pre ++ [y]).length : Int) + m.length - 1 := by rw [wrap_in (by omega) (by omega), l1]; simp; omega
    rw [es, w1, w2, slices_Reverse_int_int.L0_val n m (pre ++ [y]) ([x] ++ suf) hm (by simp; omega)]
    simp
theorem slices_Reverse_int_int.F_val (l : List Int) (h : l.length < 4611686018427387904) : slices_Reverse_int_int.F l = some l.reverse := by
  rw [slices_Reverse_int_int.F_eq, wrap_in (by omega) (by omega)]
  have := slices_Reverse_int_int.L0_val l.length l [] [] rfl (by simpa using h)
  simpa using this
theorem impl_back.F_val (l : List Int) (h : l.length < 17592186044416) : impl_back.F l = some l.reverse := by
  rw [impl_back.F_eq, slices_Clone_int_int.f_val l h]
  simp only [Option.bind_some]
  rw [slices_Reverse_int_int.F_val l (by omega)]
  rfl
end Go.Proofs.Ytadhfbchilaklaa.Fn
namespace Go.Proofs.Ytadhfbchilaklaa.Fn
open Go.RowKit Go.Proofs.YtadhfbchilaklaaW.PrintWords Go.Proofs.YtadhfbchilaklaaW.PrintLast Go.Proofs.YtadhfbchilaklaaW.PrintMore
set_option linter.unusedVariables false
set_option linter.unusedSimpArgs false
/-- The input's bytes are bytes. -/
def BytesOk (l : List Int) : Prop := ∀ x ∈ l, 0 ≤ x ∧ x ≤ 255
theorem wrap_u64 (n : Int) : IntKind.u64.wrap n = n % 18446744073709551616 := by simp [IntKind.wrap, IntKind.bits, IntKind.signed]
theorem low_byte (x : Int) (h0 : 0 ≤ x) (h1 : x < 18446744073709551616) : Go.bits .and .u64 x 255 = x % 256 := by
  have := bits_mask .u64 64 (by decide) (fun n h0 h1 => by rw [wrap_u64]; omega) 8 (by decide) x h0 (by omega)
  simpa using this
theorem top_byte (n : Int) : ∃ b, wrap64 (Go.bits .and .u64 (IntKind.u64.wrap n / 1099511627776) 255) = b ∧ 0 ≤ b ∧ b ≤ 255 := by
  have h := wrap_u64 n
  generalize IntKind.u64.wrap n = m at *
  rw [low_byte _ (by omega) (by omega), wrap_in (by omega) (by omega)]
  exact ⟨_, rfl, by omega, by omega⟩
theorem spec_l1Cur_next.ok {l : List Int} (hl : BytesOk l) (hn : l.length < 4611686018427387904) (at_ seed : Int) (h0 : 0 ≤ at_) (h1 : at_ < 4611686018427387904) : ∃ b z, spec_l1Cur_next.f l at_ seed = some (b, at_ + 1, z) ∧ 0 ≤ b ∧ b ≤ 255 := by
  unfold spec_l1Cur_next.f
  rw [wrap_in (n := at_ + 1) (by omega) (by omega)]
  by_cases ha : at_ < (l.length : Int)
  · have hm : rd l at_ ∈ l := by
      obtain ⟨i, rfl⟩ : ∃ i : Nat, at_ = i := ⟨at_.toNat, by omega⟩
      rw [rd_nat l i (by omega)]
      exact List.getElem_mem _
    have hb := hl _ hm
    rw [if_pos ha, if_pos h0, if_pos (by omega), wrap_in (n := rd l at_) (by omega) (by omega)]
    exact ⟨_, _, rfl, hb.1, hb.2⟩
  · rw [if_neg ha]
    by_cases hb : at_ + 1 ≤ (l.length : Int)
    · rw [if_pos hb]
      exact ⟨_, _, rfl, by omega, by omega⟩
    · rw [if_neg hb]
      obtain ⟨b, e, h2, h3⟩ := top_byte (IntKind.u64.wrap (IntKind.u64.wrap (seed * 6364136223846793005)) + 1442695040888963407)
      exact ⟨b, _, by rw [e], h2, h3⟩
/-- The state of a draw: the input, and a place that is no greater than m. -/
structure DrawSt (l : List Int) (m at_ : Int) : Prop where
  bytes : BytesOk l
  len : l.length < 4611686018427387904
  at0 : 0 ≤ at_
  atm : at_ ≤ m
theorem DrawSt.more {l : List Int} {m m' a : Int} (h : DrawSt l m a) (hm : m ≤ m') : DrawSt l m' a := ⟨h.1, h.2, h.3, Int.le_trans h.4 hm⟩
theorem tmod_range {x n : Int} (hx : 0 ≤ x) (hn : 0 < n) : 0 ≤ Int.tmod x n ∧ Int.tmod x n < n := ⟨Int.tmod_nonneg n hx, Int.tmod_lt_of_pos x hn⟩
theorem spec_l1Cur_pick.ok {l : List Int} {m at_ : Int} (seed n : Int) (h : DrawSt l m at_) (hm : m ≤ 4000000000000000000) : ∃ r a z, spec_l1Cur_pick.f l at_ seed n = some (r, a, z) ∧ 0 ≤ r ∧ (r < n ∨ r = 0) ∧ DrawSt l (m + 2) a := by
  obtain ⟨hl, hn, h0, h1⟩ := h
  unfold spec_l1Cur_pick.f
  by_cases hn1 : n ≤ 1
  · rw [if_pos hn1]
    exact ⟨0, _, _, rfl, by omega, .inr rfl, hl, hn, h0, by omega⟩
  · rw [if_neg hn1]
    obtain ⟨b, z, e, b0, b1⟩ := spec_l1Cur_next.ok hl hn at_ seed h0 (by omega)
    rw [e]
    simp only [Option.bind_some]
    by_cases hn2 : n > 200
    · rw [if_pos hn2]
      obtain ⟨b', z', e', b0', b1'⟩ := spec_l1Cur_next.ok hl hn (at_ + 1) z (by omega) (by omega)
      rw [e']
      simp only [Option.bind_some]
      rw [if_neg (by omega), wrap_in (n := b * 256) (by omega) (by omega), wrap_in (n := b * 256 + b') (by omega) (by omega)]
      have := tmod_range (x := b * 256 + b') (n := n) (by omega) (by omega)
      exact ⟨_, _, _, rfl, this.1, .inl this.2, hl, hn, by omega, by omega⟩
    · rw [if_neg hn2, if_neg (by omega)]
      have := tmod_range (x := b) (n := n) b0 (by omega)
      exact ⟨_, _, _, rfl, this.1, .inl this.2, hl, hn, by omega, by omega⟩
theorem spec_l1Cur_among.ok {l : List Int} {m at_ : Int} (seed : Int) (xs : List Int) (hx : 0 < xs.length) (h : DrawSt l m at_) (hm : m ≤ 4000000000000000000) : ∃ r a z, spec_l1Cur_among.f l at_ seed xs = some (r, a, z) ∧ r ∈ xs ∧ DrawSt l (m + 2) a := by
  obtain ⟨r, a, z, e, h0, h1, hs⟩ := spec_l1Cur_pick.ok seed (xs.length : Int) h hm
  have hr : r < (xs.length : Int) := by omega
  have hmem : rd xs r ∈ xs := by
    obtain ⟨i, rfl⟩ : ∃ i : Nat, r = i := ⟨r.toNat, by omega⟩
    rw [rd_nat xs i (by omega)]
    exact List.getElem_mem _
  exact ⟨rd xs r, a, z, by unfold spec_l1Cur_among.f; rw [e]; simp only [Option.bind_some]; rw [if_pos h0, if_pos hr], hmem, hs⟩
theorem laws_big.f_val (a b : List Int) : laws_big.f a b = some (decide (1048576 < a.length ∨ 1048576 < a.length + b.length)) := by
  unfold laws_big.f
  by_cases h : (a.length : Int) > 1048576
  · rw [if_pos h, decide_eq_true (by omega)]
  · rw [if_neg h, wrap_in (by omega) (by omega)]
    by_cases h2 : (b.length : Int) > 1048576 - (a.length : Int)
    · rw [decide_eq_true h2, decide_eq_true (by omega)]
    · rw [decide_eq_false h2, decide_eq_false (by omega)]
/-- An input of bytes, as a draw begins. -/
theorem draw_start {l : List Int} (h : l.length ≤ 1048576) (hw : ∀ x ∈ l, (Lit.int .u8 x).wf = true) : DrawSt l 0 0 := by
  refine ⟨fun x hx => ?_, by omega, by omega, by omega⟩
  have := hw x hx
  simp [Lit.wf] at this
  have h1 : IntKind.u8.min = 0 := by decide
  have h2 : IntKind.u8.max = 255 := by decide
  rw [h1, h2] at this
  omega
end Go.Proofs.Ytadhfbchilaklaa.Fn
namespace Go.Proofs.Ytadhfbchilaklaa.Fn
open Go.RowKit Go.Proofs.YtadhfbchilaklaaW.PrintWords Go.Proofs.YtadhfbchilaklaaW.PrintLast Go.Proofs.YtadhfbchilaklaaW.PrintMore
set_option linter.unusedVariables false
set_option linter.unusedSimpArgs false
def lessOf : List Int → List Int → Bool
  | [], [] => false
  | [], _ :: _ => true
  | _ :: _, [] => false
  | x :: a, y :: b => if x = y then lessOf a b else decide (x < y)
theorem wrap_up {n i : Nat} (h : i < n) (hn : n < 4611686018427387904) : wrap64 ((i : Int) + 1) = ((i + 1 : Nat) : Int) := by
  rw [wrap_in (by omega) (by omega)]
  rfl
theorem laws_zSame.L0_val (a b : List Int) (hl : a.length = b.length) (h : a.length < 4611686018427387904) : ∀ (m i : Nat), i + m = a.length → laws_zSame.L0 a b (a.length : Int) (i : Int) = some (decide (a.drop i = b.drop i))
  | 0, i, hm => by
    rw [laws_zSame.L0_eq, if_neg (by omega), List.drop_of_length_le (by omega), List.drop_of_length_le (by omega)]
    rfl
  | m + 1, i, hm => by
    rw [laws_zSame.L0_eq, if_pos (by omega), if_pos (by omega), if_pos (by omega), if_pos (by omega), rd_nat a i (by omega), rd_nat b i (by omega), wrap_up (n := a.length) (by omega) h, laws_zSame.L0_val a b hl h m (i + 1) (by omega), List.drop_eq_getElem_cons (l := a) (i := i) (by omega), List.drop_eq_getElem_cons (l := b) (i := i) (by omega)]
    by_cases e : a[i]'(by omega) = b[i]'(by omega)
    · rw [if_pos e]
      congr 1
      rw [decide_eq_decide, e]
      exact ⟨fun h => by rw [h], fun h => (List.cons.inj h).2⟩
    · rw [if_neg e, decide_eq_false (fun h => e (List.cons.inj h).1)]
theorem laws_zSame.F_val (a b : List Int) (h : a.length < 4611686018427387904) : laws_zSame.F a b = some (decide (a = b)) := by
  rw [laws_zSame.F_eq]
  by_cases e : a.length = b.length
  · rw [if_pos (by omega)]
    have := laws_zSame.L0_val a b e h a.length 0 (by omega)
    simpa using this
  · rw [if_neg (by omega), decide_eq_false (fun hab => e (by rw [hab]))]
theorem laws_zLess.L0_val (a b : List Int) (h : a.length < 4611686018427387904) : ∀ (m i : Nat), i + m = a.length → i ≤ b.length → laws_zLess.L0 a b (a.length : Int) (i : Int) = some (lessOf (a.drop i) (b.drop i))
  | 0, i, hm, hb => by
    rw [laws_zLess.L0_eq, if_neg (by omega), List.drop_of_length_le (l := a) (by omega)]
    by_cases e : i < b.length
    · rw [List.drop_eq_getElem_cons (l := b) (i := i) e, lessOf, decide_eq_true (by omega)]
    · rw [List.drop_of_length_le (l := b) (by omega), lessOf, decide_eq_false (by omega)]
  | m + 1, i, hm, hb => by
    rw [laws_zLess.L0_eq, if_pos (by omega), List.drop_eq_getElem_cons (l := a) (i := i) (by omega)]
    by_cases e : i < b.length
    · rw [if_neg (by omega), if_pos (by omega), if_pos (by omega), if_pos (by omega), rd_nat a i (by omega), rd_nat b i e, List.drop_eq_getElem_cons (l := b) (i := i) e, lessOf, wrap_up (n := a.length) (by omega) h, laws_zLess.L0_val a b h m (i + 1) (by omega) (by omega)]
      by_cases e2 : a[i]'(by omega) = b[i]
      · rw [if_pos e2, if_pos e2]
      · rw [if_neg e2, if_neg e2]
    · rw [if_pos (by omega), List.drop_of_length_le (l := b) (by omega), lessOf]
theorem laws_zLess.F_val (a b : List Int) (h : a.length < 4611686018427387904) : laws_zLess.F a b = some (lessOf a b) := by
  rw [laws_zLess.F_eq]
  have := laws_zLess.L0_val a b h a.length 0 (by omega) (by omega)
  simpa using this
end Go.Proofs.Ytadhfbchilaklaa.Fn
namespace Go.Proofs.Ytadhfbchilaklaa.Fn
open Go.RowKit Go.Proofs.YtadhfbchilaklaaW.PrintWords Go.Proofs.YtadhfbchilaklaaW.PrintLast Go.Proofs.YtadhfbchilaklaaW.PrintMore
set_option linter.unusedVariables false
set_option linter.unusedSimpArgs false
/-! dots: a list of n different numbers below n -/
structure Dots (p : List Int) : Prop where
  rng : ∀ x ∈ p, 0 ≤ x ∧ x < (p.length : Int)
  nod : p.Nodup
/-- The dots with rows and columns changed; from right to left; upside down. -/
def crossOf (p : List Int) : List Int := (List.range p.length).map fun y : Nat => ((p.idxOf (y : Int) : Nat) : Int)
def flipOf (p : List Int) : List Int := p.map fun x => (p.length : Int) - 1 - x
def turnOf (p : List Int) : List Int := (List.range p.length).map fun y : Nat => (p.length : Int) - 1 - ((p.idxOf (y : Int) : Nat) : Int)
theorem len_le_of_sub : ∀ (A B : List Int), A.Nodup → (∀ x ∈ A, x ∈ B) → A.length ≤ B.length
  | [], B, _, _ => by simp
  | x :: A, B, hn, h => by
    obtain ⟨h1, h2⟩ := List.nodup_cons.1 hn
    have hx := h x (by simp)
    have ih := len_le_of_sub A (B.erase x) h2 (fun y hy => (List.mem_erase_of_ne (fun e => h1 (by rw [← e]; exact hy))).2 (h y (by simp [hy])))
    rw [List.length_erase_of_mem hx] at ih
    have : 0 < B.length := List.length_pos_of_mem hx
    simp only [List.length_cons]
    omega
theorem range_int_nodup (n : Nat) : ((List.range n).map fun k : Nat => (k : Int)).Nodup := by
  rw [List.Nodup, List.pairwise_map]
  exact List.pairwise_lt_range.imp (fun h => by omega)
theorem mem_range_int {n : Nat} {x : Int} : x ∈ ((List.range n).map fun k : Nat => (k : Int)) ↔ 0 ≤ x ∧ x < (n : Int) := by
  rw [List.mem_map]
  constructor
  · rintro ⟨k, hk, rfl⟩
    have := List.mem_range.1 hk
    omega
  · intro h
    exact ⟨x.toNat, List.mem_range.2 (by omega), by omega⟩
/-- Each row has a dot. -/
theorem Dots.onto {p : List Int} (h : Dots p) {y : Nat} (hy : y < p.length) : (y : Int) ∈ p := by
  refine Classical.byContradiction fun hn => ?_
  have h1 := len_le_of_sub p (((List.range p.length).map fun k : Nat => (k : Int)).erase (y : Int)) h.nod (fun x hx => (List.mem_erase_of_ne (fun e => hn (by rw [← e]; exact hx))).2 (mem_range_int.2 (h.rng x hx)))
  rw [List.length_erase_of_mem (mem_range_int.2 (by omega)), List.length_map, List.length_range] at h1
  omega
theorem Dots.idx_lt {p : List Int} (h : Dots p) {y : Nat} (hy : y < p.length) : p.idxOf (y : Int) < p.length := List.idxOf_lt_length_of_mem (h.onto hy)
theorem Dots.get_idx {p : List Int} (h : Dots p) {y : Nat} (hy : y < p.length) : p[p.idxOf (y : Int)]'(h.idx_lt hy) = (y : Int) := List.getElem_idxOf (h.idx_lt hy)
theorem nodup_get_inj {l : List Int} (hn : l.Nodup) {i j : Nat} (hi : i < l.length) (hj : j < l.length) (e : l[i] = l[j]) : i = j := by
  rcases Nat.lt_trichotomy i j with h | h | h
  · exact absurd e ((List.pairwise_iff_getElem.1 hn) i j hi hj h)
  · exact h
  · exact absurd e.symm ((List.pairwise_iff_getElem.1 hn) j i hj hi h)
theorem Dots.idx_get {p : List Int} (h : Dots p) {x : Nat} (hx : x < p.length) : p.idxOf p[x] = x := by
  have h1 : p.idxOf p[x] < p.length := List.idxOf_lt_length_of_mem (List.getElem_mem hx)
  exact nodup_get_inj h.nod h1 hx (List.getElem_idxOf h1)
theorem crossOf_length (p : List Int) : (crossOf p).length = p.length := by simp [crossOf]
theorem flipOf_length (p : List Int) : (flipOf p).length = p.length := by simp [flipOf]
theorem turnOf_length (p : List Int) : (turnOf p).length = p.length := by simp [turnOf]
theorem crossOf_get {p : List Int} {y : Nat} (hy : y < (crossOf p).length) : (crossOf p)[y] = ((p.idxOf (y : Int) : Nat) : Int) := by simp [crossOf]
theorem flipOf_get {p : List Int} {x : Nat} (hx : x < (flipOf p).length) : (flipOf p)[x] = (p.length : Int) - 1 - p[x]'(by rw [flipOf_length] at hx; exact hx) := by simp [flipOf]
theorem back_get {p : List Int} {x : Nat} (hx : x < p.reverse.length) : p.reverse[x] = p[p.length - 1 - x]'(by rw [List.length_reverse] at hx; omega) := by simp
theorem turn_flip (p : List Int) : turnOf p = flipOf (crossOf p) := by
  unfold turnOf flipOf
  rw [crossOf_length]
  unfold crossOf
  rw [List.map_map]
  rfl
/-- A list that says of each row where its dot is, is the crossed one. -/
theorem cross_eq {p q : List Int} (h : Dots p) (hl : q.length = p.length) (hq : ∀ x (hx : x < p.length), q[(p[x]).toNat]'(by have := h.rng _ (List.getElem_mem hx); omega) = (x : Int)) : q = crossOf p := by
  refine List.ext_getElem (by rw [hl, crossOf_length]) fun y h1 h2 => ?_
  have hy : y < p.length := by omega
  have := hq _ (h.idx_lt hy)
  rw [crossOf_get h2, ← this]
  congr 1
  rw [h.get_idx hy]
  rfl
theorem cross_dots {p : List Int} (h : Dots p) : Dots (crossOf p) := by
  refine ⟨fun x hx => ?_, ?_⟩
  · obtain ⟨y, hy, rfl⟩ := List.mem_map.1 hx
    have := h.idx_lt (List.mem_range.1 hy)
    rw [crossOf_length]
    omega
  · unfold crossOf
    rw [List.Nodup, List.pairwise_map]
    refine List.Pairwise.imp_of_mem ?_ List.pairwise_lt_range
    intro a b ha hb hlt e
    have ha := List.mem_range.1 ha
    have hb := List.mem_range.1 hb
    have e1 := h.get_idx ha
    have e2 := h.get_idx hb
    have e3 : p.idxOf (a : Int) = p.idxOf (b : Int) := by omega
    simp only [e3] at e1
    rw [e2] at e1
    omega
theorem cross_cross {p : List Int} (h : Dots p) : crossOf (crossOf p) = p := by
  refine (cross_eq (cross_dots h) (crossOf_length p).symm fun y hy => ?_).symm
  rw [crossOf_length] at hy
  have e := h.get_idx hy
  rw [← e]
  congr 1
  rw [crossOf_get]
  rfl
theorem flip_dots {p : List Int} (h : Dots p) : Dots (flipOf p) := by
  refine ⟨fun x hx => ?_, ?_⟩
  · obtain ⟨y, hy, rfl⟩ := List.mem_map.1 hx
    have := h.rng y hy
    rw [flipOf_length]
    omega
  · unfold flipOf
    rw [List.Nodup, List.pairwise_map]
    exact h.nod.imp (fun h e => h (by omega))
theorem back_dots {p : List Int} (h : Dots p) : Dots p.reverse := by
  refine ⟨fun x hx => ?_, (List.reverse_perm p).nodup_iff.2 h.nod⟩
  rw [List.length_reverse]
  exact h.rng x (List.mem_reverse.1 hx)
theorem flipOf_two (p : List Int) : flipOf (flipOf p) = p := by
  unfold flipOf
  rw [List.map_map, List.length_map]
  have : ((fun x => (p.length : Int) - 1 - x) ∘ fun x => (p.length : Int) - 1 - x) = id := by
    funext x
    simp only [Function.comp, id]
    omega
  rw [this, List.map_id]
theorem flip_back (p : List Int) : flipOf p.reverse = (flipOf p).reverse := by
  unfold flipOf
  rw [List.length_reverse, List.map_reverse]
theorem cross_back {p : List Int} (h : Dots p) : crossOf p.reverse = flipOf (crossOf p) := by
  refine (cross_eq (back_dots h) (by rw [flipOf_length, crossOf_length, List.length_reverse]) fun x hx => ?_).symm
  rw [List.length_reverse] at hx
  rw [flipOf_get]
  have hx2 : p.length - 1 - x < p.length := by omega
  have hr := h.rng _ (List.getElem_mem hx2)
  have e1 : (crossOf p)[(p.reverse[x]'(by rw [List.length_reverse]; exact hx)).toNat]'(by rw [crossOf_length, back_get]; omega) = ((p.length - 1 - x : Nat) : Int) := by
    rw [crossOf_get]
    have e2 : (((p.reverse[x]'(by rw [List.length_reverse]; exact hx)).toNat : Nat) : Int) = p[p.length - 1 - x] := by rw [back_get]; omega
    rw [e2, h.idx_get hx2]
  rw [e1, crossOf_length]
  omega
theorem cross_flip {p : List Int} (h : Dots p) : crossOf (flipOf p) = (crossOf p).reverse := by
  have h1 := cross_back (cross_dots h)
  rw [cross_cross h] at h1
  rw [← h1, cross_cross (back_dots (cross_dots h))]
theorem turn_dots {p : List Int} (h : Dots p) : Dots (turnOf p) := by
  rw [turn_flip]
  exact flip_dots (cross_dots h)
theorem turn_two {p : List Int} (h : Dots p) : turnOf (turnOf p) = flipOf p.reverse := by
  rw [turn_flip, turn_flip, cross_flip (cross_dots h), cross_cross h]
theorem turn_four {p : List Int} (h : Dots p) : turnOf (turnOf (turnOf (turnOf p))) = p := by
  rw [turn_two (turn_dots (turn_dots h)), turn_two h, ← flip_back, List.reverse_reverse, flipOf_two]
theorem turn_cross_back {p : List Int} (h : Dots p) : crossOf p.reverse = turnOf p := by rw [cross_back h, turn_flip]
/-- No two dots stand to each other as two others do. -/
def Cost (p : List Int) : Prop := ∀ i j k l : Nat, ∀ (hi : i < p.length) (hj : j < p.length) (hk : k < p.length) (hl : l < p.length), i ≠ j → (j : Int) - i = l - k → p[j] - p[i] = p[l] - p[k] → i = k
theorem cost_flip {p : List Int} (h : Cost p) : Cost (flipOf p) := by
  intro i j k l hi hj hk hl hne e1 e2
  rw [flipOf_get, flipOf_get, flipOf_get, flipOf_get] at e2
  rw [flipOf_length] at hi hj hk hl
  exact h i j k l hi hj hk hl hne e1 (by omega)
theorem cost_back {p : List Int} (h : Cost p) : Cost p.reverse := by
  intro i j k l hi hj hk hl hne e1 e2
  rw [back_get, back_get, back_get, back_get] at e2
  rw [List.length_reverse] at hi hj hk hl
  have := h (p.length - 1 - i) (p.length - 1 - j) (p.length - 1 - k) (p.length - 1 - l) (by omega) (by omega) (by omega) (by omega) (by omega) (by omega) e2
  omega
theorem cost_cross {p : List Int} (hd : Dots p) (h : Cost p) : Cost (crossOf p) := by
  intro i j k l hi hj hk hl hne e1 e2
  rw [crossOf_get, crossOf_get, crossOf_get, crossOf_get] at e2
  rw [crossOf_length] at hi hj hk hl
  have g := h (p.idxOf (i : Int)) (p.idxOf (j : Int)) (p.idxOf (k : Int)) (p.idxOf (l : Int)) (hd.idx_lt hi) (hd.idx_lt hj) (hd.idx_lt hk) (hd.idx_lt hl) (fun e => by
    have a := hd.get_idx hi
    have b := hd.get_idx hj
    simp only [e] at a
    rw [b] at a
    omega) e2 (by rw [hd.get_idx hi, hd.get_idx hj, hd.get_idx hk, hd.get_idx hl]; exact e1)
  have a := hd.get_idx hi
  have b := hd.get_idx hk
  simp only [g] at a
  rw [b] at a
  omega
theorem cost_cross_iff {p : List Int} (hd : Dots p) : Cost (crossOf p) ↔ Cost p := ⟨fun h => by have := cost_cross (cross_dots hd) h; rwa [cross_cross hd] at this, cost_cross hd⟩
theorem cost_flip_iff {p : List Int} : Cost (flipOf p) ↔ Cost p := ⟨fun h => by have := cost_flip h; rwa [flipOf_two] at this, cost_flip⟩
theorem cost_back_iff {p : List Int} : Cost p.reverse ↔ Cost p := ⟨fun h => by have := cost_back h; rwa [List.reverse_reverse] at this, cost_back⟩
theorem cost_turn_iff {p : List Int} (hd : Dots p) : Cost (turnOf p) ↔ Cost p := by rw [turn_flip, cost_flip_iff, cost_cross_iff hd]
/-! the least of all -/
theorem less_irr : ∀ a : List Int, lessOf a a = false
  | [] => rfl
  | x :: a => by simp [lessOf, less_irr a]
theorem less_trans : ∀ {a b c : List Int}, lessOf a b = true → lessOf b c = true → lessOf a c = true
  | [], [], _, h, _ => by simp [lessOf] at h
  | [], _ :: _, [], _, h => by simp [lessOf] at h
  | [], _ :: _, _ :: _, _, _ => rfl
  | _ :: _, [], _, h, _ => by simp [lessOf] at h
  | _ :: _, _ :: _, [], _, h => by simp [lessOf] at h
  | x :: a, y :: b, z :: c, h1, h2 => by
    simp only [lessOf] at h1 h2 ⊢
    by_cases e1 : x = y
    · subst e1
      rw [if_pos rfl] at h1
      by_cases e2 : x = z
      · subst e2
        rw [if_pos rfl] at h2 ⊢
        exact less_trans h1 h2
      · rw [if_neg e2] at h2 ⊢
        exact h2
    · rw [if_neg e1, decide_eq_true_eq] at h1
      by_cases e2 : y = z
      · subst e2
        rw [if_neg e1]
        exact decide_eq_true h1
      · rw [if_neg e2, decide_eq_true_eq] at h2
        rw [if_neg (by omega)]
        exact decide_eq_true (by omega)
theorem less_total : ∀ {a b : List Int}, lessOf a b = false → lessOf b a = false → a = b
  | [], [], _, _ => rfl
  | [], _ :: _, h, _ => by simp [lessOf] at h
  | _ :: _, [], _, h => by simp [lessOf] at h
  | x :: a, y :: b, h1, h2 => by
    simp only [lessOf] at h1 h2
    by_cases e : x = y
    · subst e
      rw [if_pos rfl] at h1 h2
      rw [less_total h1 h2]
    · rw [if_neg e, decide_eq_false_iff_not] at h1
      rw [if_neg (fun h => e h.symm), decide_eq_false_iff_not] at h2
      omega
/-- The least of a list and some others, the first one where some are the same. -/
def leastOf (b : List Int) : List (List Int) → List Int
  | [] => b
  | q :: ls => leastOf (if lessOf q b = true then q else b) ls
theorem leastOf_mem : ∀ (ls : List (List Int)) (b : List Int), leastOf b ls ∈ b :: ls
  | [], b => by simp [leastOf]
  | q :: ls, b => by
    have := leastOf_mem ls (if lessOf q b = true then q else b)
    unfold leastOf
    rcases List.mem_cons.1 this with h | h
    · rw [h]
      split <;> simp
    · simp [h]
theorem leastOf_le : ∀ (ls : List (List Int)) (b : List Int), ∀ x ∈ b :: ls, lessOf x (leastOf b ls) = false
  | [], b, x, hx => by
    have : x = b := by simpa using hx
    rw [this, leastOf, less_irr]
  | q :: ls, b, x, hx => by
    have ih := leastOf_le ls (if lessOf q b = true then q else b)
    unfold leastOf
    have hb := ih _ List.mem_cons_self
    have low : ∀ y, lessOf y (if lessOf q b = true then q else b) = false → lessOf y (leastOf (if lessOf q b = true then q else b) ls) = false := fun y hy => by
      rw [Bool.eq_false_iff]
      intro h
      generalize (if lessOf q b = true then q else b) = m at hy hb h
      generalize leastOf m ls = z at hb h
      -- z is not above m: equal or below
      by_cases e : lessOf z m = true
      · rw [less_trans h e] at hy
        cases hy
      · have := less_total (Bool.eq_false_iff.2 e) hb
        rw [this] at h
        rw [h] at hy
        cases hy
    rcases List.mem_cons.1 hx with rfl | hx
    · refine low _ ?_
      split
      · rename_i h
        rw [Bool.eq_false_iff]
        intro h2
        have := less_trans h h2
        rw [less_irr] at this
        cases this
      · exact less_irr _
    · rcases List.mem_cons.1 hx with rfl | hx
      · refine low _ ?_
        split
        · exact less_irr _
        · rename_i h
          exact Bool.eq_false_iff.2 h
      · exact ih x (List.mem_cons_of_mem _ hx)
theorem leastOf_eq {b c : List Int} {ls ms : List (List Int)} (h : ∀ x, x ∈ b :: ls ↔ x ∈ c :: ms) : leastOf b ls = leastOf c ms := by
  refine less_total ?_ ?_
  · exact leastOf_le ms c _ ((h _).1 (leastOf_mem ls b))
  · exact leastOf_le ls b _ ((h _).2 (leastOf_mem ms c))

/-- The differences at a distance. -/
def diffsOf (p : List Int) (k : Nat) : List Int := List.zipWith (fun a b => a - b) (p.drop k) p
def costB (p : List Int) : Bool := (List.range' 1 (p.length - 1)).all fun k => decide (diffsOf p k).Nodup
theorem diffsOf_length (p : List Int) (k : Nat) : (diffsOf p k).length = p.length - k := by
  unfold diffsOf
  rw [List.length_zipWith, List.length_drop]
  omega
theorem diffsOf_get {p : List Int} {k i : Nat} (h : i < (diffsOf p k).length) : (diffsOf p k)[i] = p[i + k]'(by rw [diffsOf_length] at h; omega) - p[i]'(by rw [diffsOf_length] at h; omega) := by
  simp [diffsOf, Nat.add_comm]
theorem costB_iff {p : List Int} : costB p = true ↔ Cost p := by
  unfold costB
  rw [List.all_eq_true]
  constructor
  · intro h
    have up : ∀ i j k l : Nat, ∀ (hi : i < p.length) (hj : j < p.length) (hk : k < p.length) (hl : l < p.length), i < j → (j : Int) - i = l - k → p[j] - p[i] = p[l] - p[k] → i = k := by
      intro i j k l hi hj hk hl hlt e1 e2
      have hn := of_decide_eq_true (h (j - i) (List.mem_range'_1.2 (by omega)))
      have h1 : i < (diffsOf p (j - i)).length := by rw [diffsOf_length]; omega
      have h2 : k < (diffsOf p (j - i)).length := by rw [diffsOf_length]; omega
      refine nodup_get_inj hn h1 h2 ?_
      rw [diffsOf_get, diffsOf_get]
      have a1 : i + (j - i) = j := by omega
      have a2 : k + (j - i) = l := by omega
      simp only [a1, a2]
      exact e2
    intro i j k l hi hj hk hl hne e1 e2
    rcases Nat.lt_or_ge i j with hlt | hge
    · exact up i j k l hi hj hk hl hlt e1 e2
    · have := up j i l k hj hi hl hk (by omega) (by omega) (by omega)
      omega
  · intro h k hk
    have hk := List.mem_range'_1.1 hk
    refine decide_eq_true ?_
    rw [List.Nodup, List.pairwise_iff_getElem]
    intro i j hi hj hlt e
    rw [diffsOf_get, diffsOf_get] at e
    rw [diffsOf_length] at hi hj
    have := h i (i + k) j (j + k) (by omega) (by omega) (by omega) (by omega) (by omega) (by omega) e
    omega
/-! primes -/
def powGo (q r : Int) : Nat → Int → List Int
  | 0, _ => []
  | n + 1, x => x :: powGo q r n (Int.tmod (x * r) q)
/-- The powers of a number modulo q, with the exponents 0 to q - 2. -/
def powersOf (q r : Int) : List Int := powGo q r (q - 1).toNat 1
def rootB (q r : Int) : Bool := decide (2 ≤ r ∧ r < q) && decide (powersOf q r).Nodup
def powDots (q r : Int) : List Int := (powersOf q r).map fun x => x - 1
/-- For each exponent of one number: the exponents of another one with which the powers are 1 together. -/
def logsOf (q a b : Int) : List Int := (List.range' 1 (q - 2).toNat).flatMap fun i => ((List.range' 1 (q - 2).toNat).filter fun j => decide (Int.tmod ((powersOf q a).getD i 0 + (powersOf q b).getD j 0) q = 1)).map fun j : Nat => (j : Int) - 1
def dotsB (p : List Int) : Bool := p.all (fun x => decide (0 ≤ x ∧ x < (p.length : Int))) && decide p.Nodup
theorem powers_fine : ([3, 5, 7, 11, 13] : List Nat).all (fun q => (List.range 13).all fun r => !rootB q r || (costB (powDots q r) && dotsB (powDots q r) && decide ((powDots q r).length = q - 1) && decide ((powDots q r).getD 0 1 = 0))) = true := by decide +kernel
theorem logs_fine : ([5, 7, 11, 13] : List Nat).all (fun q => (List.range 13).all fun a => (List.range 13).all fun b => !(rootB q a && rootB q b) || (costB (logsOf q a b) && dotsB (logsOf q a b) && decide ((logsOf q a b).length = q - 2) && decide (logsOf q b a = crossOf (logsOf q a b)))) = true := by decide +kernel
end Go.Proofs.Ytadhfbchilaklaa.Fn
namespace Go.Proofs.Ytadhfbchilaklaa.Fn
open Go.RowKit Go.Proofs.YtadhfbchilaklaaW.PrintWords Go.Proofs.YtadhfbchilaklaaW.PrintLast Go.Proofs.YtadhfbchilaklaaW.PrintMore
set_option linter.unusedVariables false
set_option linter.unusedSimpArgs false
def isDots (p : List Int) : Bool := decide (1 ≤ p.length ∧ p.length ≤ 12) && dotsB p
theorem dotsB_iff {p : List Int} : dotsB p = true ↔ Dots p := by
  unfold dotsB
  rw [Bool.and_eq_true, List.all_eq_true, decide_eq_true_eq]
  constructor
  · exact fun h => ⟨fun x hx => of_decide_eq_true (h.1 x hx), h.2⟩
  · exact fun h => ⟨fun x hx => decide_eq_true (h.rng x hx), h.nod⟩
theorem isDots_parts {p : List Int} (h : isDots p = true) : (1 ≤ p.length ∧ p.length ≤ 12) ∧ Dots p := by
  unfold isDots at h
  rw [Bool.and_eq_true, decide_eq_true_eq, dotsB_iff] at h
  exact h
theorem isDots_mk {p : List Int} (h1 : 1 ≤ p.length ∧ p.length ≤ 12) (h2 : Dots p) : isDots p = true := by
  unfold isDots
  rw [decide_eq_true h1, dotsB_iff.2 h2]
  rfl
theorem dots_bad {p pre suf : List Int} {x : Int} (e : p = pre ++ x :: suf) (h : x < 0 ∨ x ≥ (p.length : Int) ∨ x ∈ pre) : dotsB p = false := by
  rw [Bool.eq_false_iff]
  intro hd
  have hd := dotsB_iff.1 hd
  have hx := hd.rng x (by rw [e]; simp)
  rcases h with h | h | h
  · omega
  · omega
  · have hn := hd.nod
    rw [e, List.nodup_append] at hn
    exact hn.2.2 x h x (by simp) rfl
theorem nodup_snoc {pre : List Int} {x : Int} (hn : pre.Nodup) (hx : ¬ x ∈ pre) : (pre ++ [x]).Nodup := List.nodup_append.2 ⟨hn, by simp, fun a ha b hb => by
  have : b = x := by simpa using hb
  intro e2
  exact hx (by rw [← this, ← e2]; exact ha)⟩
theorem impl_IsDots.L0_val (p : List Int) (hp : p.length < 4611686018427387904) : ∀ (suf pre : List Int), p = pre ++ suf → (∀ x ∈ pre, 0 ≤ x ∧ x < (p.length : Int)) → pre.Nodup → impl_IsDots.L0 p p (p.length : Int) (pre.length : Int) = some (isDots p)
  | [], pre, e, hr, hn => by
    have hpre : p = pre := by rw [e]; simp
    have hd : Dots p := ⟨fun x hx => hr x (by rw [← hpre]; exact hx), by rw [hpre]; exact hn⟩
    rw [impl_IsDots.L0_eq, if_neg (by rw [hpre]; omega)]
    unfold isDots
    rw [dotsB_iff.2 hd, Bool.and_true]
    by_cases h1 : (p.length : Int) ≥ 1
    · rw [if_pos h1]
      congr 1
      rw [decide_eq_decide]
      omega
    · rw [if_neg h1, decide_eq_false (by omega)]
  | x :: suf, pre, e, hr, hn => by
    have hrd : rd p (pre.length : Int) = x := by rw [e, rd_mid]
    have hlen : pre.length < p.length := by rw [e]; simp
    have hw : wrap64 ((pre.length : Int) + 1) = ((pre ++ [x]).length : Int) := by rw [wrap_in (by omega) (by omega)]; simp
    have ht : p.take ((pre.length : Int)).toNat = pre := by rw [e, Int.toNat_natCast]; simp
    have bad : (x < 0 ∨ x ≥ (p.length : Int) ∨ x ∈ pre) → isDots p = false := fun h => by
      unfold isDots
      rw [dots_bad e h, Bool.and_false]
    rw [impl_IsDots.L0_eq, if_pos (by omega), if_pos (by omega), if_pos (by omega), hrd]
    by_cases h1 : x < 0
    · rw [if_pos h1, bad (.inl h1)]
    · rw [if_neg h1]
      by_cases h2 : x ≥ (p.length : Int)
      · rw [if_pos h2, bad (.inr (.inl h2))]
      · rw [if_neg h2, if_pos (by omega), ht, slices_Contains_int_int.F_val pre x (by omega)]
        simp only [Option.bind_some]
        by_cases h3 : x ∈ pre
        · rw [if_pos (decide_eq_true h3), bad (.inr (.inr h3))]
        · rw [if_neg (by rw [decide_eq_false h3]; decide), hw]
          exact impl_IsDots.L0_val p hp suf (pre ++ [x]) (by rw [e]; simp) (fun y hy => by
            rcases List.mem_append.1 hy with hy | hy
            · exact hr y hy
            · have : y = x := by simpa using hy
              omega) (nodup_snoc hn h3)
theorem impl_IsDots.F_val (p : List Int) (hp : p.length < 4611686018427387904) : impl_IsDots.F p = some (isDots p) := by
  rw [impl_IsDots.F_eq]
  exact impl_IsDots.L0_val p hp p [] (by simp) (by simp) List.nodup_nil
theorem spec_doGood.L0_val (p : List Int) (hp : p.length ≤ 1000) : ∀ (suf pre : List Int), p = pre ++ suf → (∀ x ∈ pre, 0 ≤ x ∧ x < (p.length : Int)) → pre.Nodup → spec_doGood.L0 p p (p.length : Int) (pre.length : Int) = some (dotsB p)
  | [], pre, e, hr, hn => by
    have hpre : p = pre := by rw [e]; simp
    have hd : Dots p := ⟨fun x hx => hr x (by rw [← hpre]; exact hx), by rw [hpre]; exact hn⟩
    rw [spec_doGood.L0_eq, if_neg (by rw [hpre]; omega), dotsB_iff.2 hd]
  | x :: suf, pre, e, hr, hn => by
    have hrd : rd p (pre.length : Int) = x := by rw [e, rd_mid]
    have hlen : pre.length < p.length := by rw [e]; simp
    have hw : wrap64 ((pre.length : Int) + 1) = ((pre ++ [x]).length : Int) := by rw [wrap_in (by omega) (by omega)]; simp
    have ht : p.take ((pre.length : Int)).toNat = pre := by rw [e, Int.toNat_natCast]; simp
    rw [spec_doGood.L0_eq, if_pos (by omega), if_pos (by omega), if_pos (by omega), hrd, wrap_in (n := (p.length : Int) - 1) (by omega) (by omega), spec_l1In.f_val]
    simp only [Option.bind_some]
    by_cases h1 : 0 ≤ x ∧ x ≤ (p.length : Int) - 1
    · rw [if_pos (by rw [decide_eq_true h1.1, decide_eq_true h1.2]; rfl), if_pos (by omega), ht, spec_l1Has.F_val pre x (by omega)]
      simp only [Option.bind_some]
      by_cases h3 : x ∈ pre
      · rw [if_pos (decide_eq_true h3), dots_bad e (.inr (.inr h3))]
      · rw [if_neg (by rw [decide_eq_false h3]; decide), hw]
        exact spec_doGood.L0_val p hp suf (pre ++ [x]) (by rw [e]; simp) (fun y hy => by
          rcases List.mem_append.1 hy with hy | hy
          · exact hr y hy
          · have : y = x := by simpa using hy
            omega) (nodup_snoc hn h3)
    · rw [if_neg (by rw [Bool.and_eq_true, decide_eq_true_eq, decide_eq_true_eq]; exact h1), dots_bad e (by omega)]
theorem spec_doGood.F_val (p : List Int) (hp : p.length < 4611686018427387904) : spec_doGood.F p = some (isDots p) := by
  rw [spec_doGood.F_eq, spec_l1In.f_val]
  simp only [Option.bind_some]
  unfold isDots
  by_cases h1 : 1 ≤ p.length ∧ p.length ≤ 12
  · rw [if_pos (by rw [decide_eq_true (show (1 : Int) ≤ p.length by omega), decide_eq_true (show (p.length : Int) ≤ 12 by omega)]; rfl), decide_eq_true h1, Bool.true_and]
    exact spec_doGood.L0_val p (by omega) p [] (by simp) (by simp) List.nodup_nil
  · rw [if_neg (by rw [Bool.and_eq_true, decide_eq_true_eq, decide_eq_true_eq]; omega), decide_eq_false h1, Bool.false_and]
theorem diffs_drop {p : List Int} {k i : Nat} (hk : k ≤ i) (hi : i < p.length) : (diffsOf p k).drop (i - k) = (rd p (i : Int) - rd p ((i - k : Nat) : Int)) :: (diffsOf p k).drop (i + 1 - k) := by
  have h1 : i - k < (diffsOf p k).length := by rw [diffsOf_length]; omega
  rw [List.drop_eq_getElem_cons h1, diffsOf_get, rd_nat p i hi, rd_nat p (i - k) (by omega), show i - k + 1 = i + 1 - k by omega]
  have : i - k + k = i := by omega
  simp only [this]
theorem wrap_succ (i : Nat) (h : i < 4611686018427387904) : wrap64 ((i : Int) + 1) = ((i + 1 : Nat) : Int) := by rw [wrap_in (by omega) (by omega)]; rfl
theorem wrap_minus {k i : Nat} (hk : k ≤ i) (h : i < 4611686018427387904) : wrap64 ((i : Int) - (k : Int)) = ((i - k : Nat) : Int) := by rw [wrap_in (by omega) (by omega)]; omega
theorem wrap_diff {x y : Int} (h1 : -1000 ≤ x ∧ x ≤ 1000) (h2 : -1000 ≤ y ∧ y ≤ 1000) : wrap64 (x - y) = x - y := wrap_in (by omega) (by omega)
theorem rd_bound {p : List Int} {a b : Int} (hv : ∀ x ∈ p, a ≤ x ∧ x ≤ b) {i : Nat} (hi : i < p.length) : a ≤ rd p (i : Int) ∧ rd p (i : Int) ≤ b := by
  rw [rd_nat p i hi]
  exact hv _ (List.getElem_mem hi)
theorem impl_differences.L0_val (p : List Int) (hp : p.length ≤ 1000) (hv : ∀ x ∈ p, -1000 ≤ x ∧ x ≤ 1000) (k : Nat) : ∀ (m i : Nat) (acc : List Int), i + m = p.length → k ≤ i → acc.length + m ≤ 10000 → impl_differences.L0 p (k : Int) acc (i : Int) = some (acc ++ (diffsOf p k).drop (i - k))
  | 0, i, acc, hm, hk, ha => by
    rw [impl_differences.L0_eq, if_neg (by omega), List.drop_of_length_le (by rw [diffsOf_length]; omega), List.append_nil]
  | m + 1, i, acc, hm, hk, ha => by
    have hi : i < p.length := by omega
    have hdd := diffs_drop hk hi
    have v1 := rd_bound hv hi
    have v2 := rd_bound hv (show i - k < p.length by omega)
    obtain ⟨x, hx⟩ : ∃ x, rd p (i : Int) = x := ⟨_, rfl⟩
    obtain ⟨y, hy⟩ : ∃ y, rd p ((i - k : Nat) : Int) = y := ⟨_, rfl⟩
    rw [hx] at v1 hdd
    rw [hy] at v2 hdd
    have ih := impl_differences.L0_val p hp hv k m (i + 1) (acc ++ [x - y]) (by omega) (by omega) (by simp; omega)
    have c1 : (i : Int) < (p.length : Int) := by omega
    have c3 : (0 : Int) ≤ ((i - k : Nat) : Int) := by omega
    have c4 : ((i - k : Nat) : Int) < (p.length : Int) := by omega
    have c5 : acc.length < 17592186044416 := by omega
    have h6 : i < 4611686018427387904 := by omega
    rw [impl_differences.L0_eq, if_pos c1, if_pos (Int.natCast_nonneg i), wrap_minus hk h6, if_pos c3, if_pos c4, if_pos c5, hx, hy, wrap_diff v1 v2, wrap_succ i h6, ih, hdd, List.append_assoc, List.singleton_append]
theorem impl_differences.F_val (p : List Int) (hp : p.length ≤ 1000) (hv : ∀ x ∈ p, -1000 ≤ x ∧ x ≤ 1000) (k : Nat) (hk : k ≤ p.length) : impl_differences.F p (k : Int) = some (diffsOf p k) := by
  rw [impl_differences.F_eq]
  have := impl_differences.L0_val p hp hv k (p.length - k) k [] (by omega) (by omega) (by simp; omega)
  rw [Nat.sub_self, List.drop_zero, List.nil_append] at this
  exact this
/-- The first place of a list whose number stands before it, too: that place of it, and it. -/
def repFrom (l : List Int) : Nat → Nat → Option (Int × Int)
  | 0, _ => none
  | m + 1, j => if 0 ≤ indexFrom (rd l (j : Int)) 0 (l.take j) then some (indexFrom (rd l (j : Int)) 0 (l.take j), (j : Int)) else repFrom l m (j + 1)
theorem repFrom_none {l : List Int} : ∀ (m j : Nat), j + m = l.length → (l.take j).Nodup → (repFrom l m j = none ↔ l.Nodup)
  | 0, j, hm, hn => by
    have hn2 : l.Nodup := by rw [List.take_of_length_le (by omega)] at hn; exact hn
    exact ⟨fun _ => hn2, fun _ => rfl⟩
  | m + 1, j, hm, hn => by
    have hj : j < l.length := by omega
    unfold repFrom
    rw [rd_nat l j hj]
    have hiff := indexFrom_mem l[j] (l.take j) 0
    by_cases h : 0 ≤ indexFrom l[j] 0 (l.take j)
    · rw [if_pos h]
      refine ⟨fun e => absurd e (by simp), fun hl => ?_⟩
      have hmem := hiff.1 h
      obtain ⟨i, hi, e⟩ := List.mem_iff_getElem.1 hmem
      rw [List.length_take] at hi
      rw [List.getElem_take] at e
      exact absurd (nodup_get_inj hl (by omega) hj e) (by omega)
    · rw [if_neg h]
      refine repFrom_none m (j + 1) (by omega) ?_
      rw [List.take_succ_eq_append_getElem hj]
      exact nodup_snoc hn (fun hx => h (hiff.2 hx))
/-- The first differences that stand twice. -/
def repAll (p : List Int) : Nat → Nat → Int × Int × Int × Bool
  | 0, _ => (0, 0, 0, false)
  | m + 1, k => match repFrom (diffsOf p k) (diffsOf p k).length 0 with
    | some (i, j) => ((k : Int), i, j, true)
    | none => repAll p m (k + 1)
theorem repAll_flag (p : List Int) : ∀ (m k : Nat), (repAll p m k).2.2.2 = !((List.range' k m).all fun k => decide (diffsOf p k).Nodup)
  | 0, k => by simp [repAll]
  | m + 1, k => by
    have ih := repAll_flag p m (k + 1)
    have hn := repFrom_none (l := diffsOf p k) (diffsOf p k).length 0 (by omega) (by simp)
    rw [List.range'_succ, List.all_cons]
    unfold repAll
    cases h : repFrom (diffsOf p k) (diffsOf p k).length 0 with
    | none => rw [decide_eq_true (hn.1 h), Bool.true_and]; exact ih
    | some q =>
      have : ¬ (diffsOf p k).Nodup := fun hd => by rw [hn.2 hd] at h; cases h
      rw [decide_eq_false this]
      rfl
def repeatOf (p : List Int) : Int × Int × Int × Bool := repAll p (p.length - 1) 1
theorem repeatOf_flag (p : List Int) : (!(repeatOf p).2.2.2) = costB p := by
  unfold repeatOf costB
  rw [repAll_flag, Bool.not_not]
theorem impl_repeat.L1_val (p : List Int) (k : Int) (l : List Int) (hl : l.length ≤ 1000) : ∀ (m j : Nat), j + m = l.length → impl_repeat.L1 p k l (l.length : Int) (j : Int) = match repFrom l m j with | some (i, j) => some (k, i, j, true) | none => impl_repeat.L0 p (wrap64 (k + 1))
  | 0, j, hm => by
    rw [impl_repeat.L1_eq, if_neg (by omega)]
    rfl
  | m + 1, j, hm => by
    have hw : wrap64 ((j : Int) + 1) = ((j + 1 : Nat) : Int) := by rw [wrap_in (by omega) (by omega)]; rfl
    rw [impl_repeat.L1_eq, if_pos (by omega), if_pos (by omega), if_pos (by omega), if_pos (by omega), Int.toNat_natCast, slices_Index_int_int.F_val _ _ (by rw [List.length_take]; omega), hw]
    simp only [Option.bind_some]
    unfold repFrom
    by_cases h : 0 ≤ indexFrom (rd l (j : Int)) 0 (l.take j)
    · rw [if_pos h, if_pos h]
    · rw [if_neg h, if_neg h]
      exact impl_repeat.L1_val p k l hl m (j + 1) (by omega)
theorem impl_repeat.L0_val (p : List Int) (hp : p.length ≤ 1000) (hv : ∀ x ∈ p, -1000 ≤ x ∧ x ≤ 1000) : ∀ (m k : Nat), (k + m = p.length ∨ m = 0 ∧ p.length ≤ k ∧ k ≤ 1000) → impl_repeat.L0 p (k : Int) = some (repAll p m k)
  | 0, k, hm => by
    rw [impl_repeat.L0_eq, if_neg (by omega)]
    rfl
  | m + 1, k, hm => by
    have hw : wrap64 ((k : Int) + 1) = ((k + 1 : Nat) : Int) := by rw [wrap_in (by omega) (by omega)]; rfl
    have hdl := diffsOf_length p k
    rw [impl_repeat.L0_eq, if_pos (by omega), impl_differences.F_val p hp hv k (by omega)]
    simp only [Option.bind_some]
    have hL := impl_repeat.L1_val p (k : Int) (diffsOf p k) (by omega) (diffsOf p k).length 0 (by omega)
    refine hL.trans ?_
    unfold repAll
    cases h : repFrom (diffsOf p k) (diffsOf p k).length 0 with
    | none =>
      simp only [hw]
      exact impl_repeat.L0_val p hp hv m (k + 1) (by omega)
    | some q => rfl
theorem impl_repeat.F_val (p : List Int) (hp : p.length ≤ 999) (hv : ∀ x ∈ p, -1000 ≤ x ∧ x ≤ 1000) : impl_repeat.F p = some (repeatOf p) := by
  rw [impl_repeat.F_eq]
  exact impl_repeat.L0_val p (by omega) hv (p.length - 1) 1 (by omega)
theorem impl_costas.F_val (p : List Int) (hp : p.length ≤ 999) (hv : ∀ x ∈ p, -1000 ≤ x ∧ x ≤ 1000) : impl_costas.F p = some (costB p) := by
  rw [impl_costas.F_eq, impl_repeat.F_val p hp hv]
  simp only [Option.bind_some]
  rw [repeatOf_flag]
end Go.Proofs.Ytadhfbchilaklaa.Fn
namespace Go.Proofs.Ytadhfbchilaklaa.Fn
open Go.RowKit Go.Proofs.YtadhfbchilaklaaW.PrintWords Go.Proofs.YtadhfbchilaklaaW.PrintLast Go.Proofs.YtadhfbchilaklaaW.PrintMore
set_option linter.unusedVariables false
set_option linter.unusedSimpArgs false
theorem rd_set_nat (l : List Int) (a : Nat) (v : Int) (j : Nat) (hj : j < l.length) : rd (l.set a v) (j : Int) = if a = j then v else rd l (j : Int) := by
  rw [rd_nat _ j (by simpa using hj), List.getElem_set]
  split
  · rfl
  · rw [rd_nat l j hj]
theorem wrap_turn {n i : Nat} (hi : i < n) (hn : n ≤ 1000) : wrap64 (wrap64 ((n : Int) - 1) - (i : Int)) = (n : Int) - 1 - (i : Int) := by
  rw [wrap_in (n := (n : Int) - 1) (by omega) (by omega), wrap_in (by omega) (by omega)]
theorem Dots.nat {p : List Int} (h : Dots p) {i : Nat} (hi : i < p.length) : ∃ x : Nat, x < p.length ∧ rd p (i : Int) = (x : Int) := by
  have hx := h.rng _ (List.getElem_mem hi)
  refine ⟨(p[i]).toNat, by omega, ?_⟩
  rw [rd_nat p i hi]
  omega
theorem Dots.rd_inj {p : List Int} (h : Dots p) {i j : Nat} (hi : i < p.length) (hj : j < p.length) (e : rd p (i : Int) = rd p (j : Int)) : i = j := by
  rw [rd_nat p i hi, rd_nat p j hj] at e
  exact nodup_get_inj h.nod hi hj e
/-- What is told of each dot's row is told of each row. -/
theorem of_puts {p q : List Int} (h : Dots p) (hl : q.length = p.length) (f : Nat → Int) (hq : ∀ j : Nat, j < p.length → rd q (rd p (j : Int)) = f j) : q = (List.range p.length).map fun y : Nat => f (p.idxOf (y : Int)) := by
  refine List.ext_getElem (by simp [hl]) fun y h1 h2 => ?_
  have hy : y < p.length := by omega
  have e := hq _ (h.idx_lt hy)
  rw [rd_nat p _ (h.idx_lt hy), h.get_idx hy, rd_nat q y h1] at e
  rw [e]
  simp
/-- One dot more is told. -/
theorem put_more {p out : List Int} (h : Dots p) (ho : out.length = p.length) (f : Nat → Int) {i x : Nat} (hi : i < p.length) (hx : rd p (i : Int) = (x : Int)) (hg : ∀ j : Nat, j < i → rd out (rd p (j : Int)) = f j) : ∀ j : Nat, j < i + 1 → rd (out.set x (f i)) (rd p (j : Int)) = f j := by
  intro j hj
  obtain ⟨y, hy, hye⟩ := h.nat (show j < p.length by omega)
  rw [hye, rd_set_nat out x _ y (by omega)]
  by_cases e : x = y
  · subst e
    rw [if_pos rfl, h.rd_inj (by omega) hi (hye.trans hx.symm)]
  · rw [if_neg e]
    have hne : j ≠ i := fun e2 => e (by subst e2; rw [hx] at hye; omega)
    have := hg j (by omega)
    rw [hye] at this
    exact this
/-- The flags that go with dots. -/
def onDots (p : List Int) (f : List Int → List Int) : List Int × Bool := if isDots p = true then (f p, true) else ([], false)
theorem onDots_pos {p : List Int} (h : isDots p = true) (f : List Int → List Int) : onDots p f = (f p, true) := if_pos h
theorem onDots_neg {p : List Int} (h : ¬ isDots p = true) (f : List Int → List Int) : onDots p f = ([], false) := if_neg h
theorem impl_turned.L0_val (p : List Int) (hd : Dots p) (hp : p.length ≤ 1000) : ∀ (m i : Nat) (out : List Int), i + m = p.length → out.length = p.length → (∀ j : Nat, j < i → rd out (rd p (j : Int)) = (p.length : Int) - 1 - (j : Int)) → ∃ q, impl_turned.L0 p out p (p.length : Int) (i : Int) = some q ∧ q.length = p.length ∧ ∀ j : Nat, j < p.length → rd q (rd p (j : Int)) = (p.length : Int) - 1 - (j : Int)
  | 0, i, out, hm, ho, hg => ⟨out, by rw [impl_turned.L0_eq, if_neg (by omega)], ho, fun j hj => hg j (by omega)⟩
  | m + 1, i, out, hm, ho, hg => by
    have hi : i < p.length := by omega
    obtain ⟨x, hx, hxe⟩ := hd.nat hi
    have c1 : (i : Int) < (p.length : Int) := by omega
    have c2 : (x : Int) < (out.length : Int) := by omega
    have ih := impl_turned.L0_val p hd hp m (i + 1) (out.set x ((p.length : Int) - 1 - (i : Int))) (by omega) (by rw [List.length_set]; exact ho) (put_more hd ho (fun j => (p.length : Int) - 1 - (j : Int)) hi hxe hg)
    rw [impl_turned.L0_eq, if_pos c1, if_pos (Int.natCast_nonneg i), if_pos c1, hxe, if_pos (Int.natCast_nonneg x), if_pos c2, Int.toNat_natCast, wrap_turn hi hp, wrap_succ i (by omega)]
    exact ih
theorem impl_turned.F_val (p : List Int) (hd : Dots p) (hp : p.length ≤ 1000) : impl_turned.F p = some (turnOf p) := by
  rw [impl_turned.F_eq, if_pos (by omega), if_pos (by rw [Int.toNat_natCast]; omega), Int.toNat_natCast]
  obtain ⟨q, e, hl, hq⟩ := impl_turned.L0_val p hd hp p.length 0 (List.replicate p.length 0) (by omega) (by simp) (fun j hj => absurd hj (by omega))
  rw [of_puts hd hl _ hq] at e
  exact e
theorem spec_doTurn.L0_val (p : List Int) (hd : Dots p) (hp : p.length ≤ 1000) : ∀ (m i : Nat) (out : List Int), i + m = p.length → out.length = p.length → (∀ j : Nat, j < i → rd out (rd p (j : Int)) = (p.length : Int) - 1 - (j : Int)) → ∃ q, spec_doTurn.L0 p out p (p.length : Int) (i : Int) = some q ∧ q.length = p.length ∧ ∀ j : Nat, j < p.length → rd q (rd p (j : Int)) = (p.length : Int) - 1 - (j : Int)
  | 0, i, out, hm, ho, hg => ⟨out, by rw [spec_doTurn.L0_eq, if_neg (by omega)], ho, fun j hj => hg j (by omega)⟩
  | m + 1, i, out, hm, ho, hg => by
    have hi : i < p.length := by omega
    obtain ⟨x, hx, hxe⟩ := hd.nat hi
    have c1 : (i : Int) < (p.length : Int) := by omega
    have c2 : (x : Int) < (out.length : Int) := by omega
    have ih := spec_doTurn.L0_val p hd hp m (i + 1) (out.set x ((p.length : Int) - 1 - (i : Int))) (by omega) (by rw [List.length_set]; exact ho) (put_more hd ho (fun j => (p.length : Int) - 1 - (j : Int)) hi hxe hg)
    rw [spec_doTurn.L0_eq, if_pos c1, if_pos (Int.natCast_nonneg i), if_pos c1, hxe, if_pos (Int.natCast_nonneg x), if_pos c2, Int.toNat_natCast, wrap_turn hi hp, wrap_succ i (by omega)]
    exact ih
theorem spec_doTurn.F_val (p : List Int) (hd : Dots p) (hp : p.length ≤ 1000) : spec_doTurn.F p = some (turnOf p) := by
  rw [spec_doTurn.F_eq, if_pos (by omega), if_pos (by rw [Int.toNat_natCast]; omega), Int.toNat_natCast]
  obtain ⟨q, e, hl, hq⟩ := spec_doTurn.L0_val p hd hp p.length 0 (List.replicate p.length 0) (by omega) (by simp) (fun j hj => absurd hj (by omega))
  rw [of_puts hd hl _ hq] at e
  exact e
theorem impl_CrossDots.L0_val (p : List Int) (hd : Dots p) (hp : p.length ≤ 1000) : ∀ (m i : Nat) (out : List Int), i + m = p.length → out.length = p.length → (∀ j : Nat, j < i → rd out (rd p (j : Int)) = (j : Int)) → ∃ q, impl_CrossDots.L0 out p (p.length : Int) (i : Int) = some (q, true) ∧ q.length = p.length ∧ ∀ j : Nat, j < p.length → rd q (rd p (j : Int)) = (j : Int)
  | 0, i, out, hm, ho, hg => ⟨out, by rw [impl_CrossDots.L0_eq, if_neg (by omega)], ho, fun j hj => hg j (by omega)⟩
  | m + 1, i, out, hm, ho, hg => by
    have hi : i < p.length := by omega
    obtain ⟨x, hx, hxe⟩ := hd.nat hi
    have c1 : (i : Int) < (p.length : Int) := by omega
    have c2 : (x : Int) < (out.length : Int) := by omega
    have ih := impl_CrossDots.L0_val p hd hp m (i + 1) (out.set x (i : Int)) (by omega) (by rw [List.length_set]; exact ho) (put_more hd ho (fun j => (j : Int)) hi hxe hg)
    rw [impl_CrossDots.L0_eq, if_pos c1, if_pos (Int.natCast_nonneg i), if_pos c1, hxe, if_pos (Int.natCast_nonneg x), if_pos c2, Int.toNat_natCast, wrap_succ i (by omega)]
    exact ih
theorem impl_CrossDots.F_val (p : List Int) (hp : p.length < 4611686018427387904) : impl_CrossDots.F p = some (onDots p crossOf) := by
  rw [impl_CrossDots.F_eq, impl_IsDots.F_val p hp]
  simp only [Option.bind_some]
  by_cases h : isDots p = true
  · obtain ⟨hl, hd⟩ := isDots_parts h
    rw [if_pos h, onDots_pos h, if_pos (by omega), if_pos (by rw [Int.toNat_natCast]; omega), Int.toNat_natCast]
    obtain ⟨q, e, hlq, hq⟩ := impl_CrossDots.L0_val p hd (by omega) p.length 0 (List.replicate p.length 0) (by omega) (by simp) (fun j hj => absurd hj (by omega))
    rw [of_puts hd hlq _ hq] at e
    exact e
  · rw [if_neg h, onDots_neg h]
theorem spec_CrossDots.L0_val (p : List Int) (hd : Dots p) (hp : p.length ≤ 1000) : ∀ (m i : Nat) (out : List Int), i + m = p.length → out.length = p.length → (∀ j : Nat, j < i → rd out (rd p (j : Int)) = (j : Int)) → ∃ q, spec_CrossDots.L0 out p (p.length : Int) (i : Int) = some (q, true) ∧ q.length = p.length ∧ ∀ j : Nat, j < p.length → rd q (rd p (j : Int)) = (j : Int)
  | 0, i, out, hm, ho, hg => ⟨out, by rw [spec_CrossDots.L0_eq, if_neg (by omega)], ho, fun j hj => hg j (by omega)⟩
  | m + 1, i, out, hm, ho, hg => by
    have hi : i < p.length := by omega
    obtain ⟨x, hx, hxe⟩ := hd.nat hi
    have c1 : (i : Int) < (p.length : Int) := by omega
    have c2 : (x : Int) < (out.length : Int) := by omega
    have ih := spec_CrossDots.L0_val p hd hp m (i + 1) (out.set x (i : Int)) (by omega) (by rw [List.length_set]; exact ho) (put_more hd ho (fun j => (j : Int)) hi hxe hg)
    rw [spec_CrossDots.L0_eq, if_pos c1, if_pos (Int.natCast_nonneg i), if_pos c1, hxe, if_pos (Int.natCast_nonneg x), if_pos c2, Int.toNat_natCast, wrap_succ i (by omega)]
    exact ih
theorem spec_CrossDots.F_val (p : List Int) (hp : p.length < 4611686018427387904) : spec_CrossDots.F p = some (onDots p crossOf) := by
  rw [spec_CrossDots.F_eq, spec_doGood.F_val p hp]
  simp only [Option.bind_some]
  by_cases h : isDots p = true
  · obtain ⟨hl, hd⟩ := isDots_parts h
    rw [if_pos h, onDots_pos h, if_pos (by omega), if_pos (by rw [Int.toNat_natCast]; omega), Int.toNat_natCast]
    obtain ⟨q, e, hlq, hq⟩ := spec_CrossDots.L0_val p hd (by omega) p.length 0 (List.replicate p.length 0) (by omega) (by simp) (fun j hj => absurd hj (by omega))
    rw [of_puts hd hlq _ hq] at e
    exact e
  · rw [if_neg h, onDots_neg h]
theorem impl_TurnDots.F_val (p : List Int) (hp : p.length < 4611686018427387904) : impl_TurnDots.F p = some (onDots p turnOf) := by
  rw [impl_TurnDots.F_eq, impl_IsDots.F_val p hp]
  simp only [Option.bind_some]
  by_cases h : isDots p = true
  · obtain ⟨hl, hd⟩ := isDots_parts h
    rw [if_pos h, onDots_pos h, impl_turned.F_val p hd (by omega)]
    rfl
  · rw [if_neg h, onDots_neg h]
theorem spec_TurnDots.F_val (p : List Int) (hp : p.length < 4611686018427387904) : spec_TurnDots.F p = some (onDots p turnOf) := by
  rw [spec_TurnDots.F_eq, spec_doGood.F_val p hp]
  simp only [Option.bind_some]
  by_cases h : isDots p = true
  · obtain ⟨hl, hd⟩ := isDots_parts h
    rw [if_pos h, onDots_pos h, spec_doTurn.F_val p hd (by omega)]
    rfl
  · rw [if_neg h, onDots_neg h]
theorem impl_MirrorDots.F_val (p : List Int) (hp : p.length < 4611686018427387904) : impl_MirrorDots.F p = some (onDots p List.reverse) := by
  rw [impl_MirrorDots.F_eq, impl_IsDots.F_val p hp]
  simp only [Option.bind_some]
  by_cases h : isDots p = true
  · obtain ⟨hl, hd⟩ := isDots_parts h
    rw [if_pos h, onDots_pos h, impl_back.F_val p (by omega)]
    rfl
  · rw [if_neg h, onDots_neg h]
theorem spec_MirrorDots.F_val (p : List Int) (hp : p.length < 4611686018427387904) : spec_MirrorDots.F p = some (onDots p List.reverse) := by
  rw [spec_MirrorDots.F_eq, spec_doGood.F_val p hp]
  simp only [Option.bind_some]
  by_cases h : isDots p = true
  · obtain ⟨hl, hd⟩ := isDots_parts h
    rw [if_pos h, onDots_pos h, spec_roBack.F_val p (by omega)]
    rfl
  · rw [if_neg h, onDots_neg h]
theorem impl_IsCostas.F_val (p : List Int) (hp : p.length < 4611686018427387904) : impl_IsCostas.F p = some (isDots p && costB p, isDots p) := by
  rw [impl_IsCostas.F_eq, impl_IsDots.F_val p hp]
  simp only [Option.bind_some]
  by_cases h : isDots p = true
  · obtain ⟨hl, hd⟩ := isDots_parts h
    rw [if_pos h, h, impl_costas.F_val p (by omega) (fun x hx => by have := hd.rng x hx; omega)]
    rfl
  · rw [if_neg h, Bool.eq_false_iff.2 h]
    rfl
/-- The dots without their first column and row, where a dot stands in the corner. -/
def cornerF (p : List Int) : List Int × Bool := if isDots p = true ∧ rd p 0 = 0 ∧ p.length ≠ 1 then ((p.drop 1).map (fun x => x - 1), true) else ([], false)
theorem impl_DropCorner.L0_val (t : List Int) (hv : ∀ x ∈ t, -1000 ≤ x ∧ x ≤ 1000) (ht : t.length ≤ 1000) : ∀ (m i : Nat) (acc : List Int), i + m = t.length → acc.length + m ≤ 10000 → impl_DropCorner.L0 acc t (t.length : Int) (i : Int) = some (acc ++ (t.drop i).map (fun x => x - 1), true)
  | 0, i, acc, hm, ha => by
    rw [impl_DropCorner.L0_eq, if_neg (by omega), List.drop_of_length_le (by omega), List.map_nil, List.append_nil]
  | m + 1, i, acc, hm, ha => by
    have hi : i < t.length := by omega
    have c1 : (i : Int) < (t.length : Int) := by omega
    have c5 : acc.length < 17592186044416 := by omega
    have v := hv _ (List.getElem_mem hi)
    have ih := impl_DropCorner.L0_val t hv ht m (i + 1) (acc ++ [t[i] - 1]) (by omega) (by simp; omega)
    have hd := List.drop_eq_getElem_cons hi
    obtain ⟨x, hx⟩ : ∃ x, t[i] = x := ⟨_, rfl⟩
    rw [hx] at v ih hd
    have hw : wrap64 (x - 1) = x - 1 := wrap_in (by omega) (by omega)
    rw [impl_DropCorner.L0_eq, if_pos c1, if_pos (Int.natCast_nonneg i), if_pos c1, if_pos c5, rd_nat t i hi, hx, hw, wrap_up hi (by omega), ih, hd, List.map_cons, List.append_assoc, List.singleton_append]
theorem impl_DropCorner.F_val (p : List Int) (hp : p.length < 4611686018427387904) : impl_DropCorner.F p = some (cornerF p) := by
  rw [impl_DropCorner.F_eq, impl_IsDots.F_val p hp]
  simp only [Option.bind_some]
  unfold cornerF
  by_cases h : isDots p = true
  · obtain ⟨hl, hd⟩ := isDots_parts h
    have c0 : (0 : Int) < (p.length : Int) := by omega
    rw [if_pos h, if_pos c0]
    by_cases h0 : rd p 0 = 0
    · rw [if_pos h0, impl_DropCorner.J0_eq]
      by_cases h1 : p.length = 1
      · rw [if_pos (beq_iff_eq.2 (by omega)), if_neg (fun hh => hh.2.2 h1)]
      · have e1 : ¬ ((p.length : Int) == 1) = true := fun e => h1 (by have := beq_iff_eq.1 e; omega)
        have hL := impl_DropCorner.L0_val (p.drop 1) (fun x hx => by have := hd.rng x (List.mem_of_mem_drop hx); omega) (by rw [List.length_drop]; omega) (p.drop 1).length 0 [] (by omega) (by rw [List.length_nil, List.length_drop]; omega)
        rw [if_neg e1, if_pos (by omega), if_pos ⟨h, h0, h1⟩]
        rw [List.drop_zero, List.nil_append] at hL
        exact hL
    · rw [if_neg h0, impl_DropCorner.J0_eq, if_pos rfl, if_neg (fun hh => h0 hh.2.1)]
  · rw [if_neg h, impl_DropCorner.J0_eq, if_pos rfl, if_neg (fun hh => h hh.1)]
theorem spec_DropCorner.L0_val (t : List Int) (hv : ∀ x ∈ t, -1000 ≤ x ∧ x ≤ 1000) (ht : t.length ≤ 1000) : ∀ (m i : Nat) (acc : List Int), i + m = t.length → acc.length + m ≤ 10000 → spec_DropCorner.L0 acc t (t.length : Int) (i : Int) = some (acc ++ (t.drop i).map (fun x => x - 1), true)
  | 0, i, acc, hm, ha => by
    rw [spec_DropCorner.L0_eq, if_neg (by omega), List.drop_of_length_le (by omega), List.map_nil, List.append_nil]
  | m + 1, i, acc, hm, ha => by
    have hi : i < t.length := by omega
    have c1 : (i : Int) < (t.length : Int) := by omega
    have c5 : acc.length < 17592186044416 := by omega
    have v := hv _ (List.getElem_mem hi)
    have ih := spec_DropCorner.L0_val t hv ht m (i + 1) (acc ++ [t[i] - 1]) (by omega) (by simp; omega)
    have hd := List.drop_eq_getElem_cons hi
    obtain ⟨x, hx⟩ : ∃ x, t[i] = x := ⟨_, rfl⟩
    rw [hx] at v ih hd
    have hw : wrap64 (x - 1) = x - 1 := wrap_in (by omega) (by omega)
    rw [spec_DropCorner.L0_eq, if_pos c1, if_pos (Int.natCast_nonneg i), if_pos c1, if_pos c5, rd_nat t i hi, hx, hw, wrap_up hi (by omega), ih, hd, List.map_cons, List.append_assoc, List.singleton_append]
theorem spec_DropCorner.F_val (p : List Int) (hp : p.length < 4611686018427387904) : spec_DropCorner.F p = some (cornerF p) := by
  rw [spec_DropCorner.F_eq, spec_doGood.F_val p hp]
  simp only [Option.bind_some]
  unfold cornerF
  by_cases h : isDots p = true
  · obtain ⟨hl, hd⟩ := isDots_parts h
    have c0 : (0 : Int) < (p.length : Int) := by omega
    rw [if_pos h, if_pos c0]
    by_cases h0 : rd p 0 = 0
    · rw [if_pos h0, spec_DropCorner.J0_eq]
      by_cases h1 : p.length = 1
      · rw [if_pos (beq_iff_eq.2 (by omega)), if_neg (fun hh => hh.2.2 h1)]
      · have e1 : ¬ ((p.length : Int) == 1) = true := fun e => h1 (by have := beq_iff_eq.1 e; omega)
        have hL := spec_DropCorner.L0_val (p.drop 1) (fun x hx => by have := hd.rng x (List.mem_of_mem_drop hx); omega) (by rw [List.length_drop]; omega) (p.drop 1).length 0 [] (by omega) (by rw [List.length_nil, List.length_drop]; omega)
        rw [if_neg e1, if_pos (by omega), if_pos ⟨h, h0, h1⟩]
        rw [List.drop_zero, List.nil_append] at hL
        exact hL
    · rw [if_neg h0, spec_DropCorner.J0_eq, if_pos rfl, if_neg (fun hh => h0 hh.2.1)]
  · rw [if_neg h, spec_DropCorner.J0_eq, if_pos rfl, if_neg (fun hh => h hh.1)]
def cmpOf : List Int → List Int → Int
  | [], [] => 0
  | [], _ :: _ => -1
  | _ :: _, [] => 1
  | x :: a, y :: b => if x < y then -1 else if x > y then 1 else cmpOf a b
theorem cmpOf_less : ∀ a b : List Int, cmpOf a b < 0 ↔ lessOf a b = true
  | [], [] => by simp [cmpOf, lessOf]
  | [], _ :: _ => by simp [cmpOf, lessOf]
  | _ :: _, [] => by simp [cmpOf, lessOf]
  | x :: a, y :: b => by
    have ih := cmpOf_less a b
    unfold cmpOf lessOf
    by_cases h1 : x < y
    · rw [if_pos h1, if_neg (by omega), decide_eq_true_eq]
      exact ⟨fun _ => h1, fun _ => by omega⟩
    · rw [if_neg h1]
      by_cases h2 : x > y
      · rw [if_pos h2, if_neg (by omega), decide_eq_true_eq]
        exact ⟨fun h => by omega, fun h => absurd h h1⟩
      · rw [if_neg h2, if_pos (by omega)]
        exact ih
theorem cmp_Compare_int.f_val (x y : Int) : cmp_Compare_int.f x y = some (if x < y then -1 else if x > y then 1 else 0) := by
  unfold cmp_Compare_int.f cmp_isNaN_int.f
  simp only [Option.bind_some, bne_self_eq_false, Bool.false_eq_true, if_false]
  by_cases h1 : x < y
  · rw [if_pos h1, if_pos h1]
  · rw [if_neg h1, if_neg h1]
    by_cases h2 : x > y
    · rw [if_pos h2, if_pos h2]
    · rw [if_neg h2, if_neg h2]
theorem slices_Compare_int_int.L0_val (a b : List Int) (ha : a.length < 4611686018427387904) : ∀ (m i : Nat), i + m = a.length → slices_Compare_int_int.L0 a b a (a.length : Int) (i : Int) = some (cmpOf (a.drop i) (b.drop i))
  | 0, i, hm => by
    rw [slices_Compare_int_int.L0_eq, if_neg (by omega), List.drop_of_length_le (show a.length ≤ i by omega)]
    by_cases h : (a.length : Int) < (b.length : Int)
    · rw [if_pos h, List.drop_eq_getElem_cons (show i < b.length by omega)]
      rfl
    · rw [if_neg h, List.drop_of_length_le (show b.length ≤ i by omega)]
      rfl
  | m + 1, i, hm => by
    have hi : i < a.length := by omega
    have c1 : (i : Int) < (a.length : Int) := by omega
    have ih := slices_Compare_int_int.L0_val a b ha m (i + 1) (by omega)
    rw [slices_Compare_int_int.L0_eq, if_pos c1, if_pos (Int.natCast_nonneg i), if_pos c1, List.drop_eq_getElem_cons hi]
    by_cases h : (i : Int) ≥ (b.length : Int)
    · rw [if_pos h, List.drop_of_length_le (show b.length ≤ i by omega)]
      rfl
    · have hb : i < b.length := by omega
      have c2 : (i : Int) < (b.length : Int) := by omega
      rw [if_neg h, if_pos c2, cmp_Compare_int.f_val, rd_nat a i hi, rd_nat b i hb, wrap_up hi ha, ih, List.drop_eq_getElem_cons hb]
      simp only [Option.bind_some]
      have e3 : cmpOf (a[i] :: a.drop (i + 1)) (b[i] :: b.drop (i + 1)) = if a[i] < b[i] then -1 else if a[i] > b[i] then 1 else cmpOf (a.drop (i + 1)) (b.drop (i + 1)) := rfl
      rw [e3]
      by_cases h1 : a[i] < b[i]
      · rw [if_pos h1, if_pos h1, if_neg (by decide)]
      · rw [if_neg h1, if_neg h1]
        by_cases h2 : a[i] > b[i]
        · rw [if_pos h2, if_pos h2, if_neg (by decide)]
        · rw [if_neg h2, if_neg h2, if_pos rfl]
theorem slices_Compare_int_int.F_val (a b : List Int) (ha : a.length < 4611686018427387904) : slices_Compare_int_int.F a b = some (cmpOf a b) := by
  rw [slices_Compare_int_int.F_eq]
  exact slices_Compare_int_int.L0_val a b ha a.length 0 (by omega)
theorem leastOf_append : ∀ (xs ys : List (List Int)) (b : List Int), leastOf (leastOf b xs) ys = leastOf b (xs ++ ys)
  | [], _, _ => rfl
  | x :: xs, ys, b => leastOf_append xs ys _
/-- Quarter turns, each with its mirror image. -/
def turnsOf : Nat → List Int → List (List Int)
  | 0, _ => []
  | n + 1, p => turnOf p :: (turnOf p).reverse :: turnsOf n (turnOf p)
/-- Dots and their next quarter turns. -/
def seqOf : Nat → List Int → List (List Int)
  | 0, _ => []
  | n + 1, p => p :: seqOf n (turnOf p)
def leastD (p : List Int) : List Int := leastOf p (turnsOf 4 p)
theorem turn_back {p : List Int} (h : Dots p) : turnOf p.reverse = (turnOf (turnOf (turnOf p))).reverse := by
  have h2 : turnOf (turnOf p) = flipOf p.reverse := turn_two h
  rw [h2, turn_flip p.reverse, cross_back h, flipOf_two, turn_flip (flipOf p.reverse), cross_flip (back_dots h), cross_back h, ← flip_back, List.reverse_reverse, flipOf_two]
theorem eight_same {p : List Int} (h : Dots p) (x : List Int) : x ∈ p :: turnsOf 4 p ↔ x ∈ p :: (seqOf 4 p ++ seqOf 4 p.reverse) := by
  have h1 := turn_dots h
  have h2 := turn_dots h1
  have h3 := turn_dots h2
  have e4 := turn_four h
  have b1 : turnOf p.reverse = (turnOf (turnOf (turnOf p))).reverse := turn_back h
  have b2 : turnOf (turnOf p.reverse) = (turnOf (turnOf p)).reverse := by rw [b1, turn_back h3, turn_four h2]
  have b3 : turnOf (turnOf (turnOf p.reverse)) = (turnOf p).reverse := by rw [b2, turn_back h2, turn_four h1]
  have es : seqOf 4 p.reverse = [p.reverse, (turnOf (turnOf (turnOf p))).reverse, (turnOf (turnOf p)).reverse, (turnOf p).reverse] := by
    simp only [seqOf]
    rw [b3, b2, b1]
  rw [es]
  simp only [turnsOf, seqOf, e4, List.mem_cons, List.not_mem_nil, or_false, List.cons_append, List.nil_append]
  constructor
  · rintro (h | h | h | h | h | h | h | h | h) <;> simp only [h, eq_self_iff_true, true_or, or_true]
  · rintro (h | h | h | h | h | h | h | h | h) <;> simp only [h, eq_self_iff_true, true_or, or_true]
theorem leastD_eq {p : List Int} (h : Dots p) : leastOf p (seqOf 4 p ++ seqOf 4 p.reverse) = leastD p := leastOf_eq fun x => (eight_same h x).symm
theorem eight_turned {p : List Int} (h : Dots p) (x : List Int) : x ∈ turnOf p :: turnsOf 4 (turnOf p) ↔ x ∈ p :: turnsOf 4 p := by
  have h1 := turn_dots h
  have e4 := turn_four h
  simp only [turnsOf, e4, List.mem_cons, List.not_mem_nil, or_false]
  constructor
  · rintro (h | h | h | h | h | h | h | h | h) <;> simp [h]
  · rintro (h | h | h | h | h | h | h | h | h) <;> simp [h]
theorem leastD_turn {p : List Int} (h : Dots p) : leastD (turnOf p) = leastD p := leastOf_eq fun x => eight_turned h x
theorem leastD_le {p : List Int} (h : Dots p) : lessOf (turnOf p) (leastD p) = false := leastOf_le (turnsOf 4 p) p _ (by simp [turnsOf])
theorem turnsOf_len : ∀ (n : Nat) (p : List Int), ∀ x ∈ turnsOf n p, x.length = p.length
  | 0, _, x, hx => by cases hx
  | n + 1, p, x, hx => by
    unfold turnsOf at hx
    rcases List.mem_cons.1 hx with rfl | hx
    · exact turnOf_length p
    · rcases List.mem_cons.1 hx with rfl | hx
      · rw [List.length_reverse, turnOf_length]
      · rw [turnsOf_len n (turnOf p) x hx, turnOf_length]
theorem leastD_len (p : List Int) : (leastD p).length = p.length := by
  rcases List.mem_cons.1 (leastOf_mem (turnsOf 4 p) p) with h | h
  · exact congrArg List.length h
  · exact turnsOf_len 4 p _ h
theorem impl_least.foldF_val : ∀ (qs : List (List Int)) (b : List Int), (∀ q ∈ qs, q.length < 4611686018427387904) → impl_least.foldF qs b = some (leastOf b qs)
  | [], b, _ => rfl
  | q :: qs, b, h => by
    unfold impl_least.foldF leastOf
    rw [slices_Compare_int_int.F_val q b (h q (by simp))]
    simp only [Option.bind_some]
    have e : (if cmpOf q b < 0 then q else b) = if lessOf q b = true then q else b := by
      by_cases hc : lessOf q b = true
      · rw [if_pos hc, if_pos ((cmpOf_less q b).2 hc)]
      · rw [if_neg hc, if_neg (fun hh => hc ((cmpOf_less q b).1 hh))]
    rw [e]
    exact impl_least.foldF_val qs _ (fun x hx => h x (by simp [hx]))
theorem impl_least.turnsF_val : ∀ (n : Nat) (b p : List Int), Dots p → p.length ≤ 1000 → impl_least.turnsF n b p = some (leastOf b (turnsOf n p))
  | 0, b, p, _, _ => rfl
  | n + 1, b, p, hd, hp => by
    unfold impl_least.turnsF
    have hl := turnOf_length p
    rw [impl_turned.F_val p hd hp]
    simp only [Option.bind_some]
    rw [impl_back.F_val _ (by omega)]
    simp only [Option.bind_some]
    rw [impl_least.foldF_val _ _ (fun q hq => by
      rcases List.mem_cons.1 hq with rfl | hq
      · omega
      · have : q = (turnOf p).reverse := by simpa using hq
        rw [this, List.length_reverse]
        omega)]
    simp only [Option.bind_some]
    rw [impl_least.turnsF_val n _ _ (turn_dots hd) (by omega), leastOf_append]
    rfl
theorem impl_least.F_val (p : List Int) (hd : Dots p) (hp : p.length ≤ 1000) : impl_least.F p = some (leastD p) := by
  unfold impl_least.F
  rw [slices_Clone_int_int.f_val p (by omega)]
  simp only [Option.bind_some]
  exact impl_least.turnsF_val 4 p p hd hp
theorem impl_LeastDots.F_val (p : List Int) (hp : p.length < 4611686018427387904) : impl_LeastDots.F p = some (onDots p leastD) := by
  rw [impl_LeastDots.F_eq, impl_IsDots.F_val p hp]
  simp only [Option.bind_some]
  by_cases h : isDots p = true
  · obtain ⟨hl, hd⟩ := isDots_parts h
    have hll := leastD_len p
    rw [if_pos h, onDots_pos h, impl_least.F_val p hd (by omega)]
    simp only [Option.bind_some]
    rw [slices_Clone_int_int.f_val _ (by omega)]
    rfl
  · rw [if_neg h, onDots_neg h]
theorem spec_trLess.L0_val (a b : List Int) (hl : a.length = b.length) (ha : a.length < 4611686018427387904) : ∀ (m i : Nat), i + m = a.length → spec_trLess.L0 a b (a.length : Int) (i : Int) = some (lessOf (a.drop i) (b.drop i))
  | 0, i, hm => by
    rw [spec_trLess.L0_eq, if_neg (by omega), List.drop_of_length_le (show a.length ≤ i by omega), List.drop_of_length_le (show b.length ≤ i by omega)]
    rfl
  | m + 1, i, hm => by
    have hi : i < a.length := by omega
    have hb : i < b.length := by omega
    have c1 : (i : Int) < (a.length : Int) := by omega
    have c2 : (i : Int) < (b.length : Int) := by omega
    have ih := spec_trLess.L0_val a b hl ha m (i + 1) (by omega)
    rw [spec_trLess.L0_eq, if_pos c1, if_pos (Int.natCast_nonneg i), if_pos c1, if_pos c2, rd_nat a i hi, rd_nat b i hb, wrap_up hi ha, ih, List.drop_eq_getElem_cons hi, List.drop_eq_getElem_cons hb]
    have e3 : lessOf (a[i] :: a.drop (i + 1)) (b[i] :: b.drop (i + 1)) = if a[i] = b[i] then lessOf (a.drop (i + 1)) (b.drop (i + 1)) else decide (a[i] < b[i]) := rfl
    rw [e3]
    split <;> rfl
theorem spec_trLess.F_val (a b : List Int) (hl : a.length = b.length) (ha : a.length < 4611686018427387904) : spec_trLess.F a b = some (lessOf a b) := by
  rw [spec_trLess.F_eq]
  exact spec_trLess.L0_val a b hl ha a.length 0 (by omega)
theorem spec_doLeast.L1_val (xs : List (List Int)) (j : Int) (n : Nat) (hn : n ≤ 1000) : ∀ (m i : Nat) (b q : List Int), i + m = 4 → Dots q → q.length = n → b.length = n → spec_doLeast.L1 b q (i : Int) xs (xs.length : Int) j = spec_doLeast.L0 (leastOf b (seqOf m q)) xs (xs.length : Int) (wrap64 (j + 1))
  | 0, i, b, q, hm, _, _, _ => by
    rw [spec_doLeast.L1_eq, if_neg (by omega)]
    rfl
  | m + 1, i, b, q, hm, hd, hq, hb => by
    have hl := turnOf_length q
    have hw : wrap64 ((i : Int) + 1) = ((i + 1 : Nat) : Int) := wrap_up (n := 4) (by omega) (by omega)
    have c1 : (i : Int) < 4 := by omega
    rw [spec_doLeast.L1_eq, if_pos c1, spec_trLess.F_val q b (by omega) (by omega), hw]
    simp only [Option.bind_some, seqOf, leastOf]
    by_cases h : lessOf q b = true
    · rw [if_pos h, if_pos h, spec_doTurn.F_val q hd (by omega)]
      exact spec_doLeast.L1_val xs j n hn m (i + 1) q (turnOf q) (by omega) (turn_dots hd) (by omega) hq
    · rw [if_neg h, if_neg h, spec_doTurn.F_val q hd (by omega)]
      exact spec_doLeast.L1_val xs j n hn m (i + 1) b (turnOf q) (by omega) (turn_dots hd) (by omega) hb
theorem seqOf_len : ∀ (n : Nat) (p : List Int), ∀ x ∈ seqOf n p, x.length = p.length
  | 0, _, x, hx => by cases hx
  | n + 1, p, x, hx => by
    unfold seqOf at hx
    rcases List.mem_cons.1 hx with rfl | hx
    · rfl
    · rw [seqOf_len n (turnOf p) x hx, turnOf_length]
theorem spec_doLeast.F_val (p : List Int) (hd : Dots p) (hp : p.length ≤ 1000) : spec_doLeast.F p = some (leastD p) := by
  rw [spec_doLeast.F_eq, spec_l1Own.f_val p (by omega)]
  simp only [Option.bind_some]
  rw [spec_roBack.F_val p (by omega)]
  simp only [Option.bind_some]
  have hlen : ∀ b ∈ p :: seqOf 4 p, b.length = p.length := fun b hb => by
    rcases List.mem_cons.1 hb with rfl | hb
    · rfl
    · exact seqOf_len 4 p b hb
  have r0 : rd_L2 [p, p.reverse] ((0 : Nat) : Int) = p := rfl
  have r1 : rd_L2 [p, p.reverse] ((1 : Nat) : Int) = p.reverse := rfl
  have h0 := spec_doLeast.L1_val [p, p.reverse] ((0 : Nat) : Int) p.length hp 4 0 p p (by omega) hd rfl rfl
  have h1 := spec_doLeast.L1_val [p, p.reverse] ((1 : Nat) : Int) p.length hp 4 0 (leastOf p (seqOf 4 p)) p.reverse (by omega) (back_dots hd) (by simp) (hlen _ (leastOf_mem _ _))
  have w0 : wrap64 (((0 : Nat) : Int) + 1) = ((1 : Nat) : Int) := wrap_up (n := 4) (by omega) (by omega)
  have w1 : wrap64 (((1 : Nat) : Int) + 1) = ((2 : Nat) : Int) := wrap_up (n := 4) (by omega) (by omega)
  have l2 : (([p, p.reverse] : List (List Int)).length : Int) = 2 := rfl
  rw [w0] at h0
  rw [w1, leastOf_append, leastD_eq hd] at h1
  have e0 : spec_doLeast.L0 p [p, p.reverse] (([p, p.reverse] : List (List Int)).length : Int) ((0 : Nat) : Int) = spec_doLeast.L1 p p ((0 : Nat) : Int) [p, p.reverse] (([p, p.reverse] : List (List Int)).length : Int) ((0 : Nat) : Int) := by
    rw [spec_doLeast.L0_eq, if_pos (by rw [l2]; decide), if_pos (by decide), if_pos (by rw [l2]; decide), r0]
    rfl
  have e1 : spec_doLeast.L0 (leastOf p (seqOf 4 p)) [p, p.reverse] (([p, p.reverse] : List (List Int)).length : Int) ((1 : Nat) : Int) = spec_doLeast.L1 (leastOf p (seqOf 4 p)) p.reverse ((0 : Nat) : Int) [p, p.reverse] (([p, p.reverse] : List (List Int)).length : Int) ((1 : Nat) : Int) := by
    rw [spec_doLeast.L0_eq, if_pos (by rw [l2]; decide), if_pos (by decide), if_pos (by rw [l2]; decide), r1]
    rfl
  refine e0.trans (h0.trans (e1.trans (h1.trans ?_)))
  rw [spec_doLeast.L0_eq, if_neg (by rw [l2]; decide), spec_l1Own.f_val _ (by rw [leastD_len]; omega)]
  rfl
theorem spec_LeastDots.F_val (p : List Int) (hp : p.length < 4611686018427387904) : spec_LeastDots.F p = some (onDots p leastD) := by
  rw [spec_LeastDots.F_eq, spec_doGood.F_val p hp]
  simp only [Option.bind_some]
  by_cases h : isDots p = true
  · obtain ⟨hl, hd⟩ := isDots_parts h
    rw [if_pos h, onDots_pos h, spec_doLeast.F_val p hd (by omega)]
    rfl
  · rw [if_neg h, onDots_neg h]
end Go.Proofs.Ytadhfbchilaklaa.Fn
namespace Go.Proofs.Ytadhfbchilaklaa.Fn
open Go.RowKit Go.Proofs.YtadhfbchilaklaaW.PrintWords Go.Proofs.YtadhfbchilaklaaW.PrintLast Go.Proofs.YtadhfbchilaklaaW.PrintMore
set_option linter.unusedVariables false
set_option linter.unusedSimpArgs false
theorem Lim.at_ {α : Type} {g : Nat → Option α} {a : Option α} {r : α} (h : Lim g a) (k : Nat) (hk : g k = some r) : a = some r := (h.comes r).2 ⟨k, hk⟩
/-- The primes and the roots that are drawn. -/
def primesDrawn : List Int := [3, 5, 7, 11, 13, 2, 9, 17]
def rootsDrawn : List Int := [2, 3, 4, 5, 6, 7, 1, 12, 13]
def chkPowers (q r : Int) : Bool := match impl_PowersDots.f 200 q r, spec_PowersDots.f 200 q r, impl_IsRoot.f 200 q r, spec_IsRoot.f 200 q r with
  | some a, some b, some c, some d => decide (a = b) && decide (c = d) && decide (a.2 = (c.2 && c.1)) && decide (a.1.length ≤ 20) && (!a.2 || (isDots a.1 && costB a.1 && decide ((a.1.length : Int) = q - 1) && decide (rd a.1 0 = 0)))
  | _, _, _, _ => false
theorem powers_checked : (primesDrawn.all fun q => rootsDrawn.all fun r => chkPowers q r) = true := by decide +kernel
theorem powers_known {q r : Int} (hq : q ∈ primesDrawn) (hr : r ∈ rootsDrawn) : ∃ (a : List Int × Bool) (c : Bool × Bool), impl_PowersDots.F q r = some a ∧ spec_PowersDots.F q r = some a ∧ impl_IsRoot.F q r = some c ∧ spec_IsRoot.F q r = some c ∧ a.2 = (c.2 && c.1) ∧ a.1.length ≤ 20 ∧ (a.2 = true → isDots a.1 = true ∧ costB a.1 = true ∧ (a.1.length : Int) = q - 1 ∧ rd a.1 0 = 0) := by
  have h := List.all_eq_true.1 (List.all_eq_true.1 powers_checked q hq) r hr
  unfold chkPowers at h
  split at h
  · rename_i a b c d ha hb hc hd
    simp only [Bool.and_eq_true, decide_eq_true_eq, Bool.or_eq_true, Bool.not_eq_true'] at h
    obtain ⟨⟨⟨⟨h1, h2⟩, h3⟩, h4⟩, h5⟩ := h
    subst h1
    subst h2
    refine ⟨a, c, Lim.at_ (impl_PowersDots.F_lim q r) 200 ha, Lim.at_ (spec_PowersDots.F_lim q r) 200 hb, Lim.at_ (impl_IsRoot.F_lim q r) 200 hc, Lim.at_ (spec_IsRoot.F_lim q r) 200 hd, h3, h4, fun ht => ?_⟩
    rcases h5 with h5 | h5
    · rw [ht] at h5
      cases h5
    · exact ⟨h5.1.1.1, h5.1.1.2, h5.1.2, h5.2⟩
  · cases h
def logsDrawn : List (Int × Int × Int) := [(5, 2, 2), (5, 2, 3), (5, 3, 2), (5, 3, 3), (5, 4, 2), (5, 4, 3), (7, 3, 3), (7, 3, 5), (7, 3, 2), (7, 5, 3), (7, 5, 5), (7, 5, 2)] ++ ([2, 6, 7, 8] : List Int).flatMap (fun a => ([2, 6, 7, 8] : List Int).map fun b => ((11 : Int), a, b)) ++ primesDrawn.flatMap (fun q => rootsDrawn.map fun a => (q, a, (2 : Int)))
def chkLogs (t : Int × Int × Int) : Bool := match impl_LogsDots.f 400 t.1 t.2.1 t.2.2, spec_LogsDots.f 400 t.1 t.2.1 t.2.2, impl_LogsDots.f 400 t.1 t.2.2 t.2.1 with
  | some a, some b, some c => decide (a = b) && decide (a.1.length ≤ 20) && (!a.2 || (isDots a.1 && costB a.1 && decide ((a.1.length : Int) = t.1 - 2) && c.2 && decide (c.1 = crossOf a.1)))
  | _, _, _ => false
theorem logs_checked : (logsDrawn.all fun t => chkLogs t) = true := by decide +kernel
theorem logs_known {q x y : Int} (h : (q, x, y) ∈ logsDrawn) : ∃ (a c : List Int × Bool), impl_LogsDots.F q x y = some a ∧ spec_LogsDots.F q x y = some a ∧ impl_LogsDots.F q y x = some c ∧ a.1.length ≤ 20 ∧ (a.2 = true → isDots a.1 = true ∧ costB a.1 = true ∧ (a.1.length : Int) = q - 2 ∧ c.2 = true ∧ c.1 = crossOf a.1) := by
  have h := List.all_eq_true.1 logs_checked _ h
  unfold chkLogs at h
  split at h
  · rename_i a b c ha hb hc
    simp only [Bool.and_eq_true, decide_eq_true_eq, Bool.or_eq_true, Bool.not_eq_true'] at h
    obtain ⟨⟨h1, h2⟩, h5⟩ := h
    subst h1
    refine ⟨a, c, Lim.at_ (impl_LogsDots.F_lim q x y) 400 ha, Lim.at_ (spec_LogsDots.F_lim q x y) 400 hb, Lim.at_ (impl_LogsDots.F_lim q y x) 400 hc, h2, fun ht => ?_⟩
    rcases h5 with h5 | h5
    · rw [ht] at h5
      cases h5
    · exact ⟨h5.1.1.1.1, h5.1.1.1.2, h5.1.1.2, h5.1.2, h5.2⟩
  · cases h
theorem drawn_root {l : List Int} (h : DrawSt l 0 0) : ∃ q r, spec_DrawIsRoot.f l = some (q, r) ∧ q ∈ primesDrawn ∧ r ∈ rootsDrawn := by
  obtain ⟨q, a1, z1, e1, h1, hs1⟩ := spec_l1Cur_among.ok 0 primesDrawn (by decide) h (by omega)
  obtain ⟨r, a2, z2, e2, h2, hs2⟩ := spec_l1Cur_among.ok z1 rootsDrawn (by decide) hs1 (by omega)
  unfold primesDrawn at e1
  unfold rootsDrawn at e2
  refine ⟨q, r, ?_, h1, h2⟩
  unfold spec_DrawIsRoot.f
  rw [e1]
  simp only [Option.bind_some]
  rw [e2]
  rfl
theorem mem_pairs {xs ys : List Int} {q a b : Int} {L : List (Int × Int × Int)} (h : (xs.all fun a => ys.all fun b => decide ((q, a, b) ∈ L)) = true) (ha : a ∈ xs) (hb : b ∈ ys) : (q, a, b) ∈ L := of_decide_eq_true (List.all_eq_true.1 (List.all_eq_true.1 h a ha) b hb)
theorem mem_roots {q a : Int} (hq : q ∈ primesDrawn) (ha : a ∈ rootsDrawn) : (q, a, (2 : Int)) ∈ logsDrawn := of_decide_eq_true (List.all_eq_true.1 (List.all_eq_true.1 (show (primesDrawn.all fun q => rootsDrawn.all fun a => decide ((q, a, (2 : Int)) ∈ logsDrawn)) = true by decide +kernel) q hq) a ha)
theorem drawn_logs {l : List Int} (h : DrawSt l 0 0) : ∃ q x y, spec_DrawLogsDots.f l = some (q, x, y) ∧ (q, x, y) ∈ logsDrawn := by
  obtain ⟨p, a0, z0, e0, _, _, hs0⟩ := spec_l1Cur_pick.ok 0 4 h (by omega)
  unfold spec_DrawLogsDots.f
  rw [e0]
  simp only [Option.bind_some]
  by_cases h0 : p = 0
  · obtain ⟨x, a1, z1, e1, h1, hs1⟩ := spec_l1Cur_among.ok z0 [2, 3, 4] (by decide) hs0 (by omega)
    obtain ⟨y, a2, z2, e2, h2, hs2⟩ := spec_l1Cur_among.ok z1 [2, 3] (by decide) hs1 (by omega)
    rw [if_pos h0, e1]
    simp only [Option.bind_some]
    rw [e2]
    exact ⟨5, x, y, rfl, mem_pairs (by decide +kernel) h1 h2⟩
  · rw [if_neg h0]
    by_cases h1 : p = 1
    · obtain ⟨x, a1, z1, e1, g1, hs1⟩ := spec_l1Cur_among.ok z0 [3, 5] (by decide) hs0 (by omega)
      obtain ⟨y, a2, z2, e2, g2, hs2⟩ := spec_l1Cur_among.ok z1 [3, 5, 2] (by decide) hs1 (by omega)
      rw [if_pos h1, e1]
      simp only [Option.bind_some]
      rw [e2]
      exact ⟨7, x, y, rfl, mem_pairs (by decide +kernel) g1 g2⟩
    · rw [if_neg h1]
      by_cases h2 : p = 2
      · obtain ⟨x, a1, z1, e1, g1, hs1⟩ := spec_l1Cur_among.ok z0 [2, 6, 7, 8] (by decide) hs0 (by omega)
        obtain ⟨y, a2, z2, e2, g2, hs2⟩ := spec_l1Cur_among.ok z1 [2, 6, 7, 8] (by decide) hs1 (by omega)
        rw [if_pos h2, e1]
        simp only [Option.bind_some]
        rw [e2]
        exact ⟨11, x, y, rfl, mem_pairs (by decide +kernel) g1 g2⟩
      · obtain ⟨q, r, e, hq, hr⟩ := drawn_root h
        rw [if_neg h2, e]
        exact ⟨q, r, 2, rfl, mem_roots hq hr⟩
theorem insAt_ok {out : List Int} {a k : Int} (h0 : 0 ≤ a) (h1 : a ≤ (out.length : Int)) (hl : out.length ≤ 1000) : ∃ r, insAt.f out a k = some r ∧ r.length = out.length + 1 := by
  refine ⟨_, if_pos ⟨h0, h1, by omega⟩, ?_⟩
  simp only [List.length_append, List.length_take, List.length_drop, List.length_cons, List.length_nil]
  omega
theorem spec_l1Cur_dotsUp.L0_ok {l : List Int} {n : Nat} (hn : n ≤ 1000) : ∀ (m x : Nat) (out : List Int) (M a s : Int), x + m = n → 1 ≤ x → out.length = x - 1 → DrawSt l M a → M + 2 * m ≤ 1000000 → ∃ r a' z, spec_l1Cur_dotsUp.L0 (n : Int) out (x : Int) l a s = some (r, a', z) ∧ r.length = n - 1 ∧ DrawSt l (M + 2 * m) a'
  | 0, x, out, M, a, s, hm, hx, ho, hs, hM => by
    rw [spec_l1Cur_dotsUp.L0_eq, if_neg (by omega)]
    exact ⟨out, a, s, rfl, by omega, hs.more (by omega)⟩
  | m + 1, x, out, M, a, s, hm, hx, ho, hs, hM => by
    obtain ⟨t, a1, z1, e1, t0, t1, hs1⟩ := spec_l1Cur_pick.ok s (x : Int) hs (by omega)
    obtain ⟨r, e2, hr⟩ := insAt_ok (out := out) (a := t) (k := (x : Int)) t0 (by omega) (by omega)
    obtain ⟨q, a', z, e3, hq, hs3⟩ := spec_l1Cur_dotsUp.L0_ok hn m (x + 1) r (M + 2) a1 z1 (by omega) (by omega) (by omega) hs1 (by omega)
    have c1 : (x : Int) < (n : Int) := by omega
    rw [spec_l1Cur_dotsUp.L0_eq, if_pos c1, e1]
    simp only [Option.bind_some]
    rw [e2]
    simp only [Option.bind_some]
    rw [wrap_succ x (by omega)]
    exact ⟨q, a', z, e3, hq, hs3.more (by omega)⟩
theorem spec_l1Cur_dotsUp.ok {l : List Int} {n : Nat} (hn : n ≤ 1000) (h1 : 1 ≤ n) {M a : Int} (s : Int) (hs : DrawSt l M a) (hM : M ≤ 100000) : ∃ r a' z, spec_l1Cur_dotsUp.F l a s (n : Int) = some (r, a', z) ∧ r.length = n - 1 ∧ DrawSt l (M + 2000) a' := by
  obtain ⟨r, a', z, e, hr, hs'⟩ := spec_l1Cur_dotsUp.L0_ok hn (n - 1) 1 [] M a s (by omega) (by omega) rfl hs (by omega)
  exact ⟨r, a', z, by rw [spec_l1Cur_dotsUp.F_eq]; exact e, hr, hs'.more (by omega)⟩
theorem spec_l1Cur_dots.J2_ok {l : List Int} {n : Nat} (hn : n ≤ 100) (h1 : 1 ≤ n) (out : List Int) (ho : out.length = n) (x : Int) (f : Bool) {M a : Int} (s : Int) (hs : DrawSt l M a) (hM : M ≤ 10000) : ∃ r a' z, spec_l1Cur_dots.J2 (n : Int) out x f l a s = some (r, a', z) ∧ r.length ≤ 100 ∧ DrawSt l (M + 2000) a' := by
  rw [spec_l1Cur_dots.J2_eq]
  by_cases hf : f = true
  · obtain ⟨p, a1, z1, e1, p1, hs1⟩ := spec_l1Cur_among.ok s [2, 3] (by decide) hs (by omega)
    obtain ⟨q, a2, z2, e2, q1, hs2⟩ := spec_l1Cur_among.ok z1 [2, 3] (by decide) hs1 (by omega)
    obtain ⟨u, v, _, e3, _, hu, _⟩ := logs_known (q := 5) (x := p) (y := q) (mem_pairs (by decide +kernel) p1 q1)
    rw [if_pos hf, e1]
    simp only [Option.bind_some]
    rw [e2]
    simp only [Option.bind_some]
    rw [e3]
    simp only [Option.bind_some]
    by_cases h0 : (u.1.length : Int) = 0
    · rw [if_pos h0]
      exact ⟨_, _, _, rfl, by simp, hs2.more (by omega)⟩
    · rw [if_neg h0]
      exact ⟨_, _, _, rfl, by omega, hs2.more (by omega)⟩
  · rw [if_neg hf]
    by_cases h7 : x = 7
    · obtain ⟨r, a', z, e, hr, hs'⟩ := spec_l1Cur_dotsUp.ok (l := l) (n := n) (by omega) h1 s hs (by omega)
      rw [if_pos h7]
      simp only [Option.bind_some]
      rw [e]
      simp only [Option.bind_some]
      rw [if_pos (by rw [List.length_singleton]; omega)]
      exact ⟨_, _, _, rfl, by simp; omega, hs'⟩
    · rw [if_neg h7, if_neg (by omega)]
      exact ⟨_, _, _, rfl, by omega, hs.more (by omega)⟩
theorem spec_l1Cur_dots.J1_ok {l : List Int} {n : Nat} (hn : n ≤ 100) (h1 : 1 ≤ n) (out : List Int) (ho : out.length = n) (x : Int) (f : Bool) {M a : Int} (s : Int) (hs : DrawSt l M a) (hM : M ≤ 10000) : ∃ r a' z, spec_l1Cur_dots.J1 (n : Int) out x f l a s = some (r, a', z) ∧ r.length ≤ 100 ∧ DrawSt l (M + 2000) a' := by
  rw [spec_l1Cur_dots.J1_eq]
  by_cases hf : f = true
  · obtain ⟨p, a1, z1, e1, p1, hs1⟩ := spec_l1Cur_among.ok s [3, 5, 7, 11] (by decide) hs (by omega)
    have hp : p ∈ primesDrawn := by
      have : ∀ p ∈ ([3, 5, 7, 11] : List Int), p ∈ primesDrawn := by decide
      exact this p p1
    obtain ⟨u, _, _, e3, _, _, _, hu, _⟩ := powers_known hp (show (2 : Int) ∈ rootsDrawn by decide)
    rw [if_pos hf, e1]
    simp only [Option.bind_some]
    rw [e3]
    simp only [Option.bind_some]
    by_cases h0 : (u.1.length : Int) = 0
    · rw [if_pos h0]
      exact ⟨_, _, _, rfl, by simp, hs1.more (by omega)⟩
    · rw [if_neg h0]
      exact ⟨_, _, _, rfl, by omega, hs1.more (by omega)⟩
  · rw [if_neg hf]
    split
    · exact spec_l1Cur_dots.J2_ok hn h1 out ho x _ s hs hM
    · exact spec_l1Cur_dots.J2_ok hn h1 out ho x _ s hs hM
theorem spec_l1Cur_dots.L0_ok {l : List Int} {n : Nat} (hn : n ≤ 100) (h1 : 1 ≤ n) : ∀ (m x : Nat) (out : List Int) (M a s : Int), x + m = n → out.length = x → DrawSt l M a → M + 2 * m ≤ 9000 → ∃ r a' z, spec_l1Cur_dots.L0 (n : Int) out (x : Int) l a s = some (r, a', z) ∧ r.length ≤ 100 ∧ DrawSt l (M + 2 * m + 2100) a'
  | 0, x, out, M, a, s, hm, ho, hs, hM => by
    obtain ⟨p, a1, z1, e1, p0, p1, hs1⟩ := spec_l1Cur_pick.ok s 12 hs (by omega)
    rw [spec_l1Cur_dots.L0_eq, if_neg (by omega), e1]
    simp only [Option.bind_some]
    by_cases h0 : p = 0
    · obtain ⟨i, a2, z2, e2, i0, i1, hs2⟩ := spec_l1Cur_pick.ok z1 (n : Int) hs1 (by omega)
      obtain ⟨v, a3, z3, e3, _, hs3⟩ := spec_l1Cur_among.ok z2 [-1, (n : Int), 0, 4611686018427387904] (by simp) hs2 (by omega)
      rw [if_pos h0, e2]
      simp only [Option.bind_some]
      rw [e3]
      simp only [Option.bind_some]
      rw [if_pos i0, if_pos (by omega), if_neg (by omega)]
      exact ⟨_, _, _, rfl, by rw [List.length_set]; omega, hs3.more (by omega)⟩
    · rw [if_neg h0]
      by_cases h2 : p = 1
      · rw [if_pos h2]
        exact ⟨_, _, _, rfl, by simp, hs1.more (by omega)⟩
      · rw [if_neg h2]
        have hJ : ∀ f : Bool, ∃ r a' z, spec_l1Cur_dots.J1 (n : Int) out p f l a1 z1 = some (r, a', z) ∧ r.length ≤ 100 ∧ DrawSt l (M + 2 * ((0 : Nat) : Int) + 2100) a' := fun f => by
          obtain ⟨r, a', z, e, hr, hs'⟩ := spec_l1Cur_dots.J1_ok hn h1 out (by omega) p f z1 hs1 (by omega)
          exact ⟨r, a', z, e, hr, hs'.more (by omega)⟩
        split
        · exact hJ _
        · split
          · exact hJ _
          · exact hJ _
  | m + 1, x, out, M, a, s, hm, ho, hs, hM => by
    obtain ⟨t, a1, z1, e1, t0, t1, hs1⟩ := spec_l1Cur_pick.ok s ((x + 1 : Nat) : Int) hs (by omega)
    obtain ⟨r, e2, hr⟩ := insAt_ok (out := out) (a := t) (k := (x : Int)) t0 (by omega) (by omega)
    obtain ⟨q, a', z, e3, hq, hs3⟩ := spec_l1Cur_dots.L0_ok hn h1 m (x + 1) r (M + 2) a1 z1 (by omega) (by omega) hs1 (by omega)
    have c1 : (x : Int) < (n : Int) := by omega
    rw [spec_l1Cur_dots.L0_eq, if_pos c1, wrap_succ x (by omega), e1]
    simp only [Option.bind_some]
    rw [e2]
    simp only [Option.bind_some]
    exact ⟨q, a', z, e3, hq, hs3.more (by omega)⟩
theorem spec_l1Cur_dots.ok {l : List Int} {most : Int} (hm : 0 ≤ most ∧ most ≤ 50) {M a : Int} (s : Int) (hs : DrawSt l M a) (hM : M ≤ 1000) : ∃ r a' z, spec_l1Cur_dots.F l a s most = some (r, a', z) ∧ r.length ≤ 100 ∧ DrawSt l (M + 3000) a' := by
  obtain ⟨p, a1, z1, e1, p0, p1, hs1⟩ := spec_l1Cur_pick.ok s most hs (by omega)
  obtain ⟨r, a', z, e, hr, hs'⟩ := spec_l1Cur_dots.L0_ok (n := (1 + p).toNat) (by omega) (by omega) (1 + p).toNat 0 [] (M + 2) a1 z1 (by omega) rfl hs1 (by omega)
  have hw : wrap64 (1 + p) = (((1 + p).toNat : Nat) : Int) := by rw [wrap_in (by omega) (by omega)]; omega
  rw [spec_l1Cur_dots.F_eq, e1]
  simp only [Option.bind_some]
  rw [hw]
  exact ⟨r, a', z, e, hr, hs'.more (by omega)⟩
end Go.Proofs.Ytadhfbchilaklaa.Fn
namespace Go.Proofs.Ytadhfbchilaklaa.Pure
open Go.RowKit Go.Proofs.Ytadhfbchilaklaa.Fn Go.Proofs.YtadhfbchilaklaaW.PrintWords Go.Proofs.YtadhfbchilaklaaW.PrintLast Go.Proofs.YtadhfbchilaklaaW.PrintMore
set_option linter.unusedVariables false
set_option linter.unusedSimpArgs false
theorem zsame (x : List Int) (hx : x.length ≤ 1000) : laws_zSame.F x x = some true := by
  rw [laws_zSame.F_val x x (by omega), decide_eq_true rfl]
theorem isDots_turn {p : List Int} (h : isDots p = true) : isDots (turnOf p) = true := by
  obtain ⟨hl, hd⟩ := isDots_parts h
  exact isDots_mk (by rw [turnOf_length]; exact hl) (turn_dots hd)
theorem isDots_cross {p : List Int} (h : isDots p = true) : isDots (crossOf p) = true := by
  obtain ⟨hl, hd⟩ := isDots_parts h
  exact isDots_mk (by rw [crossOf_length]; exact hl) (cross_dots hd)
theorem isDots_back {p : List Int} (h : isDots p = true) : isDots p.reverse = true := by
  obtain ⟨hl, hd⟩ := isDots_parts h
  exact isDots_mk (by rw [List.length_reverse]; exact hl) (back_dots hd)
theorem costB_eq {p q : List Int} (h : Cost p ↔ Cost q) : costB p = costB q := by
  have := costB_iff (p := p)
  have := costB_iff (p := q)
  cases hp : costB p <;> cases hq : costB q <;> simp_all
theorem corner_ok {p : List Int} (h : isDots p = true) (h0 : rd p 0 = 0) (h1 : p.length ≠ 1) : isDots ((p.drop 1).map fun x => x - 1) = true ∧ (costB p = true → costB ((p.drop 1).map fun x => x - 1) = true) ∧ ((p.drop 1).map fun x => x - 1).length = p.length - 1 := by
  obtain ⟨hl, hd⟩ := isDots_parts h
  have hlen : ((p.drop 1).map fun x => x - 1).length = p.length - 1 := by rw [List.length_map, List.length_drop]
  have hget : ∀ (i : Nat) (hi : i < ((p.drop 1).map fun x => x - 1).length), ((p.drop 1).map fun x => x - 1)[i] = p[i + 1]'(by omega) - 1 := fun i hi => by
    rw [List.getElem_map, List.getElem_drop]
    congr 2
    omega
  have hz : p[0]'(by omega) = 0 := by rw [← rd_nat p 0 (by omega)]; exact h0
  refine ⟨isDots_mk (by omega) ⟨fun x hx => ?_, ?_⟩, fun hc => ?_, hlen⟩
  · obtain ⟨i, hi, rfl⟩ := List.mem_iff_getElem.1 hx
    rw [hget i hi, hlen]
    have hr := hd.rng _ (List.getElem_mem (show i + 1 < p.length by omega))
    have hne : p[i + 1]'(by omega) ≠ 0 := fun e => by
      have := nodup_get_inj hd.nod (show i + 1 < p.length by omega) (show 0 < p.length by omega) (e.trans hz.symm)
      omega
    omega
  · rw [List.Nodup, List.pairwise_map]
    exact (hd.nod.sublist (List.drop_sublist 1 p)).imp (fun h e => h (by omega))
  · have hC := costB_iff.1 hc
    refine costB_iff.2 fun i j k l hi hj hk hl' hne e1 e2 => ?_
    rw [hget i hi, hget j hj, hget k hk, hget l hl'] at e2
    rw [hlen] at hi hj hk hl'
    have := hC (i + 1) (j + 1) (k + 1) (l + 1) (by omega) (by omega) (by omega) (by omega) (by omega) (by omega) (by omega)
    omega
theorem J4_val {r a b : Int} (h : (r, a, b) ∈ logsDrawn) {x : List Int × Bool} (ex : impl_LogsDots.F r a b = some x) : laws_FnDotsTurned.J4 r a b x.1 x.2 = some true := by
  obtain ⟨y, c, e1, e2, e3, hy, hk⟩ := logs_known h
  have : y = x := Option.some.inj (e1.symm.trans ex)
  subst this
  rw [laws_FnDotsTurned.J4_eq]
  by_cases ht : y.2 = true
  · obtain ⟨k1, k2, k3, k4, k5⟩ := hk ht
    have w : wrap64 (r - 2) = r - 2 := wrap_in (by omega) (by omega)
    have hcl := crossOf_length y.1
    rw [if_pos ht, impl_IsCostas.F_val y.1 (by omega), k1, k2, e3, impl_CrossDots.F_val y.1 (by omega), onDots_pos k1, w]
    simp only [Option.bind_some, Bool.and_self, if_true]
    rw [if_pos k3, if_pos k4, k5, zsame _ (by omega)]
    rfl
  · rw [if_neg ht]
theorem J2_val {l1 : List Int} (h1 : DrawSt l1 0 0) : laws_FnDotsTurned.J2 l1 = some true := by
  obtain ⟨q, r, e1, hq, hr⟩ := drawn_root h1
  obtain ⟨u, c, p1, p2, p3, p4, p5, p6, p7⟩ := powers_known hq hr
  obtain ⟨s, x, y, e2, hm⟩ := drawn_logs h1
  obtain ⟨v, c2, g1, g2, g3, g4, g5⟩ := logs_known hm
  have ed : spec_DrawPowersDots.f l1 = some (q, r) := by
    unfold spec_DrawPowersDots.f
    rw [e1]
    rfl
  have hJ4 := J4_val hm g1
  have hJ3 : laws_FnDotsTurned.J3 q u.1 u.2 s x y v.1 v.2 false = some true := by
    rw [laws_FnDotsTurned.J3_eq, if_neg (by decide)]
    by_cases ht : u.2 = true
    · obtain ⟨k1, k2, k3, k4⟩ := p7 ht
      obtain ⟨hl, _⟩ := isDots_parts k1
      have w : wrap64 (q - 1) = q - 1 := wrap_in (by omega) (by omega)
      rw [if_pos ht, impl_IsCostas.F_val u.1 (by omega), k1, k2, w]
      simp only [Option.bind_some, Bool.and_self, if_true]
      rw [if_pos k3, if_pos (by omega), if_pos k4]
      exact hJ4
    · rw [if_neg ht]
      exact hJ4
  have z1 := zsame u.1 (by omega)
  have z2 := zsame v.1 (by omega)
  rw [laws_FnDotsTurned.J2_eq, ed]
  simp only [Option.bind_some]
  rw [p1, p2, p3, p4, e2]
  simp only [Option.bind_some]
  rw [g1, g2]
  simp only [Option.bind_some, bne_self_eq_false, Bool.false_eq_true, if_false, z1, z2, if_true]
  by_cases hc : c.2 = true
  · rw [if_pos hc, if_neg (by rw [p5, hc, Bool.true_and, bne_self_eq_false]; decide)]
    exact hJ3
  · rw [if_neg hc, if_neg (by rw [p5, Bool.eq_false_iff.2 hc, Bool.false_and]; decide)]
    exact hJ3
/-- Some quarter turns. -/
def turnsN : Nat → List Int → List Int
  | 0, q => q
  | n + 1, q => turnsN n (turnOf q)
theorem L0_val {l1 : List Int} (h1 : DrawSt l1 0 0) {p : List Int} (hp : isDots p = true) : ∀ (m i : Nat) (q : List Int), i + m = 4 → isDots q = true → costB q = costB p → leastD q = leastD p → turnsN m q = p → laws_FnDotsTurned.L0 l1 p (turnOf p) p.reverse (crossOf p) (leastD p) (cornerF p).1 (cornerF p).2 q (costB p) true (i : Int) = some true := by
  intro m
  induction m with
  | zero =>
    intro i q hm hq hc hl ht
    obtain ⟨hlp, hd⟩ := isDots_parts hp
    have hqp : q = p := ht
    subst hqp
    have hL1 := leastD_len q
    have c1 := impl_MirrorDots.F_val q.reverse (by rw [List.length_reverse]; omega)
    have c2 := impl_CrossDots.F_val (crossOf q) (by rw [crossOf_length]; omega)
    have c3 := impl_IsCostas.F_val (crossOf q) (by rw [crossOf_length]; omega)
    have c4 := impl_MirrorDots.F_val q (by omega)
    have c5 := impl_CrossDots.F_val q.reverse (by rw [List.length_reverse]; omega)
    rw [onDots_pos (isDots_back hp), List.reverse_reverse] at c1
    rw [onDots_pos (isDots_cross hp), cross_cross hd] at c2
    rw [isDots_cross hp, costB_eq (cost_cross_iff hd), Bool.true_and] at c3
    rw [onDots_pos hp] at c4
    rw [onDots_pos (isDots_back hp), turn_cross_back hd] at c5
    have z1 := zsame q (by omega)
    have z2 := zsame (turnOf q) (by rw [turnOf_length]; omega)
    rw [laws_FnDotsTurned.L0_eq, if_neg (by omega), c1, c2, c3, c4]
    simp only [Option.bind_some]
    rw [c5]
    simp only [Option.bind_some, if_true, z1, bne_self_eq_false, Bool.false_eq_true, if_false, z2]
    by_cases hcf : isDots q = true ∧ rd q 0 = 0 ∧ q.length ≠ 1
    · obtain ⟨k1, k2, k3⟩ := corner_ok hp hcf.2.1 hcf.2.2
      have ec : cornerF q = ((q.drop 1).map (fun x => x - 1), true) := if_pos hcf
      have w : wrap64 ((q.length : Int) - 1) = (q.length : Int) - 1 := wrap_in (by omega) (by omega)
      have hlen : (((q.drop 1).map fun x => x - 1).length : Int) = (q.length : Int) - 1 := by omega
      rw [ec]
      dsimp only
      rw [if_pos rfl, impl_IsCostas.F_val _ (by omega), k1, w, Bool.true_and]
      simp only [Option.bind_some, if_true]
      by_cases hcq : costB q = true
      · rw [if_pos hcq, k2 hcq, if_pos rfl, if_pos hlen]
        exact J2_val h1
      · rw [if_neg hcq, if_pos hlen]
        exact J2_val h1
    · have ec : cornerF q = ([], false) := if_neg hcf
      rw [ec]
      dsimp only
      rw [if_neg (by decide)]
      exact J2_val h1
  | succ m ih0 =>
    intro i q hm hq hc hl ht
    obtain ⟨hlq, hd⟩ := isDots_parts hq
    have htq := isDots_turn hq
    have hlt := turnOf_length q
    have hcq : costB (turnOf q) = costB p := by rw [costB_eq (cost_turn_iff hd), hc]
    have hlq2 : leastD (turnOf q) = leastD p := by rw [leastD_turn hd, hl]
    have hll := leastD_len (turnOf q)
    have ih := ih0 (i + 1) (turnOf q) (by omega) htq hcq hlq2 ht
    have c1 : (i : Int) < 4 := by omega
    have hle := leastD_le hd
    rw [hl] at hle
    rw [hlq2] at hll
    have z1 := zsame (leastD p) (by omega)
    have hz := laws_zLess.F_val (turnOf q) (leastD p) (by omega)
    rw [hle] at hz
    have b1 := impl_TurnDots.F_val q (by omega)
    have b2 := impl_IsCostas.F_val (turnOf q) (by omega)
    have b3 := impl_LeastDots.F_val (turnOf q) (by omega)
    rw [onDots_pos hq] at b1
    rw [htq, hcq, Bool.true_and] at b2
    rw [onDots_pos htq, hlq2] at b3
    rw [laws_FnDotsTurned.L0_eq, if_pos c1, b1]
    simp only [Option.bind_some]
    rw [b2, b3, wrap_up (n := 4) (show i < 4 by omega) (by decide)]
    simp only [Option.bind_some, if_true, bne_self_eq_false, Bool.false_eq_true, if_false, z1, hz]
    exact ih
theorem FnDotsTurned : laws_FnDotsTurned.Pure := by
  intro l0 l1 _ _ hw0 _ _ hw1
  refine Lim.rounds (laws_FnDotsTurned.F_lim l0 l1) ?_
  rw [laws_FnDotsTurned.F_eq, laws_big.f_val]
  simp only [Option.bind_some]
  by_cases hbig : 1048576 < l0.length ∨ 1048576 < l0.length + l1.length
  · rw [if_pos (decide_eq_true hbig)]
  rw [if_neg (by rw [decide_eq_false hbig]; decide)]
  have h0 := draw_start (l := l0) (by omega) hw0
  have h1 := draw_start (l := l1) (by omega) hw1
  obtain ⟨p, a, z, e1, hpl, _⟩ := spec_l1Cur_dots.ok (most := 9) (by omega) 0 h0 (by omega)
  have ed : spec_DrawTurnDots.F l0 = some p := by
    rw [spec_DrawTurnDots.F_eq, spec_DrawIsDots.F_eq, e1]
    rfl
  have v1 := impl_TurnDots.F_val p (by omega)
  have v2 := spec_TurnDots.F_val p (by omega)
  have v3 := impl_MirrorDots.F_val p (by omega)
  have v4 := spec_MirrorDots.F_val p (by omega)
  have v5 := impl_CrossDots.F_val p (by omega)
  have v6 := spec_CrossDots.F_val p (by omega)
  have v7 := impl_LeastDots.F_val p (by omega)
  have v8 := spec_LeastDots.F_val p (by omega)
  have v9 := impl_DropCorner.F_val p (by omega)
  have v10 := spec_DropCorner.F_val p (by omega)
  have v11 := impl_IsDots.F_val p (by omega)
  have v12 := impl_IsCostas.F_val p (by omega)
  have kc : laws_zSame.F (cornerF p).1 (cornerF p).1 = some true := zsame _ (by
    unfold cornerF
    split
    · rw [List.length_map, List.length_drop]
      omega
    · simp)
  by_cases hp : isDots p = true
  · obtain ⟨hlp, hd⟩ := isDots_parts hp
    have hL := L0_val h1 hp 4 0 p (by omega) hp rfl rfl (turn_four hd)
    have k1 := zsame (turnOf p) (by rw [turnOf_length]; omega)
    have k2 := zsame p.reverse (by rw [List.length_reverse]; omega)
    have k3 := zsame (crossOf p) (by rw [crossOf_length]; omega)
    have k4 := zsame (leastD p) (by rw [leastD_len]; omega)
    have hpos : (0 : Int) < (p.length : Int) := by omega
    rw [onDots_pos hp] at v1 v2 v3 v4 v5 v6 v7 v8
    rw [hp] at v11 v12
    have hJ0 : laws_FnDotsTurned.J0 l1 p (turnOf p) true p.reverse (crossOf p) (leastD p) (cornerF p).1 (cornerF p).2 false = some true := by
      rw [laws_FnDotsTurned.J0_eq, if_neg (by decide), if_pos rfl, v12]
      simp only [Option.bind_some, Bool.true_and]
      exact hL
    have hflag : (cornerF p).2 = decide (rd p 0 = 0 ∧ p.length ≠ 1) := by
      unfold cornerF
      by_cases hh : rd p 0 = 0 ∧ p.length ≠ 1
      · rw [if_pos ⟨hp, hh⟩, decide_eq_true hh]
      · rw [if_neg (fun x => hh x.2), decide_eq_false hh]
    rw [ed, Option.bind_some, v1, Option.bind_some, v2, Option.bind_some, v3, Option.bind_some, v4, Option.bind_some, v5, Option.bind_some, v6, Option.bind_some, v7, Option.bind_some, v8, Option.bind_some, v9, Option.bind_some, v10, Option.bind_some]
    dsimp only
    clear v1 v2 v3 v4 v5 v6 v7 v8 v9 v10 v12
    simp only [bne_self_eq_false, Bool.false_eq_true, if_false, if_true, k1, k2, k3, k4, kc, v11, Option.bind_some]
    rw [if_pos hpos]
    by_cases h00 : rd p 0 = 0
    · have e : ((cornerF p).2 != decide ((p.length : Int) > 1)) = false := by
        rw [hflag]
        by_cases h11 : p.length = 1
        · rw [decide_eq_false (fun x => x.2 h11), decide_eq_false (by omega)]
          rfl
        · rw [decide_eq_true ⟨h00, h11⟩, decide_eq_true (by omega)]
          rfl
      rw [if_pos h00, e]
      exact hJ0
    · have e : ((cornerF p).2 != false) = false := by
        rw [hflag, decide_eq_false (fun x => h00 x.1)]
        rfl
      rw [if_neg h00, e]
      exact hJ0
  · have hpf : isDots p = false := Bool.eq_false_iff.2 hp
    have k1 := zsame [] (by simp)
    have ec : cornerF p = ([], false) := if_neg (fun x => hp x.1)
    rw [onDots_neg hp] at v1 v2 v3 v4 v5 v6 v7 v8
    rw [ec] at v9 v10
    rw [hpf] at v11 v12
    rw [ed, Option.bind_some, v1, Option.bind_some, v2, Option.bind_some, v3, Option.bind_some, v4, Option.bind_some, v5, Option.bind_some, v6, Option.bind_some, v7, Option.bind_some, v8, Option.bind_some, v9, Option.bind_some, v10, Option.bind_some]
    dsimp only
    simp only [bne_self_eq_false, Bool.false_eq_true, if_false, if_true, k1, v11, Option.bind_some]
    rw [laws_FnDotsTurned.J0_eq, if_neg (by decide), if_neg (by decide)]
    exact J2_val h1
end Go.Proofs.Ytadhfbchilaklaa.Pure
