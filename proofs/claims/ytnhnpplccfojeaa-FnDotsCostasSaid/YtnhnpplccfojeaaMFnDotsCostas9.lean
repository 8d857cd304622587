/- The machine's side and plain lemmas for FnDotsCostas: texts of this session, merged by its program (part 9). -/
import Derived.Test.YtnhnpplccfojeaaMFnDotsCostas0
import Derived.Test.YtnhnpplccfojeaaMFnDotsCostas1
import Derived.Test.YtnhnpplccfojeaaMFnDotsCostas2
import Derived.Test.YtnhnpplccfojeaaMFnDotsCostas3
import Derived.Test.YtnhnpplccfojeaaMFnDotsCostas4
import Derived.Test.YtnhnpplccfojeaaMFnDotsCostas5
import Derived.Test.YtnhnpplccfojeaaMFnDotsCostas6
import Derived.Test.YtnhnpplccfojeaaMFnDotsCostas7
import Derived.Test.YtnhnpplccfojeaaMFnDotsCostas8
namespace Go.Proofs.Ytnhnpplccfojeaa.Fn
open Go.RowKit Go.Proofs.YtnhnpplccfojeaaW.PrintWords Go.Proofs.YtnhnpplccfojeaaW.PrintLast Go.Proofs.YtnhnpplccfojeaaW.PrintMore
set_option linter.unusedVariables false
set_option linter.unusedSimpArgs false
theorem slices_Clone_int_int.f_val (l : List Int) (h : l.length < 17592186044416) : slices_Clone_int_int.f l = some l := by
  unfold slices_Clone_int_int.f
  rw [if_pos h]
theorem spec_l1Own.f_val (l : List Int) (h : l.length < 17592186044416) : spec_l1Own.f l = some l := by
  unfold spec_l1Own.f
  simp [h]
theorem spec_l1In.f_val (a b c : Int) : spec_l1In.f a b c = some (decide (b ≤ a) && decide (a ≤ c)) := by
  unfold spec_l1In.f
  by_cases h : a ≥ b
  · rw [if_pos h]
    simp [show b ≤ a from h]
  · rw [if_neg h]
    simp [show ¬ b ≤ a from h]
theorem spec_l1Has.L0_val (n : Int) : ∀ (suf pre : List Int), (pre ++ suf).length < 4611686018427387904 → spec_l1Has.L0 n (pre ++ suf) ((pre ++ suf).length : Int) (pre.length : Int) = some (decide (n ∈ suf))
  | [], pre, h => by
    rw [spec_l1Has.L0_eq, range_end]
    simp
  | x :: suf, pre, h => by
    rw [spec_l1Has.L0_eq, range_step, rd_mid, wrap_mid h, app_mid pre x suf, spec_l1Has.L0_val n suf (pre ++ [x]) (by simpa using h)]
    by_cases h1 : x = n
    · rw [if_pos h1]
      simp [h1]
    · rw [if_neg h1]
      have : ¬ n = x := fun h => h1 h.symm
      simp [this]
theorem spec_l1Has.F_val (l : List Int) (n : Int) (h : l.length < 4611686018427387904) : spec_l1Has.F l n = some (decide (n ∈ l)) := by
  rw [spec_l1Has.F_eq]
  have := spec_l1Has.L0_val n l [] (by simpa using h)
  simpa using this
/-- The first place of a number, the first one counted as i; -1 where it does not stand. -/
def indexFrom (n : Int) : Nat → List Int → Int
  | _, [] => -1
  | i, x :: l => if n = x then (i : Int) else indexFrom n (i + 1) l
theorem indexFrom_mem (n : Int) : ∀ (l : List Int) (i : Nat), 0 ≤ indexFrom n i l ↔ n ∈ l
  | [], i => by simp [indexFrom]
  | x :: l, i => by
    have ih := indexFrom_mem n l (i + 1)
    by_cases h : n = x
    · simp [indexFrom, h]
    · simp [indexFrom, h, ih]
theorem slices_Index_int_int.L0_val (n : Int) : ∀ (suf pre : List Int), (pre ++ suf).length < 4611686018427387904 → slices_Index_int_int.L0 (pre ++ suf) n ((pre ++ suf).length : Int) (pre.length : Int) = some (indexFrom n pre.length suf)
  | [], pre, h => by
    rw [slices_Index_int_int.L0_eq, range_end]
    rfl
  | x :: suf, pre, h => by
    have e : (pre ++ [x]).length = pre.length + 1 := by simp
    rw [slices_Index_int_int.L0_eq, range_step, rd_mid, wrap_mid h, app_mid pre x suf, slices_Index_int_int.L0_val n suf (pre ++ [x]) (by simpa using h), e, indexFrom]
    split <;> rfl
theorem slices_Index_int_int.F_val (l : List Int) (n : Int) (h : l.length < 4611686018427387904) : slices_Index_int_int.F l n = some (indexFrom n 0 l) := by
  rw [slices_Index_int_int.F_eq]
  have := slices_Index_int_int.L0_val n l [] (by simpa using h)
  simpa using this
theorem slices_Contains_int_int.F_val (l : List Int) (n : Int) (h : l.length < 4611686018427387904) : slices_Contains_int_int.F l n = some (decide (n ∈ l)) := by
  rw [slices_Contains_int_int.F_eq, slices_Index_int_int.F_val l n h]
  simp only [Option.bind_some]
  have := indexFrom_mem n l 0
  congr 1
  rw [decide_eq_decide]
  exact this
theorem spec_roBack.L0_val (l : List Int) (hl : l.length < 4611686018427387904) : ∀ (n : Nat) (acc : List Int), n ≤ l.length → acc.length + n < 17592186044416 → spec_roBack.L0 l acc ((n : Int) - 1) = some (acc ++ (l.take n).reverse)
  | 0, acc, h, ha => by
    rw [spec_roBack.L0_eq, if_neg (by omega)]
    simp
  | n + 1, acc, h, ha => by
    have e : ((n + 1 : Nat) : Int) - 1 = (n : Int) := by omega
    rw [e, spec_roBack.L0_eq, if_pos (by omega), if_pos (by omega), if_pos (by omega), if_pos (by omega), wrap_in (n := (n : Int) - 1) (by omega) (by omega), spec_roBack.L0_val l hl n _ (by omega) (by simp; omega), rd_nat l n (by omega), List.take_succ_eq_append_getElem (by omega), List.reverse_append]
    simp
theorem spec_roBack.F_val (l : List Int) (h : l.length < 17592186044416) : spec_roBack.F l = some l.reverse := by
  rw [spec_roBack.F_eq, wrap_in (by omega) (by omega)]
  have := spec_roBack.L0_val l (by omega) l.length [] (Nat.le_refl _) (by simpa using h)
  simpa using this
theorem slices_Reverse_int_int.L0_val : ∀ (n : Nat) (mid pre suf : List Int), mid.length = n → (pre ++ mid ++ suf).length < 4611686018427387904 → slices_Reverse_int_int.L0 (pre ++ mid ++ suf) (pre.length : Int) ((pre.length : Int) + mid.length - 1) = some (pre ++ mid.reverse ++ suf)
  | 0, mid, pre, suf, hn, h => by
    obtain rfl : mid = [] := List.eq_nil_of_length_eq_zero hn
    rw [slices_Reverse_int_int.L0_eq, if_neg (by simp; omega)]
    simp
  | 1, mid, pre, suf, hn, h => by
    obtain ⟨x, rfl⟩ := List.length_eq_one_iff.1 hn
    rw [slices_Reverse_int_int.L0_eq, if_neg (by simp)]
    simp
  | n + 2, mid, pre, suf, hn, h => by
    obtain ⟨x, m, rfl⟩ : ∃ x m, mid = x :: m := by cases mid with | nil => simp at hn | cons x m => exact ⟨x, m, rfl⟩
    obtain ⟨m, y, rfl⟩ : ∃ m' y, m = m' ++ [y] := by
      rcases List.eq_nil_or_concat m with rfl | ⟨m', y, rfl⟩
      · simp at hn
      · exact ⟨m', y, by simp⟩
    have hm : m.length = n := by simp at hn; omega
    have hl : pre.length + (m.length + 2) + suf.length < 4611686018427387904 := by simp at h; omega
    have e1 : pre ++ x :: (m ++ [y]) ++ suf = pre ++ x :: (m ++ y :: suf) := by simp
    have e2 : pre ++ x :: (m ++ [y]) ++ suf = (pre ++ x :: m) ++ y :: suf := by simp
    have e3 : (pre.length : Int) + ((x :: (m ++ [y])).length : Int) - 1 = ((pre ++ x :: m).length : Int) := by simp; omega
    have r1 : rd (pre ++ x :: (m ++ [y]) ++ suf) (pre.length : Int) = x := by rw [e1]; exact rd_mid pre x _
    have r2 : rd (pre ++ x :: (m ++ [y]) ++ suf) ((pre ++ x :: m).length : Int) = y := by rw [e2]; exact rd_mid _ y suf
    have l1 : ((pre ++ x :: m).length : Int) = (pre.length : Int) + m.length + 1 := by simp; omega
    have ll : ((pre ++ x :: (m ++ [y]) ++ suf).length : Int) = (pre.length : Int) + m.length + 2 + suf.length := by simp; omega
    rw [e3, slices_Reverse_int_int.L0_eq, if_pos (by omega), if_pos (by omega), if_pos (by omega), if_pos (by omega), if_pos (by omega), r1, r2, Int.toNat_natCast, Int.toNat_natCast]
    have es : ((pre ++ x :: (m ++ [y]) ++ suf).set pre.length y).set (pre ++ x :: m).length x = (pre ++ [y]) ++ m ++ ([x] ++ suf) := by
      rw [e1, List.set_append_right _ _ (Nat.le_refl _), Nat.sub_self, List.set_cons_zero]
      rw [show pre ++ y :: (m ++ y :: suf) = (pre ++ y :: m) ++ y :: suf by simp, List.set_append_right _ _ (by simp), show (pre ++ x :: m).length - (pre ++ y :: m).length = 0 by simp, List.set_cons_zero]
      simp
    have w1 : wrap64 ((pre.length : Int) + 1) = ((pre ++ [y]).length : Int) := by rw [wrap_in (by omega) (by omega)]; simp
    have w2 : wrap64 (((pre ++ x :: m).length : Int) - 1) = ((pre ++ [y]).length : Int) + m.length - 1 := by rw [wrap_in (by omega) (by omega), l1]; simp; omega
    rw [es, w1, w2, slices_Reverse_int_int.L0_val n m (pre ++ [y]) ([x] ++ suf) hm (by simp; omega)]
    simp
theorem slices_Reverse_int_int.F_val (l : List Int) (h : l.length < 4611686018427387904) : slices_Reverse_int_int.F l = some l.reverse := by
  rw [slices_Reverse_int_int.F_eq, wrap_in (by omega) (by omega)]
  have := slices_Reverse_int_int.L0_val l.length l [] [] rfl (by simpa using h)
  simpa using this
theorem impl_back.F_val (l : List Int) (h : l.length < 17592186044416) : impl_back.F l = some l.reverse := by
  rw [impl_back.F_eq, slices_Clone_int_int.f_val l h]
  simp only [Option.bind_some]
  rw [slices_Reverse_int_int.F_val l (by omega)]
  rfl
theorem slices_Equal_int_int.L0_val : ∀ (s1 s2 p1 p2 : List Int), p1.length = p2.length → s1.length = s2.length → (p1 ++ s1).length < 4611686018427387904 → slices_Equal_int_int.L0 (p1 ++ s1) (p2 ++ s2) ((p1 ++ s1).length : Int) (p1.length : Int) = some (decide (s1 = s2))
  | [], [], p1, p2, hp, hs, h => by
    rw [slices_Equal_int_int.L0_eq, if_neg (by simp)]
    rfl
  | x :: s1, y :: s2, p1, p2, hp, hs, h => by
    have hl : (p1 ++ x :: s1).length = p1.length + s1.length + 1 := by simp; omega
    have hl2 : (p2 ++ y :: s2).length = p2.length + s2.length + 1 := by simp; omega
    have hs' : s1.length = s2.length := by simpa using hs
    have hr2 : rd (p2 ++ y :: s2) (p1.length : Int) = y := by rw [hp, rd_mid]
    rw [slices_Equal_int_int.L0_eq, if_pos (by omega), if_pos (by omega), if_pos (by omega), if_pos (by omega), rd_mid, hr2, wrap_mid h, app_mid p1 x s1, app_mid p2 y s2, slices_Equal_int_int.L0_val s1 s2 (p1 ++ [x]) (p2 ++ [y]) (by simp [hp]) hs' (by simpa using h)]
    by_cases h1 : x = y
    · rw [if_pos h1]
      simp [h1]
    · rw [if_neg h1]
      simp [h1]
theorem slices_Equal_int_int.F_val (a b : List Int) (h : a.length < 4611686018427387904) : slices_Equal_int_int.F a b = some (decide (a = b)) := by
  rw [slices_Equal_int_int.F_eq]
  by_cases h1 : a.length = b.length
  · rw [if_pos (by omega)]
    have := slices_Equal_int_int.L0_val a b [] [] rfl h1 (by simpa using h)
    simpa using this
  · rw [if_neg (by omega)]
    have : ¬ a = b := fun e => h1 (by rw [e])
    simp [this]
theorem spec_l1Same.L0_val : ∀ (s1 s2 p1 p2 : List Int), p1.length = p2.length → s1.length = s2.length → (p1 ++ s1).length < 4611686018427387904 → spec_l1Same.L0 (p1 ++ s1) (p2 ++ s2) ((p1 ++ s1).length : Int) (p1.length : Int) = some (decide (s1 = s2))
  | [], [], p1, p2, hp, hs, h => by
    rw [spec_l1Same.L0_eq, if_neg (by simp)]
    rfl
  | x :: s1, y :: s2, p1, p2, hp, hs, h => by
    have hl : (p1 ++ x :: s1).length = p1.length + s1.length + 1 := by simp; omega
    have hl2 : (p2 ++ y :: s2).length = p2.length + s2.length + 1 := by simp; omega
    have hs' : s1.length = s2.length := by simpa using hs
    have hr2 : rd (p2 ++ y :: s2) (p1.length : Int) = y := by rw [hp, rd_mid]
    rw [spec_l1Same.L0_eq, if_pos (by omega), if_pos (by omega), if_pos (by omega), if_pos (by omega), rd_mid, hr2, wrap_mid h, app_mid p1 x s1, app_mid p2 y s2, spec_l1Same.L0_val s1 s2 (p1 ++ [x]) (p2 ++ [y]) (by simp [hp]) hs' (by simpa using h)]
    by_cases h1 : x = y
    · rw [if_pos h1]
      simp [h1]
    · rw [if_neg h1]
      simp [h1]
theorem spec_l1Same.F_val (a b : List Int) (h : a.length < 4611686018427387904) : spec_l1Same.F a b = some (decide (a = b)) := by
  rw [spec_l1Same.F_eq]
  by_cases h1 : a.length = b.length
  · rw [if_pos (by omega)]
    have := spec_l1Same.L0_val a b [] [] rfl h1 (by simpa using h)
    simpa using this
  · rw [if_neg (by omega)]
    have : ¬ a = b := fun e => h1 (by rw [e])
    simp [this]
/-- The input's bytes are bytes. -/
def BytesOk (l : List Int) : Prop := ∀ x ∈ l, 0 ≤ x ∧ x ≤ 255
theorem wrap_u64 (n : Int) : IntKind.u64.wrap n = n % 18446744073709551616 := by simp [IntKind.wrap, IntKind.bits, IntKind.signed]
theorem low_byte (x : Int) (h0 : 0 ≤ x) (h1 : x < 18446744073709551616) : Go.bits .and .u64 x 255 = x % 256 := by
  have := bits_mask .u64 64 (by decide) (fun n h0 h1 => by rw [wrap_u64]; omega) 8 (by decide) x h0 (by omega)
  simpa using this
theorem top_byte (n : Int) : ∃ b, wrap64 (Go.bits .and .u64 (IntKind.u64.wrap n / 1099511627776) 255) = b ∧ 0 ≤ b ∧ b ≤ 255 := by
  have h := wrap_u64 n
  generalize IntKind.u64.wrap n = m at *
  rw [low_byte _ (by omega) (by omega), wrap_in (by omega) (by omega)]
  exact ⟨_, rfl, by omega, by omega⟩
theorem spec_l1Cur_next.ok {l : List Int} (hl : BytesOk l) (hn : l.length < 4611686018427387904) (at_ seed : Int) (h0 : 0 ≤ at_) (h1 : at_ < 4611686018427387904) : ∃ b z, spec_l1Cur_next.f l at_ seed = some (b, at_ + 1, z) ∧ 0 ≤ b ∧ b ≤ 255 := by
  unfold spec_l1Cur_next.f
  rw [wrap_in (n := at_ + 1) (by omega) (by omega)]
  by_cases ha : at_ < (l.length : Int)
  · have hm : rd l at_ ∈ l := by
      obtain ⟨i, rfl⟩ : ∃ i : Nat, at_ = i := ⟨at_.toNat, by omega⟩
      rw [rd_nat l i (by omega)]
      exact List.getElem_mem _
    have hb := hl _ hm
    rw [if_pos ha, if_pos h0, if_pos (by omega), wrap_in (n := rd l at_) (by omega) (by omega)]
    exact ⟨_, _, rfl, hb.1, hb.2⟩
  · rw [if_neg ha]
    by_cases hb : at_ + 1 ≤ (l.length : Int)
    · rw [if_pos hb]
      exact ⟨_, _, rfl, by omega, by omega⟩
    · rw [if_neg hb]
      obtain ⟨b, e, h2, h3⟩ := top_byte (IntKind.u64.wrap (IntKind.u64.wrap (seed * 6364136223846793005)) + 1442695040888963407)
      exact ⟨b, _, by rw [e], h2, h3⟩
/-- The state of a draw: the input, and a place that is no greater than m. -/
structure DrawSt (l : List Int) (m at_ : Int) : Prop where
  bytes : BytesOk l
  len : l.length < 4611686018427387904
  at0 : 0 ≤ at_
  atm : at_ ≤ m
theorem DrawSt.more {l : List Int} {m m' a : Int} (h : DrawSt l m a) (hm : m ≤ m') : DrawSt l m' a := ⟨h.1, h.2, h.3, Int.le_trans h.4 hm⟩
theorem tmod_range {x n : Int} (hx : 0 ≤ x) (hn : 0 < n) : 0 ≤ Int.tmod x n ∧ Int.tmod x n < n := ⟨Int.tmod_nonneg n hx, Int.tmod_lt_of_pos x hn⟩
theorem spec_l1Cur_pick.ok {l : List Int} {m at_ : Int} (seed n : Int) (h : DrawSt l m at_) (hm : m ≤ 4000000000000000000) : ∃ r a z, spec_l1Cur_pick.f l at_ seed n = some (r, a, z) ∧ 0 ≤ r ∧ (r < n ∨ r = 0) ∧ DrawSt l (m + 2) a := by
  obtain ⟨hl, hn, h0, h1⟩ := h
  unfold spec_l1Cur_pick.f
  by_cases hn1 : n ≤ 1
  · rw [if_pos hn1]
    exact ⟨0, _, _, rfl, by omega, .inr rfl, hl, hn, h0, by omega⟩
  · rw [if_neg hn1]
    obtain ⟨b, z, e, b0, b1⟩ := spec_l1Cur_next.ok hl hn at_ seed h0 (by omega)
    rw [e]
    simp only [Option.bind_some]
    by_cases hn2 : n > 200
    · rw [if_pos hn2]
      obtain ⟨b', z', e', b0', b1'⟩ := spec_l1Cur_next.ok hl hn (at_ + 1) z (by omega) (by omega)
      rw [e']
      simp only [Option.bind_some]
      rw [if_neg (by omega), wrap_in (n := b * 256) (by omega) (by omega), wrap_in (n := b * 256 + b') (by omega) (by omega)]
      have := tmod_range (x := b * 256 + b') (n := n) (by omega) (by omega)
      exact ⟨_, _, _, rfl, this.1, .inl this.2, hl, hn, by omega, by omega⟩
    · rw [if_neg hn2, if_neg (by omega)]
      have := tmod_range (x := b) (n := n) b0 (by omega)
      exact ⟨_, _, _, rfl, this.1, .inl this.2, hl, hn, by omega, by omega⟩
theorem spec_l1Cur_among.ok {l : List Int} {m at_ : Int} (seed : Int) (xs : List Int) (hx : 0 < xs.length) (h : DrawSt l m at_) (hm : m ≤ 4000000000000000000) : ∃ r a z, spec_l1Cur_among.f l at_ seed xs = some (r, a, z) ∧ r ∈ xs ∧ DrawSt l (m + 2) a := by
  obtain ⟨r, a, z, e, h0, h1, hs⟩ := spec_l1Cur_pick.ok seed (xs.length : Int) h hm
  have hr : r < (xs.length : Int) := by omega
  have hmem : rd xs r ∈ xs := by
    obtain ⟨i, rfl⟩ : ∃ i : Nat, r = i := ⟨r.toNat, by omega⟩
    rw [rd_nat xs i (by omega)]
    exact List.getElem_mem _
  exact ⟨rd xs r, a, z, by unfold spec_l1Cur_among.f; rw [e]; simp only [Option.bind_some]; rw [if_pos h0, if_pos hr], hmem, hs⟩
theorem laws_big.f_val (a b : List Int) : laws_big.f a b = some (decide (1048576 < a.length ∨ 1048576 < a.length + b.length)) := by
  unfold laws_big.f
  by_cases h : (a.length : Int) > 1048576
  · rw [if_pos h, decide_eq_true (by omega)]
  · rw [if_neg h, wrap_in (by omega) (by omega)]
    by_cases h2 : (b.length : Int) > 1048576 - (a.length : Int)
    · rw [decide_eq_true h2, decide_eq_true (by omega)]
    · rw [decide_eq_false h2, decide_eq_false (by omega)]
/-- An input of bytes, as a draw begins. -/
theorem draw_start {l : List Int} (h : l.length ≤ 1048576) (hw : ∀ x ∈ l, (Lit.int .u8 x).wf = true) : DrawSt l 0 0 := by
  refine ⟨fun x hx => ?_, by omega, by omega, by omega⟩
  have := hw x hx
  simp [Lit.wf] at this
  have h1 : IntKind.u8.min = 0 := by decide
  have h2 : IntKind.u8.max = 255 := by decide
  rw [h1, h2] at this
  omega
def lessOf : List Int → List Int → Bool
  | [], [] => false
  | [], _ :: _ => true
  | _ :: _, [] => false
  | x :: a, y :: b => if x = y then lessOf a b else decide (x < y)
theorem wrap_up {n i : Nat} (h : i < n) (hn : n < 4611686018427387904) : wrap64 ((i : Int) + 1) = ((i + 1 : Nat) : Int) := by
  rw [wrap_in (by omega) (by omega)]
  rfl
theorem laws_zSame.L0_val (a b : List Int) (hl : a.length = b.length) (h : a.length < 4611686018427387904) : ∀ (m i : Nat), i + m = a.length → laws_zSame.L0 a b (a.length : Int) (i : Int) = some (decide (a.drop i = b.drop i))
  | 0, i, hm => by
    rw [laws_zSame.L0_eq, if_neg (by omega), List.drop_of_length_le (by omega), List.drop_of_length_le (by omega)]
    rfl
  | m + 1, i, hm => by
    rw [laws_zSame.L0_eq, if_pos (by omega), if_pos (by omega), if_pos (by omega), if_pos (by omega), rd_nat a i (by omega), rd_nat b i (by omega), wrap_up (n := a.length) (by omega) h, laws_zSame.L0_val a b hl h m (i + 1) (by omega), List.drop_eq_getElem_cons (l := a) (i := i) (by omega), List.drop_eq_getElem_cons (l := b) (i := i) (by omega)]
    by_cases e : a[i]'(by omega) = b[i]'(by omega)
    · rw [if_pos e]
      congr 1
      rw [decide_eq_decide, e]
      exact ⟨fun h => by rw [h], fun h => (List.cons.inj h).2⟩
    · rw [if_neg e, decide_eq_false (fun h => e (List.cons.inj h).1)]
theorem laws_zSame.F_val (a b : List Int) (h : a.length < 4611686018427387904) : laws_zSame.F a b = some (decide (a = b)) := by
  rw [laws_zSame.F_eq]
  by_cases e : a.length = b.length
  · rw [if_pos (by omega)]
    have := laws_zSame.L0_val a b e h a.length 0 (by omega)
    simpa using this
  · rw [if_neg (by omega), decide_eq_false (fun hab => e (by rw [hab]))]
theorem laws_zRows.L0_val (a b : List (List Int)) (hl : a.length = b.length) (h : a.length < 4611686018427387904) (hx : ∀ x ∈ a, x.length < 4611686018427387904) : ∀ (m i : Nat), i + m = a.length → laws_zRows.L0 a b (a.length : Int) (i : Int) = some (decide (a.drop i = b.drop i))
  | 0, i, hm => by
    rw [laws_zRows.L0_eq, if_neg (by omega), List.drop_of_length_le (by omega), List.drop_of_length_le (by omega)]
    rfl
  | m + 1, i, hm => by
    have ea : rd_L2 a (i : Int) = a[i]'(by omega) := by unfold rd_L2; rw [Int.toNat_natCast, List.getD_eq_getElem?_getD, List.getElem?_eq_getElem (by omega)]; rfl
    have eb : rd_L2 b (i : Int) = b[i]'(by omega) := by unfold rd_L2; rw [Int.toNat_natCast, List.getD_eq_getElem?_getD, List.getElem?_eq_getElem (by omega)]; rfl
    rw [laws_zRows.L0_eq, if_pos (by omega), if_pos (by omega), if_pos (by omega), if_pos (by omega), ea, eb, laws_zSame.F_val _ _ (hx _ (List.getElem_mem _)), wrap_up (n := a.length) (by omega) h, laws_zRows.L0_val a b hl h hx m (i + 1) (by omega), List.drop_eq_getElem_cons (l := a) (i := i) (by omega), List.drop_eq_getElem_cons (l := b) (i := i) (by omega)]
    simp only [Option.bind_some]
    by_cases e : a[i]'(by omega) = b[i]'(by omega)
    · rw [if_pos (by simp [e])]
      congr 1
      rw [decide_eq_decide, e]
      exact ⟨fun h => by rw [h], fun h => (List.cons.inj h).2⟩
    · rw [if_neg (by simp [e]), decide_eq_false (fun h => e (List.cons.inj h).1)]
theorem laws_zRows.F_val (a b : List (List Int)) (h : a.length < 4611686018427387904) (hx : ∀ x ∈ a, x.length < 4611686018427387904) : laws_zRows.F a b = some (decide (a = b)) := by
  rw [laws_zRows.F_eq]
  by_cases e : a.length = b.length
  · rw [if_pos (by omega)]
    have := laws_zRows.L0_val a b e h hx a.length 0 (by omega)
    simpa using this
  · rw [if_neg (by omega), decide_eq_false (fun hab => e (by rw [hab]))]
theorem laws_zLess.L0_val (a b : List Int) (h : a.length < 4611686018427387904) : ∀ (m i : Nat), i + m = a.length → i ≤ b.length → laws_zLess.L0 a b (a.length : Int) (i : Int) = some (lessOf (a.drop i) (b.drop i))
  | 0, i, hm, hb => by
    rw [laws_zLess.L0_eq, if_neg (by omega), List.drop_of_length_le (l := a) (by omega)]
    by_cases e : i < b.length
    · rw [List.drop_eq_getElem_cons (l := b) (i := i) e, lessOf, decide_eq_true (by omega)]
    · rw [List.drop_of_length_le (l := b) (by omega), lessOf, decide_eq_false (by omega)]
  | m + 1, i, hm, hb => by
    rw [laws_zLess.L0_eq, if_pos (by omega), List.drop_eq_getElem_cons (l := a) (i := i) (by omega)]
    by_cases e : i < b.length
    · rw [if_neg (by omega), if_pos (by omega), if_pos (by omega), if_pos (by omega), rd_nat a i (by omega), rd_nat b i e, List.drop_eq_getElem_cons (l := b) (i := i) e, lessOf, wrap_up (n := a.length) (by omega) h, laws_zLess.L0_val a b h m (i + 1) (by omega) (by omega)]
      by_cases e2 : a[i]'(by omega) = b[i]
      · rw [if_pos e2, if_pos e2]
      · rw [if_neg e2, if_neg e2]
    · rw [if_pos (by omega), List.drop_of_length_le (l := b) (by omega), lessOf]
theorem laws_zLess.F_val (a b : List Int) (h : a.length < 4611686018427387904) : laws_zLess.F a b = some (lessOf a b) := by
  rw [laws_zLess.F_eq]
  have := laws_zLess.L0_val a b h a.length 0 (by omega) (by omega)
  simpa using this
/-- How often a number stands in a list. -/
def times (d : Int) : List Int → Nat
  | [] => 0
  | x :: l => (if x = d then 1 else 0) + times d l
theorem times_pos {d : Int} : ∀ {l : List Int}, 0 < times d l ↔ d ∈ l
  | [] => by simp [times]
  | x :: l => by
    have := times_pos (d := d) (l := l)
    simp only [times, List.mem_cons]
    by_cases h : x = d
    · simp [h]; omega
    · rw [if_neg h, Nat.zero_add, this]
      constructor
      · exact fun h => .inr h
      · rintro (h1 | h1)
        · exact absurd h1.symm h
        · exact h1
theorem times_le_one {l : List Int} : (∀ d, times d l ≤ 1) ↔ l.Nodup := by
  induction l with
  | nil => simp [times]
  | cons x l ih =>
    rw [List.nodup_cons, ← ih]
    constructor
    · intro h
      refine ⟨fun hm => ?_, fun d => ?_⟩
      · have h1 := h x
        have h2 := times_pos.2 hm
        simp only [times, if_true] at h1
        omega
      · have h1 := h d
        simp only [times] at h1
        omega
    · rintro ⟨h1, h2⟩ d
      simp only [times]
      have h3 := h2 d
      by_cases hx : x = d
      · subst hx
        have : ¬ 0 < times x l := fun hp => h1 (times_pos.1 hp)
        rw [if_pos rfl]
        omega
      · rw [if_neg hx]
        omega
/-! dots: a list of n different numbers below n -/
structure Dots (p : List Int) : Prop where
  rng : ∀ x ∈ p, 0 ≤ x ∧ x < (p.length : Int)
  nod : p.Nodup
/-- The dots with rows and columns changed; from right to left; upside down. -/
def crossOf (p : List Int) : List Int := (List.range p.length).map fun y : Nat => ((p.idxOf (y : Int) : Nat) : Int)
def flipOf (p : List Int) : List Int := p.map fun x => (p.length : Int) - 1 - x
def turnOf (p : List Int) : List Int := (List.range p.length).map fun y : Nat => (p.length : Int) - 1 - ((p.idxOf (y : Int) : Nat) : Int)
theorem len_le_of_sub : ∀ (A B : List Int), A.Nodup → (∀ x ∈ A, x ∈ B) → A.length ≤ B.length
  | [], B, _, _ => by simp
  | x :: A, B, hn, h => by
    obtain ⟨h1, h2⟩ := List.nodup_cons.1 hn
    have hx := h x (by simp)
    have ih := len_le_of_sub A (B.erase x) h2 (fun y hy => (List.mem_erase_of_ne (fun e => h1 (by rw [← e]; exact hy))).2 (h y (by simp [hy])))
    rw [List.length_erase_of_mem hx] at ih
    have : 0 < B.length := List.length_pos_of_mem hx
    simp only [List.length_cons]
    omega
theorem mem_range_int {n : Nat} {x : Int} : x ∈ ((List.range n).map fun k : Nat => (k : Int)) ↔ 0 ≤ x ∧ x < (n : Int) := by
  rw [List.mem_map]
  constructor
  · rintro ⟨k, hk, rfl⟩
    have := List.mem_range.1 hk
    omega
  · intro h
    exact ⟨x.toNat, List.mem_range.2 (by omega), by omega⟩
/-- Each row has a dot. -/
theorem Dots.onto {p : List Int} (h : Dots p) {y : Nat} (hy : y < p.length) : (y : Int) ∈ p := by
  refine Classical.byContradiction fun hn => ?_
  have h1 := len_le_of_sub p (((List.range p.length).map fun k : Nat => (k : Int)).erase (y : Int)) h.nod (fun x hx => (List.mem_erase_of_ne (fun e => hn (by rw [← e]; exact hx))).2 (mem_range_int.2 (h.rng x hx)))
  rw [List.length_erase_of_mem (mem_range_int.2 (by omega)), List.length_map, List.length_range] at h1
  omega
theorem Dots.idx_lt {p : List Int} (h : Dots p) {y : Nat} (hy : y < p.length) : p.idxOf (y : Int) < p.length := List.idxOf_lt_length_of_mem (h.onto hy)
theorem Dots.get_idx {p : List Int} (h : Dots p) {y : Nat} (hy : y < p.length) : p[p.idxOf (y : Int)]'(h.idx_lt hy) = (y : Int) := List.getElem_idxOf (h.idx_lt hy)
theorem nodup_get_inj {l : List Int} (hn : l.Nodup) {i j : Nat} (hi : i < l.length) (hj : j < l.length) (e : l[i] = l[j]) : i = j := by
  rcases Nat.lt_trichotomy i j with h | h | h
  · exact absurd e ((List.pairwise_iff_getElem.1 hn) i j hi hj h)
  · exact h
  · exact absurd e.symm ((List.pairwise_iff_getElem.1 hn) j i hj hi h)
theorem Dots.idx_get {p : List Int} (h : Dots p) {x : Nat} (hx : x < p.length) : p.idxOf p[x] = x := by
  have h1 : p.idxOf p[x] < p.length := List.idxOf_lt_length_of_mem (List.getElem_mem hx)
  exact nodup_get_inj h.nod h1 hx (List.getElem_idxOf h1)
theorem crossOf_length (p : List Int) : (crossOf p).length = p.length := by simp [crossOf]
theorem flipOf_length (p : List Int) : (flipOf p).length = p.length := by simp [flipOf]
theorem turnOf_length (p : List Int) : (turnOf p).length = p.length := by simp [turnOf]
theorem crossOf_get {p : List Int} {y : Nat} (hy : y < (crossOf p).length) : (crossOf p)[y] = ((p.idxOf (y : Int) : Nat) : Int) := by simp [crossOf]
theorem flipOf_get {p : List Int} {x : Nat} (hx : x < (flipOf p).length) : (flipOf p)[x] = (p.length : Int) - 1 - p[x]'(by rw [flipOf_length] at hx; exact hx) := by simp [flipOf]
theorem back_get {p : List Int} {x : Nat} (hx : x < p.reverse.length) : p.reverse[x] = p[p.length - 1 - x]'(by rw [List.length_reverse] at hx; omega) := by simp
theorem turn_flip (p : List Int) : turnOf p = flipOf (crossOf p) := by
  unfold turnOf flipOf
  rw [crossOf_length]
  unfold crossOf
  rw [List.map_map]
  rfl
/-- A list that says of each row where its dot is, is the crossed one. -/
theorem cross_eq {p q : List Int} (h : Dots p) (hl : q.length = p.length) (hq : ∀ x (hx : x < p.length), q[(p[x]).toNat]'(by have := h.rng _ (List.getElem_mem hx); omega) = (x : Int)) : q = crossOf p := by
  refine List.ext_getElem (by rw [hl, crossOf_length]) fun y h1 h2 => ?_
  have hy : y < p.length := by omega
  have := hq _ (h.idx_lt hy)
  rw [crossOf_get h2, ← this]
  congr 1
  rw [h.get_idx hy]
  rfl
theorem cross_dots {p : List Int} (h : Dots p) : Dots (crossOf p) := by
  refine ⟨fun x hx => ?_, ?_⟩
  · obtain ⟨y, hy, rfl⟩ := List.mem_map.1 hx
    have := h.idx_lt (List.mem_range.1 hy)
    rw [crossOf_length]
    omega
  · unfold crossOf
    rw [List.Nodup, List.pairwise_map]
    refine List.Pairwise.imp_of_mem ?_ List.pairwise_lt_range
    intro a b ha hb hlt e
    have ha := List.mem_range.1 ha
    have hb := List.mem_range.1 hb
    have e1 := h.get_idx ha
    have e2 := h.get_idx hb
    have e3 : p.idxOf (a : Int) = p.idxOf (b : Int) := by omega
    simp only [e3] at e1
    rw [e2] at e1
    omega
theorem cross_cross {p : List Int} (h : Dots p) : crossOf (crossOf p) = p := by
  refine (cross_eq (cross_dots h) (crossOf_length p).symm fun y hy => ?_).symm
  rw [crossOf_length] at hy
  have e := h.get_idx hy
  rw [← e]
  congr 1
  rw [crossOf_get]
  rfl
theorem flip_dots {p : List Int} (h : Dots p) : Dots (flipOf p) := by
  refine ⟨fun x hx => ?_, ?_⟩
  · obtain ⟨y, hy, rfl⟩ := List.mem_map.1 hx
    have := h.rng y hy
    rw [flipOf_length]
    omega
  · unfold flipOf
    rw [List.Nodup, List.pairwise_map]
    exact h.nod.imp (fun h e => h (by omega))
theorem back_dots {p : List Int} (h : Dots p) : Dots p.reverse := by
  refine ⟨fun x hx => ?_, (List.reverse_perm p).nodup_iff.2 h.nod⟩
  rw [List.length_reverse]
  exact h.rng x (List.mem_reverse.1 hx)
theorem flipOf_two (p : List Int) : flipOf (flipOf p) = p := by
  unfold flipOf
  rw [List.map_map, List.length_map]
  have : ((fun x => (p.length : Int) - 1 - x) ∘ fun x => (p.length : Int) - 1 - x) = id := by
    funext x
    simp only [Function.comp, id]
    omega
  rw [this, List.map_id]
theorem flip_back (p : List Int) : flipOf p.reverse = (flipOf p).reverse := by
  unfold flipOf
  rw [List.length_reverse, List.map_reverse]
theorem cross_back {p : List Int} (h : Dots p) : crossOf p.reverse = flipOf (crossOf p) := by
  refine (cross_eq (back_dots h) (by rw [flipOf_length, crossOf_length, List.length_reverse]) fun x hx => ?_).symm
  rw [List.length_reverse] at hx
  rw [flipOf_get]
  have hx2 : p.length - 1 - x < p.length := by omega
  have hr := h.rng _ (List.getElem_mem hx2)
  have e1 : (crossOf p)[(p.reverse[x]'(by rw [List.length_reverse]; exact hx)).toNat]'(by rw [crossOf_length, back_get]; omega) = ((p.length - 1 - x : Nat) : Int) := by
    rw [crossOf_get]
    have e2 : (((p.reverse[x]'(by rw [List.length_reverse]; exact hx)).toNat : Nat) : Int) = p[p.length - 1 - x] := by rw [back_get]; omega
    rw [e2, h.idx_get hx2]
  rw [e1, crossOf_length]
  omega
theorem cross_flip {p : List Int} (h : Dots p) : crossOf (flipOf p) = (crossOf p).reverse := by
  have h1 := cross_back (cross_dots h)
  rw [cross_cross h] at h1
  rw [← h1, cross_cross (back_dots (cross_dots h))]
theorem turn_dots {p : List Int} (h : Dots p) : Dots (turnOf p) := by
  rw [turn_flip]
  exact flip_dots (cross_dots h)
theorem turn_two {p : List Int} (h : Dots p) : turnOf (turnOf p) = flipOf p.reverse := by
  rw [turn_flip, turn_flip, cross_flip (cross_dots h), cross_cross h]
theorem turn_four {p : List Int} (h : Dots p) : turnOf (turnOf (turnOf (turnOf p))) = p := by
  rw [turn_two (turn_dots (turn_dots h)), turn_two h, ← flip_back, List.reverse_reverse, flipOf_two]
/-! the least of all -/
theorem less_irr : ∀ a : List Int, lessOf a a = false
  | [] => rfl
  | x :: a => by simp [lessOf, less_irr a]
theorem less_trans : ∀ {a b c : List Int}, lessOf a b = true → lessOf b c = true → lessOf a c = true
  | [], [], _, h, _ => by simp [lessOf] at h
  | [], _ :: _, [], _, h => by simp [lessOf] at h
  | [], _ :: _, _ :: _, _, _ => rfl
  | _ :: _, [], _, h, _ => by simp [lessOf] at h
  | _ :: _, _ :: _, [], _, h => by simp [lessOf] at h
  | x :: a, y :: b, z :: c, h1, h2 => by
    simp only [lessOf] at h1 h2 ⊢
    by_cases e1 : x = y
    · subst e1
      rw [if_pos rfl] at h1
      by_cases e2 : x = z
      · subst e2
        rw [if_pos rfl] at h2 ⊢
        exact less_trans h1 h2
      · rw [if_neg e2] at h2 ⊢
        exact h2
    · rw [if_neg e1, decide_eq_true_eq] at h1
      by_cases e2 : y = z
      · subst e2
        rw [if_neg e1]
        exact decide_eq_true h1
      · rw [if_neg e2, decide_eq_true_eq] at h2
        rw [if_neg (by omega)]
        exact decide_eq_true (by omega)
theorem less_total : ∀ {a b : List Int}, lessOf a b = false → lessOf b a = false → a = b
  | [], [], _, _ => rfl
  | [], _ :: _, h, _ => by simp [lessOf] at h
  | _ :: _, [], _, h => by simp [lessOf] at h
  | x :: a, y :: b, h1, h2 => by
    simp only [lessOf] at h1 h2
    by_cases e : x = y
    · subst e
      rw [if_pos rfl] at h1 h2
      rw [less_total h1 h2]
    · rw [if_neg e, decide_eq_false_iff_not] at h1
      rw [if_neg (fun h => e h.symm), decide_eq_false_iff_not] at h2
      omega
/-- The least of a list and some others, the first one where some are the same. -/
def leastOf (b : List Int) : List (List Int) → List Int
  | [] => b
  | q :: ls => leastOf (if lessOf q b = true then q else b) ls
theorem leastOf_mem : ∀ (ls : List (List Int)) (b : List Int), leastOf b ls ∈ b :: ls
  | [], b => by simp [leastOf]
  | q :: ls, b => by
    have := leastOf_mem ls (if lessOf q b = true then q else b)
    unfold leastOf
    rcases List.mem_cons.1 this with h | h
    · rw [h]
      split <;> simp
    · simp [h]
theorem leastOf_le : ∀ (ls : List (List Int)) (b : List Int), ∀ x ∈ b :: ls, lessOf x (leastOf b ls) = false
  | [], b, x, hx => by
    have : x = b := by simpa using hx
    rw [this, leastOf, less_irr]
  | q :: ls, b, x, hx => by
    have ih := leastOf_le ls (if lessOf q b = true then q else b)
    unfold leastOf
    have hb := ih _ List.mem_cons_self
    have low : ∀ y, lessOf y (if lessOf q b = true then q else b) = false → lessOf y (leastOf (if lessOf q b = true then q else b) ls) = false := fun y hy => by
      rw [Bool.eq_false_iff]
      intro h
      generalize (if lessOf q b = true then q else b) = m at hy hb h
      generalize leastOf m ls = z at hb h
      -- z is not above m: equal or below
      by_cases e : lessOf z m = true
      · rw [less_trans h e] at hy
        cases hy
      · have := less_total (Bool.eq_false_iff.2 e) hb
        rw [this] at h
        rw [h] at hy
        cases hy
    rcases List.mem_cons.1 hx with rfl | hx
    · refine low _ ?_
      split
      · rename_i h
        rw [Bool.eq_false_iff]
        intro h2
        have := less_trans h h2
        rw [less_irr] at this
        cases this
      · exact less_irr _
    · rcases List.mem_cons.1 hx with rfl | hx
      · refine low _ ?_
        split
        · exact less_irr _
        · rename_i h
          exact Bool.eq_false_iff.2 h
      · exact ih x (List.mem_cons_of_mem _ hx)
theorem leastOf_eq {b c : List Int} {ls ms : List (List Int)} (h : ∀ x, x ∈ b :: ls ↔ x ∈ c :: ms) : leastOf b ls = leastOf c ms := by
  refine less_total ?_ ?_
  · exact leastOf_le ms c _ ((h _).1 (leastOf_mem ls b))
  · exact leastOf_le ls b _ ((h _).2 (leastOf_mem ms c))
/-- The differences at a distance. -/
def diffsOf (p : List Int) (k : Nat) : List Int := List.zipWith (fun a b => a - b) (p.drop k) p
def costB (p : List Int) : Bool := (List.range' 1 (p.length - 1)).all fun k => decide (diffsOf p k).Nodup
theorem diffsOf_length (p : List Int) (k : Nat) : (diffsOf p k).length = p.length - k := by
  unfold diffsOf
  rw [List.length_zipWith, List.length_drop]
  omega
theorem diffsOf_get {p : List Int} {k i : Nat} (h : i < (diffsOf p k).length) : (diffsOf p k)[i] = p[i + k]'(by rw [diffsOf_length] at h; omega) - p[i]'(by rw [diffsOf_length] at h; omega) := by
  simp [diffsOf, Nat.add_comm]
/-! primes -/
def dotsB (p : List Int) : Bool := p.all (fun x => decide (0 ≤ x ∧ x < (p.length : Int))) && decide p.Nodup
def isDots (p : List Int) : Bool := decide (1 ≤ p.length ∧ p.length ≤ 12) && dotsB p
theorem dotsB_iff {p : List Int} : dotsB p = true ↔ Dots p := by
  unfold dotsB
  rw [Bool.and_eq_true, List.all_eq_true, decide_eq_true_eq]
  constructor
  · exact fun h => ⟨fun x hx => of_decide_eq_true (h.1 x hx), h.2⟩
  · exact fun h => ⟨fun x hx => decide_eq_true (h.rng x hx), h.nod⟩
theorem isDots_parts {p : List Int} (h : isDots p = true) : (1 ≤ p.length ∧ p.length ≤ 12) ∧ Dots p := by
  unfold isDots at h
  rw [Bool.and_eq_true, decide_eq_true_eq, dotsB_iff] at h
  exact h
theorem dots_bad {p pre suf : List Int} {x : Int} (e : p = pre ++ x :: suf) (h : x < 0 ∨ x ≥ (p.length : Int) ∨ x ∈ pre) : dotsB p = false := by
  rw [Bool.eq_false_iff]
  intro hd
  have hd := dotsB_iff.1 hd
  have hx := hd.rng x (by rw [e]; simp)
  rcases h with h | h | h
  · omega
  · omega
  · have hn := hd.nod
    rw [e, List.nodup_append] at hn
    exact hn.2.2 x h x (by simp) rfl
theorem nodup_snoc {pre : List Int} {x : Int} (hn : pre.Nodup) (hx : ¬ x ∈ pre) : (pre ++ [x]).Nodup := List.nodup_append.2 ⟨hn, by simp, fun a ha b hb => by
  have : b = x := by simpa using hb
  intro e2
  exact hx (by rw [← this, ← e2]; exact ha)⟩
theorem impl_IsDots.L0_val (p : List Int) (hp : p.length < 4611686018427387904) : ∀ (suf pre : List Int), p = pre ++ suf → (∀ x ∈ pre, 0 ≤ x ∧ x < (p.length : Int)) → pre.Nodup → impl_IsDots.L0 p p (p.length : Int) (pre.length : Int) = some (isDots p)
  | [], pre, e, hr, hn => by
    have hpre : p = pre := by rw [e]; simp
    have hd : Dots p := ⟨fun x hx => hr x (by rw [← hpre]; exact hx), by rw [hpre]; exact hn⟩
    rw [impl_IsDots.L0_eq, if_neg (by rw [hpre]; omega)]
    unfold isDots
    rw [dotsB_iff.2 hd, Bool.and_true]
    by_cases h1 : (p.length : Int) ≥ 1
    · rw [if_pos h1]
      congr 1
      rw [decide_eq_decide]
      omega
    · rw [if_neg h1, decide_eq_false (by omega)]
  | x :: suf, pre, e, hr, hn => by
    have hrd : rd p (pre.length : Int) = x := by rw [e, rd_mid]
    have hlen : pre.length < p.length := by rw [e]; simp
    have hw : wrap64 ((pre.length : Int) + 1) = ((pre ++ [x]).length : Int) := by rw [wrap_in (by omega) (by omega)]; simp
    have ht : p.take ((pre.length : Int)).toNat = pre := by rw [e, Int.toNat_natCast]; simp
    have bad : (x < 0 ∨ x ≥ (p.length : Int) ∨ x ∈ pre) → isDots p = false := fun h => by
      unfold isDots
      rw [dots_bad e h, Bool.and_false]
    rw [impl_IsDots.L0_eq, if_pos (by omega), if_pos (by omega), if_pos (by omega), hrd]
    by_cases h1 : x < 0
    · rw [if_pos h1, bad (.inl h1)]
    · rw [if_neg h1]
      by_cases h2 : x ≥ (p.length : Int)
      · rw [if_pos h2, bad (.inr (.inl h2))]
      · rw [if_neg h2, if_pos (by omega), ht, slices_Contains_int_int.F_val pre x (by omega)]
        simp only [Option.bind_some]
        by_cases h3 : x ∈ pre
        · rw [if_pos (decide_eq_true h3), bad (.inr (.inr h3))]
        · rw [if_neg (by rw [decide_eq_false h3]; decide), hw]
          exact impl_IsDots.L0_val p hp suf (pre ++ [x]) (by rw [e]; simp) (fun y hy => by
            rcases List.mem_append.1 hy with hy | hy
            · exact hr y hy
            · have : y = x := by simpa using hy
              omega) (nodup_snoc hn h3)
theorem impl_IsDots.F_val (p : List Int) (hp : p.length < 4611686018427387904) : impl_IsDots.F p = some (isDots p) := by
  rw [impl_IsDots.F_eq]
  exact impl_IsDots.L0_val p hp p [] (by simp) (by simp) List.nodup_nil
theorem spec_doGood.L0_val (p : List Int) (hp : p.length ≤ 1000) : ∀ (suf pre : List Int), p = pre ++ suf → (∀ x ∈ pre, 0 ≤ x ∧ x < (p.length : Int)) → pre.Nodup → spec_doGood.L0 p p (p.length : Int) (pre.length : Int) = some (dotsB p)
  | [], pre, e, hr, hn => by
    have hpre : p = pre := by rw [e]; simp
    have hd : Dots p := ⟨fun x hx => hr x (by rw [← hpre]; exact hx), by rw [hpre]; exact hn⟩
    rw [spec_doGood.L0_eq, if_neg (by rw [hpre]; omega), dotsB_iff.2 hd]
  | x :: suf, pre, e, hr, hn => by
    have hrd : rd p (pre.length : Int) = x := by rw [e, rd_mid]
    have hlen : pre.length < p.length := by rw [e]; simp
    have hw : wrap64 ((pre.length : Int) + 1) = ((pre ++ [x]).length : Int) := by rw [wrap_in (by omega) (by omega)]; simp
    have ht : p.take ((pre.length : Int)).toNat = pre := by rw [e, Int.toNat_natCast]; simp
    rw [spec_doGood.L0_eq, if_pos (by omega), if_pos (by omega), if_pos (by omega), hrd, wrap_in (n := (p.length : Int) - 1) (by omega) (by omega), spec_l1In.f_val]
    simp only [Option.bind_some]
    by_cases h1 : 0 ≤ x ∧ x ≤ (p.length : Int) - 1
    · rw [if_pos (by rw [decide_eq_true h1.1, decide_eq_true h1.2]; rfl), if_pos (by omega), ht, spec_l1Has.F_val pre x (by omega)]
      simp only [Option.bind_some]
      by_cases h3 : x ∈ pre
      · rw [if_pos (decide_eq_true h3), dots_bad e (.inr (.inr h3))]
      · rw [if_neg (by rw [decide_eq_false h3]; decide), hw]
        exact spec_doGood.L0_val p hp suf (pre ++ [x]) (by rw [e]; simp) (fun y hy => by
          rcases List.mem_append.1 hy with hy | hy
          · exact hr y hy
          · have : y = x := by simpa using hy
            omega) (nodup_snoc hn h3)
    · rw [if_neg (by rw [Bool.and_eq_true, decide_eq_true_eq, decide_eq_true_eq]; exact h1), dots_bad e (by omega)]
theorem spec_doGood.F_val (p : List Int) (hp : p.length < 4611686018427387904) : spec_doGood.F p = some (isDots p) := by
  rw [spec_doGood.F_eq, spec_l1In.f_val]
  simp only [Option.bind_some]
  unfold isDots
  by_cases h1 : 1 ≤ p.length ∧ p.length ≤ 12
  · rw [if_pos (by rw [decide_eq_true (show (1 : Int) ≤ p.length by omega), decide_eq_true (show (p.length : Int) ≤ 12 by omega)]; rfl), decide_eq_true h1, Bool.true_and]
    exact spec_doGood.L0_val p (by omega) p [] (by simp) (by simp) List.nodup_nil
  · rw [if_neg (by rw [Bool.and_eq_true, decide_eq_true_eq, decide_eq_true_eq]; omega), decide_eq_false h1, Bool.false_and]
theorem diffs_drop {p : List Int} {k i : Nat} (hk : k ≤ i) (hi : i < p.length) : (diffsOf p k).drop (i - k) = (rd p (i : Int) - rd p ((i - k : Nat) : Int)) :: (diffsOf p k).drop (i + 1 - k) := by
  have h1 : i - k < (diffsOf p k).length := by rw [diffsOf_length]; omega
  rw [List.drop_eq_getElem_cons h1, diffsOf_get, rd_nat p i hi, rd_nat p (i - k) (by omega), show i - k + 1 = i + 1 - k by omega]
  have : i - k + k = i := by omega
  simp only [this]
theorem wrap_succ (i : Nat) (h : i < 4611686018427387904) : wrap64 ((i : Int) + 1) = ((i + 1 : Nat) : Int) := by rw [wrap_in (by omega) (by omega)]; rfl
theorem wrap_minus {k i : Nat} (hk : k ≤ i) (h : i < 4611686018427387904) : wrap64 ((i : Int) - (k : Int)) = ((i - k : Nat) : Int) := by rw [wrap_in (by omega) (by omega)]; omega
theorem wrap_diff {x y : Int} (h1 : -1000 ≤ x ∧ x ≤ 1000) (h2 : -1000 ≤ y ∧ y ≤ 1000) : wrap64 (x - y) = x - y := wrap_in (by omega) (by omega)
theorem rd_bound {p : List Int} {a b : Int} (hv : ∀ x ∈ p, a ≤ x ∧ x ≤ b) {i : Nat} (hi : i < p.length) : a ≤ rd p (i : Int) ∧ rd p (i : Int) ≤ b := by
  rw [rd_nat p i hi]
  exact hv _ (List.getElem_mem hi)
theorem impl_differences.L0_val (p : List Int) (hp : p.length ≤ 1000) (hv : ∀ x ∈ p, -1000 ≤ x ∧ x ≤ 1000) (k : Nat) : ∀ (m i : Nat) (acc : List Int), i + m = p.length → k ≤ i → acc.length + m ≤ 10000 → impl_differences.L0 p (k : Int) acc (i : Int) = some (acc ++ (diffsOf p k).drop (i - k))
  | 0, i, acc, hm, hk, ha => by
    rw [impl_differences.L0_eq, if_neg (by omega), List.drop_of_length_le (by rw [diffsOf_length]; omega), List.append_nil]
  | m + 1, i, acc, hm, hk, ha => by
    have hi : i < p.length := by omega
    have hdd := diffs_drop hk hi
    have v1 := rd_bound hv hi
    have v2 := rd_bound hv (show i - k < p.length by omega)
    obtain ⟨x, hx⟩ : ∃ x, rd p (i : Int) = x := ⟨_, rfl⟩
    obtain ⟨y, hy⟩ : ∃ y, rd p ((i - k : Nat) : Int) = y := ⟨_, rfl⟩
    rw [hx] at v1 hdd
    rw [hy] at v2 hdd
    have ih := impl_differences.L0_val p hp hv k m (i + 1) (acc ++ [x - y]) (by omega) (by omega) (by simp; omega)
    have c1 : (i : Int) < (p.length : Int) := by omega
    have c3 : (0 : Int) ≤ ((i - k : Nat) : Int) := by omega
    have c4 : ((i - k : Nat) : Int) < (p.length : Int) := by omega
    have c5 : acc.length < 17592186044416 := by omega
    have h6 : i < 4611686018427387904 := by omega
    rw [impl_differences.L0_eq, if_pos c1, if_pos (Int.natCast_nonneg i), wrap_minus hk h6, if_pos c3, if_pos c4, if_pos c5, hx, hy, wrap_diff v1 v2, wrap_succ i h6, ih, hdd, List.append_assoc, List.singleton_append]
theorem impl_differences.F_val (p : List Int) (hp : p.length ≤ 1000) (hv : ∀ x ∈ p, -1000 ≤ x ∧ x ≤ 1000) (k : Nat) (hk : k ≤ p.length) : impl_differences.F p (k : Int) = some (diffsOf p k) := by
  rw [impl_differences.F_eq]
  have := impl_differences.L0_val p hp hv k (p.length - k) k [] (by omega) (by omega) (by simp; omega)
  rw [Nat.sub_self, List.drop_zero, List.nil_append] at this
  exact this
theorem spec_doDifferences.L0_val (p : List Int) (hp : p.length ≤ 1000) (hv : ∀ x ∈ p, -1000 ≤ x ∧ x ≤ 1000) (k : Nat) : ∀ (m i : Nat) (acc : List Int), i + m = p.length → k ≤ i → acc.length + m ≤ 10000 → spec_doDifferences.L0 p (k : Int) acc (i : Int) = some (acc ++ (diffsOf p k).drop (i - k))
  | 0, i, acc, hm, hk, ha => by
    rw [spec_doDifferences.L0_eq, if_neg (by omega), List.drop_of_length_le (by rw [diffsOf_length]; omega), List.append_nil]
  | m + 1, i, acc, hm, hk, ha => by
    have hi : i < p.length := by omega
    have hdd := diffs_drop hk hi
    have v1 := rd_bound hv hi
    have v2 := rd_bound hv (show i - k < p.length by omega)
    obtain ⟨x, hx⟩ : ∃ x, rd p (i : Int) = x := ⟨_, rfl⟩
    obtain ⟨y, hy⟩ : ∃ y, rd p ((i - k : Nat) : Int) = y := ⟨_, rfl⟩
    rw [hx] at v1 hdd
    rw [hy] at v2 hdd
    have ih := spec_doDifferences.L0_val p hp hv k m (i + 1) (acc ++ [x - y]) (by omega) (by omega) (by simp; omega)
    have c1 : (i : Int) < (p.length : Int) := by omega
    have c3 : (0 : Int) ≤ ((i - k : Nat) : Int) := by omega
    have c4 : ((i - k : Nat) : Int) < (p.length : Int) := by omega
    have c5 : acc.length < 17592186044416 := by omega
    have h6 : i < 4611686018427387904 := by omega
    rw [spec_doDifferences.L0_eq, if_pos c1, if_pos (Int.natCast_nonneg i), wrap_minus hk h6, if_pos c3, if_pos c4, if_pos c5, hx, hy, wrap_diff v1 v2, wrap_succ i h6, ih, hdd, List.append_assoc, List.singleton_append]
theorem spec_doDifferences.F_val (p : List Int) (hp : p.length ≤ 1000) (hv : ∀ x ∈ p, -1000 ≤ x ∧ x ≤ 1000) (k : Nat) (hk : k ≤ p.length) : spec_doDifferences.F p (k : Int) = some (diffsOf p k) := by
  rw [spec_doDifferences.F_eq]
  have := spec_doDifferences.L0_val p hp hv k (p.length - k) k [] (by omega) (by omega) (by simp; omega)
  rw [Nat.sub_self, List.drop_zero, List.nil_append] at this
  exact this
/-- The first place of a list whose number stands before it, too: that place of it, and it. -/
def repFrom (l : List Int) : Nat → Nat → Option (Int × Int)
  | 0, _ => none
  | m + 1, j => if 0 ≤ indexFrom (rd l (j : Int)) 0 (l.take j) then some (indexFrom (rd l (j : Int)) 0 (l.take j), (j : Int)) else repFrom l m (j + 1)
theorem repFrom_none {l : List Int} : ∀ (m j : Nat), j + m = l.length → (l.take j).Nodup → (repFrom l m j = none ↔ l.Nodup)
  | 0, j, hm, hn => by
    have hn2 : l.Nodup := by rw [List.take_of_length_le (by omega)] at hn; exact hn
    exact ⟨fun _ => hn2, fun _ => rfl⟩
  | m + 1, j, hm, hn => by
    have hj : j < l.length := by omega
    unfold repFrom
    rw [rd_nat l j hj]
    have hiff := indexFrom_mem l[j] (l.take j) 0
    by_cases h : 0 ≤ indexFrom l[j] 0 (l.take j)
    · rw [if_pos h]
      refine ⟨fun e => absurd e (by simp), fun hl => ?_⟩
      have hmem := hiff.1 h
      obtain ⟨i, hi, e⟩ := List.mem_iff_getElem.1 hmem
      rw [List.length_take] at hi
      rw [List.getElem_take] at e
      exact absurd (nodup_get_inj hl (by omega) hj e) (by omega)
    · rw [if_neg h]
      refine repFrom_none m (j + 1) (by omega) ?_
      rw [List.take_succ_eq_append_getElem hj]
      exact nodup_snoc hn (fun hx => h (hiff.2 hx))
/-- The first differences that stand twice. -/
def repAll (p : List Int) : Nat → Nat → Int × Int × Int × Bool
  | 0, _ => (0, 0, 0, false)
  | m + 1, k => match repFrom (diffsOf p k) (diffsOf p k).length 0 with
    | some (i, j) => ((k : Int), i, j, true)
    | none => repAll p m (k + 1)
theorem repAll_flag (p : List Int) : ∀ (m k : Nat), (repAll p m k).2.2.2 = !((List.range' k m).all fun k => decide (diffsOf p k).Nodup)
  | 0, k => by simp [repAll]
  | m + 1, k => by
    have ih := repAll_flag p m (k + 1)
    have hn := repFrom_none (l := diffsOf p k) (diffsOf p k).length 0 (by omega) (by simp)
    rw [List.range'_succ, List.all_cons]
    unfold repAll
    cases h : repFrom (diffsOf p k) (diffsOf p k).length 0 with
    | none => rw [decide_eq_true (hn.1 h), Bool.true_and]; exact ih
    | some q =>
      have : ¬ (diffsOf p k).Nodup := fun hd => by rw [hn.2 hd] at h; cases h
      rw [decide_eq_false this]
      rfl
def repeatOf (p : List Int) : Int × Int × Int × Bool := repAll p (p.length - 1) 1
theorem repeatOf_flag (p : List Int) : (!(repeatOf p).2.2.2) = costB p := by
  unfold repeatOf costB
  rw [repAll_flag, Bool.not_not]
theorem impl_repeat.L1_val (p : List Int) (k : Int) (l : List Int) (hl : l.length ≤ 1000) : ∀ (m j : Nat), j + m = l.length → impl_repeat.L1 p k l (l.length : Int) (j : Int) = match repFrom l m j with | some (i, j) => some (k, i, j, true) | none => impl_repeat.L0 p (wrap64 (k + 1))
  | 0, j, hm => by
    rw [impl_repeat.L1_eq, if_neg (by omega)]
    rfl
  | m + 1, j, hm => by
    have hw : wrap64 ((j : Int) + 1) = ((j + 1 : Nat) : Int) := by rw [wrap_in (by omega) (by omega)]; rfl
    rw [impl_repeat.L1_eq, if_pos (by omega), if_pos (by omega), if_pos (by omega), if_pos (by omega), Int.toNat_natCast, slices_Index_int_int.F_val _ _ (by rw [List.length_take]; omega), hw]
    simp only [Option.bind_some]
    unfold repFrom
    by_cases h : 0 ≤ indexFrom (rd l (j : Int)) 0 (l.take j)
    · rw [if_pos h, if_pos h]
    · rw [if_neg h, if_neg h]
      exact impl_repeat.L1_val p k l hl m (j + 1) (by omega)
theorem impl_repeat.L0_val (p : List Int) (hp : p.length ≤ 1000) (hv : ∀ x ∈ p, -1000 ≤ x ∧ x ≤ 1000) : ∀ (m k : Nat), (k + m = p.length ∨ m = 0 ∧ p.length ≤ k ∧ k ≤ 1000) → impl_repeat.L0 p (k : Int) = some (repAll p m k)
  | 0, k, hm => by
    rw [impl_repeat.L0_eq, if_neg (by omega)]
    rfl
  | m + 1, k, hm => by
    have hw : wrap64 ((k : Int) + 1) = ((k + 1 : Nat) : Int) := by rw [wrap_in (by omega) (by omega)]; rfl
    have hdl := diffsOf_length p k
    rw [impl_repeat.L0_eq, if_pos (by omega), impl_differences.F_val p hp hv k (by omega)]
    simp only [Option.bind_some]
    have hL := impl_repeat.L1_val p (k : Int) (diffsOf p k) (by omega) (diffsOf p k).length 0 (by omega)
    refine hL.trans ?_
    unfold repAll
    cases h : repFrom (diffsOf p k) (diffsOf p k).length 0 with
    | none =>
      simp only [hw]
      exact impl_repeat.L0_val p hp hv m (k + 1) (by omega)
    | some q => rfl
theorem impl_repeat.F_val (p : List Int) (hp : p.length ≤ 999) (hv : ∀ x ∈ p, -1000 ≤ x ∧ x ≤ 1000) : impl_repeat.F p = some (repeatOf p) := by
  rw [impl_repeat.F_eq]
  exact impl_repeat.L0_val p (by omega) hv (p.length - 1) 1 (by omega)
theorem impl_costas.F_val (p : List Int) (hp : p.length ≤ 999) (hv : ∀ x ∈ p, -1000 ≤ x ∧ x ≤ 1000) : impl_costas.F p = some (costB p) := by
  rw [impl_costas.F_eq, impl_repeat.F_val p hp hv]
  simp only [Option.bind_some]
  rw [repeatOf_flag]
theorem spec_doRepeat.L2_val (p : List Int) (k : Int) (l : List Int) (j : Nat) (y : Int) (hj : j < 100000) (t : List Int) (ht : t.length ≤ 1000) : ∀ (suf pre : List Int), t = pre ++ suf → spec_doRepeat.L2 p k l (j : Int) y l (l.length : Int) (j : Int) t (t.length : Int) (pre.length : Int) = if 0 ≤ indexFrom y pre.length suf then some (k, indexFrom y pre.length suf, (j : Int), true) else spec_doRepeat.L1 p k l l (l.length : Int) ((j + 1 : Nat) : Int)
  | [], pre, e => by
    have hw : wrap64 ((j : Int) + 1) = ((j + 1 : Nat) : Int) := by rw [wrap_in (by omega) (by omega)]; rfl
    rw [spec_doRepeat.L2_eq, if_neg (by rw [e]; simp), hw]
    rfl
  | x :: suf, pre, e => by
    have hrd : rd t (pre.length : Int) = x := by rw [e, rd_mid]
    have hlen : pre.length < t.length := by rw [e]; simp
    have hw : wrap64 ((pre.length : Int) + 1) = ((pre ++ [x]).length : Int) := by rw [wrap_in (by omega) (by omega)]; simp
    have hl2 : (pre ++ [x]).length = pre.length + 1 := by simp
    have ih := spec_doRepeat.L2_val p k l j y hj t ht suf (pre ++ [x]) (by rw [e]; simp)
    rw [spec_doRepeat.L2_eq, if_pos (by omega), if_pos (by omega), if_pos (by omega), hrd, hw, ih, hl2]
    have e3 : indexFrom y pre.length (x :: suf) = if y = x then (pre.length : Int) else indexFrom y (pre.length + 1) suf := rfl
    rw [e3]
    by_cases h : x = y
    · rw [if_pos h, if_pos (show y = x from h.symm), if_pos (by omega)]
    · rw [if_neg h, if_neg (show ¬ (y = x) from fun e => h e.symm)]
theorem spec_doRepeat.L1_val (p : List Int) (k : Int) (l : List Int) (hl : l.length ≤ 1000) : ∀ (m j : Nat), j + m = l.length → spec_doRepeat.L1 p k l l (l.length : Int) (j : Int) = match repFrom l m j with | some (i, j) => some (k, i, j, true) | none => spec_doRepeat.L0 p (wrap64 (k + 1))
  | 0, j, hm => by
    rw [spec_doRepeat.L1_eq, if_neg (by omega)]
    rfl
  | m + 1, j, hm => by
    have hL := spec_doRepeat.L2_val p k l j (rd l (j : Int)) (by omega) (l.take j) (by rw [List.length_take]; omega) (l.take j) [] (by simp)
    rw [spec_doRepeat.L1_eq, if_pos (by omega), if_pos (by omega), if_pos (by omega), if_pos (by omega), Int.toNat_natCast]
    simp only [Option.bind_some]
    refine hL.trans ?_
    unfold repFrom
    rw [List.length_nil]
    by_cases h : 0 ≤ indexFrom (rd l (j : Int)) 0 (l.take j)
    · rw [if_pos h, if_pos h]
    · rw [if_neg h, if_neg h]
      exact spec_doRepeat.L1_val p k l hl m (j + 1) (by omega)
theorem spec_doRepeat.L0_val (p : List Int) (hp : p.length ≤ 1000) (hv : ∀ x ∈ p, -1000 ≤ x ∧ x ≤ 1000) : ∀ (m k : Nat), (k + m = p.length ∨ m = 0 ∧ p.length ≤ k ∧ k ≤ 1000) → spec_doRepeat.L0 p (k : Int) = some (repAll p m k)
  | 0, k, hm => by
    rw [spec_doRepeat.L0_eq, if_neg (by omega)]
    rfl
  | m + 1, k, hm => by
    have hw : wrap64 ((k : Int) + 1) = ((k + 1 : Nat) : Int) := by rw [wrap_in (by omega) (by omega)]; rfl
    have hdl := diffsOf_length p k
    rw [spec_doRepeat.L0_eq, if_pos (by omega), spec_doDifferences.F_val p hp hv k (by omega)]
    simp only [Option.bind_some]
    have hL := spec_doRepeat.L1_val p (k : Int) (diffsOf p k) (by omega) (diffsOf p k).length 0 (by omega)
    refine hL.trans ?_
    unfold repAll
    cases h : repFrom (diffsOf p k) (diffsOf p k).length 0 with
    | none =>
      simp only [hw]
      exact spec_doRepeat.L0_val p hp hv m (k + 1) (by omega)
    | some q => rfl
theorem spec_doRepeat.F_val (p : List Int) (hp : p.length ≤ 999) (hv : ∀ x ∈ p, -1000 ≤ x ∧ x ≤ 1000) : spec_doRepeat.F p = some (repeatOf p) := by
  rw [spec_doRepeat.F_eq]
  exact spec_doRepeat.L0_val p (by omega) hv (p.length - 1) 1 (by omega)
theorem spec_doCostas.F_val (p : List Int) (hp : p.length ≤ 999) (hv : ∀ x ∈ p, -1000 ≤ x ∧ x ≤ 1000) : spec_doCostas.F p = some (costB p) := by
  rw [spec_doCostas.F_eq, spec_doRepeat.F_val p hp hv]
  simp only [Option.bind_some]
  rw [repeatOf_flag]
theorem rd_set_nat (l : List Int) (a : Nat) (v : Int) (j : Nat) (hj : j < l.length) : rd (l.set a v) (j : Int) = if a = j then v else rd l (j : Int) := by
  rw [rd_nat _ j (by simpa using hj), List.getElem_set]
  split
  · rfl
  · rw [rd_nat l j hj]
theorem wrap_turn {n i : Nat} (hi : i < n) (hn : n ≤ 1000) : wrap64 (wrap64 ((n : Int) - 1) - (i : Int)) = (n : Int) - 1 - (i : Int) := by
  rw [wrap_in (n := (n : Int) - 1) (by omega) (by omega), wrap_in (by omega) (by omega)]
theorem Dots.nat {p : List Int} (h : Dots p) {i : Nat} (hi : i < p.length) : ∃ x : Nat, x < p.length ∧ rd p (i : Int) = (x : Int) := by
  have hx := h.rng _ (List.getElem_mem hi)
  refine ⟨(p[i]).toNat, by omega, ?_⟩
  rw [rd_nat p i hi]
  omega
theorem Dots.rd_inj {p : List Int} (h : Dots p) {i j : Nat} (hi : i < p.length) (hj : j < p.length) (e : rd p (i : Int) = rd p (j : Int)) : i = j := by
  rw [rd_nat p i hi, rd_nat p j hj] at e
  exact nodup_get_inj h.nod hi hj e
/-- What is told of each dot's row is told of each row. -/
theorem of_puts {p q : List Int} (h : Dots p) (hl : q.length = p.length) (f : Nat → Int) (hq : ∀ j : Nat, j < p.length → rd q (rd p (j : Int)) = f j) : q = (List.range p.length).map fun y : Nat => f (p.idxOf (y : Int)) := by
  refine List.ext_getElem (by simp [hl]) fun y h1 h2 => ?_
  have hy : y < p.length := by omega
  have e := hq _ (h.idx_lt hy)
  rw [rd_nat p _ (h.idx_lt hy), h.get_idx hy, rd_nat q y h1] at e
  rw [e]
  simp
/-- One dot more is told. -/
theorem put_more {p out : List Int} (h : Dots p) (ho : out.length = p.length) (f : Nat → Int) {i x : Nat} (hi : i < p.length) (hx : rd p (i : Int) = (x : Int)) (hg : ∀ j : Nat, j < i → rd out (rd p (j : Int)) = f j) : ∀ j : Nat, j < i + 1 → rd (out.set x (f i)) (rd p (j : Int)) = f j := by
  intro j hj
  obtain ⟨y, hy, hye⟩ := h.nat (show j < p.length by omega)
  rw [hye, rd_set_nat out x _ y (by omega)]
  by_cases e : x = y
  · subst e
    rw [if_pos rfl, h.rd_inj (by omega) hi (hye.trans hx.symm)]
  · rw [if_neg e]
    have hne : j ≠ i := fun e2 => e (by subst e2; rw [hx] at hye; omega)
    have := hg j (by omega)
    rw [hye] at this
    exact this
/-- The flags that go with dots. -/
def onDots (p : List Int) (f : List Int → List Int) : List Int × Bool := if isDots p = true then (f p, true) else ([], false)
theorem onDots_pos {p : List Int} (h : isDots p = true) (f : List Int → List Int) : onDots p f = (f p, true) := if_pos h
theorem onDots_neg {p : List Int} (h : ¬ isDots p = true) (f : List Int → List Int) : onDots p f = ([], false) := if_neg h
theorem impl_turned.L0_val (p : List Int) (hd : Dots p) (hp : p.length ≤ 1000) : ∀ (m i : Nat) (out : List Int), i + m = p.length → out.length = p.length → (∀ j : Nat, j < i → rd out (rd p (j : Int)) = (p.length : Int) - 1 - (j : Int)) → ∃ q, impl_turned.L0 p out p (p.length : Int) (i : Int) = some q ∧ q.length = p.length ∧ ∀ j : Nat, j < p.length → rd q (rd p (j : Int)) = (p.length : Int) - 1 - (j : Int)
  | 0, i, out, hm, ho, hg => ⟨out, by rw [impl_turned.L0_eq, if_neg (by omega)], ho, fun j hj => hg j (by omega)⟩
  | m + 1, i, out, hm, ho, hg => by
    have hi : i < p.length := by omega
    obtain ⟨x, hx, hxe⟩ := hd.nat hi
    have c1 : (i : Int) < (p.length : Int) := by omega
    have c2 : (x : Int) < (out.length : Int) := by omega
    have ih := impl_turned.L0_val p hd hp m (i + 1) (out.set x ((p.length : Int) - 1 - (i : Int))) (by omega) (by rw [List.length_set]; exact ho) (put_more hd ho (fun j => (p.length : Int) - 1 - (j : Int)) hi hxe hg)
    rw [impl_turned.L0_eq, if_pos c1, if_pos (Int.natCast_nonneg i), if_pos c1, hxe, if_pos (Int.natCast_nonneg x), if_pos c2, Int.toNat_natCast, wrap_turn hi hp, wrap_succ i (by omega)]
    exact ih
theorem impl_turned.F_val (p : List Int) (hd : Dots p) (hp : p.length ≤ 1000) : impl_turned.F p = some (turnOf p) := by
  rw [impl_turned.F_eq, if_pos (by omega), if_pos (by rw [Int.toNat_natCast]; omega), Int.toNat_natCast]
  obtain ⟨q, e, hl, hq⟩ := impl_turned.L0_val p hd hp p.length 0 (List.replicate p.length 0) (by omega) (by simp) (fun j hj => absurd hj (by omega))
  rw [of_puts hd hl _ hq] at e
  exact e
theorem spec_doTurn.L0_val (p : List Int) (hd : Dots p) (hp : p.length ≤ 1000) : ∀ (m i : Nat) (out : List Int), i + m = p.length → out.length = p.length → (∀ j : Nat, j < i → rd out (rd p (j : Int)) = (p.length : Int) - 1 - (j : Int)) → ∃ q, spec_doTurn.L0 p out p (p.length : Int) (i : Int) = some q ∧ q.length = p.length ∧ ∀ j : Nat, j < p.length → rd q (rd p (j : Int)) = (p.length : Int) - 1 - (j : Int)
  | 0, i, out, hm, ho, hg => ⟨out, by rw [spec_doTurn.L0_eq, if_neg (by omega)], ho, fun j hj => hg j (by omega)⟩
  | m + 1, i, out, hm, ho, hg => by
    have hi : i < p.length := by omega
    obtain ⟨x, hx, hxe⟩ := hd.nat hi
    have c1 : (i : Int) < (p.length : Int) := by omega
    have c2 : (x : Int) < (out.length : Int) := by omega
    have ih := spec_doTurn.L0_val p hd hp m (i + 1) (out.set x ((p.length : Int) - 1 - (i : Int))) (by omega) (by rw [List.length_set]; exact ho) (put_more hd ho (fun j => (p.length : Int) - 1 - (j : Int)) hi hxe hg)
    rw [spec_doTurn.L0_eq, if_pos c1, if_pos (Int.natCast_nonneg i), if_pos c1, hxe, if_pos (Int.natCast_nonneg x), if_pos c2, Int.toNat_natCast, wrap_turn hi hp, wrap_succ i (by omega)]
    exact ih
theorem spec_doTurn.F_val (p : List Int) (hd : Dots p) (hp : p.length ≤ 1000) : spec_doTurn.F p = some (turnOf p) := by
  rw [spec_doTurn.F_eq, if_pos (by omega), if_pos (by rw [Int.toNat_natCast]; omega), Int.toNat_natCast]
  obtain ⟨q, e, hl, hq⟩ := spec_doTurn.L0_val p hd hp p.length 0 (List.replicate p.length 0) (by omega) (by simp) (fun j hj => absurd hj (by omega))
  rw [of_puts hd hl _ hq] at e
  exact e
theorem impl_IsCostas.F_val (p : List Int) (hp : p.length < 4611686018427387904) : impl_IsCostas.F p = some (isDots p && costB p, isDots p) := by
  rw [impl_IsCostas.F_eq, impl_IsDots.F_val p hp]
  simp only [Option.bind_some]
  by_cases h : isDots p = true
  · obtain ⟨hl, hd⟩ := isDots_parts h
    rw [if_pos h, h, impl_costas.F_val p (by omega) (fun x hx => by have := hd.rng x hx; omega)]
    rfl
  · rw [if_neg h, Bool.eq_false_iff.2 h]
    rfl
theorem spec_IsCostas.F_val (p : List Int) (hp : p.length < 4611686018427387904) : spec_IsCostas.F p = some (isDots p && costB p, isDots p) := by
  rw [spec_IsCostas.F_eq, spec_doGood.F_val p hp]
  simp only [Option.bind_some]
  by_cases h : isDots p = true
  · obtain ⟨hl, hd⟩ := isDots_parts h
    rw [if_pos h, h, spec_doCostas.F_val p (by omega) (fun x hx => by have := hd.rng x hx; omega)]
    rfl
  · rw [if_neg h, Bool.eq_false_iff.2 h]
    rfl
def cmpOf : List Int → List Int → Int
  | [], [] => 0
  | [], _ :: _ => -1
  | _ :: _, [] => 1
  | x :: a, y :: b => if x < y then -1 else if x > y then 1 else cmpOf a b
theorem cmpOf_less : ∀ a b : List Int, cmpOf a b < 0 ↔ lessOf a b = true
  | [], [] => by simp [cmpOf, lessOf]
  | [], _ :: _ => by simp [cmpOf, lessOf]
  | _ :: _, [] => by simp [cmpOf, lessOf]
  | x :: a, y :: b => by
    have ih := cmpOf_less a b
    unfold cmpOf lessOf
    by_cases h1 : x < y
    · rw [if_pos h1, if_neg (by omega), decide_eq_true_eq]
      exact ⟨fun _ => h1, fun _ => by omega⟩
    · rw [if_neg h1]
      by_cases h2 : x > y
      · rw [if_pos h2, if_neg (by omega), decide_eq_true_eq]
        exact ⟨fun h => by omega, fun h => absurd h h1⟩
      · rw [if_neg h2, if_pos (by omega)]
        exact ih
theorem cmp_Compare_int.f_val (x y : Int) : cmp_Compare_int.f x y = some (if x < y then -1 else if x > y then 1 else 0) := by
  unfold cmp_Compare_int.f cmp_isNaN_int.f
  simp only [Option.bind_some, bne_self_eq_false, Bool.false_eq_true, if_false]
  by_cases h1 : x < y
  · rw [if_pos h1, if_pos h1]
  · rw [if_neg h1, if_neg h1]
    by_cases h2 : x > y
    · rw [if_pos h2, if_pos h2]
    · rw [if_neg h2, if_neg h2]
theorem slices_Compare_int_int.L0_val (a b : List Int) (ha : a.length < 4611686018427387904) : ∀ (m i : Nat), i + m = a.length → slices_Compare_int_int.L0 a b a (a.length : Int) (i : Int) = some (cmpOf (a.drop i) (b.drop i))
  | 0, i, hm => by
    rw [slices_Compare_int_int.L0_eq, if_neg (by omega), List.drop_of_length_le (show a.length ≤ i by omega)]
    by_cases h : (a.length : Int) < (b.length : Int)
    · rw [if_pos h, List.drop_eq_getElem_cons (show i < b.length by omega)]
      rfl
    · rw [if_neg h, List.drop_of_length_le (show b.length ≤ i by omega)]
      rfl
  | m + 1, i, hm => by
    have hi : i < a.length := by omega
    have c1 : (i : Int) < (a.length : Int) := by omega
    have ih := slices_Compare_int_int.L0_val a b ha m (i + 1) (by omega)
    rw [slices_Compare_int_int.L0_eq, if_pos c1, if_pos (Int.natCast_nonneg i), if_pos c1, List.drop_eq_getElem_cons hi]
    by_cases h : (i : Int) ≥ (b.length : Int)
    · rw [if_pos h, List.drop_of_length_le (show b.length ≤ i by omega)]
      rfl
    · have hb : i < b.length := by omega
      have c2 : (i : Int) < (b.length : Int) := by omega
      rw [if_neg h, if_pos c2, cmp_Compare_int.f_val, rd_nat a i hi, rd_nat b i hb, wrap_up hi ha, ih, List.drop_eq_getElem_cons hb]
      simp only [Option.bind_some]
      have e3 : cmpOf (a[i] :: a.drop (i + 1)) (b[i] :: b.drop (i + 1)) = if a[i] < b[i] then -1 else if a[i] > b[i] then 1 else cmpOf (a.drop (i + 1)) (b.drop (i + 1)) := rfl
      rw [e3]
      by_cases h1 : a[i] < b[i]
      · rw [if_pos h1, if_pos h1, if_neg (by decide)]
      · rw [if_neg h1, if_neg h1]
        by_cases h2 : a[i] > b[i]
        · rw [if_pos h2, if_pos h2, if_neg (by decide)]
        · rw [if_neg h2, if_neg h2, if_pos rfl]
theorem slices_Compare_int_int.F_val (a b : List Int) (ha : a.length < 4611686018427387904) : slices_Compare_int_int.F a b = some (cmpOf a b) := by
  rw [slices_Compare_int_int.F_eq]
  exact slices_Compare_int_int.L0_val a b ha a.length 0 (by omega)
theorem leastOf_append : ∀ (xs ys : List (List Int)) (b : List Int), leastOf (leastOf b xs) ys = leastOf b (xs ++ ys)
  | [], _, _ => rfl
  | x :: xs, ys, b => leastOf_append xs ys _
/-- Quarter turns, each with its mirror image. -/
def turnsOf : Nat → List Int → List (List Int)
  | 0, _ => []
  | n + 1, p => turnOf p :: (turnOf p).reverse :: turnsOf n (turnOf p)
/-- Dots and their next quarter turns. -/
def seqOf : Nat → List Int → List (List Int)
  | 0, _ => []
  | n + 1, p => p :: seqOf n (turnOf p)
def leastD (p : List Int) : List Int := leastOf p (turnsOf 4 p)
theorem turn_back {p : List Int} (h : Dots p) : turnOf p.reverse = (turnOf (turnOf (turnOf p))).reverse := by
  have h2 : turnOf (turnOf p) = flipOf p.reverse := turn_two h
  rw [h2, turn_flip p.reverse, cross_back h, flipOf_two, turn_flip (flipOf p.reverse), cross_flip (back_dots h), cross_back h, ← flip_back, List.reverse_reverse, flipOf_two]
theorem eight_same {p : List Int} (h : Dots p) (x : List Int) : x ∈ p :: turnsOf 4 p ↔ x ∈ p :: (seqOf 4 p ++ seqOf 4 p.reverse) := by
  have h1 := turn_dots h
  have h2 := turn_dots h1
  have h3 := turn_dots h2
  have e4 := turn_four h
  have b1 : turnOf p.reverse = (turnOf (turnOf (turnOf p))).reverse := turn_back h
  have b2 : turnOf (turnOf p.reverse) = (turnOf (turnOf p)).reverse := by rw [b1, turn_back h3, turn_four h2]
  have b3 : turnOf (turnOf (turnOf p.reverse)) = (turnOf p).reverse := by rw [b2, turn_back h2, turn_four h1]
  have es : seqOf 4 p.reverse = [p.reverse, (turnOf (turnOf (turnOf p))).reverse, (turnOf (turnOf p)).reverse, (turnOf p).reverse] := by
    simp only [seqOf]
    rw [b3, b2, b1]
  rw [es]
  simp only [turnsOf, seqOf, e4, List.mem_cons, List.not_mem_nil, or_false, List.cons_append, List.nil_append]
  constructor
  · rintro (h | h | h | h | h | h | h | h | h) <;> simp only [h, eq_self_iff_true, true_or, or_true]
  · rintro (h | h | h | h | h | h | h | h | h) <;> simp only [h, eq_self_iff_true, true_or, or_true]
theorem leastD_eq {p : List Int} (h : Dots p) : leastOf p (seqOf 4 p ++ seqOf 4 p.reverse) = leastD p := leastOf_eq fun x => (eight_same h x).symm
theorem turnsOf_len : ∀ (n : Nat) (p : List Int), ∀ x ∈ turnsOf n p, x.length = p.length
  | 0, _, x, hx => by cases hx
  | n + 1, p, x, hx => by
    unfold turnsOf at hx
    rcases List.mem_cons.1 hx with rfl | hx
    · exact turnOf_length p
    · rcases List.mem_cons.1 hx with rfl | hx
      · rw [List.length_reverse, turnOf_length]
      · rw [turnsOf_len n (turnOf p) x hx, turnOf_length]
theorem leastD_len (p : List Int) : (leastD p).length = p.length := by
  rcases List.mem_cons.1 (leastOf_mem (turnsOf 4 p) p) with h | h
  · exact congrArg List.length h
  · exact turnsOf_len 4 p _ h
theorem impl_least.foldF_val : ∀ (qs : List (List Int)) (b : List Int), (∀ q ∈ qs, q.length < 4611686018427387904) → impl_least.foldF qs b = some (leastOf b qs)
  | [], b, _ => rfl
  | q :: qs, b, h => by
    unfold impl_least.foldF leastOf
    rw [slices_Compare_int_int.F_val q b (h q (by simp))]
    simp only [Option.bind_some]
    have e : (if cmpOf q b < 0 then q else b) = if lessOf q b = true then q else b := by
      by_cases hc : lessOf q b = true
      · rw [if_pos hc, if_pos ((cmpOf_less q b).2 hc)]
      · rw [if_neg hc, if_neg (fun hh => hc ((cmpOf_less q b).1 hh))]
    rw [e]
    exact impl_least.foldF_val qs _ (fun x hx => h x (by simp [hx]))
theorem impl_least.turnsF_val : ∀ (n : Nat) (b p : List Int), Dots p → p.length ≤ 1000 → impl_least.turnsF n b p = some (leastOf b (turnsOf n p))
  | 0, b, p, _, _ => rfl
  | n + 1, b, p, hd, hp => by
    unfold impl_least.turnsF
    have hl := turnOf_length p
    rw [impl_turned.F_val p hd hp]
    simp only [Option.bind_some]
    rw [impl_back.F_val _ (by omega)]
    simp only [Option.bind_some]
    rw [impl_least.foldF_val _ _ (fun q hq => by
      rcases List.mem_cons.1 hq with rfl | hq
      · omega
      · have : q = (turnOf p).reverse := by simpa using hq
        rw [this, List.length_reverse]
        omega)]
    simp only [Option.bind_some]
    rw [impl_least.turnsF_val n _ _ (turn_dots hd) (by omega), leastOf_append]
    rfl
theorem impl_least.F_val (p : List Int) (hd : Dots p) (hp : p.length ≤ 1000) : impl_least.F p = some (leastD p) := by
  unfold impl_least.F
  rw [slices_Clone_int_int.f_val p (by omega)]
  simp only [Option.bind_some]
  exact impl_least.turnsF_val 4 p p hd hp
theorem impl_LeastDots.F_val (p : List Int) (hp : p.length < 4611686018427387904) : impl_LeastDots.F p = some (onDots p leastD) := by
  rw [impl_LeastDots.F_eq, impl_IsDots.F_val p hp]
  simp only [Option.bind_some]
  by_cases h : isDots p = true
  · obtain ⟨hl, hd⟩ := isDots_parts h
    have hll := leastD_len p
    rw [if_pos h, onDots_pos h, impl_least.F_val p hd (by omega)]
    simp only [Option.bind_some]
    rw [slices_Clone_int_int.f_val _ (by omega)]
    rfl
  · rw [if_neg h, onDots_neg h]
theorem spec_trLess.L0_val (a b : List Int) (hl : a.length = b.length) (ha : a.length < 4611686018427387904) : ∀ (m i : Nat), i + m = a.length → spec_trLess.L0 a b (a.length : Int) (i : Int) = some (lessOf (a.drop i) (b.drop i))
  | 0, i, hm => by
    rw [spec_trLess.L0_eq, if_neg (by omega), List.drop_of_length_le (show a.length ≤ i by omega), List.drop_of_length_le (show b.length ≤ i by omega)]
    rfl
  | m + 1, i, hm => by
    have hi : i < a.length := by omega
    have hb : i < b.length := by omega
    have c1 : (i : Int) < (a.length : Int) := by omega
    have c2 : (i : Int) < (b.length : Int) := by omega
    have ih := spec_trLess.L0_val a b hl ha m (i + 1) (by omega)
    rw [spec_trLess.L0_eq, if_pos c1, if_pos (Int.natCast_nonneg i), if_pos c1, if_pos c2, rd_nat a i hi, rd_nat b i hb, wrap_up hi ha, ih, List.drop_eq_getElem_cons hi, List.drop_eq_getElem_cons hb]
    have e3 : lessOf (a[i] :: a.drop (i + 1)) (b[i] :: b.drop (i + 1)) = if a[i] = b[i] then lessOf (a.drop (i + 1)) (b.drop (i + 1)) else decide (a[i] < b[i]) := rfl
    rw [e3]
    split <;> rfl
theorem spec_trLess.F_val (a b : List Int) (hl : a.length = b.length) (ha : a.length < 4611686018427387904) : spec_trLess.F a b = some (lessOf a b) := by
  rw [spec_trLess.F_eq]
  exact spec_trLess.L0_val a b hl ha a.length 0 (by omega)
theorem spec_doLeast.L1_val (xs : List (List Int)) (j : Int) (n : Nat) (hn : n ≤ 1000) : ∀ (m i : Nat) (b q : List Int), i + m = 4 → Dots q → q.length = n → b.length = n → spec_doLeast.L1 b q (i : Int) xs (xs.length : Int) j = spec_doLeast.L0 (leastOf b (seqOf m q)) xs (xs.length : Int) (wrap64 (j + 1))
  | 0, i, b, q, hm, _, _, _ => by
    rw [spec_doLeast.L1_eq, if_neg (by omega)]
    rfl
  | m + 1, i, b, q, hm, hd, hq, hb => by
    have hl := turnOf_length q
    have hw : wrap64 ((i : Int) + 1) = ((i + 1 : Nat) : Int) := wrap_up (n := 4) (by omega) (by omega)
    have c1 : (i : Int) < 4 := by omega
    rw [spec_doLeast.L1_eq, if_pos c1, spec_trLess.F_val q b (by omega) (by omega), hw]
    simp only [Option.bind_some, seqOf, leastOf]
    by_cases h : lessOf q b = true
    · rw [if_pos h, if_pos h, spec_doTurn.F_val q hd (by omega)]
      exact spec_doLeast.L1_val xs j n hn m (i + 1) q (turnOf q) (by omega) (turn_dots hd) (by omega) hq
    · rw [if_neg h, if_neg h, spec_doTurn.F_val q hd (by omega)]
      exact spec_doLeast.L1_val xs j n hn m (i + 1) b (turnOf q) (by omega) (turn_dots hd) (by omega) hb
theorem seqOf_len : ∀ (n : Nat) (p : List Int), ∀ x ∈ seqOf n p, x.length = p.length
  | 0, _, x, hx => by cases hx
  | n + 1, p, x, hx => by
    unfold seqOf at hx
    rcases List.mem_cons.1 hx with rfl | hx
    · rfl
    · rw [seqOf_len n (turnOf p) x hx, turnOf_length]
theorem spec_doLeast.F_val (p : List Int) (hd : Dots p) (hp : p.length ≤ 1000) : spec_doLeast.F p = some (leastD p) := by
  rw [spec_doLeast.F_eq, spec_l1Own.f_val p (by omega)]
  simp only [Option.bind_some]
  rw [spec_roBack.F_val p (by omega)]
  simp only [Option.bind_some]
  have hlen : ∀ b ∈ p :: seqOf 4 p, b.length = p.length := fun b hb => by
    rcases List.mem_cons.1 hb with rfl | hb
    · rfl
    · exact seqOf_len 4 p b hb
  have r0 : rd_L2 [p, p.reverse] ((0 : Nat) : Int) = p := rfl
  have r1 : rd_L2 [p, p.reverse] ((1 : Nat) : Int) = p.reverse := rfl
  have h0 := spec_doLeast.L1_val [p, p.reverse] ((0 : Nat) : Int) p.length hp 4 0 p p (by omega) hd rfl rfl
  have h1 := spec_doLeast.L1_val [p, p.reverse] ((1 : Nat) : Int) p.length hp 4 0 (leastOf p (seqOf 4 p)) p.reverse (by omega) (back_dots hd) (by simp) (hlen _ (leastOf_mem _ _))
  have w0 : wrap64 (((0 : Nat) : Int) + 1) = ((1 : Nat) : Int) := wrap_up (n := 4) (by omega) (by omega)
  have w1 : wrap64 (((1 : Nat) : Int) + 1) = ((2 : Nat) : Int) := wrap_up (n := 4) (by omega) (by omega)
  have l2 : (([p, p.reverse] : List (List Int)).length : Int) = 2 := rfl
  rw [w0] at h0
  rw [w1, leastOf_append, leastD_eq hd] at h1
  have e0 : spec_doLeast.L0 p [p, p.reverse] (([p, p.reverse] : List (List Int)).length : Int) ((0 : Nat) : Int) = spec_doLeast.L1 p p ((0 : Nat) : Int) [p, p.reverse] (([p, p.reverse] : List (List Int)).length : Int) ((0 : Nat) : Int) := by
    rw [spec_doLeast.L0_eq, if_pos (by rw [l2]; decide), if_pos (by decide), if_pos (by rw [l2]; decide), r0]
    rfl
  have e1 : spec_doLeast.L0 (leastOf p (seqOf 4 p)) [p, p.reverse] (([p, p.reverse] : List (List Int)).length : Int) ((1 : Nat) : Int) = spec_doLeast.L1 (leastOf p (seqOf 4 p)) p.reverse ((0 : Nat) : Int) [p, p.reverse] (([p, p.reverse] : List (List Int)).length : Int) ((1 : Nat) : Int) := by
    rw [spec_doLeast.L0_eq, if_pos (by rw [l2]; decide), if_pos (by decide), if_pos (by rw [l2]; decide), r1]
    rfl
  refine e0.trans (h0.trans (e1.trans (h1.trans ?_)))
  rw [spec_doLeast.L0_eq, if_neg (by rw [l2]; decide), spec_l1Own.f_val _ (by rw [leastD_len]; omega)]
  rfl
theorem Lim.at_ {α : Type} {g : Nat → Option α} {a : Option α} {r : α} (h : Lim g a) (k : Nat) (hk : g k = some r) : a = some r := (h.comes r).2 ⟨k, hk⟩
theorem insAt_ok {out : List Int} {a k : Int} (h0 : 0 ≤ a) (h1 : a ≤ (out.length : Int)) (hl : out.length ≤ 1000) : ∃ r, insAt.f out a k = some r ∧ r.length = out.length + 1 := by
  refine ⟨_, if_pos ⟨h0, h1, by omega⟩, ?_⟩
  simp only [List.length_append, List.length_take, List.length_drop, List.length_cons, List.length_nil]
  omega
theorem spec_l1Cur_dotsUp.L0_ok {l : List Int} {n : Nat} (hn : n ≤ 1000) : ∀ (m x : Nat) (out : List Int) (M a s : Int), x + m = n → 1 ≤ x → out.length = x - 1 → DrawSt l M a → M + 2 * m ≤ 1000000 → ∃ r a' z, spec_l1Cur_dotsUp.L0 (n : Int) out (x : Int) l a s = some (r, a', z) ∧ r.length = n - 1 ∧ DrawSt l (M + 2 * m) a'
  | 0, x, out, M, a, s, hm, hx, ho, hs, hM => by
    rw [spec_l1Cur_dotsUp.L0_eq, if_neg (by omega)]
    exact ⟨out, a, s, rfl, by omega, hs.more (by omega)⟩
  | m + 1, x, out, M, a, s, hm, hx, ho, hs, hM => by
    obtain ⟨t, a1, z1, e1, t0, t1, hs1⟩ := spec_l1Cur_pick.ok s (x : Int) hs (by omega)
    obtain ⟨r, e2, hr⟩ := insAt_ok (out := out) (a := t) (k := (x : Int)) t0 (by omega) (by omega)
    obtain ⟨q, a', z, e3, hq, hs3⟩ := spec_l1Cur_dotsUp.L0_ok hn m (x + 1) r (M + 2) a1 z1 (by omega) (by omega) (by omega) hs1 (by omega)
    have c1 : (x : Int) < (n : Int) := by omega
    rw [spec_l1Cur_dotsUp.L0_eq, if_pos c1, e1]
    simp only [Option.bind_some]
    rw [e2]
    simp only [Option.bind_some]
    rw [wrap_succ x (by omega)]
    exact ⟨q, a', z, e3, hq, hs3.more (by omega)⟩
theorem spec_l1Cur_dotsUp.ok {l : List Int} {n : Nat} (hn : n ≤ 1000) (h1 : 1 ≤ n) {M a : Int} (s : Int) (hs : DrawSt l M a) (hM : M ≤ 100000) : ∃ r a' z, spec_l1Cur_dotsUp.F l a s (n : Int) = some (r, a', z) ∧ r.length = n - 1 ∧ DrawSt l (M + 2000) a' := by
  obtain ⟨r, a', z, e, hr, hs'⟩ := spec_l1Cur_dotsUp.L0_ok hn (n - 1) 1 [] M a s (by omega) (by omega) rfl hs (by omega)
  exact ⟨r, a', z, by rw [spec_l1Cur_dotsUp.F_eq]; exact e, hr, hs'.more (by omega)⟩
def chkLen (o : Option (List Int × Bool)) : Bool := match o with
  | some b => decide (b.1.length ≤ 20)
  | none => false
theorem chkLen_some {o : Option (List Int × Bool)} (h : chkLen o = true) : ∃ u, o = some u ∧ u.1.length ≤ 20 := by
  cases o with
  | none => cases h
  | some u => exact ⟨u, rfl, of_decide_eq_true h⟩
theorem powersS_checked : (([3, 5, 7, 11] : List Int).all fun q => chkLen (spec_PowersDots.f 200 q 2)) = true := by decide +kernel
theorem logsS_checked : (([2, 3] : List Int).all fun x => ([2, 3] : List Int).all fun y => chkLen (spec_LogsDots.f 400 5 x y)) = true := by decide +kernel
theorem powersS_known {q : Int} (hq : q ∈ ([3, 5, 7, 11] : List Int)) : ∃ u, spec_PowersDots.F q 2 = some u ∧ u.1.length ≤ 20 := by
  obtain ⟨u, hu, hl⟩ := chkLen_some (List.all_eq_true.1 powersS_checked q hq)
  exact ⟨u, Lim.at_ (spec_PowersDots.F_lim q 2) 200 hu, hl⟩
theorem logsS_known {x y : Int} (hx : x ∈ ([2, 3] : List Int)) (hy : y ∈ ([2, 3] : List Int)) : ∃ u, spec_LogsDots.F 5 x y = some u ∧ u.1.length ≤ 20 := by
  obtain ⟨u, hu, hl⟩ := chkLen_some (List.all_eq_true.1 (List.all_eq_true.1 logsS_checked x hx) y hy)
  exact ⟨u, Lim.at_ (spec_LogsDots.F_lim 5 x y) 400 hu, hl⟩
theorem spec_l1Cur_dots.J2_ok {l : List Int} {n : Nat} (hn : n ≤ 100) (h1 : 1 ≤ n) (out : List Int) (ho : out.length = n) (x : Int) (f : Bool) {M a : Int} (s : Int) (hs : DrawSt l M a) (hM : M ≤ 10000) : ∃ r a' z, spec_l1Cur_dots.J2 (n : Int) out x f l a s = some (r, a', z) ∧ r.length ≤ 100 ∧ DrawSt l (M + 2000) a' := by
  rw [spec_l1Cur_dots.J2_eq]
  by_cases hf : f = true
  · obtain ⟨p, a1, z1, e1, p1, hs1⟩ := spec_l1Cur_among.ok s [2, 3] (by decide) hs (by omega)
    obtain ⟨q, a2, z2, e2, q1, hs2⟩ := spec_l1Cur_among.ok z1 [2, 3] (by decide) hs1 (by omega)
    obtain ⟨u, e3, hu⟩ := logsS_known p1 q1
    rw [if_pos hf, e1]
    simp only [Option.bind_some]
    rw [e2]
    simp only [Option.bind_some]
    rw [e3]
    simp only [Option.bind_some]
    by_cases h0 : (u.1.length : Int) = 0
    · rw [if_pos h0]
      exact ⟨_, _, _, rfl, by simp, hs2.more (by omega)⟩
    · rw [if_neg h0]
      exact ⟨_, _, _, rfl, by omega, hs2.more (by omega)⟩
  · rw [if_neg hf]
    by_cases h7 : x = 7
    · obtain ⟨r, a', z, e, hr, hs'⟩ := spec_l1Cur_dotsUp.ok (l := l) (n := n) (by omega) h1 s hs (by omega)
      rw [if_pos h7]
      simp only [Option.bind_some]
      rw [e]
      simp only [Option.bind_some]
      rw [if_pos (by rw [List.length_singleton]; omega)]
      exact ⟨_, _, _, rfl, by simp; omega, hs'⟩
    · rw [if_neg h7, if_neg (by omega)]
      exact ⟨_, _, _, rfl, by omega, hs.more (by omega)⟩
theorem spec_l1Cur_dots.J1_ok {l : List Int} {n : Nat} (hn : n ≤ 100) (h1 : 1 ≤ n) (out : List Int) (ho : out.length = n) (x : Int) (f : Bool) {M a : Int} (s : Int) (hs : DrawSt l M a) (hM : M ≤ 10000) : ∃ r a' z, spec_l1Cur_dots.J1 (n : Int) out x f l a s = some (r, a', z) ∧ r.length ≤ 100 ∧ DrawSt l (M + 2000) a' := by
  rw [spec_l1Cur_dots.J1_eq]
  by_cases hf : f = true
  · obtain ⟨p, a1, z1, e1, p1, hs1⟩ := spec_l1Cur_among.ok s [3, 5, 7, 11] (by decide) hs (by omega)
    obtain ⟨u, e3, hu⟩ := powersS_known p1
    rw [if_pos hf, e1]
    simp only [Option.bind_some]
    rw [e3]
    simp only [Option.bind_some]
    by_cases h0 : (u.1.length : Int) = 0
    · rw [if_pos h0]
      exact ⟨_, _, _, rfl, by simp, hs1.more (by omega)⟩
    · rw [if_neg h0]
      exact ⟨_, _, _, rfl, by omega, hs1.more (by omega)⟩
  · rw [if_neg hf]
    split
    · exact spec_l1Cur_dots.J2_ok hn h1 out ho x _ s hs hM
    · exact spec_l1Cur_dots.J2_ok hn h1 out ho x _ s hs hM
theorem spec_l1Cur_dots.L0_ok {l : List Int} {n : Nat} (hn : n ≤ 100) (h1 : 1 ≤ n) : ∀ (m x : Nat) (out : List Int) (M a s : Int), x + m = n → out.length = x → DrawSt l M a → M + 2 * m ≤ 9000 → ∃ r a' z, spec_l1Cur_dots.L0 (n : Int) out (x : Int) l a s = some (r, a', z) ∧ r.length ≤ 100 ∧ DrawSt l (M + 2 * m + 2100) a'
  | 0, x, out, M, a, s, hm, ho, hs, hM => by
    obtain ⟨p, a1, z1, e1, p0, p1, hs1⟩ := spec_l1Cur_pick.ok s 12 hs (by omega)
    rw [spec_l1Cur_dots.L0_eq, if_neg (by omega), e1]
    simp only [Option.bind_some]
    by_cases h0 : p = 0
    · obtain ⟨i, a2, z2, e2, i0, i1, hs2⟩ := spec_l1Cur_pick.ok z1 (n : Int) hs1 (by omega)
      obtain ⟨v, a3, z3, e3, _, hs3⟩ := spec_l1Cur_among.ok z2 [-1, (n : Int), 0, 4611686018427387904] (by simp) hs2 (by omega)
      rw [if_pos h0, e2]
      simp only [Option.bind_some]
      rw [e3]
      simp only [Option.bind_some]
      rw [if_pos i0, if_pos (by omega), if_neg (by omega)]
      exact ⟨_, _, _, rfl, by rw [List.length_set]; omega, hs3.more (by omega)⟩
    · rw [if_neg h0]
      by_cases h2 : p = 1
      · rw [if_pos h2]
        exact ⟨_, _, _, rfl, by simp, hs1.more (by omega)⟩
      · rw [if_neg h2]
        have hJ : ∀ f : Bool, ∃ r a' z, spec_l1Cur_dots.J1 (n : Int) out p f l a1 z1 = some (r, a', z) ∧ r.length ≤ 100 ∧ DrawSt l (M + 2 * ((0 : Nat) : Int) + 2100) a' := fun f => by
          obtain ⟨r, a', z, e, hr, hs'⟩ := spec_l1Cur_dots.J1_ok hn h1 out (by omega) p f z1 hs1 (by omega)
          exact ⟨r, a', z, e, hr, hs'.more (by omega)⟩
        split
        · exact hJ _
        · split
          · exact hJ _
          · exact hJ _
  | m + 1, x, out, M, a, s, hm, ho, hs, hM => by
    obtain ⟨t, a1, z1, e1, t0, t1, hs1⟩ := spec_l1Cur_pick.ok s ((x + 1 : Nat) : Int) hs (by omega)
    obtain ⟨r, e2, hr⟩ := insAt_ok (out := out) (a := t) (k := (x : Int)) t0 (by omega) (by omega)
    obtain ⟨q, a', z, e3, hq, hs3⟩ := spec_l1Cur_dots.L0_ok hn h1 m (x + 1) r (M + 2) a1 z1 (by omega) (by omega) hs1 (by omega)
    have c1 : (x : Int) < (n : Int) := by omega
    rw [spec_l1Cur_dots.L0_eq, if_pos c1, wrap_succ x (by omega), e1]
    simp only [Option.bind_some]
    rw [e2]
    simp only [Option.bind_some]
    exact ⟨q, a', z, e3, hq, hs3.more (by omega)⟩
theorem spec_l1Cur_dots.ok {l : List Int} {most : Int} (hm : 0 ≤ most ∧ most ≤ 50) {M a : Int} (s : Int) (hs : DrawSt l M a) (hM : M ≤ 1000) : ∃ r a' z, spec_l1Cur_dots.F l a s most = some (r, a', z) ∧ r.length ≤ 100 ∧ DrawSt l (M + 3000) a' := by
  obtain ⟨p, a1, z1, e1, p0, p1, hs1⟩ := spec_l1Cur_pick.ok s most hs (by omega)
  obtain ⟨r, a', z, e, hr, hs'⟩ := spec_l1Cur_dots.L0_ok (n := (1 + p).toNat) (by omega) (by omega) (1 + p).toNat 0 [] (M + 2) a1 z1 (by omega) rfl hs1 (by omega)
  have hw : wrap64 (1 + p) = (((1 + p).toNat : Nat) : Int) := by rw [wrap_in (by omega) (by omega)]; omega
  rw [spec_l1Cur_dots.F_eq, e1]
  simp only [Option.bind_some]
  rw [hw]
  exact ⟨r, a', z, e, hr, hs'.more (by omega)⟩
/-- How often a dot lies at a distance from another one. -/
def echoGo (p : List Int) (x y : Int) : Nat → Nat → Int → Int
  | 0, _, n => n
  | m + 1, i, n => echoGo p x y m (i + 1) (if 0 ≤ (i : Int) + x ∧ (i : Int) + x < (p.length : Int) ∧ rd p ((i : Int) + x) = rd p (i : Int) + y then n + 1 else n)
theorem echoGo_succ (p : List Int) (x y : Int) (m i : Nat) (n : Int) : echoGo p x y (m + 1) i n = echoGo p x y m (i + 1) (if 0 ≤ (i : Int) + x ∧ (i : Int) + x < (p.length : Int) ∧ rd p ((i : Int) + x) = rd p (i : Int) + y then n + 1 else n) := rfl
def echoOf (p : List Int) (x y : Int) : Int := echoGo p x y p.length 0 0
def echoF (p : List Int) (x y : Int) : Int × Bool := if isDots p = true ∧ (-12 ≤ x ∧ x ≤ 12) ∧ (-12 ≤ y ∧ y ≤ 12) ∧ ¬ (x = 0 ∧ y = 0) then (echoOf p x y, true) else (0, false)
theorem wrap_small {z : Int} (h : -100000 ≤ z ∧ z ≤ 100000) : wrap64 z = z := wrap_in (by omega) (by omega)
/-- Ahead: the differences from here on. -/
theorem echo_ahead {p : List Int} {k : Nat} (y : Int) : ∀ (m i : Nat) (n : Int), i + m = p.length → echoGo p (k : Int) y m i n = n + (times y ((diffsOf p k).drop i) : Nat)
  | 0, i, n, hm => by
    rw [List.drop_of_length_le (by rw [diffsOf_length]; omega)]
    simp [echoGo, times]
  | m + 1, i, n, hm => by
    have ih := fun n => echo_ahead (p := p) (k := k) y m (i + 1) n (by omega)
    rw [echoGo_succ]
    by_cases h : i + k < p.length
    · have hd := diffs_drop (p := p) (k := k) (i := i + k) (by omega) h
      rw [show i + k - k = i by omega, show i + k + 1 - k = i + 1 by omega] at hd
      have e : (i : Int) + (k : Int) = ((i + k : Nat) : Int) := by omega
      rw [hd, ih, e]
      simp only [times]
      by_cases h2 : rd p ((i + k : Nat) : Int) = rd p (i : Int) + y
      · rw [if_pos ⟨by omega, by omega, h2⟩, if_pos (by omega)]
        omega
      · rw [if_neg (fun hh => h2 hh.2.2), if_neg (by omega)]
        omega
    · rw [if_neg (fun hh => by omega), ih, List.drop_of_length_le (by rw [diffsOf_length]; omega), List.drop_of_length_le (by rw [diffsOf_length]; omega)]
/-- Back: the same differences. -/
theorem echo_back {p : List Int} {k : Nat} (y : Int) : ∀ (m i : Nat) (n : Int), i + m = p.length → echoGo p (-(k : Int)) (-y) m i n = n + (times y ((diffsOf p k).drop (i - k)) : Nat)
  | 0, i, n, hm => by
    rw [List.drop_of_length_le (by rw [diffsOf_length]; omega)]
    simp [echoGo, times]
  | m + 1, i, n, hm => by
    have ih := fun n => echo_back (p := p) (k := k) y m (i + 1) n (by omega)
    rw [echoGo_succ]
    by_cases h : k ≤ i
    · have hd := diffs_drop (p := p) (k := k) (i := i) h (by omega)
      have e : (i : Int) + -(k : Int) = ((i - k : Nat) : Int) := by omega
      rw [hd, ih, e]
      simp only [times]
      by_cases h2 : rd p ((i - k : Nat) : Int) = rd p (i : Int) + -y
      · rw [if_pos ⟨by omega, by omega, h2⟩, if_pos (by omega)]
        omega
      · rw [if_neg (fun hh => h2 hh.2.2), if_neg (by omega)]
        omega
    · rw [if_neg (fun hh => by omega), ih, show i - k = 0 by omega, show i + 1 - k = 0 by omega]
theorem echo_times {p : List Int} {k : Nat} (y : Int) : echoOf p (k : Int) y = (times y (diffsOf p k) : Nat) ∧ echoOf p (-(k : Int)) (-y) = (times y (diffsOf p k) : Nat) := by
  have h1 := echo_ahead (p := p) (k := k) y p.length 0 0 (by omega)
  have h2 := echo_back (p := p) (k := k) y p.length 0 0 (by omega)
  rw [List.drop_zero] at h1
  rw [Nat.zero_sub, List.drop_zero] at h2
  unfold echoOf
  omega
theorem impl_EchoAt.L0_val (p : List Int) (hp : p.length ≤ 1000) (hv : ∀ x ∈ p, 0 ≤ x ∧ x ≤ 1000) (x y : Int) (hx : -1000 ≤ x ∧ x ≤ 1000) (hy : -1000 ≤ y ∧ y ≤ 1000) : ∀ (m i : Nat) (n : Int), i + m = p.length → 0 ≤ n ∧ n ≤ i → impl_EchoAt.L0 p x y n p (p.length : Int) (i : Int) = some (echoGo p x y m i n, true)
  | 0, i, n, hm, hn => by
    rw [impl_EchoAt.L0_eq, if_neg (by omega)]
    rfl
  | m + 1, i, n, hm, hn => by
    have hi : i < p.length := by omega
    have c1 : (i : Int) < (p.length : Int) := by omega
    have hb := rd_bound hv hi
    have ih1 := impl_EchoAt.L0_val p hp hv x y hx hy m (i + 1) (n + 1) (by omega) (by omega)
    have ih0 := impl_EchoAt.L0_val p hp hv x y hx hy m (i + 1) n (by omega) (by omega)
    have w1 : wrap64 ((i : Int) + x) = (i : Int) + x := wrap_small (by omega)
    have w2 : wrap64 (rd p (i : Int) + y) = rd p (i : Int) + y := wrap_small (by omega)
    have w3 : wrap64 (n + 1) = n + 1 := wrap_small (by omega)
    rw [impl_EchoAt.L0_eq, if_pos c1, if_pos (Int.natCast_nonneg i), if_pos c1, w1, w2, w3, wrap_up hi (by omega), ih1, ih0]
    clear w1 w2 w3 ih1 ih0
    rw [echoGo_succ]
    by_cases h1 : (i : Int) + x ≥ 0
    · rw [if_pos h1]
      by_cases h2 : (i : Int) + x < (p.length : Int)
      · rw [if_pos h2, if_pos h1]
        by_cases h3 : rd p ((i : Int) + x) = rd p (i : Int) + y
        · rw [if_pos h3, if_pos ⟨h1, h2, h3⟩]
        · rw [if_neg h3, if_neg (fun hh => h3 hh.2.2)]
      · rw [if_neg h2, if_neg (fun hh => h2 hh.2.1)]
    · rw [if_neg h1, if_neg (fun hh => h1 hh.1)]
theorem impl_EchoAt.F_val (p : List Int) (hp : p.length < 4611686018427387904) (x y : Int) : impl_EchoAt.F p x y = some (echoF p x y) := by
  rw [impl_EchoAt.F_eq, impl_IsDots.F_val p hp]
  simp only [Option.bind_some]
  have hbad : impl_EchoAt.J0 p x y true = some (0, false) := by rw [impl_EchoAt.J0_eq, if_pos rfl]
  unfold echoF
  by_cases h : isDots p = true
  · obtain ⟨hl, hd⟩ := isDots_parts h
    rw [if_pos h, hbad]
    by_cases a1 : x < -12
    · rw [if_pos a1, if_neg (fun hh => by omega)]
    · rw [if_neg a1]
      by_cases a2 : x > 12
      · rw [if_pos a2, if_neg (fun hh => by omega)]
      · rw [if_neg a2]
        by_cases a3 : y < -12
        · rw [if_pos a3, if_neg (fun hh => by omega)]
        · rw [if_neg a3]
          by_cases a4 : y > 12
          · rw [if_pos a4, if_neg (fun hh => by omega)]
          · have hgood : impl_EchoAt.J0 p x y false = some (echoOf p x y, true) := by
              rw [impl_EchoAt.J0_eq, if_neg (by decide)]
              exact impl_EchoAt.L0_val p (by omega) (fun z hz => by have := hd.rng z hz; omega) x y (by omega) (by omega) p.length 0 0 (by omega) (by omega)
            rw [if_neg a4]
            by_cases a5 : x = 0
            · rw [if_pos a5]
              by_cases a6 : y = 0
              · rw [a6] at hbad ⊢
                rw [beq_self_eq_true, hbad, if_neg (fun hh => hh.2.2.2 ⟨a5, rfl⟩)]
              · rw [beq_eq_false_iff_ne.2 a6, hgood, if_pos ⟨h, by omega, by omega, fun hh => a6 hh.2⟩]
            · rw [if_neg a5, hgood, if_pos ⟨h, by omega, by omega, fun hh => a5 hh.1⟩]
  · rw [if_neg h, hbad, if_neg (fun hh => h hh.1)]
theorem spec_EchoAt.L0_val (p : List Int) (hp : p.length ≤ 1000) (hv : ∀ x ∈ p, 0 ≤ x ∧ x ≤ 1000) (x y : Int) (hx : -1000 ≤ x ∧ x ≤ 1000) (hy : -1000 ≤ y ∧ y ≤ 1000) : ∀ (m i : Nat) (n : Int), i + m = p.length → 0 ≤ n ∧ n ≤ i → spec_EchoAt.L0 p x y n p (p.length : Int) (i : Int) = some (echoGo p x y m i n, true)
  | 0, i, n, hm, hn => by
    rw [spec_EchoAt.L0_eq, if_neg (by omega)]
    rfl
  | m + 1, i, n, hm, hn => by
    have hi : i < p.length := by omega
    have c1 : (i : Int) < (p.length : Int) := by omega
    have hb := rd_bound hv hi
    have ih1 := spec_EchoAt.L0_val p hp hv x y hx hy m (i + 1) (n + 1) (by omega) (by omega)
    have ih0 := spec_EchoAt.L0_val p hp hv x y hx hy m (i + 1) n (by omega) (by omega)
    have w0 : wrap64 ((p.length : Int) - 1) = (p.length : Int) - 1 := wrap_small (by omega)
    have w1 : wrap64 ((i : Int) + x) = (i : Int) + x := wrap_small (by omega)
    have w2 : wrap64 (rd p (i : Int) + y) = rd p (i : Int) + y := wrap_small (by omega)
    have w3 : wrap64 (n + 1) = n + 1 := wrap_small (by omega)
    rw [spec_EchoAt.L0_eq, if_pos c1, if_pos (Int.natCast_nonneg i), if_pos c1, w0, w1, w2, w3, wrap_up hi (by omega), ih1, ih0, spec_l1In.f_val]
    clear w0 w1 w2 w3 ih1 ih0
    simp only [Option.bind_some]
    rw [echoGo_succ]
    by_cases h1 : 0 ≤ (i : Int) + x
    · by_cases h2 : (i : Int) + x < (p.length : Int)
      · rw [if_pos (by rw [decide_eq_true h1, decide_eq_true (show (i : Int) + x ≤ (p.length : Int) - 1 by omega)]; rfl), if_pos h1, if_pos h2]
        by_cases h3 : rd p ((i : Int) + x) = rd p (i : Int) + y
        · rw [if_pos h3, if_pos ⟨h1, h2, h3⟩]
        · rw [if_neg h3, if_neg (fun hh => h3 hh.2.2)]
      · rw [if_neg (by rw [Bool.and_eq_true, decide_eq_true_eq, decide_eq_true_eq]; omega), if_neg (fun hh => h2 hh.2.1)]
    · rw [if_neg (by rw [Bool.and_eq_true, decide_eq_true_eq, decide_eq_true_eq]; omega), if_neg (fun hh => h1 hh.1)]
theorem spec_EchoAt.F_val (p : List Int) (hp : p.length < 4611686018427387904) (x y : Int) : spec_EchoAt.F p x y = some (echoF p x y) := by
  rw [spec_EchoAt.F_eq, spec_doGood.F_val p hp]
  simp only [Option.bind_some]
  have hbad : spec_EchoAt.J0 p x y true = some (0, false) := by rw [spec_EchoAt.J0_eq, if_pos rfl]
  unfold echoF
  by_cases h : isDots p = true
  · obtain ⟨hl, hd⟩ := isDots_parts h
    rw [if_pos h, hbad, spec_l1In.f_val, spec_l1In.f_val]
    simp only [Option.bind_some]
    by_cases a1 : -12 ≤ x ∧ x ≤ 12
    · rw [if_pos (by rw [decide_eq_true a1.1, decide_eq_true a1.2]; rfl)]
      by_cases a3 : -12 ≤ y ∧ y ≤ 12
      · have hgood : spec_EchoAt.J0 p x y false = some (echoOf p x y, true) := by
          rw [spec_EchoAt.J0_eq, if_neg (by decide)]
          exact spec_EchoAt.L0_val p (by omega) (fun z hz => by have := hd.rng z hz; omega) x y (by omega) (by omega) p.length 0 0 (by omega) (by omega)
        rw [if_pos (by rw [decide_eq_true a3.1, decide_eq_true a3.2]; rfl)]
        by_cases a5 : x = 0
        · rw [if_pos a5]
          by_cases a6 : y = 0
          · rw [a6] at hbad ⊢
            rw [beq_self_eq_true, hbad, if_neg (fun hh => hh.2.2.2 ⟨a5, rfl⟩)]
          · rw [beq_eq_false_iff_ne.2 a6, hgood, if_pos ⟨h, a1, a3, fun hh => a6 hh.2⟩]
        · rw [if_neg a5, hgood, if_pos ⟨h, a1, a3, fun hh => a5 hh.1⟩]
      · rw [if_neg (by rw [Bool.and_eq_true, decide_eq_true_eq, decide_eq_true_eq]; exact a3), if_neg (fun hh => a3 hh.2.2.1)]
    · rw [if_neg (by rw [Bool.and_eq_true, decide_eq_true_eq, decide_eq_true_eq]; exact a1), if_neg (fun hh => a1 hh.2.1)]
  · rw [if_neg h, hbad, if_neg (fun hh => h hh.1)]
def diffsF (p : List Int) (k : Int) : List Int × Bool := if isDots p = true ∧ 1 ≤ k ∧ k < (p.length : Int) then (diffsOf p k.toNat, true) else ([], false)
def repeatF (p : List Int) : Int × Int × Int × Bool := if isDots p = true then repeatOf p else (0, 0, 0, false)
theorem impl_DifferencesOf.F_val (p : List Int) (hp : p.length < 4611686018427387904) (k : Int) : impl_DifferencesOf.F p k = some (diffsF p k) := by
  rw [impl_DifferencesOf.F_eq, impl_IsDots.F_val p hp]
  simp only [Option.bind_some]
  unfold diffsF
  by_cases h : isDots p = true
  · obtain ⟨hl, hd⟩ := isDots_parts h
    rw [if_pos h]
    by_cases a1 : k < 1
    · rw [if_pos a1, if_neg (fun hh => by omega)]
    · rw [if_neg a1]
      by_cases a2 : k ≥ (p.length : Int)
      · rw [if_pos a2, if_neg (fun hh => by omega)]
      · obtain ⟨n, rfl⟩ : ∃ n : Nat, k = n := ⟨k.toNat, by omega⟩
        rw [if_neg a2, impl_differences.F_val p (by omega) (fun z hz => by have := hd.rng z hz; omega) n (by omega), if_pos ⟨h, by omega, by omega⟩]
        rfl
  · rw [if_neg h, if_neg (fun hh => h hh.1)]
theorem spec_DifferencesOf.F_val (p : List Int) (hp : p.length < 4611686018427387904) (k : Int) : spec_DifferencesOf.F p k = some (diffsF p k) := by
  rw [spec_DifferencesOf.F_eq, spec_doGood.F_val p hp]
  simp only [Option.bind_some]
  unfold diffsF
  by_cases h : isDots p = true
  · obtain ⟨hl, hd⟩ := isDots_parts h
    rw [if_pos h]
    rw [spec_l1In.f_val, wrap_small (show -100000 ≤ (p.length : Int) - 1 ∧ (p.length : Int) - 1 ≤ 100000 by omega)]
    simp only [Option.bind_some]
    by_cases a1 : 1 ≤ k ∧ k ≤ (p.length : Int) - 1
    · obtain ⟨n, rfl⟩ : ∃ n : Nat, k = n := ⟨k.toNat, by omega⟩
      rw [if_pos (by rw [decide_eq_true a1.1, decide_eq_true a1.2]; rfl), spec_doDifferences.F_val p (by omega) (fun z hz => by have := hd.rng z hz; omega) n (by omega), if_pos ⟨h, by omega, by omega⟩]
      rfl
    · rw [if_neg (by rw [Bool.and_eq_true, decide_eq_true_eq, decide_eq_true_eq]; exact a1), if_neg (fun hh => a1 (by omega))]
  · rw [if_neg h, if_neg (fun hh => h hh.1)]
theorem impl_FirstRepeat.F_val (p : List Int) (hp : p.length < 4611686018427387904) : impl_FirstRepeat.F p = some (repeatF p) := by
  rw [impl_FirstRepeat.F_eq, impl_IsDots.F_val p hp]
  simp only [Option.bind_some]
  unfold repeatF
  by_cases h : isDots p = true
  · obtain ⟨hl, hd⟩ := isDots_parts h
    rw [if_pos h, if_pos h, impl_repeat.F_val p (by omega) (fun z hz => by have := hd.rng z hz; omega)]
    rfl
  · rw [if_neg h, if_neg h]
theorem spec_FirstRepeat.F_val (p : List Int) (hp : p.length < 4611686018427387904) : spec_FirstRepeat.F p = some (repeatF p) := by
  rw [spec_FirstRepeat.F_eq, spec_doGood.F_val p hp]
  simp only [Option.bind_some]
  unfold repeatF
  by_cases h : isDots p = true
  · obtain ⟨hl, hd⟩ := isDots_parts h
    rw [if_pos h, if_pos h, spec_doRepeat.F_val p (by omega) (fun z hz => by have := hd.rng z hz; omega)]
    rfl
  · rw [if_neg h, if_neg h]
theorem indexFrom_spec {n : Int} : ∀ (l : List Int) (i : Nat), 0 ≤ indexFrom n i l → ∃ (q : Nat) (hq : q < l.length), indexFrom n i l = ((i + q : Nat) : Int) ∧ l[q] = n
  | [], i, h => by simp [indexFrom] at h
  | x :: l, i, h => by
    have e : indexFrom n i (x :: l) = if n = x then (i : Int) else indexFrom n (i + 1) l := rfl
    rw [e] at h ⊢
    by_cases hx : n = x
    · rw [if_pos hx]
      exact ⟨0, by simp, by omega, hx.symm⟩
    · rw [if_neg hx] at h ⊢
      obtain ⟨q, hq, e1, e2⟩ := indexFrom_spec l (i + 1) h
      exact ⟨q + 1, by simp; omega, by rw [e1]; omega, by simpa using e2⟩
/-- What is so of the first repeat. -/
theorem repFrom_some {l : List Int} : ∀ (m j : Nat) {a b : Int}, j + m = l.length → repFrom l m j = some (a, b) → 0 ≤ a ∧ a < b ∧ b < (l.length : Int) ∧ rd l a = rd l b
  | 0, j, a, b, hm, h => by cases h
  | m + 1, j, a, b, hm, h => by
    unfold repFrom at h
    by_cases hc : 0 ≤ indexFrom (rd l (j : Int)) 0 (l.take j)
    · rw [if_pos hc] at h
      obtain ⟨rfl, rfl⟩ := Prod.mk.inj (Option.some.inj h)
      have hs := indexFrom_spec (n := rd l (j : Int)) (l.take j) 0 hc
      obtain ⟨q, hq, e1, e2⟩ := hs
      rw [List.length_take] at hq
      rw [e1]
      refine ⟨by omega, by omega, by omega, ?_⟩
      rw [Nat.zero_add, rd_nat l q (by omega)]
      rw [List.getElem_take] at e2
      exact e2
    · rw [if_neg hc] at h
      exact repFrom_some m (j + 1) (by omega) h
theorem repAll_some (p : List Int) : ∀ (m k : Nat), (k + m = p.length ∨ m = 0) → 1 ≤ k → (repAll p m k).2.2.2 = true → ∃ n : Nat, (repAll p m k).1 = n ∧ 1 ≤ n ∧ n < p.length ∧ 0 ≤ (repAll p m k).2.1 ∧ (repAll p m k).2.1 < (repAll p m k).2.2.1 ∧ (repAll p m k).2.2.1 < ((diffsOf p n).length : Int) ∧ rd (diffsOf p n) (repAll p m k).2.1 = rd (diffsOf p n) (repAll p m k).2.2.1
  | 0, k, hm, hk, h => by cases h
  | m + 1, k, hm, hk, h => by
    unfold repAll at h ⊢
    cases hr : repFrom (diffsOf p k) (diffsOf p k).length 0 with
    | none =>
      rw [hr] at h
      exact repAll_some p m (k + 1) (by omega) (by omega) h
    | some q =>
      have := repFrom_some (l := diffsOf p k) _ 0 (by omega) (show _ = some (q.1, q.2) from hr)
      exact ⟨k, rfl, hk, by omega, this.1, this.2.1, this.2.2.1, this.2.2.2⟩
def sortedB : List (List Int) → Bool
  | [] => true
  | [_] => true
  | x :: y :: l => lessOf x y && sortedB (y :: l)
theorem sortedB_at : ∀ {l : List (List Int)}, sortedB l = true → ∀ (i : Nat) (h : i + 1 < l.length), lessOf (l[i]'(by omega)) (l[i + 1]'h) = true
  | [], _, _, h => absurd h (by simp)
  | [_], _, _, h => absurd h (by simp)
  | x :: y :: l, hs, i, h => by
    simp only [sortedB, Bool.and_eq_true] at hs
    cases i with
    | zero => exact hs.1
    | succ i => exact sortedB_at hs.2 i (by simpa using h)
/-- The classes: dots that are the least of eight. -/
def classesOf (l : List (List Int)) : Nat := (l.filter fun q => decide (leastD q = q)).length
theorem classes_cons (q : List Int) (l : List (List Int)) : classesOf (q :: l) = (if leastD q = q then 1 else 0) + classesOf l := by
  unfold classesOf
  rw [List.filter_cons]
  by_cases h : leastD q = q
  · rw [if_pos h, if_pos (decide_eq_true h), List.length_cons, Nat.add_comm]
  · rw [if_neg h, if_neg (by rw [decide_eq_true_eq]; exact h), Nat.zero_add]
theorem rows_at {l : List (List Int)} {i : Nat} (h : i < l.length) : rd_L2 l (i : Int) = l[i] := by
  unfold rd_L2
  rw [Int.toNat_natCast, List.getD_eq_getElem?_getD, List.getElem?_eq_getElem h]
  rfl
def chkAll (n : Int) : Bool := match impl_AllCostas.f 1000 n, spec_doAll.f 1000 n [] 1073741824, impl_FirstCostas.f 1000 n with
  | some a, some b, some c => decide (a.1 = b) && a.2 && decide (0 < a.1.length) && decide (c = (rd_L2 a.1 0, true)) && (a.1.all fun q => isDots q && costB q) && sortedB a.1 && decide (a.1.length ≤ 8 * classesOf a.1) && decide (a.1.length ≤ 1000)
  | _, _, _ => false
theorem all_checked : (([1, 2, 3, 4, 5, 6] : List Int).all chkAll) = true := by decide +kernel
theorem all_known {n : Int} (hn : n ∈ ([1, 2, 3, 4, 5, 6] : List Int)) : ∃ l : List (List Int), impl_AllCostas.F n = some (l, true) ∧ spec_doAll.F n [] 1073741824 = some l ∧ impl_FirstCostas.F n = some (rd_L2 l 0, true) ∧ 0 < l.length ∧ (∀ q ∈ l, isDots q = true ∧ costB q = true) ∧ sortedB l = true ∧ l.length ≤ 8 * classesOf l ∧ l.length ≤ 1000 := by
  have h := List.all_eq_true.1 all_checked n hn
  unfold chkAll at h
  split at h
  · rename_i a b c ha hb hc
    simp only [Bool.and_eq_true, decide_eq_true_eq, List.all_eq_true] at h
    obtain ⟨⟨⟨⟨⟨⟨⟨h1, h2⟩, h3⟩, h4⟩, h5⟩, h6⟩, h7⟩, h8⟩ := h
    subst h1
    subst h4
    obtain ⟨l, t⟩ := a
    have h2 : t = true := h2
    subst h2
    exact ⟨l, Lim.at_ impl_AllCostas.F_lim 1000 ha, Lim.at_ (spec_doAll.F_lim n [] 1073741824) 1000 hb, Lim.at_ impl_FirstCostas.F_lim 1000 hc, h3, h5, h6, h7, h8⟩
  · cases h
def chkFirst (n : Int) : Bool := match impl_FirstCostas.f 1000 n, spec_FirstCostas.f 1000 n with
  | some a, some b => decide (a = b) && decide (a.1.length ≤ 20)
  | _, _ => false
theorem first_checked : (([1, 2, 3, 4, 5, 6, 7, 8, 9, 0, 10] : List Int).all chkFirst) = true := by decide +kernel
theorem first_known {n : Int} (hn : n ∈ ([1, 2, 3, 4, 5, 6, 7, 8, 9, 0, 10] : List Int)) : ∃ a : List Int × Bool, impl_FirstCostas.F n = some a ∧ spec_FirstCostas.F n = some a ∧ a.1.length ≤ 20 := by
  have h := List.all_eq_true.1 first_checked n hn
  unfold chkFirst at h
  split at h
  · rename_i a b ha hb
    simp only [Bool.and_eq_true, decide_eq_true_eq] at h
    obtain ⟨h1, h2⟩ := h
    subst h1
    exact ⟨a, Lim.at_ impl_FirstCostas.F_lim 1000 ha, Lim.at_ (spec_FirstCostas.F_lim n) 1000 hb, h2⟩
  · cases h
theorem impl_CountClasses.L0_val (l : List (List Int)) (hl : l.length ≤ 100000) (hd : ∀ q ∈ l, isDots q = true) : ∀ (m i : Nat) (n : Int), i + m = l.length → 0 ≤ n ∧ n ≤ i → impl_CountClasses.L0 n l (l.length : Int) (i : Int) = some (n + (classesOf (l.drop i) : Nat), true)
  | 0, i, n, hm, hn => by
    rw [impl_CountClasses.L0_eq, if_neg (by omega), List.drop_of_length_le (by omega)]
    simp [classesOf]
  | m + 1, i, n, hm, hn => by
    have hi : i < l.length := by omega
    have c1 : (i : Int) < (l.length : Int) := by omega
    obtain ⟨hq, hdq⟩ := isDots_parts (hd _ (List.getElem_mem hi))
    have ih1 := impl_CountClasses.L0_val l hl hd m (i + 1) (n + 1) (by omega) (by omega)
    have ih0 := impl_CountClasses.L0_val l hl hd m (i + 1) n (by omega) (by omega)
    have w3 : wrap64 (n + 1) = n + 1 := wrap_in (by omega) (by omega)
    rw [impl_CountClasses.L0_eq, if_pos c1, if_pos (Int.natCast_nonneg i), if_pos c1, rows_at hi, impl_least.F_val _ hdq (by omega), w3, wrap_up hi (by omega), ih1, ih0, List.drop_eq_getElem_cons hi]
    clear w3 ih1 ih0
    have hcc := classes_cons l[i] (l.drop (i + 1))
    obtain ⟨t, ht⟩ : ∃ t, leastD l[i] = t := ⟨_, rfl⟩
    obtain ⟨cl, hcl⟩ : ∃ cl, classesOf (l.drop (i + 1)) = cl := ⟨_, rfl⟩
    rw [hcc, ht, hcl]
    simp only [Option.bind_some]
    rw [slices_Equal_int_int.F_val _ _ (by omega)]
    simp only [Option.bind_some]
    by_cases h : t = l[i]
    · rw [if_pos (decide_eq_true h.symm), if_pos h]
      rw [show n + 1 + (cl : Int) = n + ((1 + cl : Nat) : Int) by omega]
    · rw [if_neg (by rw [decide_eq_true_eq]; exact fun e => h e.symm), if_neg h, Nat.zero_add]
theorem spec_CountClasses.L0_val (l : List (List Int)) (hl : l.length ≤ 100000) (hd : ∀ q ∈ l, isDots q = true) : ∀ (m i : Nat) (n : Int), i + m = l.length → 0 ≤ n ∧ n ≤ i → spec_CountClasses.L0 n l (l.length : Int) (i : Int) = some (n + (classesOf (l.drop i) : Nat), true)
  | 0, i, n, hm, hn => by
    rw [spec_CountClasses.L0_eq, if_neg (by omega), List.drop_of_length_le (by omega)]
    simp [classesOf]
  | m + 1, i, n, hm, hn => by
    have hi : i < l.length := by omega
    have c1 : (i : Int) < (l.length : Int) := by omega
    obtain ⟨hq, hdq⟩ := isDots_parts (hd _ (List.getElem_mem hi))
    have hll := leastD_len l[i]
    have ih1 := spec_CountClasses.L0_val l hl hd m (i + 1) (n + 1) (by omega) (by omega)
    have ih0 := spec_CountClasses.L0_val l hl hd m (i + 1) n (by omega) (by omega)
    have w3 : wrap64 (n + 1) = n + 1 := wrap_in (by omega) (by omega)
    rw [spec_CountClasses.L0_eq, if_pos c1, if_pos (Int.natCast_nonneg i), if_pos c1, rows_at hi, spec_doLeast.F_val _ hdq (by omega), w3, wrap_up hi (by omega), ih1, ih0, List.drop_eq_getElem_cons hi]
    clear w3 ih1 ih0
    have hcc := classes_cons l[i] (l.drop (i + 1))
    obtain ⟨t, ht⟩ : ∃ t, leastD l[i] = t := ⟨_, rfl⟩
    rw [ht] at hll
    obtain ⟨cl, hcl⟩ : ∃ cl, classesOf (l.drop (i + 1)) = cl := ⟨_, rfl⟩
    rw [hcc, ht, hcl]
    simp only [Option.bind_some]
    rw [spec_l1Same.F_val _ _ (by omega)]
    simp only [Option.bind_some]
    by_cases h : t = l[i]
    · rw [if_pos (decide_eq_true h), if_pos h]
      rw [show n + 1 + (cl : Int) = n + ((1 + cl : Nat) : Int) by omega]
    · rw [if_neg (by rw [decide_eq_true_eq]; exact h), if_neg h, Nat.zero_add]
theorem laws_zSum.L0_val (t : List Int) (ht : t.length ≤ 1000) (hv : ∀ x ∈ t, -1000 ≤ x ∧ x ≤ 1000) : ∀ (m i : Nat) (acc : Int), i + m = t.length → -(1000 * (i : Int)) ≤ acc ∧ acc ≤ 1000 * (i : Int) → laws_zSum.L0 acc t (t.length : Int) (i : Int) = some (acc + (t.drop i).sum)
  | 0, i, acc, hm, ha => by
    rw [laws_zSum.L0_eq, if_neg (by omega), List.drop_of_length_le (by omega)]
    simp
  | m + 1, i, acc, hm, ha => by
    have hi : i < t.length := by omega
    have c1 : (i : Int) < (t.length : Int) := by omega
    have v := hv _ (List.getElem_mem hi)
    have hd := List.drop_eq_getElem_cons hi
    obtain ⟨x, hx⟩ : ∃ x, t[i] = x := ⟨_, rfl⟩
    rw [hx] at v hd
    have ih := laws_zSum.L0_val t ht hv m (i + 1) (acc + x) (by omega) (by omega)
    have w : wrap64 (acc + x) = acc + x := wrap_in (by omega) (by omega)
    rw [laws_zSum.L0_eq, if_pos c1, if_pos (Int.natCast_nonneg i), if_pos c1, rd_nat t i hi, hx, w, wrap_up hi (by omega), ih, hd, List.sum_cons, Int.add_assoc]
theorem laws_zSum.F_val (t : List Int) (ht : t.length ≤ 1000) (hv : ∀ x ∈ t, -1000 ≤ x ∧ x ≤ 1000) : laws_zSum.F t = some t.sum := by
  have := laws_zSum.L0_val t ht hv t.length 0 0 (by omega) (by omega)
  rw [laws_zSum.F_eq]
  simpa using this
theorem zip_sum : ∀ (a b : List Int), a.length ≤ b.length → (List.zipWith (fun x y => x - y) a b).sum = a.sum - (b.take a.length).sum
  | [], b, _ => by simp
  | x :: a, [], h => by simp at h
  | x :: a, y :: b, h => by
    have ih := zip_sum a b (by simpa using h)
    simp only [List.zipWith_cons_cons, List.sum_cons, List.length_cons, List.take_succ_cons, ih]
    omega
theorem diffs_sum {p : List Int} {k : Nat} (hk : k ≤ p.length) : (diffsOf p k).sum = (p.drop k).sum - (p.take (p.length - k)).sum := by
  unfold diffsOf
  rw [zip_sum _ _ (by rw [List.length_drop]; omega), List.length_drop]
theorem sum_bound : ∀ {l : List Int} {b : Int}, 0 ≤ b → (∀ x ∈ l, -b ≤ x ∧ x ≤ b) → -(b * l.length) ≤ l.sum ∧ l.sum ≤ b * l.length
  | [], b, _, _ => by simp
  | x :: l, b, hb, h => by
    have ih := sum_bound (l := l) hb (fun y hy => h y (by simp [hy]))
    have hx := h x (by simp)
    rw [List.sum_cons, List.length_cons, Int.natCast_add, Int.mul_add]
    omega
theorem mem_diffs {p : List Int} (hd : Dots p) {k : Nat} {d : Int} (h : d ∈ diffsOf p k) : -(p.length : Int) ≤ d ∧ d ≤ (p.length : Int) := by
  obtain ⟨i, hi, rfl⟩ := List.mem_iff_getElem.1 h
  rw [diffsOf_get]
  have a := hd.rng _ (List.getElem_mem (show i + k < p.length by rw [diffsOf_length] at hi; omega))
  have b := hd.rng _ (List.getElem_mem (show i < p.length by rw [diffsOf_length] at hi; omega))
  omega
end Go.Proofs.Ytnhnpplccfojeaa.Fn
namespace Go.Proofs.Ytnhnpplccfojeaa.Pure
open Go.RowKit Go.Proofs.Ytnhnpplccfojeaa.Fn Go.Proofs.YtnhnpplccfojeaaW.PrintWords Go.Proofs.YtnhnpplccfojeaaW.PrintLast Go.Proofs.YtnhnpplccfojeaaW.PrintMore
set_option linter.unusedVariables false
set_option linter.unusedSimpArgs false
theorem zsame (x : List Int) (hx : x.length ≤ 1000) : laws_zSame.F x x = some true := by
  rw [laws_zSame.F_val x x (by omega), decide_eq_true rfl]
theorem J7_val {l1 : List Int} (h1 : DrawSt l1 0 0) : laws_FnDotsCostas.J7 l1 = some true := by
  obtain ⟨n, a1, z1, e1, hn, _⟩ := spec_l1Cur_among.ok 0 [1, 2, 3, 4, 5, 6, 7, 8, 9, 0, 10] (by decide) h1 (by omega)
  obtain ⟨a, f1, f2, fl⟩ := first_known hn
  obtain ⟨p, b1, y1, e2, hp, hs2⟩ := spec_l1Cur_dots.ok (most := 7) (by omega) 0 h1 (by omega)
  obtain ⟨x, b2, y2, e3, _, hs3⟩ := spec_l1Cur_among.ok y1 [0, 1, -1, 2, 3, 12, 13] (by decide) hs2 (by omega)
  obtain ⟨y, b3, y3, e4, _, _⟩ := spec_l1Cur_among.ok y2 [0, 1, -1, 2, -3, -12, -13] (by decide) hs3 (by omega)
  obtain ⟨d, b4, y4, e5, _, _⟩ := spec_l1Cur_among.ok y1 [1, 1, 2, 3, 5, 0, 12, -1] (by decide) hs2 (by omega)
  have d1 : spec_DrawFirstCostas.f l1 = some n := by
    unfold spec_DrawFirstCostas.f
    rw [e1]
    rfl
  have d2 : spec_DrawEchoAt.F l1 = some (p, x, y) := by
    rw [spec_DrawEchoAt.F_eq, e2]
    simp only [Option.bind_some]
    rw [e3]
    simp only [Option.bind_some]
    rw [e4]
    rfl
  have d3 : spec_DrawDifferencesOf.F l1 = some (p, d) := by
    rw [spec_DrawDifferencesOf.F_eq, e2]
    simp only [Option.bind_some]
    rw [e5]
    rfl
  have k1 := zsame a.1 (by omega)
  have k2 : laws_zSame.F (diffsF p d).1 (diffsF p d).1 = some true := zsame _ (by
    unfold diffsF
    split
    · rw [diffsOf_length]
      omega
    · simp)
  rw [laws_FnDotsCostas.J7_eq, d1]
  simp only [Option.bind_some]
  rw [f1, f2, d2]
  simp only [Option.bind_some]
  rw [impl_EchoAt.F_val p (by omega), spec_EchoAt.F_val p (by omega), d3]
  simp only [Option.bind_some]
  rw [impl_DifferencesOf.F_val p (by omega), spec_DifferencesOf.F_val p (by omega)]
  simp only [Option.bind_some, beq_self_eq_true, if_true, k1, k2]
theorem L3_val {l1 : List Int} (h1 : DrawSt l1 0 0) {l : List (List Int)} (hl : l.length ≤ 1000) (hd : ∀ q ∈ l, isDots q = true ∧ costB q = true) (hs : sortedB l = true) : ∀ (m i : Nat) (n : Int), i + m = l.length → 0 ≤ n ∧ n ≤ i → n + (classesOf (l.drop i) : Nat) = (classesOf l : Nat) → laws_FnDotsCostas.L3 l1 l ((classesOf l : Nat) : Int) n l (l.length : Int) (i : Int) = some true := by
  intro m
  induction m with
  | zero =>
    intro i n hm hn hc
    rw [List.drop_of_length_le (by omega)] at hc
    have hc : n = ((classesOf l : Nat) : Int) := by
      have : classesOf [] = 0 := rfl
      omega
    rw [laws_FnDotsCostas.L3_eq, if_neg (by omega), if_pos hc]
    exact J7_val h1
  | succ m ih =>
    intro i n hm hn hc
    have hi : i < l.length := by omega
    have c1 : (i : Int) < (l.length : Int) := by omega
    obtain ⟨hq1, hq2⟩ := hd _ (List.getElem_mem hi)
    obtain ⟨hlq, hdq⟩ := isDots_parts hq1
    have hcc := classes_cons l[i] (l.drop (i + 1))
    rw [← List.drop_eq_getElem_cons hi] at hcc
    have hlen : l[i].length < 4611686018427387904 := by omega
    have v1 := impl_IsCostas.F_val l[i] hlen
    have v2 := impl_LeastDots.F_val l[i] hlen
    rw [hq1, hq2] at v1
    rw [onDots_pos hq1] at v2
    have hll := leastD_len l[i]
    obtain ⟨t, ht⟩ : ∃ t, leastD l[i] = t := ⟨_, rfl⟩
    obtain ⟨cl, hcl⟩ : ∃ cl, classesOf (l.drop (i + 1)) = cl := ⟨_, rfl⟩
    obtain ⟨ca, hca⟩ : ∃ ca, classesOf l = ca := ⟨_, rfl⟩
    rw [ht, hcl] at hcc
    rw [ht] at v2 hll
    rw [hca] at hc ih ⊢
    have ih1 := fun hx => ih (i + 1) (n + 1) (by omega) (by omega) hx
    have ih0 := fun hx => ih (i + 1) n (by omega) (by omega) hx
    rw [hcl] at ih1 ih0
    rw [hcc] at hc
    have vs := laws_zSame.F_val t l[i] (by omega)
    have hgo : ((laws_zSame.F t l[i]).bind fun t1411 => (if t1411 = true then (laws_FnDotsCostas.L3 l1 l (ca : Int) (wrap64 (n + 1)) l (l.length : Int) (wrap64 ((i : Int) + 1))) else (laws_FnDotsCostas.L3 l1 l (ca : Int) n l (l.length : Int) (wrap64 ((i : Int) + 1))))) = some true := by
      have w3 : wrap64 (n + 1) = n + 1 := wrap_in (by omega) (by omega)
      rw [vs, w3, wrap_up hi (by omega)]
      clear w3
      simp only [Option.bind_some]
      by_cases h : t = l[i]
      · rw [if_pos (decide_eq_true h)]
        rw [if_pos h] at hc
        exact ih1 (by omega)
      · rw [if_neg (by rw [decide_eq_true_eq]; exact h)]
        rw [if_neg h] at hc
        exact ih0 (by omega)
    rw [laws_FnDotsCostas.L3_eq, if_pos c1, if_pos (Int.natCast_nonneg i), if_pos c1, rows_at hi, v1, v2]
    simp only [Option.bind_some, Bool.and_self, if_true]
    cases i with
    | zero =>
      rw [if_neg (by decide)]
      exact hgo
    | succ i =>
      have c2 : ((i + 1 : Nat) : Int) > 0 := by omega
      have w : wrap64 (((i + 1 : Nat) : Int) - 1) = (i : Int) := by rw [wrap_in (by omega) (by omega)]; omega
      have c3 : (i : Int) < (l.length : Int) := by omega
      have hlt := sortedB_at hs i hi
      have hl2 := (isDots_parts (hd _ (List.getElem_mem (show i < l.length by omega))).1).1
      rw [if_pos c2, w, if_pos (Int.natCast_nonneg i), if_pos c3, rows_at (show i < l.length by omega), laws_zLess.F_val _ _ (by omega), hlt]
      simp only [Option.bind_some, if_true]
      exact hgo
theorem J5_val {l1 : List Int} (h1 : DrawSt l1 0 0) : laws_FnDotsCostas.J5 l1 = some true := by
  obtain ⟨n, a1, z1, e1, hn, _⟩ := spec_l1Cur_among.ok 0 [1, 2, 3, 4, 5, 3, 4, 6, 0, 8, -1] (by decide) h1 (by omega)
  have d1 : spec_DrawAllCostas.f l1 = some n := by
    unfold spec_DrawAllCostas.f spec_DrawCountCostas.f
    rw [e1]
    rfl
  by_cases hk : 1 ≤ n ∧ n ≤ 7
  · have hn6 : n ∈ ([1, 2, 3, 4, 5, 6] : List Int) := by
      have : ∀ n ∈ ([1, 2, 3, 4, 5, 3, 4, 6, 0, 8, -1] : List Int), 1 ≤ n ∧ n ≤ 7 → n ∈ ([1, 2, 3, 4, 5, 6] : List Int) := by decide
      exact this n hn hk
    obtain ⟨l, f1, f2, f3, hpos, hd, hs, h8, hl⟩ := all_known hn6
    have hin : spec_l1In.f n 1 7 = some true := by rw [spec_l1In.f_val, decide_eq_true hk.1, decide_eq_true hk.2]; rfl
    have hdl : ∀ q ∈ l, isDots q = true := fun q hq => (hd q hq).1
    have hL := L3_val h1 hl hd hs l.length 0 0 (by omega) (by omega) (by rw [List.drop_zero]; omega)
    have v1 : spec_AllCostas.F n = some (l, true) := by rw [spec_AllCostas.F_eq, hin]; simp only [Option.bind_some, if_true]; rw [f2]; rfl
    have v2 : impl_CountCostas.F n = some ((l.length : Int), true) := by rw [impl_CountCostas.F_eq, f1]; rfl
    have v3 : spec_CountCostas.F n = some ((l.length : Int), true) := by rw [spec_CountCostas.F_eq, hin]; simp only [Option.bind_some, if_true]; rw [f2]; rfl
    have v4 : impl_CountClasses.F n = some (((classesOf l : Nat) : Int), true) := by
      have := impl_CountClasses.L0_val l (by omega) hdl l.length 0 0 (by omega) (by omega)
      rw [List.drop_zero, Int.zero_add] at this
      rw [impl_CountClasses.F_eq, f1]
      simp only [Option.bind_some, if_true]
      exact this
    have v5 : spec_CountClasses.F n = some (((classesOf l : Nat) : Int), true) := by
      have := spec_CountClasses.L0_val l (by omega) hdl l.length 0 0 (by omega) (by omega)
      rw [List.drop_zero, Int.zero_add] at this
      rw [spec_CountClasses.F_eq, hin]
      simp only [Option.bind_some, if_true]
      rw [f2]
      exact this
    have hcl : classesOf l ≤ l.length := List.length_filter_le _ _
    obtain ⟨ca, hca⟩ : ∃ ca, classesOf l = ca := ⟨_, rfl⟩
    rw [hca] at hL v4 v5 hcl h8
    have vr := laws_zRows.F_val l l (by omega) (fun x hx => by have := (isDots_parts (hdl x hx)).1; omega)
    rw [decide_eq_true rfl] at vr
    have hrow : rd_L2 l 0 = l[0] := rows_at hpos
    have kz := zsame (rd_L2 l 0) (by rw [hrow]; have := (isDots_parts (hdl _ (List.getElem_mem hpos))).1; omega)
    have c0 : (0 : Int) < (l.length : Int) := by omega
    have c1 : ¬ (ca : Int) > (l.length : Int) := by omega
    have c2 : ¬ 8 * (ca : Int) < (l.length : Int) := by omega
    have w : wrap64 (8 * (ca : Int)) = 8 * (ca : Int) := wrap_in (by omega) (by omega)
    rw [laws_FnDotsCostas.J5_eq, d1]
    simp only [Option.bind_some]
    rw [f1, v1, v2, v3, v4, v5]
    simp only [Option.bind_some, bne_self_eq_false, Bool.false_eq_true, if_false, if_true, vr]
    rw [f3]
    simp only [Option.bind_some, if_true, kz]
    rw [if_pos c0, if_neg c1, w, if_neg c2]
    exact hL
  · have hin : spec_l1In.f n 1 7 = some false := by
      rw [spec_l1In.f_val]
      congr 1
      rw [Bool.eq_false_iff]
      intro h
      rw [Bool.and_eq_true, decide_eq_true_eq, decide_eq_true_eq] at h
      exact hk h
    have f1 : impl_AllCostas.F n = some ([], false) := if_pos (by omega)
    have v1 : spec_AllCostas.F n = some ([], false) := by rw [spec_AllCostas.F_eq, hin]; rfl
    have v2 : impl_CountCostas.F n = some (0, false) := by rw [impl_CountCostas.F_eq, f1]; rfl
    have v3 : spec_CountCostas.F n = some (0, false) := by rw [spec_CountCostas.F_eq, hin]; rfl
    have v4 : impl_CountClasses.F n = some (0, false) := by rw [impl_CountClasses.F_eq, f1]; rfl
    have v5 : spec_CountClasses.F n = some (0, false) := by rw [spec_CountClasses.F_eq, hin]; rfl
    have vr := laws_zRows.F_val [] [] (by simp) (by simp)
    rw [decide_eq_true rfl] at vr
    rw [laws_FnDotsCostas.J5_eq, d1]
    simp only [Option.bind_some]
    rw [f1, v1, v2, v3, v4, v5]
    simp only [Option.bind_some, bne_self_eq_false, Bool.false_eq_true, if_false, if_true, vr]
    exact J7_val h1
theorem L2_val {l1 p : List Int} {c : Bool} {most k : Int} {l : List Int} (hl : l.length ≤ 1000) (y : Int) (t : Nat) (ht : times y l = t) : ∀ (m i : Nat) (n : Nat), i + m = l.length → n ≤ i → n + times y (l.drop i) = t → laws_FnDotsCostas.L2 l1 p c most k l y (t : Int) true (t : Int) true (n : Int) l (l.length : Int) (i : Int) = laws_FnDotsCostas.L1 l1 p c (if (t : Int) > most then (t : Int) else most) k l (wrap64 (y + 1)) := by
  intro m
  induction m with
  | zero =>
    intro i n hm hn hc
    rw [List.drop_of_length_le (by omega)] at hc
    have hc : n = t := by simpa [times] using hc
    rw [laws_FnDotsCostas.L2_eq, if_neg (by omega), if_pos rfl, if_pos (by omega), if_pos rfl, if_pos rfl]
    split <;> rfl
  | succ m ih =>
    intro i n hm hn hc
    have hi : i < l.length := by omega
    have c1 : (i : Int) < (l.length : Int) := by omega
    rw [List.drop_eq_getElem_cons hi] at hc
    simp only [times] at hc
    have ih1 := fun hx => ih (i + 1) (n + 1) (by omega) (by omega) hx
    have ih0 := fun hx => ih (i + 1) n (by omega) (by omega) hx
    have w3 : wrap64 ((n : Int) + 1) = ((n + 1 : Nat) : Int) := by rw [wrap_in (by omega) (by omega)]; rfl
    rw [laws_FnDotsCostas.L2_eq, if_pos c1, if_pos (Int.natCast_nonneg i), if_pos c1, rd_nat l i hi, w3, wrap_up hi (by omega)]
    clear w3
    by_cases h : l[i] = y
    · rw [if_pos h]
      rw [if_pos h] at hc
      exact ih1 (by omega)
    · rw [if_neg h]
      rw [if_neg h] at hc
      exact ih0 (by omega)
theorem L1_val {l1 p : List Int} {c : Bool} (hp : isDots p = true) {k : Nat} (hk : 1 ≤ k ∧ k < p.length) : ∀ (m : Nat) (y most : Int), y + m = (p.length : Int) + 1 → -(p.length : Int) ≤ y → ∃ most', laws_FnDotsCostas.L1 l1 p c most (k : Int) (diffsOf p k) y = laws_FnDotsCostas.L0 l1 p c most' ((k + 1 : Nat) : Int) ∧ (most' ≤ 1 ↔ most ≤ 1 ∧ ∀ z, y ≤ z → z ≤ (p.length : Int) → times z (diffsOf p k) ≤ 1) := by
  obtain ⟨hl, hd⟩ := isDots_parts hp
  intro m
  induction m with
  | zero =>
    intro y most hm hy
    refine ⟨most, ?_, fun h => ⟨h, fun z h1 h2 => by omega⟩, fun h => h.1⟩
    rw [laws_FnDotsCostas.L1_eq, if_neg (by omega), wrap_succ k (by omega)]
  | succ m ih =>
    intro y most hm hy
    have c1 : y ≤ (p.length : Int) := by omega
    obtain ⟨t1, t2⟩ := echo_times (p := p) (k := k) y
    obtain ⟨t, ht⟩ : ∃ t, times y (diffsOf p k) = t := ⟨_, rfl⟩
    rw [ht] at t1 t2
    have v1 : impl_EchoAt.F p (k : Int) y = some ((t : Int), true) := by
      rw [impl_EchoAt.F_val p (by omega)]
      unfold echoF
      rw [if_pos ⟨hp, by omega, by omega, fun h => by omega⟩, t1]
    have v2 : impl_EchoAt.F p (-(k : Int)) (-y) = some ((t : Int), true) := by
      rw [impl_EchoAt.F_val p (by omega)]
      unfold echoF
      rw [if_pos ⟨hp, by omega, by omega, fun h => by omega⟩, t2]
    have hL2 := L2_val (l1 := l1) (p := p) (c := c) (most := most) (k := (k : Int)) (l := diffsOf p k) (by rw [diffsOf_length]; omega) y t ht (diffsOf p k).length 0 0 (by omega) (by omega) (by rw [List.drop_zero, ht, Nat.zero_add])
    obtain ⟨most', e, hm'⟩ := ih (y + 1) (if (t : Int) > most then (t : Int) else most) (by omega) (by omega)
    have w1 : wrap64 (-(k : Int)) = -(k : Int) := wrap_in (by omega) (by omega)
    have w2 : wrap64 (-y) = -y := wrap_in (by omega) (by omega)
    have w3 : wrap64 (y + 1) = y + 1 := wrap_in (by omega) (by omega)
    refine ⟨most', ?_, ?_⟩
    · rw [laws_FnDotsCostas.L1_eq, if_pos c1, w1, w2, v1, v2]
      simp only [Option.bind_some]
      rw [w3] at hL2
      exact hL2.trans e
    · clear w1 w2 w3 hL2 e
      rw [hm']
      constructor
      · rintro ⟨a, b⟩
        refine ⟨?_, fun z h1 h2 => ?_⟩
        · split at a <;> omega
        · by_cases hz : z = y
          · subst hz
            rw [ht]
            split at a <;> omega
          · exact b z (by omega) h2
      · rintro ⟨a, b⟩
        have := b y (by omega) c1
        rw [ht] at this
        refine ⟨?_, fun z h1 h2 => b z (by omega) h2⟩
        split <;> omega
theorem L0_val {l1 p : List Int} (h1 : DrawSt l1 0 0) (hp : isDots p = true) : ∀ (m k : Nat) (most : Int), k + m = p.length → 1 ≤ k → (most ≤ 1 ↔ ∀ j : Nat, 1 ≤ j → j < k → (diffsOf p j).Nodup) → laws_FnDotsCostas.L0 l1 p (costB p) most (k : Int) = some true := by
  obtain ⟨hl, hd⟩ := isDots_parts hp
  intro m
  induction m with
  | zero =>
    intro k most hm hk hmost
    have e : costB p = decide (most ≤ 1) := by
      rw [Bool.eq_iff_iff, decide_eq_true_eq, hmost]
      unfold costB
      rw [List.all_eq_true]
      constructor
      · exact fun h j j1 j2 => of_decide_eq_true (h j (List.mem_range'_1.2 (by omega)))
      · exact fun h j hj => decide_eq_true (h j (List.mem_range'_1.1 hj).1 (by have := (List.mem_range'_1.1 hj).2; omega))
    rw [laws_FnDotsCostas.L0_eq, if_neg (by omega), e, bne_self_eq_false, if_neg (by decide)]
    exact J5_val h1
  | succ m ih =>
    intro k most hm hk hmost
    have c1 : (k : Int) < (p.length : Int) := by omega
    have v1 : impl_DifferencesOf.F p (k : Int) = some (diffsOf p k, true) := by
      rw [impl_DifferencesOf.F_val p (by omega)]
      unfold diffsF
      rw [if_pos ⟨hp, by omega, c1⟩]
      rfl
    have hdl := diffsOf_length p k
    have hv : ∀ x ∈ p, (-12 : Int) ≤ x ∧ x ≤ 12 := fun x hx => by have := hd.rng x hx; omega
    have hvd : ∀ x ∈ diffsOf p k, (-12 : Int) ≤ x ∧ x ≤ 12 := fun x hx => by have := mem_diffs hd hx; omega
    have s1 := laws_zSum.F_val (diffsOf p k) (by omega) (fun x hx => by have := hvd x hx; omega)
    have s2 := laws_zSum.F_val (p.drop k) (by rw [List.length_drop]; omega) (fun x hx => by have := hv x (List.mem_of_mem_drop hx); omega)
    have s3 := laws_zSum.F_val (p.take (p.length - k)) (by rw [List.length_take]; omega) (fun x hx => by have := hv x (List.mem_of_mem_take hx); omega)
    have hsum := diffs_sum (p := p) (k := k) (by omega)
    have b2 := sum_bound (l := p.drop k) (b := 12) (by omega) (fun x hx => hv x (List.mem_of_mem_drop hx))
    have b3 := sum_bound (l := p.take (p.length - k)) (b := 12) (by omega) (fun x hx => hv x (List.mem_of_mem_take hx))
    rw [List.length_drop] at b2
    rw [List.length_take] at b3
    obtain ⟨u, hu⟩ : ∃ u, (p.drop k).sum = u := ⟨_, rfl⟩
    obtain ⟨v, hvv⟩ : ∃ v, (p.take (p.length - k)).sum = v := ⟨_, rfl⟩
    rw [hu] at s2 hsum b2
    rw [hvv] at s3 hsum b3
    obtain ⟨most', e, hm'⟩ := L1_val (l1 := l1) (c := costB p) hp (k := k) ⟨hk, by omega⟩ (2 * p.length + 1) (-(p.length : Int)) most (by omega) (by omega)
    have c2 : ((p.length - k : Nat) : Int) ≤ (p.length : Int) := by omega
    have c3 : (k : Int) ≤ (p.length : Int) := by omega
    have c4 : ((diffsOf p k).length : Int) = ((p.length - k : Nat) : Int) := by omega
    have hih := ih (k + 1) most' (by omega) (by omega) (by
      rw [hm', hmost]
      constructor
      · rintro ⟨a, b⟩ j j1 j2
        by_cases hj : j = k
        · subst hj
          refine times_le_one.1 fun d => ?_
          by_cases hr : -(p.length : Int) ≤ d ∧ d ≤ (p.length : Int)
          · exact b d hr.1 hr.2
          · have : ¬ 0 < times d (diffsOf p j) := fun hpos => hr (mem_diffs hd (times_pos.1 hpos))
            omega
        · exact a j j1 (by omega)
      · intro h
        exact ⟨fun j j1 j2 => h j j1 (by omega), fun z _ _ => times_le_one.2 (h k hk (by omega)) z⟩)
    have w1 : wrap64 ((p.length : Int) - (k : Int)) = ((p.length - k : Nat) : Int) := by rw [wrap_in (by omega) (by omega)]; omega
    have w2 : wrap64 (u - v) = u - v := by
      clear w1
      exact wrap_in (by omega) (by omega)
    have w3 : wrap64 (-(p.length : Int)) = -(p.length : Int) := by
      clear w1 w2
      exact wrap_in (by omega) (by omega)
    rw [laws_FnDotsCostas.L0_eq, if_pos c1, v1]
    simp only [Option.bind_some, if_true]
    rw [w1, if_pos c4, s1]
    simp only [Option.bind_some]
    rw [if_pos (Int.natCast_nonneg k), if_pos c3, Int.toNat_natCast, s2]
    simp only [Option.bind_some]
    rw [if_pos (Int.natCast_nonneg _), if_pos c2, Int.toNat_natCast, s3]
    simp only [Option.bind_some]
    rw [w2, if_pos hsum, w3]
    exact e.trans hih
theorem J1_val {l1 p : List Int} (h1 : DrawSt l1 0 0) : laws_FnDotsCostas.J1 l1 p (isDots p && costB p) (isDots p) = some true := by
  rw [laws_FnDotsCostas.J1_eq]
  by_cases hp : isDots p = true
  · obtain ⟨hl, hd⟩ := isDots_parts hp
    rw [if_pos hp, hp, Bool.true_and]
    exact L0_val h1 hp (p.length - 1) 1 0 (by omega) (by omega) ⟨fun _ j j1 j2 => by omega, fun _ => by omega⟩
  · rw [if_neg hp]
    exact J5_val h1
theorem FnDotsCostas : laws_FnDotsCostas.Pure := by
  intro l0 l1 _ _ hw0 _ _ hw1
  refine Lim.rounds (laws_FnDotsCostas.F_lim l0 l1) ?_
  rw [laws_FnDotsCostas.F_eq, laws_big.f_val]
  simp only [Option.bind_some]
  by_cases hbig : 1048576 < l0.length ∨ 1048576 < l0.length + l1.length
  · rw [if_pos (decide_eq_true hbig)]
  rw [if_neg (by rw [decide_eq_false hbig]; decide)]
  have h0 := draw_start (l := l0) (by omega) hw0
  have h1 := draw_start (l := l1) (by omega) hw1
  obtain ⟨p, a, z, e1, hpl, _⟩ := spec_l1Cur_dots.ok (most := 6) (by omega) 0 h0 (by omega)
  have ed : spec_DrawIsCostas.F l0 = some p := by
    rw [spec_DrawIsCostas.F_eq, e1]
    rfl
  have v1 := impl_IsCostas.F_val p (by omega)
  have v2 := spec_IsCostas.F_val p (by omega)
  have v3 := impl_FirstRepeat.F_val p (by omega)
  have v4 := spec_FirstRepeat.F_val p (by omega)
  have v5 := impl_IsDots.F_val p (by omega)
  have v6 : spec_IsDots.F p = some (isDots p) := by
    rw [spec_IsDots.F_eq, spec_doGood.F_val p (by omega)]
    rfl
  have hJ1 := J1_val (p := p) h1
  have hflag : (repeatF p).2.2.2 = (isDots p && !costB p) := by
    unfold repeatF
    by_cases hp : isDots p = true
    · have := repeatOf_flag p
      rw [if_pos hp, hp, Bool.true_and, ← this, Bool.not_not]
    · rw [if_neg hp, Bool.eq_false_iff.2 hp]
      rfl
  have hJ0 : laws_FnDotsCostas.J0 l1 p (isDots p && costB p) (isDots p) (repeatF p).1 (repeatF p).2.1 (repeatF p).2.2.1 (repeatF p).2.2.2 false = some true := by
    rw [laws_FnDotsCostas.J0_eq, if_neg (by decide)]
    by_cases ht : (repeatF p).2.2.2 = true
    · have hp : isDots p = true := by
        rw [hflag, Bool.and_eq_true] at ht
        exact ht.1
      obtain ⟨hl, hd⟩ := isDots_parts hp
      have er : repeatF p = repeatOf p := if_pos hp
      rw [if_pos ht]
      rw [er] at ht ⊢
      obtain ⟨n, r1, r2, r3, r4, r5, r6, r7⟩ := repAll_some p (p.length - 1) 1 (by omega) (by omega) ht
      change (repeatOf p).1 = _ at r1
      change 0 ≤ (repeatOf p).2.1 at r4
      change (repeatOf p).2.1 < (repeatOf p).2.2.1 at r5
      change (repeatOf p).2.2.1 < _ at r6
      change rd (diffsOf p n) (repeatOf p).2.1 = rd (diffsOf p n) (repeatOf p).2.2.1 at r7
      generalize (repeatOf p).2.1 = i at r4 r5 r7 ⊢
      generalize (repeatOf p).2.2.1 = j at r5 r6 r7 ⊢
      have vd : impl_DifferencesOf.F p (n : Int) = some (diffsOf p n, true) := by
        rw [impl_DifferencesOf.F_val p (by omega)]
        unfold diffsF
        rw [if_pos ⟨hp, by omega, by omega⟩]
        rfl
      rw [r1, vd]
      simp only [Option.bind_some, if_true]
      rw [if_neg (by omega), if_neg (by omega), if_pos r4, if_pos (by omega), if_pos (by omega), if_pos r6, if_pos r7]
      exact hJ1
    · rw [if_neg ht]
      exact hJ1
  rw [ed, Option.bind_some, v1, Option.bind_some, v2, Option.bind_some, v3, Option.bind_some, v4, Option.bind_some]
  dsimp only
  clear v1 v2 v3 v4
  simp only [bne_self_eq_false, Bool.false_eq_true, if_false, if_true, v5, v6, Option.bind_some]
  by_cases hp : isDots p = true
  · have e : ((repeatF p).2.2.2 != !(isDots p && costB p)) = false := by
      rw [hflag, hp, Bool.true_and, Bool.true_and, bne_self_eq_false]
    rw [if_pos hp, e]
    exact hJ0
  · have e : ((repeatF p).2.2.2 != false) = false := by
      rw [hflag, Bool.eq_false_iff.2 hp]
      rfl
    rw [if_neg hp, e]
    exact hJ0
end Go.Proofs.Ytnhnpplccfojeaa.Pure
