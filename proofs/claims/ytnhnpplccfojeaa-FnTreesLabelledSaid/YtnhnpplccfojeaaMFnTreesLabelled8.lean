/- The machine's side and plain lemmas for FnTreesLabelled: texts of this session, merged by its program (part 8). -/
import Derived.Test.YtnhnpplccfojeaaMFnTreesLabelled0
import Derived.Test.YtnhnpplccfojeaaMFnTreesLabelled1
import Derived.Test.YtnhnpplccfojeaaMFnTreesLabelled2
import Derived.Test.YtnhnpplccfojeaaMFnTreesLabelled3
import Derived.Test.YtnhnpplccfojeaaMFnTreesLabelled4
import Derived.Test.YtnhnpplccfojeaaMFnTreesLabelled5
import Derived.Test.YtnhnpplccfojeaaMFnTreesLabelled6
import Derived.Test.YtnhnpplccfojeaaMFnTreesLabelled7
set_option maxHeartbeats 80000000
set_option maxRecDepth 100000
namespace Go.Proofs.Ytnhnpplccfojeaa.Fn
open Go.RowKit Go.Proofs.YtnhnpplccfojeaaW.PrintWords Go.Proofs.YtnhnpplccfojeaaW.PrintLast Go.Proofs.YtnhnpplccfojeaaW.PrintMore
set_option linter.unusedVariables false
set_option linter.unusedSimpArgs false
theorem Zbu.f_val (l : List Int) (h : l.length < 17592186044416) : Zbu.f l = some l := by
  unfold Zbu.f
  simp [h]
theorem Zbv.f_val (a b c : Int) : Zbv.f a b c = some (decide (b ≤ a) && decide (a ≤ c)) := by
  unfold Zbv.f
  by_cases h : a ≥ b
  · rw [if_pos h]
    simp [show b ≤ a from h]
  · rw [if_neg h]
    simp [show ¬ b ≤ a from h]
theorem Zay.L0_val (a b : Int) : ∀ (suf pre : List Int), (pre ++ suf).length < 4611686018427387904 → Zay.L0 a b (pre ++ suf) ((pre ++ suf).length : Int) (pre.length : Int) = some (suf.all (fun x => decide (a ≤ x) && decide (x ≤ b)))
  | [], pre, h => by
    rw [Zay.L0_eq, range_end]
    simp
  | x :: suf, pre, h => by
    rw [Zay.L0_eq, range_step, rd_mid, wrap_mid h, Zbv.f_val]
    simp only [Option.bind_some]
    by_cases h1 : (decide (a ≤ x) && decide (x ≤ b)) = true
    · rw [if_pos h1, app_mid, Zay.L0_val a b suf (pre ++ [x]) (by simpa using h)]
      simp only [List.all_cons, h1, Bool.true_and]
    · rw [if_neg h1]
      simp only [List.all_cons, Bool.not_eq_true] at h1 ⊢
      rw [h1, Bool.false_and]
theorem Zay.F_val (l : List Int) (a b : Int) (h : l.length < 4611686018427387904) : Zay.F l a b = some (l.all (fun x => decide (a ≤ x) && decide (x ≤ b))) := by
  rw [Zay.F_eq]
  have := Zay.L0_val a b l [] (by simpa using h)
  simpa using this
theorem Zav.L0_val (n : Int) : ∀ (suf pre : List Int), (pre ++ suf).length < 4611686018427387904 → Zav.L0 n (pre ++ suf) ((pre ++ suf).length : Int) (pre.length : Int) = some (decide (n ∈ suf))
  | [], pre, h => by
    rw [Zav.L0_eq, range_end]
    simp
  | x :: suf, pre, h => by
    rw [Zav.L0_eq, range_step, rd_mid, wrap_mid h, app_mid pre x suf, Zav.L0_val n suf (pre ++ [x]) (by simpa using h)]
    by_cases h1 : x = n
    · rw [if_pos h1]
      simp [h1]
    · rw [if_neg h1]
      have : ¬ n = x := fun h => h1 h.symm
      simp [this]
theorem Zav.F_val (l : List Int) (n : Int) (h : l.length < 4611686018427387904) : Zav.F l n = some (decide (n ∈ l)) := by
  rw [Zav.F_eq]
  have := Zav.L0_val n l [] (by simpa using h)
  simpa using this
def indexFrom (n : Int) : Nat → List Int → Int
  | _, [] => -1
  | i, x :: l => if n = x then (i : Int) else indexFrom n (i + 1) l
theorem indexFrom_mem (n : Int) : ∀ (l : List Int) (i : Nat), 0 ≤ indexFrom n i l ↔ n ∈ l
  | [], i => by simp [indexFrom]
  | x :: l, i => by
    have ih := indexFrom_mem n l (i + 1)
    by_cases h : n = x
    · simp [indexFrom, h]
    · simp [indexFrom, h, ih]
theorem Zak.L0_val (n : Int) : ∀ (suf pre : List Int), (pre ++ suf).length < 4611686018427387904 → Zak.L0 (pre ++ suf) n ((pre ++ suf).length : Int) (pre.length : Int) = some (indexFrom n pre.length suf)
  | [], pre, h => by
    rw [Zak.L0_eq, range_end]
    rfl
  | x :: suf, pre, h => by
    have e : (pre ++ [x]).length = pre.length + 1 := by simp
    rw [Zak.L0_eq, range_step, rd_mid, wrap_mid h, app_mid pre x suf, Zak.L0_val n suf (pre ++ [x]) (by simpa using h), e, indexFrom]
    split <;> rfl
theorem Zak.F_val (l : List Int) (n : Int) (h : l.length < 4611686018427387904) : Zak.F l n = some (indexFrom n 0 l) := by
  rw [Zak.F_eq]
  have := Zak.L0_val n l [] (by simpa using h)
  simpa using this
theorem Zan.F_val (l : List Int) (n : Int) (h : l.length < 4611686018427387904) : Zan.F l n = some (decide (n ∈ l)) := by
  rw [Zan.F_eq, Zak.F_val l n h]
  simp only [Option.bind_some]
  have := indexFrom_mem n l 0
  congr 1
  rw [decide_eq_decide]
  exact this
def BytesOk (l : List Int) : Prop := ∀ x ∈ l, 0 ≤ x ∧ x ≤ 255
theorem wrap_u64 (n : Int) : IntKind.u64.wrap n = n % 18446744073709551616 := by simp [IntKind.wrap, IntKind.bits, IntKind.signed]
theorem low_byte (x : Int) (h0 : 0 ≤ x) (h1 : x < 18446744073709551616) : Go.bits .and .u64 x 255 = x % 256 := by
  have := bits_mask .u64 64 (by decide) (fun n h0 h1 => by rw [wrap_u64]; omega) 8 (by decide) x h0 (by omega)
  simpa using this
theorem top_byte (n : Int) : ∃ b, wrap64 (Go.bits .and .u64 (IntKind.u64.wrap n / 1099511627776) 255) = b ∧ 0 ≤ b ∧ b ≤ 255 := by
  have h := wrap_u64 n
  generalize IntKind.u64.wrap n = m at *
  rw [low_byte _ (by omega) (by omega), wrap_in (by omega) (by omega)]
  exact ⟨_, rfl, by omega, by omega⟩
theorem Zbt.ok {l : List Int} (hl : BytesOk l) (hn : l.length < 4611686018427387904) (at_ seed : Int) (h0 : 0 ≤ at_) (h1 : at_ < 4611686018427387904) : ∃ b z, Zbt.f l at_ seed = some (b, at_ + 1, z) ∧ 0 ≤ b ∧ b ≤ 255 := by
  unfold Zbt.f
  rw [wrap_in (n := at_ + 1) (by omega) (by omega)]
  by_cases ha : at_ < (l.length : Int)
  rotate_left
  · rw [if_neg ha]
    by_cases hb : at_ + 1 ≤ (l.length : Int)
    · rw [if_pos hb]
      exact ⟨_, _, rfl, by omega, by omega⟩
    · rw [if_neg hb]
      obtain ⟨b, e, h2, h3⟩ := top_byte (IntKind.u64.wrap (IntKind.u64.wrap (seed * 6364136223846793005)) + 1442695040888963407)
      exact ⟨b, _, by rw [e], h2, h3⟩
  have hm : rd l at_ ∈ l := by
    obtain ⟨i, rfl⟩ : ∃ i : Nat, at_ = i := ⟨at_.toNat, by omega⟩
    rw [rd_nat l i (by omega)]
    exact List.getElem_mem _
  have hb := hl _ hm
  rw [if_pos ha, if_pos h0, if_pos (by omega), wrap_in (n := rd l at_) (by omega) (by omega)]
  exact ⟨_, _, rfl, hb.1, hb.2⟩
structure DrawSt (l : List Int) (m at_ : Int) : Prop where
  bytes : BytesOk l
  len : l.length < 4611686018427387904
  at0 : 0 ≤ at_
  atm : at_ ≤ m
theorem DrawSt.more {l : List Int} {m m' a : Int} (h : DrawSt l m a) (hm : m ≤ m') : DrawSt l m' a := ⟨h.1, h.2, h.3, Int.le_trans h.4 hm⟩
theorem tmod_range {x n : Int} (hx : 0 ≤ x) (hn : 0 < n) : 0 ≤ Int.tmod x n ∧ Int.tmod x n < n := ⟨Int.tmod_nonneg n hx, Int.tmod_lt_of_pos x hn⟩
theorem Zax.ok {l : List Int} {m at_ : Int} (seed n : Int) (h : DrawSt l m at_) (hm : m ≤ 4000000000000000000) : ∃ r a z, Zax.f l at_ seed n = some (r, a, z) ∧ 0 ≤ r ∧ (r < n ∨ r = 0) ∧ DrawSt l (m + 2) a := by
  obtain ⟨hl, hn, h0, h1⟩ := h
  unfold Zax.f
  by_cases hn1 : n ≤ 1
  · rw [if_pos hn1]
    exact ⟨0, _, _, rfl, by omega, .inr rfl, hl, hn, h0, by omega⟩
  rw [if_neg hn1]
  obtain ⟨b, z, e, b0, b1⟩ := Zbt.ok hl hn at_ seed h0 (by omega)
  rw [e]
  simp only [Option.bind_some]
  by_cases hn2 : n > 200
  rotate_left
  · rw [if_neg hn2, if_neg (by omega)]
    have := tmod_range (x := b) (n := n) b0 (by omega)
    exact ⟨_, _, _, rfl, this.1, .inl this.2, hl, hn, by omega, by omega⟩
  rw [if_pos hn2]
  obtain ⟨b', z', e', b0', b1'⟩ := Zbt.ok hl hn (at_ + 1) z (by omega) (by omega)
  rw [e']
  simp only [Option.bind_some]
  rw [if_neg (by omega), wrap_in (n := b * 256) (by omega) (by omega), wrap_in (n := b * 256 + b') (by omega) (by omega)]
  have := tmod_range (x := b * 256 + b') (n := n) (by omega) (by omega)
  exact ⟨_, _, _, rfl, this.1, .inl this.2, hl, hn, by omega, by omega⟩
theorem Zbd.ok {l : List Int} {m at_ : Int} (seed n : Int) (h : DrawSt l m at_) (hm : m ≤ 4000000000000000000) : ∃ r a z, Zbd.f l at_ seed n = some (r, a, z) ∧ DrawSt l (m + 2) a := by
  obtain ⟨r, a, z, e, _, _, hs⟩ := Zax.ok seed n h hm
  exact ⟨r == 0, a, z, by unfold Zbd.f; rw [e]; rfl, hs⟩
theorem Zbp.ok {l : List Int} {m at_ : Int} (seed : Int) (xs : List Int) (hx : 0 < xs.length) (h : DrawSt l m at_) (hm : m ≤ 4000000000000000000) : ∃ r a z, Zbp.f l at_ seed xs = some (r, a, z) ∧ r ∈ xs ∧ DrawSt l (m + 2) a := by
  obtain ⟨r, a, z, e, h0, h1, hs⟩ := Zax.ok seed (xs.length : Int) h hm
  have hr : r < (xs.length : Int) := by omega
  have hmem : rd xs r ∈ xs := by
    obtain ⟨i, rfl⟩ : ∃ i : Nat, r = i := ⟨r.toNat, by omega⟩
    rw [rd_nat xs i (by omega)]
    exact List.getElem_mem _
  exact ⟨rd xs r, a, z, by unfold Zbp.f; rw [e]; simp only [Option.bind_some]; rw [if_pos h0, if_pos hr], hmem, hs⟩
theorem Zby.f_val (a b : List Int) : Zby.f a b = some (decide (1048576 < a.length ∨ 1048576 < a.length + b.length)) := by
  unfold Zby.f
  by_cases h : (a.length : Int) > 1048576
  · rw [if_pos h, decide_eq_true (by omega)]
  · rw [if_neg h, wrap_in (by omega) (by omega)]
    by_cases h2 : (b.length : Int) > 1048576 - (a.length : Int)
    · rw [decide_eq_true h2, decide_eq_true (by omega)]
    · rw [decide_eq_false h2, decide_eq_false (by omega)]
theorem draw_start {l : List Int} (h : l.length ≤ 1048576) (hw : ∀ x ∈ l, (Lit.int .u8 x).wf = true) : DrawSt l 0 0 := by
  refine ⟨fun x hx => ?_, by omega, by omega, by omega⟩
  have := hw x hx
  simp [Lit.wf] at this
  have h1 : IntKind.u8.min = 0 := by decide
  have h2 : IntKind.u8.max = 255 := by decide
  rw [h1, h2] at this
  omega
def lessOf : List Int → List Int → Bool
  | [], [] => false
  | [], _ :: _ => true
  | _ :: _, [] => false
  | x :: a, y :: b => if x = y then lessOf a b else decide (x < y)
theorem wrap_up {n i : Nat} (h : i < n) (hn : n < 4611686018427387904) : wrap64 ((i : Int) + 1) = ((i + 1 : Nat) : Int) := by
  rw [wrap_in (by omega) (by omega)]
  rfl
theorem Zaq.L0_val (a b : List Int) (hl : a.length = b.length) (h : a.length < 4611686018427387904) : ∀ (m i : Nat), i + m = a.length → Zaq.L0 a b (a.length : Int) (i : Int) = some (decide (a.drop i = b.drop i))
  | 0, i, hm => by
    rw [Zaq.L0_eq, if_neg (by omega), List.drop_of_length_le (by omega), List.drop_of_length_le (by omega)]
    rfl
  | m + 1, i, hm => by
    rw [Zaq.L0_eq, if_pos (by omega), if_pos (by omega), if_pos (by omega), if_pos (by omega), rd_nat a i (by omega), rd_nat b i (by omega), wrap_up (n := a.length) (by omega) h, Zaq.L0_val a b hl h m (i + 1) (by omega), List.drop_eq_getElem_cons (l := a) (i := i) (by omega), List.drop_eq_getElem_cons (l := b) (i := i) (by omega)]
    by_cases e : a[i]'(by omega) = b[i]'(by omega)
    · rw [if_pos e]
      congr 1
      rw [decide_eq_decide, e]
      exact ⟨fun h => by rw [h], fun h => (List.cons.inj h).2⟩
    · rw [if_neg e, decide_eq_false (fun h => e (List.cons.inj h).1)]
theorem Zaq.F_val (a b : List Int) (h : a.length < 4611686018427387904) : Zaq.F a b = some (decide (a = b)) := by
  rw [Zaq.F_eq]
  by_cases e : a.length = b.length
  · rw [if_pos (by omega)]
    have := Zaq.L0_val a b e h a.length 0 (by omega)
    simpa using this
  · rw [if_neg (by omega), decide_eq_false (fun hab => e (by rw [hab]))]
theorem Zaw.L0_val (a b : List (List Int)) (hl : a.length = b.length) (h : a.length < 4611686018427387904) (hx : ∀ x ∈ a, x.length < 4611686018427387904) : ∀ (m i : Nat), i + m = a.length → Zaw.L0 a b (a.length : Int) (i : Int) = some (decide (a.drop i = b.drop i))
  | 0, i, hm => by
    rw [Zaw.L0_eq, if_neg (by omega), List.drop_of_length_le (by omega), List.drop_of_length_le (by omega)]
    rfl
  | m + 1, i, hm => by
    have ea : rd_L2 a (i : Int) = a[i]'(by omega) := by unfold rd_L2; rw [Int.toNat_natCast, List.getD_eq_getElem?_getD, List.getElem?_eq_getElem (by omega)]; rfl
    have eb : rd_L2 b (i : Int) = b[i]'(by omega) := by unfold rd_L2; rw [Int.toNat_natCast, List.getD_eq_getElem?_getD, List.getElem?_eq_getElem (by omega)]; rfl
    rw [Zaw.L0_eq, if_pos (by omega), if_pos (by omega), if_pos (by omega), if_pos (by omega), ea, eb, Zaq.F_val _ _ (hx _ (List.getElem_mem _)), wrap_up (n := a.length) (by omega) h, Zaw.L0_val a b hl h hx m (i + 1) (by omega), List.drop_eq_getElem_cons (l := a) (i := i) (by omega), List.drop_eq_getElem_cons (l := b) (i := i) (by omega)]
    simp only [Option.bind_some]
    by_cases e : a[i]'(by omega) = b[i]'(by omega)
    · rw [if_pos (by simp [e])]
      congr 1
      rw [decide_eq_decide, e]
      exact ⟨fun h => by rw [h], fun h => (List.cons.inj h).2⟩
    · rw [if_neg (by simp [e]), decide_eq_false (fun h => e (List.cons.inj h).1)]
theorem Zaw.F_val (a b : List (List Int)) (h : a.length < 4611686018427387904) (hx : ∀ x ∈ a, x.length < 4611686018427387904) : Zaw.F a b = some (decide (a = b)) := by
  rw [Zaw.F_eq]
  by_cases e : a.length = b.length
  · rw [if_pos (by omega)]
    have := Zaw.L0_val a b e h hx a.length 0 (by omega)
    simpa using this
  · rw [if_neg (by omega), decide_eq_false (fun hab => e (by rw [hab]))]
theorem Zbb.L0_val (n : Int) (a : List Int) (h : a.length < 4611686018427387904) : ∀ (m i : Nat), i + m = a.length → Zbb.L0 n a (a.length : Int) (i : Int) = some (decide (n ∈ a.drop i))
  | 0, i, hm => by
    rw [Zbb.L0_eq, if_neg (by omega), List.drop_of_length_le (by omega)]
    rfl
  | m + 1, i, hm => by
    rw [Zbb.L0_eq, if_pos (by omega), if_pos (by omega), if_pos (by omega), rd_nat a i (by omega), wrap_up (n := a.length) (by omega) h, Zbb.L0_val n a h m (i + 1) (by omega), List.drop_eq_getElem_cons (l := a) (i := i) (by omega)]
    by_cases e : a[i]'(by omega) = n
    · rw [if_pos e, decide_eq_true (by rw [e]; exact List.mem_cons_self)]
    · rw [if_neg e]
      congr 1
      rw [decide_eq_decide, List.mem_cons]
      exact ⟨.inr, fun h => h.resolve_left (fun h => e h.symm)⟩
theorem Zbb.F_val (a : List Int) (n : Int) (h : a.length < 4611686018427387904) : Zbb.F a n = some (decide (n ∈ a)) := by
  rw [Zbb.F_eq]
  have := Zbb.L0_val n a h a.length 0 (by omega)
  simpa using this
theorem Zas.L0_val (a b : List Int) (h : a.length < 4611686018427387904) : ∀ (m i : Nat), i + m = a.length → i ≤ b.length → Zas.L0 a b (i : Int) = some (lessOf (a.drop i) (b.drop i))
  | 0, i, hm, hb => by
    rw [Zas.L0_eq, if_neg (by omega), Zas.J1_eq, if_neg (by decide), List.drop_of_length_le (l := a) (by omega)]
    by_cases e : i < b.length
    · rw [List.drop_eq_getElem_cons (l := b) (i := i) e, lessOf, decide_eq_true (by omega)]
    · rw [List.drop_of_length_le (l := b) (by omega), lessOf, decide_eq_false (by omega)]
  | m + 1, i, hm, hb => by
    rw [Zas.L0_eq, if_pos (by omega), Zas.J1_eq, List.drop_eq_getElem_cons (l := a) (i := i) (by omega)]
    by_cases e : i < b.length
    · rw [if_pos (by simpa using e), if_pos (by omega), if_pos (by omega), if_pos (by omega), rd_nat a i (by omega), rd_nat b i e, List.drop_eq_getElem_cons (l := b) (i := i) e, lessOf, wrap_up (n := a.length) (by omega) h, Zas.L0_val a b h m (i + 1) (by omega) (by omega)]
      by_cases e2 : a[i]'(by omega) = b[i]
      · rw [if_pos e2, if_pos e2]
      · rw [if_neg e2, if_neg e2]
    · rw [if_neg (by simpa using e), List.drop_of_length_le (l := b) (by omega), lessOf, decide_eq_false (by omega)]
theorem Zas.F_val (a b : List Int) (h : a.length < 4611686018427387904) : Zas.F a b = some (lessOf a b) := by
  rw [Zas.F_eq]
  have := Zas.L0_val a b h a.length 0 (by omega) (by omega)
  simpa using this
theorem len_le_of_sub : ∀ (A B : List Int), A.Nodup → (∀ x ∈ A, x ∈ B) → A.length ≤ B.length
  | [], B, _, _ => by simp
  | x :: A, B, hn, h => by
    obtain ⟨h1, h2⟩ := List.nodup_cons.1 hn
    have hx := h x (by simp)
    have ih := len_le_of_sub A (B.erase x) h2 (fun y hy => (List.mem_erase_of_ne (fun e => h1 (by rw [← e]; exact hy))).2 (h y (by simp [hy])))
    rw [List.length_erase_of_mem hx] at ih
    have : 0 < B.length := List.length_pos_of_mem hx
    simp only [List.length_cons]
    omega
theorem wrap_succ (i : Nat) (h : i < 4611686018427387904) : wrap64 ((i : Int) + 1) = ((i + 1 : Nat) : Int) := by rw [wrap_in (by omega) (by omega)]; rfl
def edgeL (ps l : List Int) (i : Nat) : Int := ((rd l (i : Int) - rd l (rd ps (i : Int))).natAbs : Int)
def edgesB (ps l : List Int) : List Int := (List.range' 1 (l.length - 1)).map (edgeL ps l)
structure TreeOk (ps : List Int) : Prop where
  pos : 1 ≤ ps.length
  up : ∀ i : Nat, 1 ≤ i → i < ps.length → 0 ≤ rd ps (i : Int) ∧ rd ps (i : Int) < (i : Int)
theorem rd_app {p q : List Int} {i : Int} (h0 : 0 ≤ i) (h : i < (p.length : Int)) : rd (p ++ q) i = rd p i := by
  obtain ⟨n, rfl⟩ : ∃ n : Nat, i = n := ⟨i.toNat, by omega⟩
  have h1 : n < p.length := by omega
  rw [rd_nat _ n (by rw [List.length_append]; omega), rd_nat _ n h1, List.getElem_append_left h1]
theorem edgeL_app {ps p q : List Int} (ht : TreeOk ps) {i : Nat} (h1 : 1 ≤ i) (hi : i < p.length) (hp : i < ps.length) : edgeL ps (p ++ q) i = edgeL ps p i := by
  have := ht.up i h1 hp
  unfold edgeL
  rw [rd_app (by omega) (by omega), rd_app (by omega) (by omega)]
theorem edgesB_app {ps : List Int} (ht : TreeOk ps) (p q : List Int) (hl : (p ++ q).length ≤ ps.length) : ∃ t, edgesB ps (p ++ q) = edgesB ps p ++ t := by
  by_cases hp : p.length = 0
  · obtain rfl := List.length_eq_zero_iff.1 hp
    exact ⟨_, rfl⟩
  rw [List.length_append] at hl
  unfold edgesB
  rw [List.length_append, show p.length + q.length - 1 = (p.length - 1) + q.length by omega, ← List.range'_append_1, List.map_append]
  refine ⟨_, congrArg (· ++ _) (List.map_congr_left fun i hi => ?_)⟩
  rw [List.mem_range'_1] at hi
  exact edgeL_app ht (by omega) (by omega) (by omega)
theorem edgesB_snoc {ps : List Int} (ht : TreeOk ps) (p : List Int) (y : Int) (h0 : ¬ p.length = 0) (hl : p.length < ps.length) : edgesB ps (p ++ [y]) = edgesB ps p ++ [((y - rd p (rd ps (p.length : Int))).natAbs : Int)] := by
  have hu := ht.up p.length (by omega) hl
  have e : rd (p ++ [y]) (p.length : Int) = y := rd_mid p y []
  have e2 : edgeL ps (p ++ [y]) p.length = ((y - rd p (rd ps (p.length : Int))).natAbs : Int) := by
    unfold edgeL
    rw [e, rd_app (by omega) (by omega)]
  unfold edgesB
  rw [List.length_append, List.length_singleton, show p.length + 1 - 1 = (p.length - 1) + 1 by omega, ← List.range'_append_1, List.map_append, List.range'_one, List.map_singleton, show 1 + (p.length - 1) = p.length by omega, e2]
  refine congrArg (· ++ _) (List.map_congr_left fun i hi => ?_)
  rw [List.mem_range'_1] at hi
  exact edgeL_app ht (by omega) (by omega) (by omega)
theorem edgesB_len (ps l : List Int) : (edgesB ps l).length = l.length - 1 := by unfold edgesB; simp
def grNext (ps p : List Int) (y : Nat) : Bool := !decide ((y : Int) ∈ p) && decide ((edgesB ps (p ++ [(y : Int)])).Nodup)
def grRun (rec : List Int → List (List Int)) (g : Nat → Bool) (p : List Int) : Nat → Nat → List (List Int)
  | 0, _ => []
  | m + 1, y => (if g y = true then rec (p ++ [(y : Int)]) else []) ++ grRun rec g p m (y + 1)
def grList (ps : List Int) : Nat → List Int → List (List Int)
  | 0, _ => []
  | k + 1, p => if p.length = ps.length then [p] else grRun (grList ps k) (grNext ps p) p ps.length 0
theorem mem_grRun {rec : List Int → List (List Int)} {g : Nat → Bool} {p l : List Int} : ∀ (m y : Nat), l ∈ grRun rec g p m y ↔ ∃ z : Nat, y ≤ z ∧ z < y + m ∧ g z = true ∧ l ∈ rec (p ++ [(z : Int)])
  | 0, y => ⟨fun h => (nomatch h), fun ⟨z, h1, h2, _⟩ => absurd h2 (by omega)⟩
  | m + 1, y => by
    unfold grRun
    rw [List.mem_append, mem_grRun m (y + 1)]
    constructor
    · rintro (h | ⟨z, h1, h2, h3⟩)
      · split at h
        · exact ⟨y, by omega, by omega, by assumption, h⟩
        · cases h
      · exact ⟨z, by omega, by omega, h3⟩
    · rintro ⟨z, h1, h2, h3, h4⟩
      by_cases e : z = y
      · subst e
        exact .inl (by rw [if_pos h3]; exact h4)
      · exact .inr ⟨z, by omega, by omega, h3, h4⟩
theorem grRun_len {rec : List Int → List (List Int)} {g : Nat → Bool} {p : List Int} {B : Nat} (hB : ∀ q, (rec q).length ≤ B) : ∀ (m y : Nat), (grRun rec g p m y).length ≤ m * B
  | 0, _ => by simp [grRun]
  | m + 1, y => by
    unfold grRun
    rw [List.length_append, Nat.succ_mul]
    have h1 := grRun_len (g := g) (p := p) hB m (y + 1)
    have h2 : (if g y = true then rec (p ++ [(y : Int)]) else []).length ≤ B := by
      split
      · exact hB _
      · exact Nat.zero_le _
    omega
theorem grList_len (ps : List Int) (hp : 1 ≤ ps.length) : ∀ (k : Nat) (p : List Int), (grList ps k p).length ≤ ps.length ^ k
  | 0, _ => Nat.zero_le _
  | k + 1, p => by
    unfold grList
    split
    · exact Nat.one_le_pow _ _ hp
    · rw [Nat.pow_succ, Nat.mul_comm]
      exact grRun_len (grList_len ps hp k) _ _
structure GrOk (ps l : List Int) : Prop where
  len : l.length = ps.length
  rng : ∀ x ∈ l, 0 ≤ x ∧ x < (ps.length : Int)
  nod : l.Nodup
  edg : (edgesB ps l).Nodup
theorem grList_pre (ps : List Int) : ∀ (k : Nat) (p l : List Int), l ∈ grList ps k p → ∃ t, l = p ++ t
  | 0, _, _, h => by cases h
  | k + 1, p, l, h => by
    unfold grList at h
    split at h
    · exact ⟨[], by rw [List.mem_singleton.1 h, List.append_nil]⟩
    · obtain ⟨z, _, _, _, hz⟩ := (mem_grRun _ _).1 h
      obtain ⟨t, rfl⟩ := grList_pre ps k _ _ hz
      exact ⟨(z : Int) :: t, by simp⟩
theorem mem_grList {ps : List Int} (ht : TreeOk ps) (l : List Int) : ∀ (k : Nat) (p : List Int), ps.length < p.length + k → p.length ≤ ps.length → p.Nodup → (edgesB ps p).Nodup → (∀ x ∈ p, 0 ≤ x ∧ x < (ps.length : Int)) → (l ∈ grList ps k p ↔ (∃ t, l = p ++ t) ∧ GrOk ps l)
  | 0, p, hk, hp, _, _, _ => by omega
  | k + 1, p, hk, hp, hn, he, hr => by
    unfold grList
    by_cases hl : p.length = ps.length
    · rw [if_pos hl, List.mem_singleton]
      constructor
      · rintro rfl
        exact ⟨⟨[], by simp⟩, hl, hr, hn, he⟩
      · rintro ⟨⟨t, rfl⟩, h⟩
        have h1 := h.len
        rw [List.length_append] at h1
        have h2 : t = [] := List.length_eq_zero_iff.1 (by omega)
        rw [h2, List.append_nil]
    rw [if_neg hl, mem_grRun]
    constructor
    · rintro ⟨z, _, hz, hg, hm⟩
      unfold grNext at hg
      simp only [Bool.and_eq_true, Bool.not_eq_true', decide_eq_false_iff_not, decide_eq_true_eq] at hg
      have hn2 : (p ++ [(z : Int)]).Nodup := by
        rw [List.nodup_append]
        exact ⟨hn, by simp, fun a ha b hb e => hg.1 (by rw [List.mem_singleton] at hb; rw [← hb, ← e]; exact ha)⟩
      have hr2 : ∀ x ∈ p ++ [(z : Int)], 0 ≤ x ∧ x < (ps.length : Int) := by
        intro x hx
        rcases List.mem_append.1 hx with hx | hx
        · exact hr x hx
        · rw [List.mem_singleton] at hx
          omega
      obtain ⟨⟨t, rfl⟩, h⟩ := (mem_grList ht l k _ (by rw [List.length_append, List.length_singleton]; omega) (by rw [List.length_append, List.length_singleton]; omega) hn2 hg.2 hr2).1 hm
      exact ⟨⟨(z : Int) :: t, by simp⟩, h⟩
    · rintro ⟨⟨t, rfl⟩, h⟩
      have h1 := h.len
      rw [List.length_append] at h1
      cases t with
      | nil => rw [List.length_nil] at h1; omega
      | cons x t =>
        have hx := h.rng x (by simp)
        obtain ⟨z, rfl⟩ : ∃ z : Nat, x = z := ⟨x.toNat, by omega⟩
        have e : p ++ (z : Int) :: t = (p ++ [(z : Int)]) ++ t := by simp
        have hn3 := h.nod
        have he3 := h.edg
        obtain ⟨t2, e2⟩ := edgesB_app ht (p ++ [(z : Int)]) t (by rw [← e, h.len]; exact Nat.le_refl _)
        rw [e, e2, List.nodup_append] at he3
        rw [e, List.nodup_append] at hn3
        have hn4 := hn3.1
        rw [List.nodup_append] at hn4
        have hz : (z : Int) ∉ p := fun hm => hn4.2.2 _ hm _ (by simp) rfl
        have hr2 : ∀ x ∈ p ++ [(z : Int)], 0 ≤ x ∧ x < (ps.length : Int) := by
          intro x hx'
          rcases List.mem_append.1 hx' with hx' | hx'
          · exact hr x hx'
          · rw [List.mem_singleton] at hx'
            omega
        refine ⟨z, by omega, by omega, ?_, ?_⟩
        · unfold grNext
          rw [decide_eq_false hz, decide_eq_true he3.1]
          rfl
        · rw [mem_grList ht _ k _ (by rw [List.length_append, List.length_singleton]; omega) (by rw [List.length_append, List.length_singleton]; rw [List.length_cons] at h1; omega) hn3.1 he3.1 hr2]
          exact ⟨⟨t, e⟩, h⟩
def lexB : List Int → List Int → Bool
  | x :: a, y :: b => if x = y then lexB a b else decide (x < y)
  | [], _ :: _ => true
  | _, [] => false
theorem lexB_app (a b : List Int) : ∀ p : List Int, lexB (p ++ a) (p ++ b) = lexB a b
  | [] => rfl
  | x :: p => by
    show (if x = x then lexB (p ++ a) (p ++ b) else decide (x < x)) = _
    rw [if_pos rfl, lexB_app a b p]
theorem lexB_self (a : List Int) : lexB a a = false := by
  have := lexB_app [] [] a
  simpa [lexB] using this
theorem grRun_first {rec : List Int → List (List Int)} {g : Nat → Bool} {p : List Int} (hpre : ∀ q l, l ∈ rec q → ∃ t, l = q ++ t) (hrec : ∀ q h l, (rec q).head? = some h → l ∈ rec q → lexB l h = false) : ∀ (m y : Nat) (h l : List Int), (grRun rec g p m y).head? = some h → l ∈ grRun rec g p m y → lexB l h = false
  | 0, _, _, _, _, hl => by cases hl
  | m + 1, y, h, l, hh, hl => by
    unfold grRun at hh hl
    cases hc : (if g y = true then rec (p ++ [(y : Int)]) else []) with
    | nil =>
      rw [hc, List.nil_append] at hh hl
      exact grRun_first hpre hrec m (y + 1) h l hh hl
    | cons x xs =>
      rw [hc] at hh hl
      have hx : x = h := by simpa using hh
      subst hx
      have hg : g y = true := by
        by_cases hg : g y = true
        · exact hg
        · rw [if_neg hg] at hc
          cases hc
      rw [if_pos hg] at hc
      rcases List.mem_append.1 hl with hl | hl
      · exact hrec _ x l (by rw [hc]; rfl) (by rw [hc]; exact hl)
      · obtain ⟨z, hz, _, _, hm⟩ := (mem_grRun _ _).1 hl
        obtain ⟨t, rfl⟩ := hpre _ _ hm
        obtain ⟨t2, rfl⟩ := hpre _ _ (show x ∈ rec (p ++ [(y : Int)]) by rw [hc]; simp)
        rw [List.append_assoc, List.append_assoc, lexB_app]
        show (if (z : Int) = (y : Int) then _ else decide ((z : Int) < (y : Int))) = false
        rw [if_neg (by omega)]
        exact decide_eq_false (by omega)
theorem grList_first (ps : List Int) : ∀ (k : Nat) (p h l : List Int), (grList ps k p).head? = some h → l ∈ grList ps k p → lexB l h = false
  | 0, _, _, _, _, hl => by cases hl
  | k + 1, p, h, l, hh, hl => by
    unfold grList at hh hl
    split at hh
    · rename_i hp
      rw [if_pos hp, List.mem_singleton] at hl
      have : p = h := by simpa using hh
      rw [hl, this]
      exact lexB_self h
    · rename_i hp
      rw [if_neg hp] at hl
      exact grRun_first (fun q l => grList_pre ps k q l) (fun q h l => grList_first ps k q h l) _ _ h l hh hl
theorem grRun_nodup {rec : List Int → List (List Int)} {g : Nat → Bool} {p : List Int} (hpre : ∀ q l, l ∈ rec q → ∃ t, l = q ++ t) (hrec : ∀ q, (rec q).Nodup) : ∀ (m y : Nat), (grRun rec g p m y).Nodup
  | 0, _ => List.nodup_nil
  | m + 1, y => by
    unfold grRun
    rw [List.nodup_append]
    refine ⟨?_, grRun_nodup hpre hrec m (y + 1), fun a ha b hb e => ?_⟩
    · split
      · exact hrec _
      · exact List.nodup_nil
    · subst e
      split at ha
      · obtain ⟨z, hz, _, _, hm⟩ := (mem_grRun _ _).1 hb
        obtain ⟨t, e1⟩ := hpre _ _ ha
        obtain ⟨t2, e2⟩ := hpre _ _ hm
        rw [e1, List.append_assoc, List.append_assoc] at e2
        have := List.append_cancel_left e2
        simp at this
        omega
      · cases ha
theorem grList_nodup (ps : List Int) : ∀ (k : Nat) (p : List Int), (grList ps k p).Nodup
  | 0, _ => List.nodup_nil
  | k + 1, p => by
    unfold grList
    split
    · simp
    · exact grRun_nodup (fun q l => grList_pre ps k q l) (grList_nodup ps k) _ _
theorem even_inv (f : List Int → List Int) : ∀ (n : Nat) (L : List (List Int)), L.length = n → L.Nodup → (∀ x ∈ L, f x ∈ L ∧ f (f x) = x ∧ f x ≠ x) → n % 2 = 0 := by
  intro n
  induction n using Nat.strongRecOn with
  | ind n ih =>
    intro L hl hn hf
    cases L with
    | nil => rw [List.length_nil] at hl; omega
    | cons x t =>
      obtain ⟨h1, h2, h3⟩ := hf x (by simp)
      have h4 : f x ∈ t := (List.mem_cons.1 h1).resolve_left h3
      rw [List.nodup_cons] at hn
      have h5 : (t.erase (f x)).length = n - 2 := by
        rw [List.length_erase_of_mem h4]
        rw [List.length_cons] at hl
        omega
      have h6 : 1 ≤ t.length := List.length_pos_of_mem h4
      rw [List.length_cons] at hl
      have := ih (n - 2) (by omega) (t.erase (f x)) h5 (hn.2.erase _) (fun z hz => by
        have hz1 := (hn.2.mem_erase_iff).1 hz
        obtain ⟨g1, g2, g3⟩ := hf z (by simp [hz1.2])
        refine ⟨(hn.2.mem_erase_iff).2 ⟨fun e => ?_, (List.mem_cons.1 g1).resolve_left fun e => ?_⟩, g2, g3⟩
        · have : z = x := by rw [← g2, e, h2]
          exact hn.1 (this ▸ hz1.2)
        · exact hz1.1 (by rw [← g2, e]))
      omega
theorem rd_in {f : List Int} {i : Int} (h0 : 0 ≤ i) (h : i < (f.length : Int)) : rd f i ∈ f := by
  obtain ⟨n, rfl⟩ : ∃ n : Nat, i = n := ⟨i.toNat, by omega⟩
  rw [rd_nat f n (by omega)]
  exact List.getElem_mem _
def treeB (l : List Int) : Bool := decide (1 ≤ l.length ∧ l.length ≤ 9) && decide (rd l 0 = -1) && (List.range' 1 (l.length - 1)).all fun i => decide (0 ≤ rd l (i : Int)) && decide (rd l (i : Int) < (i : Int))
structure TreeIs (l : List Int) : Prop where
  len : 1 ≤ l.length ∧ l.length ≤ 9
  top : rd l 0 = -1
  up : ∀ i : Nat, 1 ≤ i → i < l.length → 0 ≤ rd l (i : Int) ∧ rd l (i : Int) < (i : Int)
theorem treeB_is {l : List Int} (h : treeB l = true) : TreeIs l := by
  unfold treeB at h
  simp only [Bool.and_eq_true, decide_eq_true_eq, List.all_eq_true] at h
  exact ⟨h.1.1, h.1.2, fun i h1 hi => h.2 i (List.mem_range'_1.2 (by omega))⟩
theorem Zae.L0_val (l : List Int) (hl : l.length ≤ 1000) : ∀ (m x : Nat), x + m = l.length → Zae.L0 l (x : Int) = some ((List.range' x m).all fun i => decide (0 ≤ rd l (i : Int)) && decide (rd l (i : Int) < (i : Int)))
  | 0, x, h => by rw [Zae.L0_eq, if_neg (by omega)]; rfl
  | m + 1, x, h => by
    rw [Zae.L0_eq, if_pos (by omega), if_pos (by omega), wrap_succ x (by omega), Zae.L0_val l hl m (x + 1) (by omega), List.range'_succ, List.all_cons]
    by_cases h1 : rd l (x : Int) < 0
    · rw [if_pos h1, decide_eq_false (by omega : ¬ 0 ≤ rd l (x : Int))]
      rfl
    rw [if_neg h1, decide_eq_true (by omega : 0 ≤ rd l (x : Int))]
    by_cases h2 : rd l (x : Int) ≥ (x : Int)
    · rw [if_pos h2, decide_eq_false (by omega : ¬ rd l (x : Int) < (x : Int))]
      rfl
    · rw [if_neg h2, decide_eq_true (by omega : rd l (x : Int) < (x : Int))]
      rfl
theorem Zae.F_val (l : List Int) (hl : l.length ≤ 1000) : Zae.F l = some (treeB l) := by
  have hN : Zbw.f (l.length : Int) = some (decide (1 ≤ l.length ∧ l.length ≤ 9)) := by
    unfold Zbw.f
    by_cases h1 : 1 ≤ l.length
    · rw [if_pos (by omega)]
      by_cases h2 : l.length ≤ 9
      · rw [decide_eq_true (by omega), decide_eq_true ⟨h1, h2⟩]
      · rw [decide_eq_false (by omega), decide_eq_false (by omega)]
    · rw [if_neg (by omega), decide_eq_false (by omega)]
  rw [Zae.F_eq, hN]
  unfold treeB
  simp only [Option.bind_some]
  by_cases h : 1 ≤ l.length ∧ l.length ≤ 9
  rotate_left
  · rw [decide_eq_false h, if_neg (by decide), Zae.J0_eq, if_pos rfl]
    rfl
  rw [decide_eq_true h, if_pos rfl, if_pos (by omega), Zae.J0_eq]
  by_cases h2 : rd l 0 = -1
  · rw [h2, if_neg (by decide), decide_eq_true rfl]
    have := Zae.L0_val l hl (l.length - 1) 1 (by omega)
    exact this
  · rw [if_pos (bne_iff_ne.2 h2), decide_eq_false h2]
    rfl
theorem Zah.L0_val (l : List Int) (hl : l.length ≤ 1000) : ∀ (m x : Nat), 1 ≤ x → x + m = l.length → Zah.L0 l (x : Int) = some ((List.range' x m).all fun i => decide (0 ≤ rd l (i : Int)) && decide (rd l (i : Int) < (i : Int)))
  | 0, x, h0, h => by rw [Zah.L0_eq, if_neg (by omega)]; rfl
  | m + 1, x, h0, h => by
    rw [Zah.L0_eq, if_pos (by omega), if_pos (by omega), wrap_succ x (by omega), Zah.L0_val l hl m (x + 1) (by omega) (by omega), List.range'_succ, List.all_cons, wrap_in (n := (x : Int) - 1) (by omega) (by omega), Zbv.f_val]
    simp only [Option.bind_some]
    rw [show decide (rd l (x : Int) ≤ (x : Int) - 1) = decide (rd l (x : Int) < (x : Int)) from by congr 1; exact propext ⟨fun h => by omega, fun h => by omega⟩]
    cases hb : (decide (0 ≤ rd l (x : Int)) && decide (rd l (x : Int) < (x : Int))) with
    | true => rw [if_pos rfl, Bool.true_and]
    | false => rw [if_neg (by decide), Bool.false_and]
theorem Zah.F_val (l : List Int) (hl : l.length ≤ 1000) : Zah.F l = some (treeB l) := by
  rw [Zah.F_eq, Zbv.f_val]
  unfold treeB
  simp only [Option.bind_some]
  rw [show (decide ((1 : Int) ≤ (l.length : Int)) && decide ((l.length : Int) ≤ 9)) = decide (1 ≤ l.length ∧ l.length ≤ 9) from by
    by_cases h : 1 ≤ l.length ∧ l.length ≤ 9
    · rw [decide_eq_true (by omega), decide_eq_true (by omega), decide_eq_true h]; rfl
    · rw [decide_eq_false h, Bool.and_eq_false_iff, decide_eq_false_iff_not, decide_eq_false_iff_not]
      omega]
  by_cases h : 1 ≤ l.length ∧ l.length ≤ 9
  rotate_left
  · rw [decide_eq_false h, if_neg (by decide), Zah.J0_eq, if_pos rfl]
    rfl
  rw [decide_eq_true h, if_pos rfl, if_pos (by omega), Zah.J0_eq]
  by_cases h2 : rd l 0 = -1
  · rw [h2, if_neg (by decide), decide_eq_true rfl]
    have := Zah.L0_val l hl (l.length - 1) 1 (Nat.le_refl _) (by omega)
    exact this
  · rw [if_pos (bne_iff_ne.2 h2), decide_eq_false h2]
    rfl
theorem TreeIs.ok {l : List Int} (h : TreeIs l) : TreeOk l := ⟨h.len.1, h.up⟩
theorem take_one (l : List Int) (i : Nat) (h : i < l.length) : l.take (i + 1) = l.take i ++ [rd l (i : Int)] := by rw [List.take_add_one, List.getElem?_eq_getElem h, rd_nat l i h]; rfl
theorem take_nodup {l : List Int} {i : Nat} (h : i < l.length) (hn : (l.take i).Nodup) : (rd l (i : Int) ∉ l.take i ∧ (l.take (i + 1)).Nodup) ∨ (rd l (i : Int) ∈ l.take i ∧ ¬ l.Nodup) := by
  by_cases hm : rd l (i : Int) ∈ l.take i
  · refine .inr ⟨hm, fun hl => ?_⟩
    have h2 := hl.sublist (List.take_sublist (i + 1) l)
    rw [take_one l i h, List.nodup_append] at h2
    exact h2.2.2 _ hm _ (by simp) rfl
  · refine .inl ⟨hm, ?_⟩
    rw [take_one l i h, List.nodup_append]
    exact ⟨hn, by simp, fun a ha b hb e => hm (by rw [List.mem_singleton] at hb; rw [← hb, ← e]; exact ha)⟩
def labB (n : Nat) (l : List Int) : Bool := decide (l.length = n) && l.all (fun x => decide (0 ≤ x) && decide (x < (n : Int))) && decide l.Nodup
structure LabIs (n : Nat) (l : List Int) : Prop where
  len : l.length = n
  rng : ∀ x ∈ l, 0 ≤ x ∧ x < (n : Int)
  nod : l.Nodup
theorem labB_is {n : Nat} {l : List Int} : labB n l = true ↔ LabIs n l := by
  unfold labB
  simp only [Bool.and_eq_true, decide_eq_true_eq, List.all_eq_true]
  exact ⟨fun h => ⟨h.1.1, h.1.2, h.2⟩, fun h => ⟨⟨h.1, h.2⟩, h.3⟩⟩
theorem labB_false {n : Nat} {l : List Int} (h : ¬ LabIs n l) : labB n l = false := Bool.eq_false_iff.2 fun h2 => h (labB_is.1 h2)
theorem Zau.L0_val (l : List Int) (hl : l.length ≤ 1000) : ∀ (m i : Nat), i + m = l.length → (l.take i).Nodup → Zau.L0 l l (l.length : Int) (i : Int) = some (decide l.Nodup)
  | 0, i, hm, hn => by
    rw [Zau.L0_eq, if_neg (by omega)]
    rw [List.take_of_length_le (by omega)] at hn
    rw [decide_eq_true hn]
  | m + 1, i, hm, hn => by
    rw [Zau.L0_eq, if_pos (by omega), if_pos (by omega), if_pos (by omega), if_pos (by omega), Int.toNat_natCast, Zan.F_val _ _ (by rw [List.length_take]; omega)]
    simp only [Option.bind_some]
    rcases take_nodup (by omega) hn with ⟨h1, h2⟩ | ⟨h1, h2⟩
    · rw [decide_eq_false h1, if_neg (by decide), wrap_succ i (by omega)]
      exact Zau.L0_val l hl m (i + 1) (by omega) h2
    · rw [decide_eq_true h1, if_pos rfl, decide_eq_false h2]
theorem Zau.F_val (l : List Int) (hl : l.length ≤ 1000) : Zau.F l = some (decide l.Nodup) := by
  rw [Zau.F_eq]
  exact Zau.L0_val l hl l.length 0 (by omega) (by simp)
theorem Zam.L0_val (n : Nat) (l : List Int) (hl : l.length ≤ 1000) : ∀ (m i : Nat), i + m = l.length → (l.take i).Nodup → (∀ x ∈ l.take i, 0 ≤ x ∧ x < (n : Int)) → Zam.L0 (n : Int) l l (l.length : Int) (i : Int) = some (labB n l)
  | 0, i, hm, hn, hr => by
    rw [List.take_of_length_le (by omega)] at hn hr
    rw [Zam.L0_eq, if_neg (by omega)]
    by_cases h : l.length = n
    · rw [labB_is.2 ⟨h, hr, hn⟩, h, beq_self_eq_true]
    · rw [labB_false fun h2 => h h2.len]
      exact congrArg some (beq_eq_false_iff_ne.2 (by omega))
  | m + 1, i, hm, hn, hr => by
    have hx : rd l (i : Int) ∈ l := rd_in (by omega) (by omega)
    rw [Zam.L0_eq, if_pos (by omega), if_pos (by omega), if_pos (by omega)]
    by_cases h0 : rd l (i : Int) < 0
    · rw [if_pos h0, labB_false fun h2 => by have := h2.rng _ hx; omega]
    rw [if_neg h0]
    by_cases h1 : rd l (i : Int) ≥ (n : Int)
    · rw [if_pos h1, labB_false fun h2 => by have := h2.rng _ hx; omega]
    rw [if_neg h1, if_pos (by omega), Int.toNat_natCast, Zan.F_val _ _ (by rw [List.length_take]; omega)]
    simp only [Option.bind_some]
    rcases take_nodup (by omega) hn with ⟨h2, h3⟩ | ⟨h2, h3⟩
    · rw [decide_eq_false h2, if_neg (by decide), wrap_succ i (by omega)]
      refine Zam.L0_val n l hl m (i + 1) (by omega) h3 fun x hx => ?_
      rw [take_one l i (by omega)] at hx
      rcases List.mem_append.1 hx with hx | hx
      · exact hr x hx
      · rw [List.mem_singleton] at hx
        omega
    · rw [decide_eq_true h2, if_pos rfl, labB_false fun h4 => h3 h4.nod]
theorem Zam.F_val (n : Nat) (l : List Int) (hl : l.length ≤ 1000) : Zam.F (n : Int) l = some (labB n l) := by
  rw [Zam.F_eq]
  exact Zam.L0_val n l hl l.length 0 (by omega) (by simp) (by simp)
theorem Zai.L0_val (l : List Int) (hl : l.length ≤ 1000) : ∀ (m i : Nat), i + m = l.length → (l.take i).Nodup → Zai.L0 l l (l.length : Int) (i : Int) = some (decide l.Nodup)
  | 0, i, hm, hn => by
    rw [Zai.L0_eq, if_neg (by omega)]
    rw [List.take_of_length_le (by omega)] at hn
    rw [decide_eq_true hn]
  | m + 1, i, hm, hn => by
    rw [Zai.L0_eq, if_pos (by omega), if_pos (by omega), if_pos (by omega), if_pos (by omega), Int.toNat_natCast, Zav.F_val _ _ (by rw [List.length_take]; omega)]
    simp only [Option.bind_some]
    rcases take_nodup (by omega) hn with ⟨h1, h2⟩ | ⟨h1, h2⟩
    · rw [decide_eq_false h1, if_neg (by decide), wrap_succ i (by omega)]
      exact Zai.L0_val l hl m (i + 1) (by omega) h2
    · rw [decide_eq_true h1, if_pos rfl, decide_eq_false h2]
theorem Zai.F_val (n : Nat) (l : List Int) (hl : l.length ≤ 1000) (hn : n ≤ 1000) : Zai.F (n : Int) l = some (labB n l) := by
  rw [Zai.F_eq]
  by_cases h : l.length = n
  rotate_left
  · rw [if_neg (by omega), Zai.J0_eq, if_pos rfl, labB_false fun h2 => h h2.len]
  rw [if_pos (by omega), Zay.F_val l 0 _ (by omega), wrap_in (by omega) (by omega)]
  simp only [Option.bind_some]
  have e : l.all (fun x => decide (0 ≤ x) && decide (x ≤ (n : Int) - 1)) = l.all (fun x => decide (0 ≤ x) && decide (x < (n : Int))) := by
    congr 1
    funext x
    rw [show decide (x ≤ (n : Int) - 1) = decide (x < (n : Int)) from by congr 1; exact propext ⟨fun h => by omega, fun h => by omega⟩]
  rw [e]
  unfold labB
  rw [decide_eq_true h, Bool.true_and]
  cases hb : l.all (fun x => decide (0 ≤ x) && decide (x < (n : Int))) with
  | true =>
    rw [Bool.not_true, Zai.J0_eq, if_neg (by decide), Bool.true_and]
    exact Zai.L0_val l hl l.length 0 (by omega) (by simp)
  | false => rw [Bool.not_false, Zai.J0_eq, if_pos rfl, Bool.false_and]
theorem apart_val {a b : Int} (ha : -1000 ≤ a ∧ a ≤ 1000) (hb : -1000 ≤ b ∧ b ≤ 1000) : Zbz.f a b = some (((a - b).natAbs : Nat) : Int) := by
  unfold Zbz.f
  rw [wrap_in (by omega) (by omega), wrap_in (by omega) (by omega)]
  refine congrArg some ?_
  unfold mx
  split <;> omega
theorem edges_step (ps l : List Int) (i : Nat) (h1 : 1 ≤ i) : (List.range' 1 (i - 1)).map (edgeL ps l) ++ [edgeL ps l i] = (List.range' 1 (i + 1 - 1)).map (edgeL ps l) := by
  rw [show i + 1 - 1 = (i - 1) + 1 by omega, ← List.range'_append_1, List.map_append, List.range'_one, List.map_singleton, show 1 + (i - 1) = i by omega]
theorem Zaj.L0_val {ps l : List Int} (ht : TreeOk ps) (hl : l.length ≤ ps.length) (h1000 : l.length ≤ 1000) (hr : ∀ x ∈ l, -1000 ≤ x ∧ x ≤ 1000) : ∀ (m i : Nat), 1 ≤ i → i + m = l.length → Zaj.L0 ps l ((List.range' 1 (i - 1)).map (edgeL ps l)) (i : Int) = some (edgesB ps l)
  | 0, i, h1, hm => by
    rw [Zaj.L0_eq, if_neg (by omega)]
    unfold edgesB
    rw [show i = l.length by omega]
  | m + 1, i, h1, hm => by
    have hu := ht.up i h1 (by omega)
    have g1 := hr _ (rd_in (f := l) (i := (i : Int)) (by omega) (by omega))
    have g2 := hr _ (rd_in (f := l) (i := rd ps (i : Int)) hu.1 (by omega))
    rw [Zaj.L0_eq, if_pos (by omega), if_pos (by omega), if_pos (by omega), if_pos hu.1, if_pos (by omega), apart_val g1 g2]
    simp only [Option.bind_some]
    rw [if_pos (by rw [List.length_map, List.length_range']; omega), wrap_succ i (by omega)]
    have e := edges_step ps l i h1
    rw [show edgeL ps l i = (((rd l (i : Int) - rd l (rd ps (i : Int))).natAbs : Nat) : Int) from rfl] at e
    rw [e]
    exact Zaj.L0_val ht hl h1000 hr m (i + 1) (by omega) (by omega)
theorem Zaj.F_val {ps l : List Int} (ht : TreeOk ps) (hl : l.length ≤ ps.length) (h1000 : l.length ≤ 1000) (hr : ∀ x ∈ l, -1000 ≤ x ∧ x ≤ 1000) : Zaj.F ps l = some (edgesB ps l) := by
  rw [Zaj.F_eq]
  by_cases h : l.length = 0
  · rw [Zaj.L0_eq, if_neg (by omega)]
    unfold edgesB
    rw [h]
    rfl
  · exact Zaj.L0_val ht hl h1000 hr (l.length - 1) 1 (Nat.le_refl _) (by omega)
theorem l1Abs_val {a : Int} (h : -100000 ≤ a ∧ a ≤ 100000) : Zbx.f a = some ((a.natAbs : Nat) : Int) := by
  unfold Zbx.f Zcb.f
  rw [wrap_in (by omega) (by omega)]
  split <;> simp only [Option.bind_some, Option.some.injEq] <;> omega
theorem Zar.L0_val {ps l : List Int} (ht : TreeOk ps) (hl : l.length = ps.length) (h1000 : l.length ≤ 1000) (hr : ∀ x ∈ l, -1000 ≤ x ∧ x ≤ 1000) : ∀ (m i : Nat), 1 ≤ i → i + m = l.length → Zar.L0 ps l ((List.range' 1 (i - 1)).map (edgeL ps l)) (i : Int) = some (edgesB ps l)
  | 0, i, h1, hm => by
    rw [Zar.L0_eq, if_neg (by omega)]
    unfold edgesB
    rw [show i = l.length by omega]
  | m + 1, i, h1, hm => by
    have hu := ht.up i h1 (by omega)
    have g1 := hr _ (rd_in (f := l) (i := (i : Int)) (by omega) (by omega))
    have g2 := hr _ (rd_in (f := l) (i := rd ps (i : Int)) hu.1 (by omega))
    rw [Zar.L0_eq, if_pos (by omega), if_pos (by omega), if_pos (by omega), if_pos hu.1, if_pos (by omega), wrap_in (n := rd l (i : Int) - rd l (rd ps (i : Int))) (by omega) (by omega), l1Abs_val (by omega)]
    simp only [Option.bind_some]
    rw [if_pos (by rw [List.length_map, List.length_range']; omega), wrap_succ i (by omega)]
    have e := edges_step ps l i h1
    rw [show edgeL ps l i = (((rd l (i : Int) - rd l (rd ps (i : Int))).natAbs : Nat) : Int) from rfl] at e
    rw [e]
    exact Zar.L0_val ht hl h1000 hr m (i + 1) (by omega) (by omega)
theorem Zar.F_val {ps l : List Int} (ht : TreeOk ps) (hl : l.length = ps.length) (h1000 : l.length ≤ 1000) (hr : ∀ x ∈ l, -1000 ≤ x ∧ x ≤ 1000) : Zar.F ps l = some (edgesB ps l) := by
  rw [Zar.F_eq]
  have := ht.pos
  exact Zar.L0_val ht hl h1000 hr (l.length - 1) 1 (Nat.le_refl _) (by omega)
theorem Zal.L0_val (l : List Int) (hl : l.length ≤ 1000) : ∀ (m i : Nat), i + m = l.length → (l.take i).Nodup → Zal.L0 l l (l.length : Int) (i : Int) = some (decide l.Nodup)
  | 0, i, hm, hn => by
    rw [Zal.L0_eq, if_neg (by omega)]
    rw [List.take_of_length_le (by omega)] at hn
    rw [decide_eq_true hn]
  | m + 1, i, hm, hn => by
    rw [Zal.L0_eq, if_pos (by omega), if_pos (by omega), if_pos (by omega), if_pos (by omega), Int.toNat_natCast, Zav.F_val _ _ (by rw [List.length_take]; omega)]
    simp only [Option.bind_some]
    rcases take_nodup (by omega) hn with ⟨h1, h2⟩ | ⟨h1, h2⟩
    · rw [decide_eq_false h1, if_neg (by decide), wrap_succ i (by omega)]
      exact Zal.L0_val l hl m (i + 1) (by omega) h2
    · rw [decide_eq_true h1, if_pos rfl, decide_eq_false h2]
theorem Zal.F_val {ps l : List Int} (ht : TreeOk ps) (hl : l.length = ps.length) (h1000 : l.length ≤ 1000) (hr : ∀ x ∈ l, -1000 ≤ x ∧ x ≤ 1000) : Zal.F ps l = some (decide (edgesB ps l).Nodup) := by
  rw [Zal.F_eq, Zar.F_val ht hl h1000 hr]
  exact Zal.L0_val (edgesB ps l) (by rw [edgesB_len]; omega) (edgesB ps l).length 0 (by omega) (by simp)
def askedB (ps l : List Int) : Bool := treeB ps && labB ps.length l
structure Asked (ps l : List Int) : Prop where
  tree : TreeIs ps
  lab : LabIs ps.length l
theorem askedB_is {ps l : List Int} (h : askedB ps l = true) : Asked ps l := by
  unfold askedB at h
  rw [Bool.and_eq_true] at h
  exact ⟨treeB_is h.1, labB_is.1 h.2⟩
theorem Asked.small {ps l : List Int} (h : Asked ps l) : l.length ≤ 9 ∧ ∀ x ∈ l, -1000 ≤ x ∧ x ≤ 1000 := by
  have h1 := h.tree.len
  have h2 := h.lab.len
  exact ⟨by omega, fun x hx => by have := h.lab.rng x hx; omega⟩
theorem Zbc.F_val (ps l : List Int) (hp : ps.length ≤ 1000) (hl : l.length ≤ 1000) : Zbc.F ps l = some (if askedB ps l = true then (edgesB ps l, true) else ([], false)) := by
  rw [Zbc.F_eq, Zae.F_val ps hp]
  simp only [Option.bind_some]
  unfold askedB
  cases ht : treeB ps with
  | false => rw [if_neg (by decide), Bool.false_and, if_neg (by decide)]
  | true =>
    rw [if_pos rfl, Zam.F_val ps.length l hl, Bool.true_and]
    simp only [Option.bind_some]
    cases hb : labB ps.length l with
    | false => rw [if_neg (by decide), if_neg (by decide)]
    | true =>
      have hs := Asked.small ⟨treeB_is ht, labB_is.1 hb⟩
      rw [if_pos rfl, if_pos rfl, Zaj.F_val (treeB_is ht).ok (by rw [(labB_is.1 hb).len]; exact Nat.le_refl _) hl hs.2]
      rfl
theorem Zaz.F_val (ps l : List Int) (hp : ps.length ≤ 1000) (hl : l.length ≤ 1000) : Zaz.F ps l = some (askedB ps l) := by
  rw [Zaz.F_eq, Zah.F_val ps hp]
  simp only [Option.bind_some]
  unfold askedB
  cases ht : treeB ps with
  | false => rw [if_neg (by decide), Bool.false_and]
  | true => rw [if_pos rfl, Zai.F_val ps.length l hl hp, Bool.true_and]; rfl
theorem Zbi.F_val (ps l : List Int) (hp : ps.length ≤ 1000) (hl : l.length ≤ 1000) : Zbi.F ps l = some (if askedB ps l = true then (edgesB ps l, true) else ([], false)) := by
  rw [Zbi.F_eq, Zaz.F_val ps l hp hl]
  simp only [Option.bind_some]
  by_cases h : askedB ps l = true
  · have ha := askedB_is h
    rw [if_pos h, if_pos h, Zar.F_val ha.tree.ok ha.lab.len hl ha.small.2]
    rfl
  · rw [if_neg h, if_neg h]
def gracefulB (ps l : List Int) : Bool := decide (edgesB ps l).Nodup
theorem Zat.F_val (ps l : List Int) (hp : ps.length ≤ 1000) (hl : l.length ≤ 1000) : Zat.F ps l = some (if askedB ps l = true then (gracefulB ps l, true) else (false, false)) := by
  rw [Zat.F_eq, Zbc.F_val ps l hp hl]
  simp only [Option.bind_some]
  by_cases h : askedB ps l = true
  · rw [if_pos h, if_pos h, if_pos rfl, Zau.F_val (edgesB ps l) (by rw [edgesB_len]; omega)]
    rfl
  · rw [if_neg h, if_neg h, if_neg (by decide)]
theorem Zbj.F_val (ps l : List Int) (hp : ps.length ≤ 1000) (hl : l.length ≤ 1000) : Zbj.F ps l = some (if askedB ps l = true then (gracefulB ps l, true) else (false, false)) := by
  rw [Zbj.F_eq, Zaz.F_val ps l hp hl]
  simp only [Option.bind_some]
  by_cases h : askedB ps l = true
  · have ha := askedB_is h
    rw [if_pos h, if_pos h, Zal.F_val ha.tree.ok ha.lab.len hl ha.small.2]
    rfl
  · rw [if_neg h, if_neg h]
theorem Zbn.F_val (ps l : List Int) (hp : ps.length ≤ 1000) (hl : l.length ≤ 1000) : Zbn.F ps l = some (if treeB ps = true then (labB ps.length l, true) else (false, false)) := by
  rw [Zbn.F_eq, Zae.F_val ps hp]
  simp only [Option.bind_some]
  cases ht : treeB ps with
  | false => rw [if_neg (by decide), if_neg (by decide)]
  | true => rw [if_pos rfl, if_pos rfl, Zam.F_val ps.length l hl]; rfl
theorem Zbm.F_val (ps l : List Int) (hp : ps.length ≤ 1000) (hl : l.length ≤ 1000) : Zbm.F ps l = some (if treeB ps = true then (labB ps.length l, true) else (false, false)) := by
  rw [Zbm.F_eq, Zah.F_val ps hp]
  simp only [Option.bind_some]
  cases ht : treeB ps with
  | false => rw [if_neg (by decide), if_neg (by decide)]
  | true => rw [if_pos rfl, if_pos rfl, Zai.F_val ps.length l hl hp]; rfl
theorem mnmx {a b k : Int} : (mn a b ≤ k → decide (mx a b > k) = (decide (a ≤ k) != decide (b ≤ k))) ∧ (¬ mn a b ≤ k → (decide (a ≤ k) != decide (b ≤ k)) = false) := by
  unfold mn mx
  constructor
  · intro h
    by_cases h1 : a ≤ k <;> by_cases h2 : b ≤ k
    · rw [decide_eq_true h1, decide_eq_true h2]; exact decide_eq_false (by split <;> omega)
    · rw [decide_eq_true h1, decide_eq_false h2]; exact decide_eq_true (by split <;> omega)
    · rw [decide_eq_false h1, decide_eq_true h2]; exact decide_eq_true (by split <;> omega)
    · exfalso; split at h <;> omega
  · intro h
    have h1 : ¬ a ≤ k := fun h1 => h (by split <;> omega)
    have h2 : ¬ b ≤ k := fun h2 => h (by split <;> omega)
    rw [decide_eq_false h1, decide_eq_false h2]
    rfl
def halfOk (ps l : List Int) (k : Int) (i : Nat) : Bool := decide (rd l (i : Int) ≤ k) != decide (rd l (rd ps (i : Int)) ≤ k)
def halfFrom (ps l : List Int) : Nat → Nat → Int × Bool
  | _, 0 => (0, false)
  | k, m + 1 => if (List.range' 1 (ps.length - 1)).all (halfOk ps l (k : Int)) = true then ((k : Int), true) else halfFrom ps l (k + 1) m
theorem Zcc {ps l : List Int} (ht : TreeOk ps) (hl : l.length = ps.length) (h9 : ps.length ≤ 9) (k : Nat) (hk : k ≤ 9) : ∀ (m i : Nat) (b : Bool), 1 ≤ i → i + m = ps.length → Zad.L1 ps l (k : Int) b (i : Int) (ps.length : Int) (k : Int) = if (b && (List.range' i m).all (halfOk ps l (k : Int))) = true then some ((k : Int), true) else Zad.L0 ps l (ps.length : Int) ((k + 1 : Nat) : Int)
  | 0, i, b, h1, hm => by
    rw [Zad.L1_eq, if_neg (by omega), wrap_succ k (by omega)]
    cases b <;> rfl
  | m + 1, i, b, h1, hm => by
    have hu := ht.up i h1 (by omega)
    rw [Zad.L1_eq, if_pos (by omega), if_pos (by omega), if_pos (by omega), if_pos hu.1, if_pos (by omega), wrap_succ i (by omega), List.range'_succ, List.all_cons]
    have ih := fun b => Zcc ht hl h9 k hk m (i + 1) b (by omega) (by omega)
    obtain ⟨g1, g2⟩ := @mnmx (rd l (i : Int)) (rd l (rd ps (i : Int))) (k : Int)
    cases b with
    | false => rw [if_neg (by decide), ih, Bool.false_and, Bool.false_and]
    | true =>
      rw [if_pos rfl]
      by_cases h : mn (rd l (i : Int)) (rd l (rd ps (i : Int))) ≤ (k : Int)
      · rw [if_pos h, ih, g1 h, Bool.true_and]
        rfl
      · rw [if_neg h, ih, Bool.true_and, Bool.false_and, show halfOk ps l (k : Int) i = false from g2 h, Bool.false_and]
theorem Zcd {ps l : List Int} (ht : TreeOk ps) (hl : l.length = ps.length) (h9 : ps.length ≤ 9) (k : Nat) (hk : k ≤ 9) : ∀ (m i : Nat) (b : Bool), 1 ≤ i → i + m = ps.length → Zaf.L1 ps l (k : Int) b (i : Int) = if (b && (List.range' i m).all (halfOk ps l (k : Int))) = true then some ((k : Int), true) else Zaf.L0 ps l ((k + 1 : Nat) : Int)
  | 0, i, b, h1, hm => by
    rw [Zaf.L1_eq, if_neg (by omega), wrap_succ k (by omega)]
    cases b <;> rfl
  | m + 1, i, b, h1, hm => by
    have hu := ht.up i h1 (by omega)
    have ih := fun b => Zcd ht hl h9 k hk m (i + 1) b (by omega) (by omega)
    rw [Zaf.L1_eq, if_pos (by omega), wrap_succ i (by omega), List.range'_succ, List.all_cons]
    cases b with
    | false => rw [if_neg (by decide), ih, Bool.false_and, Bool.false_and]
    | true =>
      rw [if_pos rfl, if_pos (by omega), if_pos (by omega), if_pos hu.1, if_pos (by omega), ih, Bool.true_and]
      rfl
theorem half_L0 {ps l : List Int} (ht : TreeOk ps) (hl : l.length = ps.length) (h9 : ps.length ≤ 9) : ∀ (m k : Nat), k + m = ps.length → Zad.L0 ps l (ps.length : Int) (k : Int) = some (halfFrom ps l k m) ∧ Zaf.L0 ps l (k : Int) = some (halfFrom ps l k m)
  | 0, k, hm => ⟨by rw [Zad.L0_eq, if_neg (by omega)]; rfl, by rw [Zaf.L0_eq, if_neg (by omega)]; rfl⟩
  | m + 1, k, hm => by
    have hp := ht.pos
    obtain ⟨i1, i2⟩ := half_L0 ht hl h9 m (k + 1) (by omega)
    refine ⟨?_, ?_⟩
    · rw [Zad.L0_eq, if_pos (by omega)]
      refine (Zcc ht hl h9 k (by omega) (ps.length - 1) 1 true (Nat.le_refl _) (by omega)).trans ?_
      rw [i1, Bool.true_and, show halfFrom ps l k (m + 1) = if (List.range' 1 (ps.length - 1)).all (halfOk ps l (k : Int)) = true then ((k : Int), true) else halfFrom ps l (k + 1) m from rfl]
      split <;> rfl
    · rw [Zaf.L0_eq, if_pos (by omega)]
      refine (Zcd ht hl h9 k (by omega) (ps.length - 1) 1 true (Nat.le_refl _) (by omega)).trans ?_
      rw [i2, Bool.true_and, show halfFrom ps l k (m + 1) = if (List.range' 1 (ps.length - 1)).all (halfOk ps l (k : Int)) = true then ((k : Int), true) else halfFrom ps l (k + 1) m from rfl]
      split <;> rfl
def halvedF (ps l : List Int) : Int × Bool := if askedB ps l = true ∧ gracefulB ps l = true ∧ 2 ≤ ps.length then halfFrom ps l 0 ps.length else (0, false)
theorem Zad.F_val (ps l : List Int) (hp : ps.length ≤ 1000) (hl : l.length ≤ 1000) : Zad.F ps l = some (halvedF ps l) := by
  rw [Zad.F_eq, Zat.F_val ps l hp hl]
  unfold halvedF
  simp only [Option.bind_some]
  by_cases h : askedB ps l = true
  rotate_left
  · rw [if_neg h, if_neg (by decide), if_neg (fun h2 => h h2.1), Zad.J0_eq, if_pos rfl]
  have ha := askedB_is h
  rw [if_pos h, if_pos rfl]
  cases hg : gracefulB ps l with
  | false => rw [if_neg (by decide), if_neg (fun h => by cases h.2.1), Zad.J0_eq, if_pos rfl]
  | true =>
    rw [if_pos rfl, Zad.J0_eq]
    by_cases h2 : 2 ≤ ps.length
    · rw [decide_eq_false (by omega), if_neg (by decide), if_pos ⟨h, rfl, h2⟩]
      exact (half_L0 ha.tree.ok ha.lab.len ha.tree.len.2 ps.length 0 (by omega)).1
    · rw [decide_eq_true (by omega), if_pos rfl, if_neg (fun h => h2 h.2.2)]
theorem Zaf.F_val (ps l : List Int) (hp : ps.length ≤ 1000) (hl : l.length ≤ 1000) : Zaf.F ps l = some (halvedF ps l) := by
  rw [Zaf.F_eq, Zaz.F_val ps l hp hl]
  unfold halvedF
  simp only [Option.bind_some]
  by_cases h : askedB ps l = true
  rotate_left
  · rw [if_neg h, if_neg (fun h2 => h h2.1), Zaf.J0_eq, if_pos rfl]
  have ha := askedB_is h
  rw [if_pos h, Zal.F_val ha.tree.ok ha.lab.len hl ha.small.2]
  simp only [Option.bind_some]
  rw [show decide (edgesB ps l).Nodup = gracefulB ps l from rfl]
  cases hg : gracefulB ps l with
  | false => rw [if_neg (by decide), if_neg (fun h => by cases h.2.1), Zaf.J0_eq, if_pos rfl]
  | true =>
    rw [if_pos rfl, Zaf.J0_eq]
    by_cases h2 : 2 ≤ ps.length
    · rw [decide_eq_false (by omega), if_neg (by decide), if_pos ⟨h, rfl, h2⟩]
      exact (half_L0 ha.tree.ok ha.lab.len ha.tree.len.2 ps.length 0 (by omega)).2
    · rw [decide_eq_true (by omega), if_pos rfl, if_neg (fun h => h2 h.2.2)]
theorem halfFrom_ok {ps l : List Int} : ∀ (m k : Nat), (halfFrom ps l k m).2 = true → ∀ i : Nat, 1 ≤ i → i < ps.length → halfOk ps l (halfFrom ps l k m).1 i = true
  | 0, k, h => by cases h
  | m + 1, k, h => by
    unfold halfFrom at h ⊢
    by_cases hc : (List.range' 1 (ps.length - 1)).all (halfOk ps l (k : Int)) = true
    · rw [if_pos hc]
      intro i h1 hi
      exact List.all_eq_true.1 hc i (List.mem_range'_1.2 (by omega))
    · rw [if_neg hc] at h ⊢
      exact halfFrom_ok m (k + 1) h
def edgesOf (ps : List Int) : List (List Int) := (List.range' 1 (ps.length - 1)).map fun i : Nat => [rd ps (i : Int), (i : Int)]
theorem edgesOf_step (ps : List Int) (i : Nat) (h1 : 1 ≤ i) : (List.range' 1 (i - 1)).map (fun i : Nat => [rd ps (i : Int), (i : Int)]) ++ [[rd ps (i : Int), (i : Int)]] = (List.range' 1 (i + 1 - 1)).map fun i : Nat => [rd ps (i : Int), (i : Int)] := by
  rw [show i + 1 - 1 = (i - 1) + 1 by omega, ← List.range'_append_1, List.map_append, List.range'_one, List.map_singleton, show 1 + (i - 1) = i by omega]
theorem Zap.L0_val (ps : List Int) (hp : ps.length ≤ 1000) : ∀ (m i : Nat), 1 ≤ i → i + m = ps.length → Zap.L0 ps ((List.range' 1 (i - 1)).map fun i : Nat => [rd ps (i : Int), (i : Int)]) (i : Int) = some (edgesOf ps, true)
  | 0, i, h1, hm => by
    rw [Zap.L0_eq, if_neg (by omega)]
    unfold edgesOf
    rw [show i = ps.length by omega]
  | m + 1, i, h1, hm => by
    rw [Zap.L0_eq, if_pos (by omega), if_pos (by omega), if_pos (by rw [List.length_map, List.length_range']; omega), wrap_succ i (by omega), edgesOf_step ps i h1]
    exact Zap.L0_val ps hp m (i + 1) (by omega) (by omega)
theorem Zao.L0_val (ps : List Int) (hp : ps.length ≤ 1000) : ∀ (m i : Nat), 1 ≤ i → i + m = ps.length → Zao.L0 ps ((List.range' 1 (i - 1)).map fun i : Nat => [rd ps (i : Int), (i : Int)]) (i : Int) = some (edgesOf ps, true)
  | 0, i, h1, hm => by
    rw [Zao.L0_eq, if_neg (by omega)]
    unfold edgesOf
    rw [show i = ps.length by omega]
  | m + 1, i, h1, hm => by
    rw [Zao.L0_eq, if_pos (by omega), if_pos (by omega), if_pos (by rw [List.length_map, List.length_range']; omega), wrap_succ i (by omega), edgesOf_step ps i h1]
    exact Zao.L0_val ps hp m (i + 1) (by omega) (by omega)
theorem Zap.F_val (ps : List Int) (hp : ps.length ≤ 1000) : Zap.F ps = some (if treeB ps = true then (edgesOf ps, true) else ([], false)) := by
  rw [Zap.F_eq, Zae.F_val ps hp]
  simp only [Option.bind_some]
  by_cases h : treeB ps = true
  · have := (treeB_is h).len
    rw [if_pos h, if_pos h]
    exact Zap.L0_val ps hp (ps.length - 1) 1 (Nat.le_refl _) (by omega)
  · rw [if_neg h, if_neg h]
theorem Zao.F_val (ps : List Int) (hp : ps.length ≤ 1000) : Zao.F ps = some (if treeB ps = true then (edgesOf ps, true) else ([], false)) := by
  rw [Zao.F_eq, Zah.F_val ps hp]
  simp only [Option.bind_some]
  by_cases h : treeB ps = true
  · have := (treeB_is h).len
    rw [if_pos h, if_pos h]
    exact Zao.L0_val ps hp (ps.length - 1) 1 (Nat.le_refl _) (by omega)
  · rw [if_neg h, if_neg h]
def complL (l : List Int) : List Int := l.map fun x => (l.length : Int) - 1 - x
theorem Zab.L0_val (l : List Int) (h9 : l.length ≤ 9) (hr : ∀ x ∈ l, 0 ≤ x ∧ x < (l.length : Int)) : ∀ (m i : Nat), i + m = l.length → Zab.L0 l ((l.take i).map fun x => (l.length : Int) - 1 - x) l (l.length : Int) (i : Int) = some (complL l, true)
  | 0, i, hm => by
    rw [Zab.L0_eq, if_neg (by omega), List.take_of_length_le (by omega)]
    rfl
  | m + 1, i, hm => by
    have hx := hr _ (rd_in (f := l) (i := (i : Int)) (by omega) (by omega))
    have e : (l.take i).map (fun x => (l.length : Int) - 1 - x) ++ [(l.length : Int) - 1 - rd l (i : Int)] = (l.take (i + 1)).map fun x => (l.length : Int) - 1 - x := by
      rw [take_one l i (by omega), List.map_append, List.map_singleton]
    rw [Zab.L0_eq, if_pos (by omega), if_pos (by omega), if_pos (by omega), if_pos (by rw [List.length_map, List.length_take]; omega), wrap_in (n := (l.length : Int) - 1) (by omega) (by omega), wrap_in (n := (l.length : Int) - 1 - rd l (i : Int)) (by omega) (by omega), wrap_succ i (by omega), e]
    exact Zab.L0_val l h9 hr m (i + 1) (by omega)
theorem Zab.F_val {l : List Int} (h1 : 1 ≤ l.length) (h9 : l.length ≤ 9) (hl : LabIs l.length l) : Zab.F l = some (complL l, true) := by
  have hN : Zbw.f (l.length : Int) = some true := by
    unfold Zbw.f
    rw [if_pos (by omega), decide_eq_true (by omega)]
  rw [Zab.F_eq, hN]
  simp only [Option.bind_some, if_true]
  rw [Zam.F_val l.length l (by omega), labB_is.2 hl]
  simp only [Option.bind_some, Bool.not_true]
  rw [Zab.J0_eq, if_neg (by decide)]
  exact Zab.L0_val l h9 hl.rng l.length 0 (by omega)
theorem complL_len (l : List Int) : (complL l).length = l.length := List.length_map ..
theorem complL_rd {l : List Int} {i : Int} (h0 : 0 ≤ i) (h : i < (l.length : Int)) : rd (complL l) i = (l.length : Int) - 1 - rd l i := by
  obtain ⟨n, rfl⟩ : ∃ n : Nat, i = n := ⟨i.toNat, by omega⟩
  rw [rd_nat _ n (by rw [complL_len]; omega), rd_nat _ n (by omega)]
  simp [complL]
theorem complL_twice (l : List Int) : complL (complL l) = l := by
  unfold complL
  rw [List.length_map, List.map_map]
  refine (List.map_congr_left fun x _ => ?_).trans (List.map_id l)
  show (l.length : Int) - 1 - ((l.length : Int) - 1 - x) = id x
  show _ = x
  omega
theorem complL_lab {l : List Int} (hl : LabIs l.length l) : LabIs l.length (complL l) := by
  refine ⟨complL_len l, fun x hx => ?_, ?_⟩
  · obtain ⟨y, hy, rfl⟩ := List.mem_map.1 hx
    have := hl.rng y hy
    omega
  · unfold complL
    exact List.Pairwise.map _ (fun a b (h : a ≠ b) e => h (by omega)) hl.nod
theorem complL_edges {ps l : List Int} (ht : TreeOk ps) (hl : l.length = ps.length) : edgesB ps (complL l) = edgesB ps l := by
  unfold edgesB
  rw [complL_len]
  refine List.map_congr_left fun i hi => ?_
  rw [List.mem_range'_1] at hi
  have hu := ht.up i hi.1 (by omega)
  unfold edgeL
  rw [complL_rd (by omega) (by omega), complL_rd hu.1 (by omega)]
  congr 1
  omega
def AddF (L : List (List Int)) (s : List Int) : List Int × Bool := match L with
  | [] => (s, false)
  | h :: _ => (h, true)
theorem grNext_impl {ps p : List Int} (ht : TreeOk ps) (h9 : ps.length ≤ 9) (hp : p.length < ps.length) (hr : ∀ x ∈ p, 0 ≤ x ∧ x < (ps.length : Int)) {y : Nat} (hy : y < ps.length) {β : Type} (a b : Option β) :
    ((Zan.F p (y : Int)).bind fun t => if t = true then a else (Zaj.F ps (p ++ [(y : Int)])).bind fun ed => (Zau.F ed).bind fun c => if c = true then b else a) = if grNext ps p y = true then b else a := by
  rw [Zan.F_val p _ (by omega)]
  simp only [Option.bind_some]
  unfold grNext
  by_cases hm : (y : Int) ∈ p
  · rw [decide_eq_true hm, if_pos rfl, Bool.not_true, Bool.false_and, if_neg (by decide)]
  rw [decide_eq_false hm, if_neg (by decide), Zaj.F_val ht (by rw [List.length_append, List.length_singleton]; omega) (by rw [List.length_append, List.length_singleton]; omega) (fun x hx => by
    rcases List.mem_append.1 hx with hx | hx
    · have := hr x hx; omega
    · rw [List.mem_singleton] at hx; omega)]
  simp only [Option.bind_some]
  rw [Zau.F_val _ (by rw [edgesB_len, List.length_append, List.length_singleton]; omega), Bool.not_false, Bool.true_and]
  rfl
theorem snoc_rng {p : List Int} {n y : Nat} (hr : ∀ x ∈ p, 0 ≤ x ∧ x < (n : Int)) (hy : y < n) : ∀ x ∈ p ++ [(y : Int)], 0 ≤ x ∧ x < (n : Int) := fun x hx => by
  rcases List.mem_append.1 hx with hx | hx
  · exact hr x hx
  · rw [List.mem_singleton] at hx
    omega
theorem count_loop {ps p : List Int} (ht : TreeOk ps) (h9 : ps.length ≤ 9) (hp : p.length < ps.length) (hr : ∀ x ∈ p, 0 ≤ x ∧ x < (ps.length : Int)) {rec : Int → List Int → Option (Int × Bool)} {R : List Int → List (List Int)} (hrec : ∀ (y : Nat) (s : Int), y < ps.length → 0 ≤ s → s + ((R (p ++ [(y : Int)])).length : Int) ≤ 1000000000000 → rec s (p ++ [(y : Int)]) = some (s + ((R (p ++ [(y : Int)])).length : Int), false)) :
    ∀ (m y : Nat) (s : Int), y + m = ps.length → 0 ≤ s → s + ((grRun R (grNext ps p) p m y).length : Int) ≤ 1000000000000 → graceLoopF rec ps p m y s = some (s + ((grRun R (grNext ps p) p m y).length : Int), false)
  | 0, y, s, hm, h0, hs => by
    show some (s, false) = some (s + 0, false)
    rw [Int.add_zero]
  | m + 1, y, s, hm, h0, hs => by
    have hg := grNext_impl ht h9 hp hr (y := y) (by omega) (graceLoopF rec ps p m (y + 1) s) ((rec s (p ++ [(y : Int)])).bind fun q => if q.2 = true then some (q.1, true) else graceLoopF rec ps p m (y + 1) q.1)
    refine Eq.trans (by exact hg) ?_
    unfold grRun at hs ⊢
    cases hn : grNext ps p y with
    | false =>
      rw [hn, if_neg (by decide), List.nil_append] at hs
      rw [if_neg (by decide), if_neg (by decide), List.nil_append]
      exact count_loop ht h9 hp hr hrec m (y + 1) s (by omega) h0 hs
    | true =>
      rw [hn, if_pos rfl, List.length_append] at hs
      rw [if_pos rfl, if_pos rfl, List.length_append, hrec y s (by omega) h0 (by omega)]
      simp only [Option.bind_some]
      rw [if_neg (by decide), count_loop ht h9 hp hr hrec m (y + 1) _ (by omega) (by omega) (by omega)]
      congr 2
      omega
theorem count_val {ps : List Int} (ht : TreeOk ps) (h9 : ps.length ≤ 9) : ∀ (k : Nat) (p : List Int) (s : Int), ps.length < p.length + k → p.length ≤ ps.length → (∀ x ∈ p, 0 ≤ x ∧ x < (ps.length : Int)) → 0 ≤ s → s + ((grList ps k p).length : Int) ≤ 1000000000000 → graceFF eachCount ps k s p = some (s + ((grList ps k p).length : Int), false)
  | 0, p, s, hk, hp, _, _, _ => by omega
  | k + 1, p, s, hk, hp, hr, h0, hs => by
    unfold graceFF
    unfold grList at hs ⊢
    by_cases hl : p.length = ps.length
    · rw [if_pos hl]
      rw [if_pos hl] at hs ⊢
      show some (wrap64 (s + 1), false) = some (s + 1, false)
      rw [wrap_in (by omega) (by simp at hs; omega)]
    · rw [if_neg hl]
      rw [if_neg hl] at hs ⊢
      exact count_loop ht h9 (by omega) hr (fun y s hy h0 hs => count_val ht h9 k _ s (by rw [List.length_append, List.length_singleton]; omega) (by rw [List.length_append, List.length_singleton]; omega) (snoc_rng hr hy) h0 hs) ps.length 0 s (by omega) h0 hs
theorem AddF_app (A B : List (List Int)) (s : List Int) : AddF (A ++ B) s = if (AddF A s).2 = true then ((AddF A s).1, true) else AddF B (AddF A s).1 := by
  cases A <;> rfl
theorem first_loop {ps p : List Int} (ht : TreeOk ps) (h9 : ps.length ≤ 9) (hp : p.length < ps.length) (hr : ∀ x ∈ p, 0 ≤ x ∧ x < (ps.length : Int)) {rec : List Int → List Int → Option (List Int × Bool)} {R : List Int → List (List Int)} (hrec : ∀ (y : Nat) (s : List Int), y < ps.length → rec s (p ++ [(y : Int)]) = some (AddF (R (p ++ [(y : Int)])) s)) :
    ∀ (m y : Nat) (s : List Int), y + m = ps.length → graceLoopF rec ps p m y s = some (AddF (grRun R (grNext ps p) p m y) s)
  | 0, y, s, hm => rfl
  | m + 1, y, s, hm => by
    have hg := grNext_impl ht h9 hp hr (y := y) (by omega) (graceLoopF rec ps p m (y + 1) s) ((rec s (p ++ [(y : Int)])).bind fun q => if q.2 = true then some (q.1, true) else graceLoopF rec ps p m (y + 1) q.1)
    refine Eq.trans (by exact hg) ?_
    unfold grRun
    cases hn : grNext ps p y with
    | false =>
      rw [if_neg (by decide), if_neg (by decide), List.nil_append]
      exact first_loop ht h9 hp hr hrec m (y + 1) s (by omega)
    | true =>
      rw [if_pos rfl, if_pos rfl, hrec y s (by omega), AddF_app]
      simp only [Option.bind_some]
      rw [first_loop ht h9 hp hr hrec m (y + 1) _ (by omega)]
      split <;> rfl
theorem first_val {ps : List Int} (ht : TreeOk ps) (h9 : ps.length ≤ 9) : ∀ (k : Nat) (p s : List Int), ps.length < p.length + k → p.length ≤ ps.length → (∀ x ∈ p, 0 ≤ x ∧ x < (ps.length : Int)) → graceFF eachOnceG ps k s p = some (AddF (grList ps k p) s)
  | 0, p, s, hk, hp, _ => by omega
  | k + 1, p, s, hk, hp, hr => by
    unfold graceFF grList
    by_cases hl : p.length = ps.length
    · rw [if_pos hl, if_pos hl]
      rfl
    · rw [if_neg hl, if_neg hl]
      exact first_loop ht h9 (by omega) hr (fun y s hy => first_val ht h9 k _ s (by rw [List.length_append, List.length_singleton]; omega) (by rw [List.length_append, List.length_singleton]; omega) (snoc_rng hr hy)) ps.length 0 s (by omega)
def AddS (L : List (List Int)) (s : GrSt) : GrSt := (s.1 + (L.length : Int), if s.1 = 0 then L.head?.getD s.2 else s.2)
theorem AddS_app (A B : List (List Int)) (s : GrSt) (h : 0 ≤ s.1) : AddS (A ++ B) s = AddS B (AddS A s) := by
  cases A with
  | nil =>
    unfold AddS
    simp only [List.nil_append, List.length_nil, List.head?_nil, Option.getD_none, Int.natCast_zero, Int.add_zero, ite_self]
  | cons x A =>
    unfold AddS
    simp only [List.cons_append, List.length_cons, List.length_append, List.head?_cons, Option.getD_some]
    refine Prod.ext (by show s.1 + _ = s.1 + _ + _; omega) ?_
    show (if s.1 = 0 then x else s.2) = if s.1 + ((A.length + 1 : Nat) : Int) = 0 then _ else if s.1 = 0 then x else s.2
    rw [if_neg (c := s.1 + ((A.length + 1 : Nat) : Int) = 0) (by omega)]
theorem bits_next {p : List Int} {u y : Nat} (h : ∀ x : Nat, u.testBit x = decide ((x : Int) ∈ p)) : ∀ x : Nat, (u ||| 2 ^ y).testBit x = decide ((x : Int) ∈ p ++ [(y : Int)]) := fun x => by
  rw [Nat.testBit_or, h x, Nat.testBit_two_pow]
  by_cases hx : (x : Int) ∈ p
  · rw [decide_eq_true hx, Bool.true_or, decide_eq_true (List.mem_append_left _ hx)]
  rw [decide_eq_false hx, Bool.false_or]
  by_cases e : y = x
  · rw [decide_eq_true e, decide_eq_true (List.mem_append_right _ (by simp [e]))]
  · rw [decide_eq_false e, decide_eq_false fun h => by
      rcases List.mem_append.1 h with h | h
      · exact hx h
      · rw [List.mem_singleton] at h; omega]
theorem Zce {ps p : List Int} (ht : TreeOk ps) (h9 : ps.length ≤ 9) (hp : p.length < ps.length) (hr : ∀ x ∈ p, 0 ≤ x ∧ x < (ps.length : Int)) {nodes edges : Nat} (hn : ∀ x : Nat, nodes.testBit x = decide ((x : Int) ∈ p)) (he : ∀ x : Nat, edges.testBit x = decide ((x : Int) ∈ edgesB ps p)) (hE : (edgesB ps p).Nodup) {rec : List Int → Nat → Nat → GrSt → Option GrSt} {R : List Int → List (List Int)}
    (hrec : ∀ (y : Nat) (s : GrSt) (e2 : Nat), y < ps.length → 0 ≤ s.1 → s.1 + ((R (p ++ [(y : Int)])).length : Int) ≤ 1000000000000 → (∀ x : Nat, e2.testBit x = decide ((x : Int) ∈ edgesB ps (p ++ [(y : Int)]))) → (edgesB ps (p ++ [(y : Int)])).Nodup → rec (p ++ [(y : Int)]) (nodes ||| 2 ^ y) e2 s = some (AddS (R (p ++ [(y : Int)])) s)) :
    ∀ (m y : Nat) (s : GrSt), y + m = ps.length → 0 ≤ s.1 → s.1 + ((grRun R (grNext ps p) p m y).length : Int) ≤ 1000000000000 → grLoop rec ps p nodes edges m y s = some (AddS (grRun R (grNext ps p) p m y) s)
  | 0, y, s, hm, h0, hs => by
    show some s = some (AddS [] s)
    unfold AddS
    simp
  | m + 1, y, s, hm, h0, hs => by
    have ih := fun s h0 hs => Zce ht h9 hp hr hn he hE hrec m (y + 1) s (by omega) h0 hs
    have step : ∀ e2 : Nat, grNext ps p y = true → (∀ x : Nat, e2.testBit x = decide ((x : Int) ∈ edgesB ps (p ++ [(y : Int)]))) → (edgesB ps (p ++ [(y : Int)])).Nodup → ((rec (p ++ [(y : Int)]) (nodes ||| 2 ^ y) e2 s).bind fun s' => grLoop rec ps p nodes edges m (y + 1) s') = some (AddS (grRun R (grNext ps p) p (m + 1) y) s) := fun e2 hg h2 h3 => by
      unfold grRun at hs ⊢
      rw [if_pos hg, List.length_append] at hs
      rw [if_pos hg, hrec y s e2 (by omega) h0 (by omega) h2 h3, AddS_app _ _ _ h0]
      simp only [Option.bind_some]
      exact ih _ (by show 0 ≤ s.1 + _; omega) (by show s.1 + _ + _ ≤ _; omega)
    have skip : grNext ps p y = false → grLoop rec ps p nodes edges m (y + 1) s = some (AddS (grRun R (grNext ps p) p (m + 1) y) s) := fun hg => by
      unfold grRun at hs ⊢
      rw [if_neg (by rw [hg]; decide), List.nil_append] at hs
      rw [if_neg (by rw [hg]; decide), List.nil_append]
      exact ih s h0 hs
    unfold grLoop
    rw [hn y]
    by_cases hm2 : (y : Int) ∈ p
    · rw [decide_eq_true hm2, if_pos rfl]
      exact skip (by unfold grNext; rw [decide_eq_true hm2]; rfl)
    rw [decide_eq_false hm2, if_neg (by decide)]
    by_cases hp0 : p.length = 0
    · obtain rfl := List.length_eq_zero_iff.1 hp0
      rw [if_pos hp0]
      exact step edges (by unfold grNext; rw [decide_eq_false hm2]; exact decide_eq_true (show ([] : List Int).Nodup from List.nodup_nil)) he List.nodup_nil
    have hu := ht.up p.length (by omega) hp
    have es := edgesB_snoc ht p (y : Int) hp0 hp
    rw [if_neg hp0, if_pos hu, he]
    by_cases hb : (((y : Int) - rd p (rd ps (p.length : Int))).natAbs : Int) ∈ edgesB ps p
    rotate_left
    · rw [decide_eq_false hb, if_neg (by decide)]
      have hE2 : (edgesB ps (p ++ [(y : Int)])).Nodup := by
        rw [es, List.nodup_append]
        exact ⟨hE, by simp, fun a ha b hb2 e => hb (by rw [List.mem_singleton] at hb2; rw [← hb2, ← e]; exact ha)⟩
      refine step _ (by unfold grNext; rw [decide_eq_false hm2, decide_eq_true hE2]; rfl) ?_ hE2
      rw [es]
      exact bits_next he
    rw [decide_eq_true hb, if_pos rfl]
    refine skip ?_
    unfold grNext
    rw [decide_eq_false hm2, es, decide_eq_false fun h => by
      rw [List.nodup_append] at h
      exact h.2.2 _ hb _ (by simp) rfl]
    rfl
theorem Zcf {ps : List Int} (ht : TreeOk ps) (h9 : ps.length ≤ 9) : ∀ (k : Nat) (p : List Int) (nodes edges : Nat) (s : GrSt), ps.length < p.length + k → p.length ≤ ps.length → (∀ x ∈ p, 0 ≤ x ∧ x < (ps.length : Int)) → (∀ x : Nat, nodes.testBit x = decide ((x : Int) ∈ p)) → (∀ x : Nat, edges.testBit x = decide ((x : Int) ∈ edgesB ps p)) → (edgesB ps p).Nodup → 0 ≤ s.1 → s.1 + ((grList ps k p).length : Int) ≤ 1000000000000 → grF ps k p nodes edges s = some (AddS (grList ps k p) s)
  | 0, p, _, _, s, hk, hp, _, _, _, _, _, _ => by omega
  | k + 1, p, nodes, edges, s, hk, hp, hr, hn, he, hE, h0, hs => by
    unfold grF
    unfold grList at hs ⊢
    by_cases hl : p.length = ps.length
    · rw [if_pos hl]
      rw [if_pos hl] at hs ⊢
      rw [wrap_in (by omega) (by simp at hs; omega)]
      rfl
    · rw [if_neg hl]
      rw [if_neg hl] at hs ⊢
      exact Zce ht h9 (by omega) hr hn he hE (fun y s e2 hy h0 hs h2 h3 => Zcf ht h9 k _ _ e2 s (by rw [List.length_append, List.length_singleton]; omega) (by rw [List.length_append, List.length_singleton]; omega) (snoc_rng hr hy) (bits_next hn) h2 h3 h0 hs) ps.length 0 s (by omega) h0 hs
def allGr (ps : List Int) : List (List Int) := grList ps (ps.length + 1) []
theorem allGr_len {ps : List Int} (ht : TreeOk ps) (h9 : ps.length ≤ 9) : ((allGr ps).length : Int) ≤ 1000000000000 := by
  have h1 := grList_len ps ht.pos (ps.length + 1) []
  have h2 : ps.length ^ (ps.length + 1) ≤ 9 ^ 10 := Nat.le_trans (Nat.pow_le_pow_left h9 _) (Nat.pow_le_pow_right (by decide) (by omega))
  have h3 : (9 : Nat) ^ 10 = 3486784401 := by decide
  unfold allGr
  omega
theorem Zbl.F_val (ps : List Int) (hp : ps.length ≤ 1000) : Zbl.F ps = some (if treeB ps = true then (((allGr ps).length : Int), true) else (0, false)) := by
  unfold Zbl.F
  rw [Zae.F_val ps hp]
  simp only [Option.bind_some]
  by_cases h : treeB ps = true
  · have ht := treeB_is h
    rw [if_pos h, if_pos h, if_pos hp, count_val ht.ok ht.len.2 (ps.length + 1) [] 0 (by simp) (by simp) (by simp) (by omega) (by rw [Int.zero_add]; exact allGr_len ht.ok ht.len.2)]
    simp only [Option.bind_some, Int.zero_add]
    rfl
  · rw [if_neg h, if_neg h]
theorem Zbk.F_val (ps : List Int) (hp : ps.length ≤ 1000) : Zbk.F ps = some (if treeB ps = true then ((allGr ps).head?.getD [], decide (0 < (((allGr ps).head?.getD []).length : Int))) else ([], false)) := by
  unfold Zbk.F
  rw [Zae.F_val ps hp]
  simp only [Option.bind_some]
  by_cases h : treeB ps = true
  rotate_left
  · rw [if_neg h, if_neg h]
  have ht := treeB_is h
  rw [if_pos h, if_pos h, if_pos hp, first_val ht.ok ht.len.2 (ps.length + 1) [] [] (by simp) (by simp) (by simp)]
  simp only [Option.bind_some]
  show some ((AddF (allGr ps) []).1, decide (0 < ((AddF (allGr ps) []).1.length : Int))) = _
  rw [show (AddF (allGr ps) []).1 = (allGr ps).head?.getD [] from by cases allGr ps <;> rfl]
theorem Zbr.f_val {ps : List Int} (ht : TreeOk ps) (h9 : ps.length ≤ 9) : Zbr.f ps = some (((allGr ps).length : Int), (allGr ps).head?.getD []) := by
  unfold Zbr.f
  rw [if_pos (by omega), Zcf ht h9 (ps.length + 1) [] 0 0 (0, []) (by simp) (by simp) (by simp) (by simp) (by simp [edgesB]) List.nodup_nil (Int.le_refl _) (by rw [Int.zero_add]; exact allGr_len ht h9)]
  show some (0 + _, _) = _
  rw [Int.zero_add]
  rfl
def allTrees : Nat → List (List Int)
  | 0 => []
  | 1 => [[-1]]
  | n + 2 => (allTrees (n + 1)).flatMap fun t => (List.range (n + 1)).map fun y : Nat => t ++ [(y : Int)]
theorem mem_allTrees {l : List Int} (h : TreeIs l) : ∀ n : Nat, 1 ≤ n → n ≤ l.length → l.take n ∈ allTrees n
  | 0, h1, _ => by omega
  | 1, _, h2 => by
    have e := take_one l 0 (by omega)
    rw [List.take_zero, List.nil_append] at e
    rw [show 1 = 0 + 1 from rfl, e, show rd l ((0 : Nat) : Int) = -1 from h.top]
    exact List.mem_singleton.2 rfl
  | n + 2, _, h2 => by
    have hu := h.up (n + 1) (by omega) (by omega)
    rw [take_one l (n + 1) (by omega)]
    refine List.mem_flatMap.2 ⟨_, mem_allTrees h (n + 1) (by omega) (by omega), List.mem_map.2 ⟨(rd l ((n + 1 : Nat) : Int)).toNat, List.mem_range.2 (by omega), ?_⟩⟩
    rw [Int.toNat_of_nonneg hu.1]
def digits (n c : Nat) : List Int := (List.range n).map fun i => ((c / 10 ^ (n - 1 - i) % 10 : Nat) : Int)
def goodB (t l : List Int) : Bool := askedB t l && gracefulB t l
def chkTab (n : Nat) : List (List Int) → List Nat → Bool
  | [], _ => true
  | _ :: _, [] => false
  | t :: ts, c :: cs => goodB t (digits n c) && chkTab n ts cs
theorem chkTab_ok {n : Nat} : ∀ {L : List (List Int)} {C : List Nat}, chkTab n L C = true → ∀ t ∈ L, ∃ l, goodB t l = true
  | [], _, _, t, ht => by cases ht
  | _ :: _, [], h, _, _ => by cases h
  | x :: L, c :: C, h, t, ht => by
    unfold chkTab at h
    rw [Bool.and_eq_true] at h
    rcases List.mem_cons.1 ht with rfl | ht
    · exact ⟨_, h.1⟩
    · exact chkTab_ok h.2 t ht
theorem goodB_ok {t l : List Int} (h : goodB t l = true) : GrOk t l := by
  unfold goodB at h
  rw [Bool.and_eq_true] at h
  have ha := askedB_is h.1
  exact ⟨ha.lab.len, ha.lab.rng, ha.lab.nod, of_decide_eq_true h.2⟩
theorem tab1 : chkTab 1 (allTrees 1) [0] = true := by decide +kernel
theorem tab2 : chkTab 2 (allTrees 2) [1] = true := by decide +kernel
theorem tab3 : chkTab 3 (allTrees 3) [12, 21] = true := by decide +kernel
theorem tab4 : chkTab 4 (allTrees 4) [123, 231, 321, 213, 312, 312] = true := by decide +kernel
theorem tab5 : chkTab 5 (allTrees 5) [1234, 2341, 1432, 1342, 2314, 3412, 2431, 3412, 1423, 2413, 2413, 3421, 2134, 3142, 3142, 2341, 3124, 4123, 4213, 4123, 3124, 4231, 4123, 4132] = true := by decide +kernel
theorem tab6 : chkTab 6 (allTrees 6) [12345, 23451, 14352, 13452, 13542, 23415, 34512, 15432, 14532, 34512, 14325, 15423, 15423, 23541, 34521, 13425, 14523, 23514, 14523, 35421, 23145, 34152, 15342, 34152, 14352, 34125, 45123, 145230, 45213, 45123, 15324, 145203, 135402, 35214, 25314, 34125, 45231, 35241, 45123, 45132, 14235, 15243, 15243, 34251, 23451, 15234, 145023, 135042, 25134, 35124, 15234, 135024, 54123, 35412, 35142, 34215, 25143, 35421, 54123, 25143, 21345, 31452, 31452, 13542, 13452, 31425, 41523, 42513, 142530, 41523, 31425, 42531, 41523, 32541, 41532, 13524, 142503, 32514, 134502, 23514, 31245, 41253, 42153, 41253, 142350, 41235, 51234, 51243, 51324, 51234, 42135, 51234, 51324, 51342, 51234, 41235, 51342, 51324, 51234, 51243, 31245, 42351, 41253, 41352, 32451, 42315, 51324, 51234, 51324, 51432, 41235, 51243, 51234, 51342, 51432, 41325, 51342, 51324, 51423, 51423] = true := by decide +kernel
theorem tab7 : chkTab 7 (allTrees 7) [123456, 234561, 143562, 126453, 124653, 124563, 234516, 345612, 154632, 145632, 146532, 345612, 143526, 154623, 154623, 146523, 145623, 163524, 126435, 145623, 146532, 136524, 154623, 136524, 124635, 146523, 145632, 154632, 135624, 135624, 234156, 345162, 154362, 145362, 345162, 146352, 345126, 456123, 165342, 156342, 456213, 456123, 154326, 165324, 462513, 156432, 356214, 256314, 145326, 156324, 156423, 426513, 365214, 265314, 345126, 456231, 356241, 365241, 456123, 456132, 143256, 154263, 154263, 146253, 163254, 145263, 154236, 165234, 462153, 156342, 256134, 356124, 154236, 462135, 165234, 256143, 165234, 165324, 146235, 156324, 256134, 246513, 263145, 236415, 163245, 256143, 165243, 263154, 365214, 256143, 126345, 145263, 146352, 136254, 136254, 154263, 145236, 156234, 156243, 426153, 265134, 365124, 146325, 156234, 256314, 246153, 236145, 263415, 136245, 426135, 246135, 156234, 156234, 156324, 136245, 265143, 236154, 156243, 356214, 236154, 231456, 341562, 153462, 341562, 143562, 143652, 341526, 451623, 163542, 452613, 153642, 451623, 153426, 163524, 462315, 352614, 154632, 253614, 341526, 452631, 352641, 451623, 362541, 451632, 143526, 153624, 154623, 362514, 425613, 263514, 341256, 451263, 163452, 452163, 451263, 153462, 451236, 561234, 641352, 561243, 561324, 561234, 163425, 641325, 364512, 462315, 463215, 561243, 452136, 561234, 462351, 561324, 561342, 561234, 451236, 561342, 463251, 561324, 561234, 561243, 153246, 163254, 462135, 352164, 253164, 154362, 163245, 641235, 364152, 462135, 561423, 463125, 462153, 364125, 462135, 365124, 362145, 362415, 352146, 462153, 365142, 462135, 362145, 463152, 253146, 561432, 362154, 362154, 263145, 561324, 341256, 452361, 352461, 451263, 451362, 362451, 452316, 561324, 462531, 561234, 561324, 561432, 352416, 462513, 365412, 462315, 463512, 362415, 451236, 561243, 462351, 561234, 561342, 561432, 451326, 561342, 463521, 561324, 561423, 561423, 142356, 152463, 152463, 162354, 142653, 142563, 152436, 162534, 461253, 251634, 153642, 351624, 152436, 461235, 162534, 162534, 251643, 163524, 162345, 251643, 162543, 362514, 261354, 251643, 142635, 153624, 251634, 261345, 245613, 234615, 152346, 162354, 461235, 251364, 351264, 153462, 162345, 642135, 361452, 564123, 461235, 461325, 461253, 361425, 461235, 361245, 361524, 364215, 251346, 564132, 361254, 261345, 361254, 562314, 351246, 461253, 361542, 361245, 461235, 461352, 152346, 461325, 162354, 162354, 163254, 251463, 461352, 361245, 461325, 361425, 364125, 361254, 162345, 461352, 361245, 362154, 361254, 361245, 162345, 361452, 362145, 361425, 261354, 261354, 163245, 364152, 361245, 261345, 364125, 263154, 162435, 251463, 162453, 362154, 251463, 261534, 251436, 564312, 361524, 261435, 562134, 361524, 162435, 361542, 362415, 361245, 261534, 261534, 362145, 261453, 361254, 651234, 261453, 261543, 251436, 562143, 261543, 261435, 562134, 361542, 213456, 314562, 314562, 135462, 134562, 134652, 314526, 415623, 425613, 136542, 135642, 415623, 314526, 425631, 415623, 325641, 326541, 415632, 135426, 136524, 325614, 426315, 145632, 235614, 134526, 135624, 326514, 145623, 423615, 236514, 314256, 415263, 425163, 136452, 415263, 135462, 415236, 516234, 516243, 614352, 516324, 516234, 425136, 516234, 516324, 426351, 516342, 516234, 136425, 614325, 426315, 346512, 436215, 516243, 415236, 516342, 516324, 436251, 516234, 516243, 314256, 425361, 415263, 325461, 415362, 326451, 425316, 516324, 516234, 426531, 516324, 516432, 415236, 516243, 516234, 426351, 516342, 516432, 325416, 426513, 426315, 356412, 436512, 326415, 415326, 516342, 516324, 436521, 516423, 516423, 135246, 136254, 325164, 426135, 235164, 145362, 136245, 614235, 426135, 346152, 516423, 436125, 325146, 426153, 426135, 356142, 326145, 436152, 426153, 346125, 356124, 426135, 326145, 326415, 235146, 516432, 326154, 326154, 236145, 516324, 312456, 412563, 421563, 412563, 134652, 134562, 412536, 512634, 512643, 513624, 613452, 512634, 421536, 512634, 513624, 513642, 423651, 512634, 412536, 513642, 513624, 512634, 432651, 512643, 134625, 613425, 423615, 432615, 345612, 512643, 412356, 512364, 512463, 513264, 512364, 613542, 512346, 612345, 621354, 612354, 612435, 612345, 512436, 621345, 612534, 613452, 612543, 621345, 513246, 612345, 613425, 612435, 612453, 612345, 512346, 612453, 612534, 612435, 612345, 612354, 421356, 512364, 513264, 513462, 512364, 423561, 512346, 621435, 612354, 613542, 621435, 612453, 513246, 612345, 621345, 1402563, 612435, 612345, 513426, 613524, 1402536, 1420356, 612354, 612354, 512346, 621453, 612453, 612345, 621534, 612435, 412356, 513462, 513264, 512364, 512463, 432561, 513426, 612435, 613245, 612345, 612435, 612543, 513246, 613254, 1402356, 1420536, 612345, 612534, 512346, 612354, 1420563, 612345, 612453, 612543, 512436, 612453, 612354, 612435, 612534, 612534, 312456, 423561, 412563, 413562, 324561, 324651, 423516, 513624, 512634, 513624, 425631, 514632, 412536, 512643, 512634, 513642, 423651, 514632, 413526, 513642, 513624, 514623, 435621, 514623, 324516, 425613, 423615, 435612, 354612, 324615, 423156, 513264, 512364, 513264, 514362, 425361, 513246, 624135, 612345, 624135, 614523, 614253, 512346, 612354, 623145, 612354, 1405263, 613245, 513246, 624153, 612345, 625134, 613245, 614235, 514326, 614532, 1405236, 613254, 1423056, 613254, 412356, 512463, 512364, 513462, 514362, 423561, 512436, 612534, 623415, 612534, 613425, 1405623, 512346, 623451, 612345, 613452, 612543, 612453, 513426, 612543, 613425, 614523, 613542, 614523, 514326, 613452, 612534, 613524, 613524, 614532, 413256, 513462, 513264, 514263, 514263, 435261, 513426, 624513, 612435, 625314, 614325, 613425, 513246, 612453, 613245, 614253, 614253, 613452, 514236, 625341, 614235, 615234, 615324, 615234, 514236, 614352, 614235, 615342, 615234, 615243] = true := by decide +kernel
theorem tab9 : chkTab 9 ((allTrees 7).map fun t => t ++ [0, 0]) [12345678, 23456178, 14356278, 12645378, 12385467, 12358467, 23451678, 34561278, 15463278, 12754368, 12574368, 34561278, 14352678, 15462378, 15462378, 12845367, 12485367, 16352478, 12643578, 12753468, 12843567, 12753468, 12683457, 13652478, 12384567, 12573468, 12483567, 12684357, 12483567, 13562478, 23415678, 34516278, 15436278, 12745368, 34516278, 12547368, 34512678, 45612378, 16534278, 12845367, 45621378, 45612378, 15432678, 16532478, 27513468, 13865247, 17543268, 17352468, 12743568, 12843567, 13862547, 21853467, 14832657, 13752468, 34512678, 45623178, 17542368, 14836257, 45612378, 45613278, 14325678, 15426378, 15426378, 12854367, 16325478, 12458367, 15423678, 16523478, 27531468, 13856247, 17325468, 17534268, 15423678, 27534168, 16523478, 15823467, 16523478, 16532478, 12853467, 13852647, 15824367, 12853467, 14823567, 16834257, 16324578, 17324568, 16524378, 14825367, 18324657, 17425368, 12634578, 12735468, 12834567, 12735468, 13625478, 12638457, 12734568, 12834567, 13826547, 21835467, 13725468, 14823657, 12835467, 13825647, 15842367, 12835467, 16843257, 14826357, 12734568, 21834567, 12834567, 12834567, 13842657, 13824657, 13624578, 13724568, 16842357, 13846257, 13824657, 13826457, 23145678, 34156278, 15346278, 34156278, 12475368, 12457368, 34152678, 45162378, 16354278, 45261378, 12485367, 45162378, 15342678, 16352478, 27153468, 17453268, 13685247, 17342568, 34152678, 45263178, 17452368, 45162378, 14386257, 45163278, 12473568, 12483567, 13682547, 14382657, 21583467, 13572468, 34125678, 45126378, 16345278, 45216378, 45126378, 12458367, 45123678, 56123478, 17345268, 56124378, 56132478, 56123478, 16342578, 17342568, 17352468, 17542368, 17452368, 18342657, 45213678, 56123478, 17543268, 56132478, 56134278, 56123478, 45123678, 56134278, 17453268, 56132478, 56123478, 56124378, 15324678, 16325478, 27135468, 17435268, 17324568, 13658247, 16324578, 17324568, 17325468, 17524368, 18324657, 17425368, 27134568, 17324568, 17423568, 17524368, 17432568, 17423568, 17432568, 17523468, 17523468, 28134567, 28316745, 18532467, 17325468, 18325647, 17435268, 28314756, 26314578, 18625347, 34125678, 45236178, 17425368, 45126378, 45136278, 14368257, 45231678, 56132478, 17534268, 56123478, 56132478, 56143278, 17423568, 17532468, 17532468, 28143567, 18523467, 28361745, 45123678, 56124378, 28145367, 56123478, 56134278, 56143278, 45132678, 56134278, 18524367, 56132478, 56142378, 56142378, 14235678, 15246378, 15246378, 16235478, 12584367, 12548367, 15243678, 16253478, 27351468, 17235468, 13586247, 17354268, 15243678, 27354168, 16253478, 16253478, 15283467, 16352478, 16234578, 17234568, 16254378, 18234657, 14285367, 17245368, 12583467, 13582647, 15284367, 14283567, 12583467, 16384257, 15234678, 16235478, 27315468, 17234568, 17345268, 13568247, 16234578, 17234568, 17235468, 18234657, 17254368, 17245368, 27314568, 17234568, 17243568, 17342568, 17254368, 17243568, 17235468, 18235647, 17345268, 26134578, 28134756, 18265347, 17342568, 17253468, 17253468, 28136745, 28314567, 18263547, 15234678, 27345168, 16235478, 16235478, 16325478, 15238467, 27341568, 17243568, 17234568, 17324568, 17234568, 17245368, 16234578, 17235468, 17234568, 17324568, 17234568, 17243568, 16234578, 17325468, 17325468, 17234568, 26135478, 18345267, 16324578, 17235468, 17235468, 26134578, 17324568, 18246357, 16243578, 17243568, 16245378, 18243657, 17254368, 14258367, 17245368, 18245637, 17354268, 26143578, 18256347, 28143756, 16243578, 17352468, 17352468, 17243568, 18354267, 26153478, 18246357, 26145378, 17245368, 38214657, 18264357, 18246357, 17253468, 18253647, 18352467, 18263457, 18263457, 28143756, 21345678, 31456278, 31456278, 13546278, 13456278, 13465278, 31452678, 41562378, 42561378, 13654278, 13564278, 41562378, 31452678, 42563178, 41562378, 13846257, 13486257, 41563278, 13542678, 13652478, 13842657, 21753468, 13582467, 13742568, 13452678, 13562478, 13482657, 13584267, 21483567, 13472568, 31425678, 41526378, 42516378, 13645278, 41526378, 13546278, 41523678, 51623478, 51624378, 13745268, 51632478, 51623478, 42513678, 51623478, 51632478, 14852367, 51634278, 51623478, 13642578, 13742568, 14853267, 13752468, 14752368, 13842657, 41523678, 51634278, 51632478, 14753268, 51623478, 51624378, 31425678, 42536178, 41526378, 13864257, 41536278, 13468257, 42531678, 51632478, 51623478, 14825367, 51632478, 51643278, 41523678, 51624378, 51623478, 21845367, 51634278, 51643278, 13862457, 14823567, 21843567, 13862457, 15823467, 23861745, 41532678, 51634278, 51632478, 15824367, 51642378, 51642378, 13524678, 13625478, 13824657, 21735468, 13724568, 13528467, 13624578, 13724568, 14835267, 13725468, 13824657, 14725368, 13826457, 14832567, 21834567, 13826457, 23816745, 15832467, 21734568, 13724568, 13824657, 14723568, 14732568, 14723568, 13725468, 13825647, 23814756, 14735268, 23614578, 16825347, 31245678, 41256378, 42156378, 41256378, 13465278, 13456278, 41253678, 51263478, 51264378, 51362478, 13475268, 51263478, 42153678, 51263478, 51362478, 51364278, 14582367, 51263478, 41253678, 51364278, 51362478, 51263478, 14573268, 51264378, 13462578, 13472568, 14583267, 14572368, 13572468, 13482657, 41235678, 51236478, 51246378, 51326478, 51236478, 13457268, 51234678, 61234578, 62135478, 61235478, 61243578, 61234578, 51243678, 62134578, 61253478, 61345278, 61254378, 62134578, 51324678, 61234578, 61342578, 61243578, 61245378, 61234578, 51234678, 61245378, 61253478, 61243578, 61234578, 61235478, 42135678, 51236478, 51326478, 51346278, 51236478, 14528367, 51234678, 62143578, 61235478, 61354278, 62143578, 61245378, 51324678, 61234578, 62134578, 71456328, 61243578, 61234578, 51342678, 61352478, 71453628, 72351468, 61235478, 61235478, 51234678, 62145378, 61245378, 61234578, 62153478, 61243578, 41235678, 51346278, 51326478, 51236478, 51246378, 14537268, 51342678, 61243578, 61324578, 61234578, 61243578, 61254378, 51324678, 61325478, 71435628, 72315468, 61234578, 61253478, 51234678, 61235478, 72314568, 61234578, 61245378, 61254378, 51243678, 61245378, 61235478, 61243578, 61253478, 61253478, 31245678, 42356178, 41256378, 41356278, 13684257, 13648257, 42351678, 51362478, 51263478, 51362478, 14285367, 51463278, 41253678, 51264378, 51263478, 51364278, 21485367, 51463278, 41352678, 51364278, 51362478, 51462378, 15284367, 51462378, 13682457, 14283567, 21483567, 15283467, 13682457, 23681745, 42315678, 51326478, 51236478, 51326478, 51436278, 14258367, 51324678, 62413578, 61234578, 62413578, 61452378, 61425378, 51234678, 61235478, 62314578, 61235478, 71364258, 61324578, 51324678, 62415378, 61234578, 62513478, 61324578, 61423578, 51432678, 61453278, 71362458, 61325478, 72531468, 61325478, 41235678, 51246378, 51236478, 51346278, 51436278, 21458367, 51243678, 61253478, 62341578, 61253478, 61342578, 71346258, 51234678, 62345178, 61234578, 61345278, 61254378, 61245378, 51342678, 61254378, 61342578, 61452378, 61354278, 61452378, 51432678, 61345278, 61253478, 61352478, 61352478, 61453278, 41325678, 51346278, 51326478, 51426378, 51426378, 15248367, 51342678, 62451378, 61243578, 62531478, 61432578, 61342578, 51324678, 61245378, 61324578, 61425378, 61425378, 61345278, 51423678, 62534178, 61423578, 61523478, 61532478, 61523478, 51423678, 61435278, 61423578, 61534278, 61523478, 61524378] = true := by decide +kernel
def TreeDrawn (r : List Int) : Prop := r.length ≤ 7 ∨ (9 ≤ r.length ∧ r.length ≤ 10 ∧ ∃ (b : List Int) (j : Nat), b.length ≤ 7 ∧ r = b ++ List.replicate j 0)
theorem TreeDrawn.len {r : List Int} (h : TreeDrawn r) : r.length ≤ 10 := by
  rcases h with h | h
  · omega
  · exact h.2.1
theorem drawn_graceful {t : List Int} (h : TreeDrawn t) (hb : treeB t = true) : ∃ l, GrOk t l := by
  have ht := treeB_is hb
  have hl := ht.len
  rcases h with h | ⟨h1, h2, b, j, hbl, e⟩
  · have hm := mem_allTrees ht t.length hl.1 (Nat.le_refl _)
    rw [List.take_of_length_le (Nat.le_refl _)] at hm
    have hc : t.length = 1 ∨ t.length = 2 ∨ t.length = 3 ∨ t.length = 4 ∨ t.length = 5 ∨ t.length = 6 ∨ t.length = 7 := by omega
    rcases hc with hc | hc | hc | hc | hc | hc | hc <;> rw [hc] at hm
    · obtain ⟨l, hg⟩ := chkTab_ok tab1 t hm; exact ⟨l, goodB_ok hg⟩
    · obtain ⟨l, hg⟩ := chkTab_ok tab2 t hm; exact ⟨l, goodB_ok hg⟩
    · obtain ⟨l, hg⟩ := chkTab_ok tab3 t hm; exact ⟨l, goodB_ok hg⟩
    · obtain ⟨l, hg⟩ := chkTab_ok tab4 t hm; exact ⟨l, goodB_ok hg⟩
    · obtain ⟨l, hg⟩ := chkTab_ok tab5 t hm; exact ⟨l, goodB_ok hg⟩
    · obtain ⟨l, hg⟩ := chkTab_ok tab6 t hm; exact ⟨l, goodB_ok hg⟩
    · obtain ⟨l, hg⟩ := chkTab_ok tab7 t hm; exact ⟨l, goodB_ok hg⟩
  · have hm := mem_allTrees ht 7 (by omega) (by omega)
    have e9 : t.length = 9 := by omega
    have ed : t.drop 7 = [0, 0] := by
      have hlen : b.length + j = 9 := by rw [e, List.length_append, List.length_replicate] at e9; exact e9
      rw [e, List.drop_append, List.drop_of_length_le (by omega), List.nil_append, List.drop_replicate, show j - (7 - b.length) = 2 by omega]
      rfl
    have et : t = t.take 7 ++ [0, 0] := by rw [← ed, List.take_append_drop]
    obtain ⟨l, hg⟩ := chkTab_ok tab9 t (List.mem_map.2 ⟨t.take 7, hm, et.symm⟩)
    exact ⟨l, goodB_ok hg⟩
theorem tree_L1_shape {l b : List Int} (hbl : b.length ≤ 7) : ∀ (m j : Nat) (M a s : Int), b.length + j + m = 10 → DrawSt l M a → M + 2 * m ≤ 1000 → ∃ r a' z, Zag.L1 (b ++ List.replicate j 0) l a s = some (r, a', z) ∧ TreeDrawn r ∧ DrawSt l (M + 2 * m + 2) a'
  | 0, j, M, a, s, hx, hs, hM => by
    obtain ⟨p, a1, z1, e1, p0, p1, hs1⟩ := Zax.ok s 2 hs (by omega)
    have hlen : (b ++ List.replicate j 0).length = b.length + j := by rw [List.length_append, List.length_replicate]
    rw [Zag.L1_eq, e1]
    simp only [Option.bind_some]
    rw [wrap_in (n := 9 + p) (by omega) (by omega), if_neg (by omega)]
    exact ⟨_, _, _, rfl, .inr ⟨by omega, by omega, b, j, hbl, rfl⟩, hs1.more (by omega)⟩
  | m + 1, j, M, a, s, hx, hs, hM => by
    obtain ⟨p, a1, z1, e1, p0, p1, hs1⟩ := Zax.ok s 2 hs (by omega)
    have hlen : (b ++ List.replicate j 0).length = b.length + j := by rw [List.length_append, List.length_replicate]
    rw [Zag.L1_eq, e1]
    simp only [Option.bind_some]
    rw [wrap_in (n := 9 + p) (by omega) (by omega)]
    by_cases hc : ((b ++ List.replicate j 0).length : Int) < 9 + p
    · rw [if_pos hc, if_pos (by omega), List.append_assoc, show (List.replicate j 0 ++ [0] : List Int) = List.replicate (j + 1) 0 from (List.replicate_succ' ..).symm]
      obtain ⟨r, a', z, e, hr, hs2⟩ := tree_L1_shape hbl m (j + 1) (M + 2) a1 z1 (by omega) hs1 (by omega)
      exact ⟨r, a', z, e, hr, hs2.more (by omega)⟩
    · rw [if_neg hc]
      exact ⟨_, _, _, rfl, .inr ⟨by omega, by omega, b, j, hbl, rfl⟩, hs1.more (by omega)⟩
theorem tree_L0_shape {l : List Int} : ∀ (m : Nat) (x : List Int) (M a s : Int), 1 ≤ x.length → x.length + m ≤ 7 → DrawSt l M a → M + 4 * m ≤ 500 → ∃ r a' z, Zag.L0 x (m : Int) l a s = some (r, a', z) ∧ TreeDrawn r ∧ DrawSt l (M + 4 * m + 100) a'
  | 0, x, M, a, s, h1, h7, hs, hM => by
    obtain ⟨p, a1, z1, e1, p0, p1, hs1⟩ := Zax.ok s 14 hs (by omega)
    rw [Zag.L0_eq, if_neg (by omega), e1]
    simp only [Option.bind_some]
    by_cases h0 : p = 0
    rotate_left
    · rw [if_neg h0]
      by_cases h2 : p = 1
      · rw [if_pos h2]
        exact ⟨_, _, _, rfl, .inl (Nat.zero_le _), hs1.more (by omega)⟩
      rw [if_neg h2]
      by_cases h3 : p = 2
      · rw [if_pos h3]
        obtain ⟨r, a', z, e, hr, hs2⟩ := tree_L1_shape (l := l) (b := x) (by omega) (10 - x.length) 0 (M + 2) a1 z1 (by omega) hs1 (by omega)
        rw [List.replicate_zero, List.append_nil] at e
        exact ⟨r, a', z, e, hr, hs2.more (by omega)⟩
      · rw [if_neg h3]
        exact ⟨_, _, _, rfl, .inl (by omega), hs1.more (by omega)⟩
    obtain ⟨i, a2, z2, e2, i0, i1, hs2⟩ := Zax.ok z1 (x.length : Int) hs1 (by omega)
    obtain ⟨v, a3, z3, e3, _, hs3⟩ := Zbp.ok z2 [-1, -2, 0, 5, 4611686018427387904] (by decide) hs2 (by omega)
    rw [if_pos h0, e2]
    simp only [Option.bind_some]
    rw [e3]
    simp only [Option.bind_some]
    rw [if_pos i0, if_pos (by omega)]
    exact ⟨_, _, _, rfl, .inl (by rw [List.length_set]; omega), hs3.more (by omega)⟩
  | m + 1, x, M, a, s, h1, h7, hs, hM => by
    obtain ⟨t, a1, z1, e1, hs1⟩ := Zbd.ok s 3 hs (by omega)
    have w : wrap64 (((m + 1 : Nat) : Int) - 1) = (m : Int) := by rw [wrap_in (by omega) (by omega)]; omega
    rw [Zag.L0_eq, if_pos (by omega), e1]
    simp only [Option.bind_some]
    by_cases ht : t = true
    · rw [if_pos ht, if_pos (by omega), w]
      obtain ⟨r, a', z, e, hr, hs2⟩ := tree_L0_shape m (x ++ [wrap64 ((x.length : Int) - 1)]) (M + 2) a1 z1 (by rw [List.length_append, List.length_singleton]; omega) (by rw [List.length_append, List.length_singleton]; omega) hs1 (by omega)
      exact ⟨r, a', z, e, hr, hs2.more (by omega)⟩
    obtain ⟨p, a2, z2, e2, _, _, hs2⟩ := Zax.ok z1 (x.length : Int) hs1 (by omega)
    rw [if_neg ht, e2]
    simp only [Option.bind_some]
    rw [if_pos (by omega), w]
    obtain ⟨r, a', z, e, hr, hs3⟩ := tree_L0_shape m (x ++ [p]) (M + 2 + 2) a2 z2 (by rw [List.length_append, List.length_singleton]; omega) (by rw [List.length_append, List.length_singleton]; omega) hs2 (by omega)
    exact ⟨r, a', z, e, hr, hs3.more (by omega)⟩
theorem tree_shape {l : List Int} {M a : Int} (s : Int) (hs : DrawSt l M a) (hM : M ≤ 300) : ∃ r a' z, Zag.F l a s = some (r, a', z) ∧ TreeDrawn r ∧ DrawSt l (M + 200) a' := by
  obtain ⟨p, a1, z1, e1, p0, p1, hs1⟩ := Zax.ok s 7 hs (by omega)
  obtain ⟨n, rfl⟩ : ∃ n : Nat, p = n := ⟨p.toNat, by omega⟩
  obtain ⟨r, a', z, e, hr, hs2⟩ := tree_L0_shape (l := l) n [-1] (M + 2) a1 z1 (Nat.le_refl _) (by rw [List.length_singleton]; omega) hs1 (by omega)
  refine ⟨r, a', z, ?_, hr, hs2.more (by omega)⟩
  rw [Zag.F_eq, e1]
  exact e
theorem drawn_first {l : List Int} (h : DrawSt l 0 0) : ∃ t, Zba.F l = some t ∧ TreeDrawn t := by
  obtain ⟨r, a1, z1, e1, hr, hs1⟩ := tree_shape 0 h (by omega)
  rw [Zba.F_eq, e1]
  simp only [Option.bind_some]
  by_cases h7 : (r.length : Int) > 7
  rotate_left
  · rw [if_neg h7]
    exact ⟨_, rfl, hr⟩
  obtain ⟨o, a2, z2, e2, _⟩ := Zbd.ok z1 8 hs1 (by omega)
  rw [if_pos h7, e2]
  simp only [Option.bind_some]
  by_cases ho : o = true
  · rw [if_pos ho]
    exact ⟨_, rfl, hr⟩
  · rw [if_neg ho, if_pos (by omega)]
    exact ⟨_, rfl, .inl (by rw [List.length_take]; exact Nat.min_le_left _ _)⟩
theorem labelsOf_end {l : List Int} {n : Nat} (hn : n ≤ 100) (out : List Int) (ho : out.length ≤ 100) (x : Int) (s : Int) {M a : Int} (hs : DrawSt l M a) (hM : M ≤ 200000) : ∃ r a' z, Zac.J1 (n : Int) out x false l a s = some (r, a', z) ∧ r.length ≤ 200 ∧ DrawSt l (M + 100) a' := by
  obtain ⟨o, a1, z1, e1, hs1⟩ := Zbd.ok s 12 hs (by omega)
  rw [Zac.J1_eq, if_neg (by decide), e1]
  simp only [Option.bind_some]
  by_cases h : o = true
  rotate_left
  · rw [if_neg h]
    exact ⟨_, _, _, rfl, by omega, hs1.more (by omega)⟩
  obtain ⟨v, a2, z2, e2, _, hs2⟩ := Zbp.ok z1 [-1, 0, (n : Int)] (by simp) hs1 (by omega)
  rw [if_pos h, e2]
  simp only [Option.bind_some]
  rw [if_pos (by omega)]
  exact ⟨_, _, _, rfl, by rw [List.length_append, List.length_singleton]; omega, hs2.more (by omega)⟩
theorem Zac.L0_ok {l : List Int} {n : Nat} (hn : n ≤ 100) : ∀ (m x : Nat) (out : List Int) (M a s : Int), x + m = n → out.length ≤ x → DrawSt l M a → M + 2 * m ≤ 100000 → ∃ r a' z, Zac.L0 (n : Int) out (x : Int) l a s = some (r, a', z) ∧ r.length ≤ 200 ∧ DrawSt l (M + 2 * m + 100) a'
  | 0, x, out, M, a, s, hm, ho, hs, hM => by
    rw [Zac.L0_eq, if_neg (by omega)]
    obtain ⟨r, a', z, e, hr, hs2⟩ := labelsOf_end hn out (by omega) (x : Int) s hs (by omega)
    exact ⟨r, a', z, e, hr, hs2.more (by omega)⟩
  | m + 1, x, out, M, a, s, hm, ho, hs, hM => by
    rw [Zac.L0_eq, if_pos (by omega)]
    by_cases h12 : (x : Int) < 12
    rotate_left
    · rw [decide_eq_false h12]
      obtain ⟨r, a', z, e, hr, hs2⟩ := labelsOf_end hn out (by omega) (x : Int) s hs (by omega)
      exact ⟨r, a', z, e, hr, hs2.more (by omega)⟩
    obtain ⟨p, a1, z1, e1, p0, p1, hs1⟩ := Zax.ok s ((out.length : Int) + 1) hs (by omega)
    have hl1 : (out.take p.toNat).length ≤ out.length := by rw [List.length_take]; exact Nat.min_le_right _ _
    have hl2 : (out.drop p.toNat).length ≤ out.length := by rw [List.length_drop]; omega
    have hl3 : (out.take p.toNat).length + (out.drop p.toNat).length = out.length := by rw [List.length_take, List.length_drop]; omega
    rw [decide_eq_true h12, Zac.J1_eq, if_pos rfl, wrap_in (n := (out.length : Int) + 1) (by omega) (by omega), e1]
    simp only [Option.bind_some]
    rw [if_pos p0, if_pos (by omega), Zbu.f_val _ (by omega)]
    simp only [Option.bind_some]
    rw [if_pos (by omega)]
    try simp only [Option.bind_some]
    rw [if_pos (by rw [List.length_append, List.length_singleton]; omega), wrap_succ x (by omega)]
    obtain ⟨r, a', z, e, hr, hs2⟩ := Zac.L0_ok hn m (x + 1) (out.take p.toNat ++ [(x : Int)] ++ out.drop p.toNat) (M + 2) a1 z1 (by omega) (by rw [List.length_append, List.length_append, List.length_singleton]; omega) hs1 (by omega)
    exact ⟨r, a', z, e, hr, hs2.more (by omega)⟩
theorem Zac.ok {l : List Int} {n : Nat} (hn : n ≤ 100) {M a : Int} (s : Int) (hs : DrawSt l M a) (hM : M ≤ 10000) : ∃ r a' z, Zac.F l a s (n : Int) = some (r, a', z) ∧ r.length ≤ 200 ∧ DrawSt l (M + 1000) a' := by
  obtain ⟨r, a', z, e, hr, hs2⟩ := Zac.L0_ok (l := l) hn n 0 [] M a s (by omega) (Nat.le_refl _) hs (by omega)
  refine ⟨r, a', z, ?_, hr, hs2.more (by omega)⟩
  rw [Zac.F_eq]
  exact e
theorem drawn_labelled {l : List Int} (h : DrawSt l 0 0) : ∃ ps ls, Zbe.F l = some (ps, ls) ∧ ps.length ≤ 100 ∧ ls.length ≤ 200 := by
  obtain ⟨ps, a1, z1, e1, hr, hs1⟩ := tree_shape 0 h (by omega)
  have hl := hr.len
  have hlab : ∃ r1 r2 r3 r4, Zbo.F l 0 0 = some (r1, r2, r3, r4) ∧ r1.length ≤ 100 ∧ r2.length ≤ 200 := by
    unfold Zbo.F
    rw [e1]
    simp only [Option.bind_some]
    rw [Zah.F_val ps (by omega)]
    simp only [Option.bind_some]
    by_cases hc : treeB ps = true ∧ ps.length ≤ 7
    rotate_left
    · obtain ⟨r, a', z, e, hr2, _⟩ := Zac.ok (l := l) (n := ps.length) (by omega) z1 hs1 (by omega)
      rw [if_neg hc, e]
      exact ⟨_, _, _, _, rfl, by omega, hr2⟩
    rw [if_pos hc]
    have ht := treeB_is hc.1
    obtain ⟨o, a2, z2, e2, hs2⟩ := Zbd.ok z1 3 hs1 (by omega)
    obtain ⟨r, a', z, e, hr2, _⟩ := Zac.ok (l := l) (n := ps.length) (by omega) z2 hs2 (by omega)
    rw [e2]
    simp only [Option.bind_some]
    by_cases ho : o = true
    · rw [if_pos ho, e]
      exact ⟨_, _, _, _, rfl, by omega, hr2⟩
    rw [if_neg ho, Zbr.f_val ht.ok ht.len.2]
    simp only [Option.bind_some]
    have hh : ((allGr ps).head?.getD []).length ≤ 9 := by
      cases hg : allGr ps with
      | nil => exact Nat.zero_le _
      | cons x L =>
        have hm : x ∈ allGr ps := by rw [hg]; exact List.mem_cons_self
        have := ((mem_grList ht.ok x (ps.length + 1) [] (by simp) (by simp) List.nodup_nil List.nodup_nil (by simp)).1 hm).2.len
        show x.length ≤ 9
        have := ht.len
        omega
    by_cases hcnt : 0 < ((allGr ps).length : Int)
    rotate_left
    · rw [if_neg hcnt, e]
      exact ⟨_, _, _, _, rfl, by omega, hr2⟩
    obtain ⟨o2, a3, z3, e3, _⟩ := Zbd.ok z2 2 hs2 (by omega)
    rw [if_pos hcnt, e3]
    simp only [Option.bind_some]
    by_cases ho2 : o2 = true
    · rw [if_pos ho2, if_pos (by omega)]
      exact ⟨_, _, _, _, rfl, by omega, by rw [show (complB ((allGr ps).head?.getD [])).length = _ from List.length_map ..]; omega⟩
    · rw [if_neg ho2]
      exact ⟨_, _, _, _, rfl, by omega, by omega⟩
  obtain ⟨r1, r2, r3, r4, e, h1, h2⟩ := hlab
  refine ⟨r1, r2, ?_, h1, h2⟩
  rw [Zbe.F_eq, Zbh.F_eq, e]
  rfl
end Go.Proofs.Ytnhnpplccfojeaa.Fn
namespace Go.Proofs.Ytnhnpplccfojeaa.Pure
open Go.RowKit Go.Proofs.Ytnhnpplccfojeaa.Fn Go.Proofs.YtnhnpplccfojeaaW.PrintWords Go.Proofs.YtnhnpplccfojeaaW.PrintLast Go.Proofs.YtnhnpplccfojeaaW.PrintMore
set_option linter.unusedVariables false
set_option linter.unusedSimpArgs false
theorem nodup_idx {L : List Int} (h : L.Nodup) {i j : Nat} (hi : i < L.length) (hj : j < L.length) (e : L[i] = L[j]) : i = j := by
  have hp := List.pairwise_iff_getElem.1 h
  rcases Nat.lt_trichotomy i j with hl | hl | hl
  · exact absurd e (hp i j hi hj hl)
  · exact hl
  · exact absurd e.symm (hp j i hj hi hl)
theorem jsame (x : List Int) (hx : x.length ≤ 1000) : Zaq.F x x = some true := by
  rw [Zaq.F_val x x (by omega), decide_eq_true rfl]
theorem less_lex : ∀ a b : List Int, a.length = b.length → lessOf a b = lexB a b
  | [], [], _ => rfl
  | [], _ :: _, h => by simp at h
  | _ :: _, [], h => by simp at h
  | x :: a, y :: b, h => by
    show (if x = y then lessOf a b else decide (x < y)) = if x = y then lexB a b else decide (x < y)
    rw [less_lex a b (by simpa using h)]
theorem edges_rng {ps l : List Int} (h : Asked ps l) : ∀ x ∈ edgesB ps l, 1 ≤ x ∧ x ≤ (ps.length : Int) - 1 := fun x hx => by
  obtain ⟨i, hi, rfl⟩ := List.mem_map.1 hx
  rw [List.mem_range'_1, h.lab.len] at hi
  have hu := h.tree.up i hi.1 (by have := h.tree.len; omega)
  have hl := h.lab.len
  have g1 := h.lab.rng _ (rd_in (f := l) (i := (i : Int)) (by omega) (by have := h.tree.len; omega))
  have g2 := h.lab.rng _ (rd_in (f := l) (i := rd ps (i : Int)) hu.1 (by have := h.tree.len; omega))
  have hne : rd l (i : Int) ≠ rd l (rd ps (i : Int)) := fun e => by
    obtain ⟨j, hj⟩ : ∃ j : Nat, rd ps (i : Int) = j := ⟨(rd ps (i : Int)).toNat, by omega⟩
    rw [hj] at e hu
    rw [rd_nat l i (by have := h.tree.len; omega), rd_nat l j (by have := h.tree.len; omega)] at e
    have := nodup_idx h.lab.nod _ _ e
    omega
  unfold edgeL
  omega
theorem not_nodup : ∀ {L : List Int}, ¬ L.Nodup → ∃ x, x ∈ L ∧ x ∈ L.erase x
  | [], h => absurd List.nodup_nil h
  | x :: L, h => by
    rw [List.nodup_cons] at h
    by_cases hx : x ∈ L
    · exact ⟨x, by simp, by rw [List.erase_cons_head]; exact hx⟩
    · obtain ⟨y, h1, h2⟩ := not_nodup (L := L) fun hn => h ⟨hx, hn⟩
      refine ⟨y, by simp [h1], ?_⟩
      rw [List.erase_cons_tail (fun e => hx (by rw [eq_of_beq e]; exact h1))]
      exact List.mem_cons_of_mem _ h2
theorem graceful_all {ps l : List Int} (h : Asked ps l) : gracefulB ps l = true ↔ ∀ k : Nat, 1 ≤ k → k < ps.length → (k : Int) ∈ edgesB ps l := by
  have hr := edges_rng h
  have hlen : (edgesB ps l).length = ps.length - 1 := by rw [edgesB_len, h.lab.len]
  have hU : ∀ x : Int, x ∈ (List.range' 1 (ps.length - 1)).map (fun k : Nat => (k : Int)) ↔ 1 ≤ x ∧ x ≤ (ps.length : Int) - 1 := fun x => by
    rw [List.mem_map]
    constructor
    · rintro ⟨k, hk, rfl⟩
      rw [List.mem_range'_1] at hk
      omega
    · intro hx
      exact ⟨x.toNat, List.mem_range'_1.2 (by omega), by omega⟩
  have hUn : ((List.range' 1 (ps.length - 1)).map (fun k : Nat => (k : Int))).Nodup := List.Pairwise.map _ (fun a b (h : a ≠ b) e => h (by omega)) (List.nodup_range' ..)
  have hUl : ((List.range' 1 (ps.length - 1)).map (fun k : Nat => (k : Int))).length = ps.length - 1 := by simp
  unfold gracefulB
  rw [decide_eq_true_eq]
  constructor
  · intro hn k h1 hk
    refine Classical.byContradiction fun hm => ?_
    have := len_le_of_sub (edgesB ps l) (((List.range' 1 (ps.length - 1)).map (fun k : Nat => (k : Int))).erase (k : Int)) hn fun x hx => (hUn.mem_erase_iff).2 ⟨fun e => hm (e ▸ hx), (hU x).2 (hr x hx)⟩
    have hk2 : (k : Int) ∈ (List.range' 1 (ps.length - 1)).map (fun k : Nat => (k : Int)) := (hU _).2 (by omega)
    rw [List.length_erase_of_mem hk2, hUl] at this
    omega
  · intro hall
    refine Classical.byContradiction fun hn => ?_
    obtain ⟨x, hx, hx2⟩ := not_nodup hn
    have := len_le_of_sub ((List.range' 1 (ps.length - 1)).map (fun k : Nat => (k : Int))) ((edgesB ps l).erase x) hUn fun z hz => by
      have hz2 := (hU z).1 hz
      have hm := hall z.toNat (by omega) (by omega)
      rw [Int.toNat_of_nonneg (by omega)] at hm
      by_cases e : z = x
      · rw [e]; exact hx2
      · exact (List.mem_erase_of_ne e).2 hm
    rw [List.length_erase_of_mem hx, hUl] at this
    have := List.length_pos_of_mem hx
    omega
theorem GrOk.asked {t l : List Int} (ht : TreeIs t) (h : GrOk t l) : Asked t l := ⟨ht, h.len, h.rng, h.nod⟩
theorem asked_is {t l : List Int} (h : Asked t l) (hb : treeB t = true) : askedB t l = true := by
  unfold askedB
  rw [hb, labB_is.2 h.lab]
  rfl
theorem mem_all {t : List Int} (ht : TreeIs t) (l : List Int) : l ∈ allGr t ↔ GrOk t l := by
  unfold allGr
  rw [mem_grList ht.ok l (t.length + 1) [] (by simp) (by simp) List.nodup_nil List.nodup_nil (by simp)]
  exact ⟨fun h => h.2, fun h => ⟨⟨l, rfl⟩, h⟩⟩
theorem compl_ok {t l : List Int} (ht : TreeIs t) (h : GrOk t l) : GrOk t (complL l) := by
  have hl : LabIs l.length l := ⟨rfl, by rw [h.len]; exact h.rng, h.nod⟩
  have hc := complL_lab hl
  exact ⟨by rw [complL_len, h.len], by have := hc.rng; rw [h.len] at this; exact this, hc.nod, by rw [complL_edges ht.ok h.len]; exact h.edg⟩
theorem all_even {t : List Int} (ht : TreeIs t) (h2 : 1 < t.length) : (allGr t).length % 2 = 0 := by
  refine even_inv complL _ (allGr t) rfl (grList_nodup t _ _) fun x hx => ?_
  have h := (mem_all ht x).1 hx
  refine ⟨(mem_all ht _).2 (compl_ok ht h), complL_twice x, fun e => ?_⟩
  have hl := h.len
  have e0 := complL_rd (l := x) (i := 0) (by omega) (by omega)
  have e1 := complL_rd (l := x) (i := 1) (by omega) (by omega)
  rw [e] at e0 e1
  have e2 : rd x ((0 : Nat) : Int) = rd x ((1 : Nat) : Int) := by show rd x 0 = rd x 1; omega
  rw [rd_nat x 0 (by omega), rd_nat x 1 (by omega)] at e2
  have := nodup_idx h.nod _ _ e2
  omega
theorem J6_false {x40 x41 : List Int} {x42 : Bool} {x45 : Int} {x46 : Bool} (h46 : x46 = true → 0 < x45) (h42 : x42 = false) : Zaa.J6 x40 x41 x42 x45 x46 false = some true := by
  rw [Zaa.J6_eq, if_neg (by decide), h42, if_neg (by decide)]
  by_cases h : x46 = true
  · rw [if_pos h, decide_eq_true (h46 h)]
  · rw [if_neg h]
theorem J5_val {l1 : List Int} (h1 : DrawSt l1 0 0) : Zaa.J5 l1 = some true := by
  obtain ⟨t, et, hd⟩ := drawn_first h1
  have htl := hd.len
  rw [Zaa.J5_eq, et]
  simp only [Option.bind_some]
  rw [Zbk.F_val t (by omega)]
  simp only [Option.bind_some]
  have eF : Zbg.F t = some (if treeB t = true then ((allGr t).head?.getD [], decide (0 < (((allGr t).head?.getD []).length : Int))) else ([], false)) := by
    rw [Zbg.F_eq, Zah.F_val t (by omega)]
    simp only [Option.bind_some]
    by_cases hb : treeB t = true
    rotate_left
    · rw [if_neg hb, if_neg hb]
    have ht := treeB_is hb
    rw [if_pos hb, if_pos hb, Zbr.f_val ht.ok ht.len.2]
    simp only [Option.bind_some]
    cases hg : allGr t with
    | nil => rfl
    | cons x L =>
      have hx := (mem_all ht x).1 (by rw [hg]; exact List.mem_cons_self)
      have h1 := hx.len
      have h2 := ht.len
      rw [if_neg (by rw [List.length_cons]; omega)]
      show some (x, true) = some (x, decide (0 < (x.length : Int)))
      rw [decide_eq_true (by omega)]
  have eC : Zbf.F t = some (if treeB t = true then (((allGr t).length : Int), true) else (0, false)) := by
    rw [Zbf.F_eq, Zah.F_val t (by omega)]
    simp only [Option.bind_some]
    by_cases hb : treeB t = true
    · have ht := treeB_is hb
      rw [if_pos hb, if_pos hb, Zbr.f_val ht.ok ht.len.2]
      rfl
    · rw [if_neg hb, if_neg hb]
  rw [eF]
  simp only [Option.bind_some]
  rw [Zbl.F_val t (by omega)]
  simp only [Option.bind_some]
  rw [eC]
  simp only [Option.bind_some, bne_self_eq_false, Bool.false_eq_true, if_false]
  clear eF eC
  by_cases hb : treeB t = true
  rotate_left
  · simp only [if_neg hb]
    show (Zaq.F [] []).bind _ = _
    rw [jsame [] (by simp)]
    simp only [Option.bind_some, if_true]
    rw [if_neg (by decide), if_neg (by decide), Zae.F_val t (by omega), Bool.eq_false_iff.2 hb]
    simp only [Option.bind_some, bne_self_eq_false]
    exact J6_false (fun h => by cases h) rfl
  have ht := treeB_is hb
  have hlen := ht.len
  obtain ⟨l, hl⟩ := drawn_graceful hd hb
  simp only [if_pos hb]
  cases hg : allGr t with
  | nil => exact absurd ((mem_all ht l).2 hl) (by rw [hg]; simp)
  | cons x L =>
    have hm : x ∈ allGr t := by rw [hg]; exact List.mem_cons_self
    have hx := (mem_all ht x).1 hm
    have hxl := hx.len
    have hcx := (mem_all ht _).2 (compl_ok ht hx)
    have hfirst := grList_first t (t.length + 1) [] x (complL x) (show (allGr t).head? = some x by rw [hg]; rfl) hcx
    have hev := all_even ht
    rw [hg] at hev
    show (Zaq.F x x).bind _ = _
    rw [jsame x (by omega)]
    simp only [Option.bind_some, if_true]
    have hd1 : decide (0 < (((x :: L).head?.getD []).length : Int)) = true := decide_eq_true (by show 0 < (x.length : Int); omega)
    have hd2 : decide ((((x :: L).length : Nat) : Int) > 0) = true := decide_eq_true (by rw [List.length_cons]; omega)
    rw [hd1, hd2, bne_self_eq_false, if_neg (by decide), Zae.F_val t (by omega), hb]
    simp only [Option.bind_some, bne_self_eq_false]
    rw [Zaa.J6_eq, if_neg (by decide), if_pos rfl]
    show (Zat.F t x).bind _ = _
    rw [Zat.F_val t x (by omega) (by omega), if_pos (asked_is (GrOk.asked ht hx) hb)]
    simp only [Option.bind_some]
    show (Zab.F x).bind _ = _
    rw [Zab.F_val (by omega) (by omega) ⟨rfl, by rw [hxl]; exact hx.rng, hx.nod⟩]
    simp only [Option.bind_some, if_true]
    rw [show gracefulB t x = true from decide_eq_true hx.edg, if_pos rfl]
    show (Zas.F (complL x) x).bind _ = _
    rw [Zas.F_val _ _ (by rw [complL_len]; omega), less_lex _ _ (complL_len x), hfirst]
    simp only [Option.bind_some]
    rw [if_neg (by decide)]
    by_cases h2 : (t.length : Int) > 1
    rotate_left
    · rw [if_neg h2, hd2]
    rw [if_pos h2, if_pos (by
      have := hev (by omega)
      rw [show (2 : Int) = ((2 : Nat) : Int) from rfl, ← Int.ofNat_tmod, this]
      rfl)]
    rw [hd2]
theorem rd_edges {ps : List Int} {i : Nat} (h : i < ps.length - 1) : rd_L2 (edgesOf ps) (i : Int) = [rd ps ((i + 1 : Nat) : Int), ((i + 1 : Nat) : Int)] := by
  have hl : i < (edgesOf ps).length := by unfold edgesOf; simp; omega
  have e : rd_L2 (edgesOf ps) (i : Int) = (edgesOf ps)[i] := by
    unfold rd_L2
    simp [List.getD_eq_getElem?_getD, List.getElem?_eq_getElem hl]
  rw [e]
  simp only [edgesOf, List.getElem_map, List.getElem_range']
  rw [show 1 + 1 * i = i + 1 by omega]
theorem edges_len (ps : List Int) : (edgesOf ps).length = ps.length - 1 := by unfold edgesOf; simp
theorem L0_val {x1 ps ls x11 : List Int} {x7 x8 x20 : Bool} {x19 : Int} (ht : TreeIs ps) : ∀ (m i : Nat), i + m = ps.length - 1 → Zaa.L0 x1 ps ls x7 x8 x11 x19 x20 (edgesOf ps) (edgesOf ps) ((edgesOf ps).length : Int) (i : Int) = Zaa.J2 x1 ps ls x7 x8 x11 x19 x20 (edgesOf ps)
  | 0, i, hm => by
    have := edges_len ps
    rw [Zaa.L0_eq, if_neg (by omega)]
  | m + 1, i, hm => by
    have hl := edges_len ps
    have h9 := ht.len
    have hu := ht.up (i + 1) (by omega) (by omega)
    rw [Zaa.L0_eq, if_pos (by omega), if_pos (by omega), if_pos (by omega), rd_edges (by omega), wrap_succ i (by omega)]
    rw [if_pos (show (([rd ps ((i + 1 : Nat) : Int), ((i + 1 : Nat) : Int)] : List Int).length : Int) = 2 from rfl), if_pos (show (1 : Int) < (([rd ps ((i + 1 : Nat) : Int), ((i + 1 : Nat) : Int)] : List Int).length : Int) from by show (1 : Int) < 2; decide), if_pos (show rd [rd ps ((i + 1 : Nat) : Int), ((i + 1 : Nat) : Int)] 1 = ((i + 1 : Nat) : Int) from rfl), if_pos (show (0 : Int) < (([rd ps ((i + 1 : Nat) : Int), ((i + 1 : Nat) : Int)] : List Int).length : Int) from by show (0 : Int) < 2; decide), if_pos (by omega), if_pos (by omega), if_pos (show rd [rd ps ((i + 1 : Nat) : Int), ((i + 1 : Nat) : Int)] 0 = rd ps ((i + 1 : Nat) : Int) from rfl), if_neg (show ¬ rd [rd ps ((i + 1 : Nat) : Int), ((i + 1 : Nat) : Int)] 0 ≥ rd [rd ps ((i + 1 : Nat) : Int), ((i + 1 : Nat) : Int)] 1 from by show ¬ rd ps ((i + 1 : Nat) : Int) ≥ ((i + 1 : Nat) : Int); omega)]
    exact L0_val ht m (i + 1) (by omega)
theorem L2_val {x1 ps ls : List Int} {x20 : Bool} {x19 : Int} (h : Asked ps ls) (hhalf : x20 = true → ∀ i : Nat, 1 ≤ i → i < ps.length → halfOk ps ls x19 i = true) : ∀ (m i : Nat), i + m = ps.length - 1 → Zaa.L2 x1 ls (edgesB ps ls) x19 x20 (edgesOf ps) ((edgesOf ps).length : Int) (i : Int) = Zaa.J5 x1
  | 0, i, hm => by
    have := edges_len ps
    rw [Zaa.L2_eq, if_neg (by omega)]
  | m + 1, i, hm => by
    have hl := edges_len ps
    have h9 := h.tree.len
    have hll := h.lab.len
    have hE : (edgesB ps ls).length = ps.length - 1 := by rw [edgesB_len, hll]
    have hu := h.tree.up (i + 1) (by omega) (by omega)
    have g1 := h.lab.rng _ (rd_in (f := ls) (i := ((i + 1 : Nat) : Int)) (by omega) (by omega))
    have g2 := h.lab.rng _ (rd_in (f := ls) (i := rd ps ((i + 1 : Nat) : Int)) hu.1 (by omega))
    have hd : rd (edgesB ps ls) (i : Int) = ((rd ls ((i + 1 : Nat) : Int) - rd ls (rd ps ((i + 1 : Nat) : Int))).natAbs : Int) := by
      rw [rd_nat _ i (by omega)]
      unfold edgesB
      simp only [List.getElem_map, List.getElem_range']
      rw [show 1 + 1 * i = i + 1 by omega]
      rfl
    have hh := fun h20 => hhalf h20 (i + 1) (by omega) (by omega)
    unfold halfOk at hh
    have r0 : rd [rd ps ((i + 1 : Nat) : Int), ((i + 1 : Nat) : Int)] 0 = rd ps ((i + 1 : Nat) : Int) := rfl
    have r1 : rd [rd ps ((i + 1 : Nat) : Int), ((i + 1 : Nat) : Int)] 1 = ((i + 1 : Nat) : Int) := rfl
    have l0 : (0 : Int) < (([rd ps ((i + 1 : Nat) : Int), ((i + 1 : Nat) : Int)] : List Int).length : Int) := by show (0 : Int) < 2; decide
    have l1 : (1 : Int) < (([rd ps ((i + 1 : Nat) : Int), ((i + 1 : Nat) : Int)] : List Int).length : Int) := by show (1 : Int) < 2; decide
    rw [Zaa.L2_eq, if_pos (by omega), if_pos (by omega), if_pos (by omega), if_pos (by omega), rd_edges (by omega), if_pos l0, r0, r1, if_pos hu.1, if_pos (by omega), if_pos l1, if_pos (by omega), if_pos (by omega), hd, wrap_succ i (by omega)]
    generalize rd ls (rd ps ((i + 1 : Nat) : Int)) = u at g2 hh ⊢
    generalize rd ls ((i + 1 : Nat) : Int) = v at g1 hh ⊢
    have ha : Zca.f (wrap64 (u - v)) = some (((v - u).natAbs : Nat) : Int) := by
      unfold Zca.f
      rw [wrap_in (n := u - v) (by omega) (by omega)]
      by_cases hn : u - v < 0
      · rw [if_pos hn, wrap_in (by omega) (by omega)]
        exact congrArg some (by omega)
      · rw [if_neg hn]
        exact congrArg some (by omega)
    rw [ha]
    simp only [Option.bind_some]
    rw [if_pos trivial]
    have ih := L2_val (x1 := x1) h hhalf m (i + 1) (by omega)
    by_cases h20 : x20 = true
    rotate_left
    · rw [if_neg h20]
      exact ih
    have hne := hh h20
    rw [if_pos h20, if_neg (by
      rw [bne_iff_ne] at hne
      rw [beq_iff_eq]
      exact fun e => hne e.symm)]
    exact ih
theorem L1_val {x1 ps ls : List Int} {x7 x20 : Bool} {x19 : Int} (h : Asked ps ls) (hg : x7 = gracefulB ps ls) (hhalf : x20 = true → ∀ i : Nat, 1 ≤ i → i < ps.length → halfOk ps ls x19 i = true) : ∀ (m k : Nat) (b : Bool), 1 ≤ k → k + m = ps.length → (b = true ↔ ∀ j : Nat, 1 ≤ j → j < k → (j : Int) ∈ edgesB ps ls) → Zaa.L1 x1 ls x7 (edgesB ps ls) x19 x20 (edgesOf ps) (ls.length : Int) b (k : Int) = Zaa.J5 x1
  | 0, k, b, h1, hm, hb => by
    have hll := h.lab.len
    have e : b = x7 := by
      rw [hg, Bool.eq_iff_iff, hb, graceful_all h]
      have : k = ps.length := by omega
      rw [this]
    rw [Zaa.L1_eq, if_neg (by omega), e, bne_self_eq_false, if_neg (by decide)]
    exact L2_val h hhalf (ps.length - 1) 0 (by omega)
  | m + 1, k, b, h1, hm, hb => by
    have hll := h.lab.len
    have h9 := h.tree.len
    rw [Zaa.L1_eq, if_pos (by omega), wrap_succ k (by omega)]
    cases b with
    | true =>
      rw [if_pos rfl, Zbb.F_val _ _ (by rw [edgesB_len]; omega)]
      simp only [Option.bind_some]
      refine L1_val h hg hhalf m (k + 1) _ (by omega) (by omega) ?_
      rw [decide_eq_true_eq]
      constructor
      · intro hk j j1 j2
        by_cases e : j = k
        · rw [e]; exact hk
        · exact hb.1 rfl j j1 (by omega)
      · intro hj
        exact hj k h1 (by omega)
    | false =>
      rw [if_neg (by decide)]
      refine L1_val h hg hhalf m (k + 1) false (by omega) (by omega) ⟨fun h => (by cases h), fun hj => ?_⟩
      exact hb.2 fun j j1 j2 => hj j j1 (by omega)
theorem J2_val {l1 ps ls : List Int} (h1 : DrawSt l1 0 0) (h : Asked ps ls) (hb : treeB ps = true) {x20 : Bool} {x19 : Int} (hhalf : x20 = true → ∀ i : Nat, 1 ≤ i → i < ps.length → halfOk ps ls x19 i = true) : Zaa.J2 l1 ps ls (gracefulB ps ls) true (edgesB ps ls) x19 x20 (edgesOf ps) = some true := by
  have hll := h.lab.len
  have h9 := h.tree.len
  have hlab : LabIs ls.length ls := by rw [hll]; exact h.lab
  have hc := complL_lab hlab
  have hca : Asked ps (complL ls) := ⟨h.tree, by rw [complL_len, hll], by have := hc.rng; rw [hll] at this; exact this, hc.nod⟩
  have hg : gracefulB ps (complL ls) = gracefulB ps ls := by unfold gracefulB; rw [complL_edges h.tree.ok hll]
  rw [Zaa.J2_eq, if_pos rfl, Zab.F_val (by omega) (by omega) hlab]
  simp only [Option.bind_some]
  rw [Zat.F_val ps _ (by omega) (by rw [complL_len]; omega), if_pos (asked_is hca hb), hg]
  simp only [Option.bind_some]
  rw [Zab.F_val (l := complL ls) (by rw [complL_len]; omega) (by rw [complL_len]; omega) (by rw [complL_len]; exact hc), complL_twice]
  simp only [Option.bind_some]
  rw [if_pos (by rw [edgesB_len, wrap_in (by omega) (by omega)]; omega), if_pos trivial, if_pos trivial, bne_self_eq_false, if_neg (by decide), if_pos trivial, jsame ls (by omega)]
  simp only [Option.bind_some, if_true]
  exact (L1_val h rfl hhalf (ps.length - 1) 1 true (Nat.le_refl _) (by omega) ⟨fun _ j j1 j2 => by omega, fun _ => rfl⟩).trans (J5_val h1)
theorem J0_tree {l1 ps ls x11 : List Int} {x7 x8 x20 : Bool} {x19 : Int} (hb : treeB ps = true) (hls : ls.length ≤ 1000) (h : Zaa.J2 l1 ps ls x7 x8 x11 x19 x20 (edgesOf ps) = some true) : Zaa.J0 l1 ps ls x7 x8 x11 x19 x20 (edgesOf ps) true false = some true := by
  have ht := treeB_is hb
  have h9 := ht.len
  rw [Zaa.J0_eq, if_neg (by decide), if_pos rfl, if_pos (by rw [edges_len, wrap_in (by omega) (by omega)]; omega)]
  exact (L0_val ht (ps.length - 1) 0 (by omega)).trans h
theorem rows_same (ps : List Int) (hp : ps.length ≤ 1000) : Zaw.F (edgesOf ps) (edgesOf ps) = some true := by
  rw [Zaw.F_val _ _ (by rw [edges_len]; omega) (fun x hx => by
    obtain ⟨i, _, rfl⟩ := List.mem_map.1 hx
    show (2 : Nat) < _
    decide), decide_eq_true rfl]
theorem FnTreesLabelled : Zaa.Pure := by
  intro l0 l1 _ _ w0 _ _ w1
  refine Lim.rounds (Zaa.F_lim l0 l1) ?_
  rw [Zaa.F_eq, Zby.f_val]
  simp only [Option.bind_some]
  by_cases hbig : 1048576 < l0.length ∨ 1048576 < l0.length + l1.length
  · rw [decide_eq_true hbig, if_pos rfl]
  rw [decide_eq_false hbig, if_neg (by decide)]
  have h0 := draw_start (l := l0) (by omega) w0
  have h1 := draw_start (l := l1) (by omega) w1
  have hJ5 := J5_val h1
  obtain ⟨ps, ls, ed, hp, hl⟩ := drawn_labelled h0
  have hST : Zbq.F ps = some (treeB ps) := by
    rw [Zbq.F_eq, Zah.F_val ps (by omega)]
    rfl
  rw [ed]
  simp only [Option.bind_some]
  rw [Zat.F_val ps ls (by omega) (by omega)]
  simp only [Option.bind_some]
  rw [Zbj.F_val ps ls (by omega) (by omega)]
  simp only [Option.bind_some]
  rw [Zbc.F_val ps ls (by omega) (by omega)]
  simp only [Option.bind_some]
  rw [Zbi.F_val ps ls (by omega) (by omega)]
  simp only [Option.bind_some]
  rw [Zbn.F_val ps ls (by omega) (by omega)]
  simp only [Option.bind_some]
  rw [Zbm.F_val ps ls (by omega) (by omega)]
  simp only [Option.bind_some]
  rw [Zad.F_val ps ls (by omega) (by omega)]
  simp only [Option.bind_some]
  rw [Zaf.F_val ps ls (by omega) (by omega)]
  simp only [Option.bind_some]
  rw [Zap.F_val ps (by omega)]
  simp only [Option.bind_some]
  rw [Zao.F_val ps (by omega)]
  simp only [Option.bind_some, bne_self_eq_false, Bool.false_eq_true, if_false]
  by_cases hb : treeB ps = true
  · by_cases hlb : labB ps.length ls = true
    · have hab : askedB ps ls = true := by unfold askedB; rw [hb, hlb]; rfl
      have ha := askedB_is hab
      simp only [if_pos hb, if_pos hab]
      show (Zaq.F (edgesB ps ls) (edgesB ps ls)).bind _ = _
      rw [jsame _ (by rw [edgesB_len]; omega)]
      simp only [Option.bind_some, if_true]
      rw [rows_same ps (by omega)]
      simp only [Option.bind_some, if_true]
      rw [Zae.F_val ps (by omega), hb]
      simp only [Option.bind_some, bne_self_eq_false, Bool.false_eq_true, if_false]
      rw [hST, hb]
      simp only [Option.bind_some, bne_self_eq_false, Bool.false_eq_true, if_false, if_true]
      rw [hlb, bne_self_eq_false, if_neg (by decide)]
      by_cases hh : (halvedF ps ls).2 = true
      rotate_left
      · rw [Bool.eq_false_iff.2 hh, if_neg (by decide)]
        exact J0_tree hb (by omega) (J2_val (x20 := false) (x19 := (halvedF ps ls).1) h1 ha hb (fun h => by cases h))
      have hg : gracefulB ps ls = true ∧ ∀ i : Nat, 1 ≤ i → i < ps.length → halfOk ps ls (halvedF ps ls).1 i = true := by
        unfold halvedF at hh ⊢
        by_cases hc : askedB ps ls = true ∧ gracefulB ps ls = true ∧ 2 ≤ ps.length
        · rw [if_pos hc] at hh ⊢
          exact ⟨hc.2.1, halfFrom_ok ps.length 0 hh⟩
        · rw [if_neg hc] at hh
          cases hh
      have hJ2 := J2_val (x20 := true) (x19 := (halvedF ps ls).1) h1 ha hb (fun _ => hg.2)
      rw [hg.1] at hJ2 ⊢
      rw [hh, if_pos rfl, Bool.not_true]
      exact J0_tree hb (by omega) hJ2
    · have hab : ¬ askedB ps ls = true := fun h => by unfold askedB at h; rw [Bool.and_eq_true] at h; exact hlb h.2
      have hhv : halvedF ps ls = (0, false) := if_neg fun h => hab h.1
      simp only [if_pos hb, if_neg hab, hhv]
      show (Zaq.F [] []).bind _ = _
      rw [jsame [] (by simp)]
      simp only [Option.bind_some, if_true]
      rw [rows_same ps (by omega)]
      simp only [Option.bind_some, if_true]
      rw [Zae.F_val ps (by omega), hb]
      simp only [Option.bind_some, bne_self_eq_false, Bool.false_eq_true, if_false]
      rw [hST, hb]
      simp only [Option.bind_some, bne_self_eq_false, Bool.false_eq_true, if_false, if_true]
      rw [Bool.eq_false_iff.2 hlb, bne_self_eq_false, if_neg (by decide)]
      exact J0_tree hb (by omega) (by rw [Zaa.J2_eq, if_neg (by decide)]; exact hJ5)
  · have hab : ¬ askedB ps ls = true := fun h => by unfold askedB at h; rw [Bool.and_eq_true] at h; exact hb h.1
    have hhv : halvedF ps ls = (0, false) := if_neg fun h => hab h.1
    simp only [if_neg hb, if_neg hab, hhv]
    show (Zaq.F [] []).bind _ = _
    rw [jsame [] (by simp)]
    simp only [Option.bind_some, if_true]
    show (Zaw.F [] []).bind _ = _
    rw [Zaw.F_val [] [] (by simp) (by simp), decide_eq_true rfl]
    simp only [Option.bind_some, if_true]
    rw [Zae.F_val ps (by omega), Bool.eq_false_iff.2 hb]
    simp only [Option.bind_some, bne_self_eq_false, Bool.false_eq_true, if_false]
    rw [hST, Bool.eq_false_iff.2 hb]
    simp only [Option.bind_some, bne_self_eq_false, Bool.false_eq_true, if_false]
    rw [Zaa.J0_eq, if_neg (by decide), if_neg (by decide), Zaa.J2_eq, if_neg (by decide)]
    exact hJ5
end Go.Proofs.Ytnhnpplccfojeaa.Pure
