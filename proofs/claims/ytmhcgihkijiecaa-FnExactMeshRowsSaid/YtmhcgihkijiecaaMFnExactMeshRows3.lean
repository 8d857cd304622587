/- The machine's side and plain lemmas for FnExactMeshRows: texts of this session, merged by its program (part 3). -/
import Derived.Test.YtmhcgihkijiecaaMFnExactMeshRows0
import Derived.Test.YtmhcgihkijiecaaMFnExactMeshRows1
import Derived.Test.YtmhcgihkijiecaaMFnExactMeshRows2
namespace Go.Proofs.Ytmhcgihkijiecaa.Fn
open Go.RowKit Go.Proofs.YtmhcgihkijiecaaW.PrintWords Go.Proofs.YtmhcgihkijiecaaW.PrintLast Go.Proofs.YtmhcgihkijiecaaW.PrintMore
set_option linter.unusedVariables false
set_option linter.unusedSimpArgs false
/-- The numbers a times as far apart and a times as great. -/
def spreadTail (a : Int) : List Int → List Int
  | [] => []
  | x :: t => List.replicate (a - 1).toNat 0 ++ (a * x) :: spreadTail a t
def spreadOf (a : Int) : List Int → List Int
  | [] => []
  | x :: t => a * x :: spreadTail a t
theorem spreadTail_length (a : Int) (h : 1 ≤ a) : ∀ l, (spreadTail a l).length = a.toNat * l.length
  | [] => by simp [spreadTail]
  | x :: t => by
    have ih := spreadTail_length a h t
    simp only [spreadTail, List.length_append, List.length_replicate, List.length_cons, ih]
    obtain ⟨m, rfl⟩ : ∃ m : Nat, a = (m : Int) := ⟨a.toNat, by omega⟩
    simp only [Int.toNat_natCast]
    rw [Nat.mul_succ]
    omega
/-- The place a times p lies a - 1 behind the first c places. -/
def PlaceAt (m p c : Nat) : Prop := (m : Int) * (p : Int) = ((c + (m - 1) : Nat) : Int)
theorem PlaceAt.wrap {m p c : Nat} (h : PlaceAt m p c) (hc : c ≤ 1000) (hm : m ≤ 10) : wrap64 ((m : Int) * (p : Int)) = ((c + (m - 1) : Nat) : Int) := by
  rw [show (m : Int) * (p : Int) = ((c + (m - 1) : Nat) : Int) from h]
  exact wrap_in (by omega) (by omega)
theorem PlaceAt.next {m p c : Nat} (h : PlaceAt m p c) (hm : 1 ≤ m) : PlaceAt m (p + 1) (c + (m - 1) + 1) := by
  unfold PlaceAt at h ⊢
  rw [Int.natCast_add p 1, Int.mul_add, h, Int.natCast_one, Int.mul_one]
  omega
theorem spread_set (acc : List Int) (m q : Nat) (y : Int) : (acc ++ List.replicate (m - 1 + (1 + q)) (0 : Int)).set (acc.length + (m - 1)) y = (acc ++ (List.replicate (m - 1) 0 ++ [y])) ++ List.replicate q 0 := by
  rw [List.set_append_right _ _ (by omega), Nat.add_sub_cancel_left, ← List.replicate_append_replicate, List.set_append_right _ _ (by simp), List.length_replicate, Nat.sub_self, Nat.add_comm 1, List.replicate_succ]
  simp
theorem succ_split (m n : Nat) (h : 1 ≤ m) : m * (n + 1) = (m - 1) + (1 + m * n) := by
  rw [Nat.mul_succ]
  generalize m * n = q
  omega
theorem mul_bounds {a x : Int} {n : Int} (h1 : 0 ≤ a) (h2 : a ≤ 10) (h3 : 0 ≤ x) (h4 : x ≤ n) : 0 ≤ a * x ∧ a * x ≤ 10 * n := ⟨Int.mul_nonneg h1 h3, Int.le_trans (Int.mul_le_mul_of_nonneg_right h2 h3) (Int.mul_le_mul_of_nonneg_left h4 (by omega))⟩
theorem mul_wrap {a x : Int} (h1 : 0 ≤ a) (h2 : a ≤ 10) (h3 : 0 ≤ x) (h4 : x ≤ 20) : wrap64 (a * x) = a * x := by
  have := mul_bounds h1 h2 h3 h4
  exact wrap_in (by omega) (by omega)
theorem spread_room2 (m n : Nat) (h1 : m ≤ 10) (h2 : n ≤ 40) : m * n + 1 ≤ 35184372088832 := by
  have := Nat.mul_le_mul h1 h2
  omega
theorem spread_room (m n : Nat) (h1 : m ≤ 10) (h2 : n ≤ 40) : wrap64 (wrap64 ((m : Int) * (n : Int)) + 1) = ((m * n + 1 : Nat) : Int) := by
  have := Nat.mul_le_mul h1 h2
  rw [← Int.natCast_mul]
  generalize m * n = q at this ⊢
  rw [wrap_in (n := (q : Int)) (by omega) (by omega), wrap_in (by omega) (by omega)]
  rfl
def spreadRow (l : List Int) (a : Int) : List Int × Bool := if isPairs l = true ∧ fitsAt l 0 = true ∧ 1 ≤ a ∧ a ≤ 10 then (if isRow (spreadOf a l) = true then (spreadOf a l, true) else ([], false)) else ([], false)
theorem spreadRow_no {l : List Int} {a : Int} (h : ¬ (isPairs l = true ∧ fitsAt l 0 = true ∧ 1 ≤ a ∧ a ≤ 10)) : spreadRow l a = ([], false) := if_neg h
theorem spreadRow_yes {l : List Int} {a : Int} (h1 : isPairs l = true) (h2 : fitsAt l 0 = true) (h3 : 1 ≤ a) (h4 : a ≤ 10) : spreadRow l a = if isRow (spreadOf a l) = true then (spreadOf a l, true) else ([], false) := if_pos ⟨h1, h2, h3, h4⟩
theorem spreadRow_len (l : List Int) (a : Int) : (spreadRow l a).1.length ≤ 40 := by
  unfold spreadRow
  split
  · split
    · rename_i h
      exact isRow_len h
    · simp
  · simp
theorem impl_SpreadRow.L0_val (a : Int) (h1 : 1 ≤ a) (h2 : a ≤ 10) : ∀ (suf pre acc : List Int), (pre ++ suf).length ≤ 40 → pre ≠ [] → acc.length + 10 * suf.length ≤ 1000 → (∀ x ∈ suf, 0 ≤ x ∧ x ≤ 20) → impl_SpreadRow.L0 a acc (pre ++ suf) ((pre ++ suf).length : Int) (pre.length : Int) = some (if isRow (acc ++ spreadTail a suf) = true then (acc ++ spreadTail a suf, true) else ([], false))
  | [], pre, acc, h, hp, ha, hx => by
    rw [impl_SpreadRow.L0_eq, range_end, impl_madeRow.F_val _ (by omega)]
    simp only [Option.bind_some, spreadTail, List.append_nil]
    all_goals (split <;> rfl)
  | x :: suf, pre, acc, h, hp, ha, hx => by
    have hx1 := hx x (by simp)
    have hm := mul_bounds (a := a) (x := x) (n := 20) (by omega) h2 hx1.1 hx1.2
    have hp' : 0 < pre.length := by cases pre with | nil => exact absurd rfl hp | cons _ _ => simp
    have ha' : acc.length + 10 * (suf.length + 1) ≤ 1000 := by simpa using ha
    have w1 : wrap64 (a - 1) = a - 1 := wrap_in (by omega) (by omega)
    have w2 : wrap64 (x * a) = a * x := by rw [Int.mul_comm]; exact wrap_in (by omega) (by omega)
    have e : (pre ++ [x]).length = pre.length + 1 := by simp
    rw [impl_SpreadRow.L0_eq, range_step, rd_mid, wrap_mid (pre := pre) (x := x) (suf := suf) (by omega), app_mid pre x suf, if_pos (by omega), w1, if_pos (by omega), if_pos (by omega), w2]
    simp only [Option.bind_some]
    rw [if_pos (by simp; omega), impl_SpreadRow.L0_val a h1 h2 suf (pre ++ [x]) _ (by simpa using h) (by simp) (by simp; omega) (fun y hy => hx y (by simp [hy]))]
    simp [spreadTail]
theorem impl_SpreadRow.F_val (l : List Int) (a : Int) (h : l.length < 4611686018427387904) : impl_SpreadRow.F l a = some (spreadRow l a) := by
  rw [impl_SpreadRow.F_eq, impl_fits.F_val l 0 h]
  simp only [Option.bind_some]
  by_cases hp : isPairs l = true
  · by_cases hf : fitsAt l 0 = true
    · rw [if_pos (by simp [hp, hf])]
      by_cases h1 : a < 1
      · rw [if_pos h1, impl_SpreadRow.J0_eq, if_pos rfl, spreadRow_no (by omega)]
      · rw [if_neg h1, impl_SpreadRow.J0_eq]
        by_cases h2 : a > 10
        · rw [if_pos (by simpa using h2), spreadRow_no (by omega)]
        · have hr := isPairs_row hp
          have hl := isRow_len hr
          rw [if_neg (by simpa using h2), spreadRow_yes hp hf (by omega) (by omega)]
          cases l with
          | nil =>
            rw [impl_SpreadRow.L0_eq, if_neg (by simp), impl_madeRow.F_val _ (by simp)]
            simp only [Option.bind_some, spreadOf]
            all_goals (split <;> rfl)
          | cons x t =>
            have hx1 := isRow_mem hr (x := x) (by simp)
            have hm := mul_bounds (a := a) (x := x) (n := 20) (by omega) (by omega) hx1.1 hx1.2
            have w2 : wrap64 (x * a) = a * x := by rw [Int.mul_comm]; exact wrap_in (by omega) (by omega)
            have hl' : t.length + 1 ≤ 40 := by simpa using hl
            have := impl_SpreadRow.L0_val a (by omega) (by omega) t [x] [a * x] (by simpa using hl) (by simp) (by simp; omega) (fun y hy => isRow_mem hr (by simp [hy]))
            rw [impl_SpreadRow.L0_eq, if_pos (by simp), if_pos (by omega), if_pos (by simp), if_neg (by omega), if_pos (by simp), show rd (x :: t) 0 = x from rfl, w2]
            rw [show wrap64 (0 + 1) = (([x] : List Int).length : Int) from by rw [wrap_in (by omega) (by omega)]; rfl]
            exact this
    · rw [if_neg (by simp [hf]), impl_SpreadRow.J0_eq, if_pos rfl, spreadRow_no (by simp [hf])]
  · rw [if_neg (by simp [hp]), impl_SpreadRow.J0_eq, if_pos rfl, spreadRow_no (by simp [hp])]
theorem spec_SpreadRow.L0_val (m : Nat) (h1 : 1 ≤ m) (h2 : m ≤ 10) : ∀ (suf pre acc : List Int), (pre ++ suf).length ≤ 40 → acc.length ≤ 10 * pre.length → PlaceAt m pre.length acc.length → (∀ x ∈ suf, 0 ≤ x ∧ x ≤ 20) → spec_SpreadRow.L0 (m : Int) (acc ++ List.replicate (m * suf.length) 0) (pre ++ suf) ((pre ++ suf).length : Int) (pre.length : Int) = some (if isRow (acc ++ spreadTail (m : Int) suf) = true then (acc ++ spreadTail (m : Int) suf, true) else ([], false))
  | [], pre, acc, h, ha, hq, hx => by
    have hp2 : pre.length ≤ 40 := by simpa using h
    rw [spec_SpreadRow.L0_eq, range_end, spec_hoIf.F_val _ (by simp; omega)]
    simp only [Option.bind_some, spreadTail, List.append_nil, List.length_nil, Nat.mul_zero, List.replicate_zero]
    all_goals (split <;> rfl)
  | x :: suf, pre, acc, h, ha, hq, hx => by
    have hx1 := hx x (by simp)
    have hp2 : pre.length + (suf.length + 1) ≤ 40 := by simpa using h
    have w1 := hq.wrap (by omega) h2
    have w2 := mul_wrap (a := (m : Int)) (x := x) (by omega) (by omega) hx1.1 hx1.2
    have e : (pre ++ [x]).length = pre.length + 1 := by simp
    have ei : (((acc.length + (m - 1) : Nat) : Int)).toNat = acc.length + (m - 1) := Int.toNat_natCast _
    have em : m * (x :: suf).length = (m - 1) + (1 + m * suf.length) := by rw [List.length_cons]; exact succ_split m suf.length h1
    have el : ((acc.length + (m - 1) : Nat) : Int) < ((acc ++ List.replicate (m - 1 + (1 + m * suf.length)) (0 : Int)).length : Int) := by rw [List.length_append, List.length_replicate]; generalize m * suf.length = q; omega
    have hq2 : PlaceAt m (pre ++ [x]).length (acc ++ (List.replicate (m - 1) 0 ++ [(m : Int) * x])).length := by
      have e4 : (acc ++ (List.replicate (m - 1) (0 : Int) ++ [(m : Int) * x])).length = acc.length + (m - 1) + 1 := by simp <;> omega
      rw [e, e4]
      exact hq.next h1
    have ha2 : (acc ++ (List.replicate (m - 1) 0 ++ [(m : Int) * x])).length ≤ 10 * (pre ++ [x]).length := by simp; omega
    rw [spec_SpreadRow.L0_eq, range_step, rd_mid, wrap_mid (pre := pre) (x := x) (suf := suf) (by omega), app_mid pre x suf, w1, if_pos (Int.natCast_nonneg _), em, if_pos el, ei, w2, spread_set acc m (m * suf.length) _, spec_SpreadRow.L0_val m h1 h2 suf (pre ++ [x]) _ (by simpa using h) ha2 hq2 (fun y hy => hx y (by simp [hy]))]
    have e3 : ((m : Int) - 1).toNat = m - 1 := by omega
    simp [spreadTail, e3]
theorem spec_SpreadRow.F_val (l : List Int) (a : Int) (h : l.length < 17592186044416) : spec_SpreadRow.F l a = some (spreadRow l a) := by
  rw [spec_SpreadRow.F_eq, spec_roIs.F_val l h]
  simp only [Option.bind_some]
  by_cases hp : isPairs l = true
  · rw [if_pos hp, spec_roFits.F_val l 0 h (isPairs_ok hp)]
    simp only [Option.bind_some]
    by_cases hf : fitsAt l 0 = true
    · rw [if_pos hf, spec_l1In.f_val]
      simp only [Option.bind_some]
      rw [spec_SpreadRow.J0_eq]
      by_cases h1 : 1 ≤ a ∧ a ≤ 10
      · have hr := isPairs_row hp
        have hl := isRow_len hr
        rw [if_neg (by simp [h1]), spreadRow_yes hp hf h1.1 h1.2]
        cases l with
        | nil =>
          rw [if_pos (by simp)]
          rfl
        | cons x t =>
          have hl' : t.length + 1 ≤ 40 := by simpa using hl
          have hx1 := isRow_mem hr (x := x) (by simp)
          have hm := mul_bounds (a := a) (x := x) (n := 20) (by omega) (by omega) hx1.1 hx1.2
          obtain ⟨m, rfl⟩ : ∃ m : Nat, a = (m : Int) := ⟨a.toNat, by omega⟩
          have hm1 : 1 ≤ m := by omega
          have hm2 : m ≤ 10 := by omega
          have w0 : wrap64 (((x :: t).length : Int) - 1) = (t.length : Int) := by rw [wrap_in (by simp <;> omega) (by simp; omega)]; simp
          have w1 : wrap64 (wrap64 ((m : Int) * (t.length : Int)) + 1) = ((m * t.length + 1 : Nat) : Int) := spread_room m t.length hm2 (by omega)
          have w3 : wrap64 ((m : Int) * 0) = 0 := by rw [Int.mul_zero]; exact wrap_in (by omega) (by omega)
          have w4 := mul_wrap (a := (m : Int)) (x := x) (by omega) (by omega) hx1.1 hx1.2
          have hq : PlaceAt m ([x] : List Int).length ([(m : Int) * x] : List Int).length := by
            unfold PlaceAt
            simp
            omega
          have hroom : m * t.length + 1 ≤ 35184372088832 := spread_room2 m t.length hm2 (by omega)
          have hlen : (0 : Int) < ((x :: t).length : Int) := by rw [List.length_cons]; omega
          have hlen0 : ¬ ((x :: t).length : Int) = 0 := by omega
          rw [if_neg hlen0, w0, w1, if_pos (Int.natCast_nonneg _), Int.toNat_natCast, if_pos hroom, spec_SpreadRow.L0_eq, if_pos hlen, if_pos (Int.le_refl 0), if_pos hlen, w3, if_pos (Int.le_refl 0), if_pos (by rw [List.length_replicate]; generalize m * t.length = q; omega), show rd (x :: t) 0 = x from rfl, w4, List.replicate_succ, show wrap64 (0 + 1) = (([x] : List Int).length : Int) from by rw [wrap_in (by omega) (by omega)]; rfl]
          exact spec_SpreadRow.L0_val m hm1 hm2 t [x] [(m : Int) * x] (by simpa using hl) (by simp) hq (fun y hy => isRow_mem hr (by simp [hy]))
      · rw [if_pos (by simp; omega), spreadRow_no (fun h => h1 h.2.2)]
    · rw [if_neg hf, spec_SpreadRow.J0_eq, if_pos rfl, spreadRow_no (by simp [hf])]
  · rw [if_neg hp, spec_SpreadRow.J0_eq, if_pos rfl, spreadRow_no (by simp [hp])]
/-- A number other than 0 of the first row stands in the second. -/
def commonOf (a b : List Int) : Bool := a.any fun x => decide (x ≠ 0) && decide (x ∈ b)
/-- The second row laid over the first one, from the place p on; none where two numbers meet. -/
def meshAt (acc : List Int) (p : Nat) : List Int → Option (List Int)
  | [] => some acc
  | x :: t => if p = acc.length then meshAt (acc ++ [x]) (p + 1) t else if x ≠ 0 ∧ rd acc p ≠ 0 then none else meshAt (if x ≠ 0 then acc.set p x else acc) (p + 1) t
theorem meshAt_length : ∀ (t acc : List Int) (p : Nat) (r : List Int), p ≤ acc.length → meshAt acc p t = some r → r.length ≤ acc.length + t.length
  | [], acc, p, r, hp, h => by
    simp only [meshAt, Option.some.injEq] at h
    subst h
    simp
  | x :: t, acc, p, r, hp, h => by
    rw [meshAt] at h
    split at h
    · have := meshAt_length t _ (p + 1) r (by simp; omega) h
      simp at this ⊢
      omega
    · split at h
      · cases h
      · split at h
        · have := meshAt_length t _ (p + 1) r (by simp; omega) h
          simp at this ⊢
          omega
        · have := meshAt_length t _ (p + 1) r (by omega) h
          simp at this ⊢
          omega
/-- What comes of a list that may be a row. -/
def rowOr : Option (List Int) → List Int × Bool
  | none => ([], false)
  | some r => if isRow r = true then (r, true) else ([], false)
def meshRows (a b : List Int) (p : Int) : List Int × Bool := if isPairs a = true ∧ isPairs b = true ∧ 0 ≤ p ∧ p ≤ (a.length : Int) ∧ commonOf a b = false then rowOr (meshAt a p.toNat b) else ([], false)
theorem meshRows_no {a b : List Int} {p : Int} (h : ¬ (isPairs a = true ∧ isPairs b = true ∧ 0 ≤ p ∧ p ≤ (a.length : Int) ∧ commonOf a b = false)) : meshRows a b p = ([], false) := if_neg h
theorem meshRows_yes {a b : List Int} {p : Int} (h : isPairs a = true ∧ isPairs b = true ∧ 0 ≤ p ∧ p ≤ (a.length : Int) ∧ commonOf a b = false) : meshRows a b p = rowOr (meshAt a p.toNat b) := if_pos h
theorem rowOr_len (o : Option (List Int)) : (rowOr o).1.length ≤ 40 := by
  unfold rowOr
  split
  · simp
  · split
    · rename_i h
      exact isRow_len h
    · simp
theorem meshRows_len (a b : List Int) (p : Int) : (meshRows a b p).1.length ≤ 40 := by
  unfold meshRows
  split
  · exact rowOr_len _
  · simp
theorem commonOf_comm (a b : List Int) : commonOf a b = commonOf b a := by
  unfold commonOf
  rw [Bool.eq_iff_iff, List.any_eq_true, List.any_eq_true]
  simp only [Bool.and_eq_true, decide_eq_true_eq]
  exact ⟨fun ⟨x, h1, h2, h3⟩ => ⟨x, h3, h2, h1⟩, fun ⟨x, h1, h2, h3⟩ => ⟨x, h3, h2, h1⟩⟩
theorem spec_hoCommon.L0_val (b : List Int) (hb : b.length < 4611686018427387904) : ∀ (suf pre : List Int), (pre ++ suf).length < 4611686018427387904 → spec_hoCommon.L0 b (pre ++ suf) ((pre ++ suf).length : Int) (pre.length : Int) = some (commonOf suf b)
  | [], pre, h => by
    rw [spec_hoCommon.L0_eq, range_end]
    rfl
  | x :: suf, pre, h => by
    rw [spec_hoCommon.L0_eq, range_step, rd_mid, wrap_mid h, app_mid pre x suf, spec_hoCommon.L0_val b hb suf (pre ++ [x]) (by simpa using h), spec_l1Has.F_val b x hb]
    simp only [Option.bind_some]
    unfold commonOf
    rw [List.any_cons]
    by_cases h1 : x = 0
    · rw [if_pos h1]
      simp [h1]
    · rw [if_neg h1]
      by_cases h2 : x ∈ b
      · rw [if_pos (by simpa using h2)]
        simp [h1, h2]
      · rw [if_neg (by simpa using h2)]
        simp [h1, h2]
theorem spec_hoCommon.F_val (a b : List Int) (ha : a.length < 4611686018427387904) (hb : b.length < 4611686018427387904) : spec_hoCommon.F a b = some (commonOf a b) := by
  rw [spec_hoCommon.F_eq]
  have := spec_hoCommon.L0_val b hb a [] (by simpa using ha)
  simpa using this
theorem rd_append_left (a b : List Int) (p : Nat) (h : p < a.length) : rd (a ++ b) (p : Int) = rd a p := by
  unfold rd
  simp [List.getD_eq_getElem?_getD, List.getElem?_append_left h]
theorem rd_append_zero (a : List Int) (n : Nat) : rd (a ++ List.replicate n 0) (a.length : Int) = 0 := by
  unfold rd
  rw [Int.toNat_natCast, List.getD_eq_getElem?_getD, List.getElem?_append_right (Nat.le_refl _), Nat.sub_self]
  cases n <;> simp
theorem spec_hoMesh.L1_val (p0 : Int) (hp0 : 0 ≤ p0) (hp1 : p0 ≤ 100) : ∀ (suf pre acc : List Int) (p : Nat), (pre ++ suf).length ≤ 40 → (p : Int) = p0 + pre.length → p ≤ acc.length → spec_hoMesh.L1 p0 (acc ++ List.replicate (p + suf.length - acc.length) 0) (pre ++ suf) ((pre ++ suf).length : Int) (pre.length : Int) = some ((match meshAt acc p suf with | none => ([], false) | some r => (r, true)))
  | [], pre, acc, p, h, hp, hpa => by
    have e : p + ([] : List Int).length - acc.length = 0 := by simp; omega
    rw [spec_hoMesh.L1_eq, range_end, e]
    simp [meshAt]
  | x :: suf, pre, acc, p, h, hp, hpa => by
    have h' : pre.length + (suf.length + 1) ≤ 40 := by simpa using h
    have w1 : wrap64 (p0 + (pre.length : Int)) = (p : Int) := by rw [← hp]; exact wrap_in (by omega) (by omega)
    have eq : ((pre ++ [x]).length : Int) = (pre.length : Int) + 1 := by simp
    rw [spec_hoMesh.L1_eq, range_step, rd_mid]
    simp only [spec_hoMesh.J2_eq, Bool.false_eq_true, if_false]
    rw [w1, wrap_mid (pre := pre) (x := x) (suf := suf) (by omega), app_mid pre x suf]
    have hlen : (p : Int) < ((acc ++ List.replicate (p + (x :: suf).length - acc.length) (0 : Int)).length : Int) := by simp; omega
    have hp00 : (0 : Int) ≤ (p : Int) := Int.natCast_nonneg p
    simp only [hp00, hlen, if_true, Int.toNat_natCast]
    by_cases hpe : p = acc.length
    · have em : p + (x :: suf).length - acc.length = 1 + suf.length := by simp; omega
      have em2 : p + 1 + suf.length - (acc ++ [x]).length = suf.length := by simp; omega
      have ih := spec_hoMesh.L1_val p0 hp0 hp1 suf (pre ++ [x]) (acc ++ [x]) (p + 1) (by simpa using h) (by rw [eq]; omega) (by simp; omega)
      rw [em2] at ih
      rw [em, meshAt, if_pos hpe]
      by_cases hx : x = 0
      · subst hx
        rw [if_pos rfl, if_pos rfl]
        rw [← ih, ← List.replicate_append_replicate]
        simp
      · have hz : rd (acc ++ List.replicate (1 + suf.length) 0) (p : Int) = 0 := by rw [hpe]; exact rd_append_zero _ _
        simp only [hx, hz, if_false, bne_self_eq_false, Bool.false_eq_true]
        rw [← ih, hpe, List.set_append_right _ _ (Nat.le_refl _), Nat.sub_self, Nat.add_comm 1, List.replicate_succ]
        simp
    · have hlt : p < acc.length := by omega
      rw [meshAt, if_neg hpe, rd_append_left _ _ _ hlt]
      have em : ∀ acc' : List Int, acc'.length = acc.length → p + 1 + suf.length - acc'.length = p + (x :: suf).length - acc.length := fun acc' h => by rw [h, List.length_cons]; omega
      by_cases hx : x = 0
      · have ih := spec_hoMesh.L1_val p0 hp0 hp1 suf (pre ++ [x]) acc (p + 1) (by simpa using h) (by rw [eq]; omega) (by omega)
        rw [em acc rfl] at ih
        rw [if_pos hx, if_pos hx, ih, if_neg (fun h => h.1 hx), if_neg (fun h => h hx)]
      · have ih := spec_hoMesh.L1_val p0 hp0 hp1 suf (pre ++ [x]) (acc.set p x) (p + 1) (by simpa using h) (by rw [eq]; omega) (by simp; omega)
        rw [em (acc.set p x) (by simp)] at ih
        by_cases hr : rd acc (p : Int) = 0
        · simp only [hx, hr, if_false, bne_self_eq_false, Bool.false_eq_true, ne_eq, not_true_eq_false, and_false, not_false_eq_true, if_true]
          rw [List.set_append_left _ _ hlt]
          exact ih
        · have hr2 : (rd acc (p : Int) != 0) = true := by simp [hr]
          simp only [hx, hr, hr2, if_false, if_true, ne_eq, not_false_eq_true, and_self]
theorem spec_hoMesh.L0_val (b : List Int) (p0 : Int) (hp0 : 0 ≤ p0) (hp1 : p0 ≤ 100) (hb : b.length ≤ 40) : ∀ (n : Nat) (acc : List Int), acc.length + n ≤ 1000 → n = (p0 + b.length).toNat - acc.length → spec_hoMesh.L0 b p0 acc = spec_hoMesh.L1 p0 (acc ++ List.replicate n 0) b (b.length : Int) 0
  | 0, acc, ha, hn => by
    have w1 : wrap64 (p0 + (b.length : Int)) = p0 + (b.length : Int) := wrap_in (by omega) (by omega)
    rw [spec_hoMesh.L0_eq, w1, if_neg (by omega)]
    simp
  | n + 1, acc, ha, hn => by
    have w1 : wrap64 (p0 + (b.length : Int)) = p0 + (b.length : Int) := wrap_in (by omega) (by omega)
    rw [spec_hoMesh.L0_eq, w1, if_pos (by omega), if_pos (by omega), spec_hoMesh.L0_val b p0 hp0 hp1 hb n (acc ++ [0]) (by simp; omega) (by simp; omega), List.replicate_succ]
    simp
theorem spec_hoMesh.F_val (a b : List Int) (p : Int) (h0 : 0 ≤ p) (h1 : p ≤ (a.length : Int)) (ha : a.length ≤ 40) (hb : b.length ≤ 40) : spec_hoMesh.F a b p = some ((match meshAt a p.toNat b with | none => ([], false) | some r => (r, true))) := by
  rw [spec_hoMesh.F_eq, spec_l1Own.f_val a (by omega)]
  simp only [Option.bind_some]
  rw [spec_hoMesh.L0_val b p h0 (by omega) hb (p.toNat + b.length - a.length) a (by omega) (by omega)]
  exact spec_hoMesh.L1_val p h0 (by omega) b [] a p.toNat (by simpa using hb) (by simp; omega) (by omega)
theorem spec_MeshRows.F_val (a b : List Int) (p : Int) (ha : a.length < 17592186044416) (hb : b.length < 17592186044416) : spec_MeshRows.F a b p = some (meshRows a b p) := by
  rw [spec_MeshRows.F_eq, spec_roIs.F_val a ha, spec_roIs.F_val b hb, spec_l1In.f_val]
  simp only [Option.bind_some]
  by_cases h1 : isPairs a = true
  · rw [if_pos h1]
    by_cases h2 : isPairs b = true
    · rw [if_pos h2]
      by_cases h3 : 0 ≤ p ∧ p ≤ (a.length : Int)
      · rw [if_pos (by simp [h3]), spec_hoCommon.F_val a b (by omega) (by omega)]
        simp only [Option.bind_some]
        rw [spec_MeshRows.J0_eq]
        by_cases h4 : commonOf a b = true
        · rw [if_pos h4, meshRows_no (by simp [h4])]
        · have l1 := isRow_len (isPairs_row h1)
          have l2 := isRow_len (isPairs_row h2)
          rw [if_neg h4, meshRows_yes ⟨h1, h2, h3.1, h3.2, by simpa using h4⟩, spec_hoMesh.F_val a b p h3.1 h3.2 l1 l2]
          simp only [Option.bind_some]
          cases hm : meshAt a p.toNat b with
          | none => rfl
          | some r =>
            have := meshAt_length b a p.toNat r (by omega) hm
            simp only [if_true]
            rw [spec_hoIf.F_val r (by omega)]
            rfl
      · rw [if_neg (by simp; omega), spec_MeshRows.J0_eq, if_pos rfl, meshRows_no (fun h => h3 ⟨h.2.2.1, h.2.2.2.1⟩)]
    · rw [if_neg h2, spec_MeshRows.J0_eq, if_pos rfl, meshRows_no (fun h => h2 h.2.1)]
  · rw [if_neg h1, spec_MeshRows.J0_eq, if_pos rfl, meshRows_no (fun h => h1 h.1)]
theorem impl_MeshRows.L0_val (a : List Int) (ha : a.length ≤ 40) (p0 : Int) (hp0 : 0 ≤ p0) (hp1 : p0 ≤ 100) : ∀ (suf pre acc : List Int) (p : Nat), (pre ++ suf).length ≤ 40 → acc.length + suf.length ≤ 1000 → (p : Int) = p0 + pre.length → p ≤ acc.length → (∀ x ∈ suf, 0 ≤ x) → (∀ x ∈ acc, 0 ≤ x) → impl_MeshRows.L0 a p0 acc (pre ++ suf) ((pre ++ suf).length : Int) (pre.length : Int) = some (if commonOf suf a = true then ([], false) else rowOr (meshAt acc p suf))
  | [], pre, acc, p, h, hl, hp, hpa, hs, hx => by
    rw [impl_MeshRows.L0_eq, range_end, impl_madeRow.F_val acc (by simp at hl; omega)]
    simp only [Option.bind_some, commonOf, List.any_nil, Bool.false_eq_true, if_false, meshAt]
    rfl
  | x :: suf, pre, acc, p, h, hl, hp, hpa, hs, hx => by
    have h' : pre.length + (suf.length + 1) ≤ 40 := by simpa using h
    have hx0 := hs x (by simp)
    have hl : acc.length + (suf.length + 1) ≤ 1000 := by simpa using hl
    have w1 : wrap64 (p0 + (pre.length : Int)) = (p : Int) := by rw [← hp]; exact wrap_in (by omega) (by omega)
    have eq : ((pre ++ [x]).length : Int) = (pre.length : Int) + 1 := by simp
    have hs' : ∀ y ∈ suf, 0 ≤ y := fun y hy => hs y (by simp [hy])
    have hgt : (x > 0) ↔ x ≠ 0 := by omega
    rw [impl_MeshRows.L0_eq, range_step, rd_mid, slices_Contains_int_int.F_val a x (by omega)]
    simp only [impl_MeshRows.J2_eq, impl_MeshRows.J3_eq, Option.bind_some, Bool.false_eq_true, if_false, decide_eq_true_eq]
    rw [w1, wrap_mid (pre := pre) (x := x) (suf := suf) (by omega), app_mid pre x suf]
    have ec : commonOf (x :: suf) a = ((decide (x ≠ 0) && decide (x ∈ a)) || commonOf suf a) := by unfold commonOf; rw [List.any_cons]
    rw [ec]
    by_cases hc : x ≠ 0 ∧ x ∈ a
    · rw [if_pos (hgt.2 hc.1), if_pos hc.2, if_pos (by simp [hc])]
    · have e2 : (decide (x ≠ 0) && decide (x ∈ a)) = false := by simpa using hc
      rw [e2, Bool.false_or, meshAt]
      by_cases hpe : p = acc.length
      · have ih := impl_MeshRows.L0_val a ha p0 hp0 hp1 suf (pre ++ [x]) (acc ++ [x]) (p + 1) (by simpa using h) (by simp; omega) (by rw [eq]; omega) (by simp; omega) hs' (fun y hy => by rcases List.mem_append.1 hy with h | h; exact hx y h; simp at h; omega)
        have hpe2 : (p : Int) = (acc.length : Int) := by omega
        have hal : acc.length < 17592186044416 := by omega
        by_cases hz : x = 0
        · have hz2 : ¬ x > 0 := by omega
          rw [hpe] at ih
          simp only [hz2, hpe, hal, if_true, if_false]
          exact ih
        · have hxp : x > 0 := by omega
          have hxa : ¬ x ∈ a := fun h => hc ⟨hz, h⟩
          rw [hpe] at ih
          simp only [hxp, hxa, hpe, hal, if_true, if_false]
          exact ih
      · have hlt : p < acc.length := by omega
        have hrd : 0 ≤ rd acc (p : Int) := by rw [rd_nat acc p hlt]; exact hx _ (List.getElem_mem hlt)
        have hp00 : (0 : Int) ≤ (p : Int) := Int.natCast_nonneg p
        have hpe2 : ¬ (p : Int) = (acc.length : Int) := by omega
        have hpl : (p : Int) < (acc.length : Int) := by omega
        by_cases hz : x = 0
        · have ih := impl_MeshRows.L0_val a ha p0 hp0 hp1 suf (pre ++ [x]) acc (p + 1) (by simpa using h) (by omega) (by rw [eq]; omega) (by omega) hs' hx
          have hz2 : ¬ x > 0 := by omega
          have hz3 : ¬ x ≠ 0 := fun h => h hz
          simp only [hz2, hz3, hpe, hpe2, false_and, if_false, ih]
        · have hxp : x > 0 := by omega
          have hxa : ¬ x ∈ a := fun h => hc ⟨hz, h⟩
          by_cases hr : rd acc (p : Int) = 0
          · have ih := impl_MeshRows.L0_val a ha p0 hp0 hp1 suf (pre ++ [x]) (acc.set p x) (p + 1) (by simpa using h) (by simp; omega) (by rw [eq]; omega) (by simp; omega) hs' (fun y hy => by rcases List.mem_or_eq_of_mem_set hy with h | h; exact hx y h; omega)
            have hr2 : ¬ (0 : Int) > 0 := by omega
            simp only [hxp, hxa, hpe, hpe2, hp00, hpl, hr, hr2, ne_eq, hz, not_false_eq_true, not_true_eq_false, and_false, if_true, if_false, Int.toNat_natCast, ih]
          · have hr2 : rd acc (p : Int) > 0 := by omega
            simp only [hxp, hxa, hpe, hpe2, hp00, hpl, hr, hr2, ne_eq, hz, not_false_eq_true, and_self, if_true, if_false, Int.toNat_natCast, rowOr, ite_self]
theorem impl_MeshRows.F_val (a b : List Int) (p : Int) (ha : a.length < 17592186044416) (hb : b.length < 17592186044416) : impl_MeshRows.F a b p = some (meshRows a b p) := by
  rw [impl_MeshRows.F_eq, impl_isPairs.F_val a (by omega), impl_isPairs.F_val b (by omega)]
  simp only [Option.bind_some]
  by_cases h1 : isPairs a = true
  · rw [if_pos h1]
    by_cases h2 : isPairs b = true
    · rw [if_pos h2, impl_MeshRows.J0_eq, impl_MeshRows.J0_eq]
      by_cases h3 : 0 ≤ p ∧ p ≤ (a.length : Int)
      · have l1 := isRow_len (isPairs_row h1)
        have l2 := isRow_len (isPairs_row h2)
        have := impl_MeshRows.L0_val a l1 p h3.1 (by omega) b [] a p.toNat (by simpa using l2) (by omega) (by simp; omega) (by omega) (fun x hx => (isRow_mem (isPairs_row h2) hx).1) (fun x hx => (isRow_mem (isPairs_row h1) hx).1)
        rw [if_neg (by omega), if_neg (by simp; omega), slices_Clone_int_int.f_val a (by omega)]
        simp only [Option.bind_some]
        refine Eq.trans this ?_
        rw [commonOf_comm]
        by_cases h4 : commonOf a b = true
        · rw [if_pos h4, meshRows_no (by simp [h4])]
        · rw [if_neg h4, meshRows_yes ⟨h1, h2, h3.1, h3.2, by simpa using h4⟩]
      · rw [meshRows_no (fun h => h3 ⟨h.2.2.1, h.2.2.2.1⟩)]
        by_cases h4 : p < 0
        · rw [if_pos h4, if_pos rfl]
        · rw [if_neg h4, if_pos (by simp; omega)]
    · rw [if_neg h2, impl_MeshRows.J0_eq, if_pos rfl, meshRows_no (fun h => h2 h.2.1)]
  · rw [if_neg h1, impl_MeshRows.J0_eq, if_pos rfl, meshRows_no (fun h => h1 h.1)]
end Go.Proofs.Ytmhcgihkijiecaa.Fn
namespace Go.Proofs.Ytmhcgihkijiecaa.Pure
open Go.RowKit Go.Proofs.Ytmhcgihkijiecaa.Fn Go.Proofs.YtmhcgihkijiecaaW.PrintWords Go.Proofs.YtmhcgihkijiecaaW.PrintLast Go.Proofs.YtmhcgihkijiecaaW.PrintMore
set_option linter.unusedVariables false
set_option linter.unusedSimpArgs false
theorem FnExactMeshRows : laws_FnExactMeshRows.Pure := by
  intro l0 l1 a2 _ _ _ _ _ _ _
  refine Lim.rounds (laws_FnExactMeshRows.F_lim l0 l1 a2) ?_
  rw [laws_FnExactMeshRows.F_eq]
  by_cases h0 : (l0.length : Int) > 1048576
  · rw [if_pos h0]
  by_cases h1 : (l1.length : Int) > 1048576
  · rw [if_neg h0, if_pos h1]
  have hr := meshRows_len l0 l1 a2
  have e0 := laws_toIntS.F_val l0 (by omega)
  have e1 := laws_toIntS.F_val l1 (by omega)
  have s := spec_MeshRows.F_val l0 l1 a2 (by omega) (by omega)
  have i := impl_MeshRows.F_val l0 l1 a2 (by omega) (by omega)
  have q := laws_eqIntS.F_same (meshRows l0 l1 a2).1 (by omega)
  have q0 := laws_eqIntS.F_same l0 (by omega)
  have q1 := laws_eqIntS.F_same l1 (by omega)
  have m0 := laws_markIntS.F_val l0 1 (by omega) (by omega)
  have m1 := laws_markIntS.F_val l1 (1 + (l0.length : Int)) (by omega) (by omega)
  have m := laws_markIntS.F_val (meshRows l0 l1 a2).1 1 (by omega) (by omega)
  have g := laws_heldIntS.F_val (meshRows l0 l1 a2).1.length 1 (by omega) (by omega)
  have n1 : ¬ ((1 : Int) + l0.length + l1.length < 0) := by omega
  have n2 : ¬ ((1 : Int) + (meshRows l0 l1 a2).1.length < 0) := by omega
  rw [if_neg h0, if_neg h1]
  simp only [e0, e1, s, i, q, Option.bind_some, if_true, bne_self_eq_false, laws_FnExactMeshRows.J0_eq, laws_FnExactMeshRows.J1_eq, laws_FnExactMeshRows.J2_eq, q0, q1, m0, m1, m, g, n1, n2, if_false, Bool.false_eq_true]
end Go.Proofs.Ytmhcgihkijiecaa.Pure
