/- The machine's side and plain lemmas for FnExactAllExtended: texts of this session, merged by its program (part 1). -/
import Derived.Test.YtmhcgihkijiecaaMFnExactAllExtended0
namespace Go.Proofs.Ytmhcgihkijiecaa.Fn
open Go.RowKit Go.Proofs.YtmhcgihkijiecaaW.PrintWords Go.Proofs.YtmhcgihkijiecaaW.PrintLast Go.Proofs.YtmhcgihkijiecaaW.PrintMore
attribute [local go_sem] max2_int min2_int max_two min_two max_three min_three max_four min_four   -- for this text's walks alone
set_option linter.unusedVariables false
set_option linter.unusedSimpArgs false

/-! ### laws_markIntSS: function 32 (given) -/
/-- The numbers from k on, n of them; so for rows, one after the other. -/
def markL : Nat → Int → List Int
  | 0, _ => []
  | n + 1, k => k :: markL n (k + 1)
def sumLen (l : List (List Int)) : Nat := (l.map List.length).sum
def markSS : List (List Int) → Int → List (List Int)
  | [], _ => []
  | r :: l, k => markL r.length k :: markSS l (k + r.length)
theorem markL_length : ∀ n k, (markL n k).length = n
  | 0, _ => rfl
  | n + 1, k => by simp [markL, markL_length n]
theorem markSS_length : ∀ l k, (markSS l k).length = l.length
  | [], _ => rfl
  | r :: l, k => by simp [markSS, markSS_length l]
theorem markSS_snoc : ∀ (l : List (List Int)) (r : List Int) (k : Int), markSS (l ++ [r]) k = markSS l k ++ [markL r.length (k + (sumLen l : Int))]
  | [], r, k => by simp [markSS, sumLen]
  | x :: l, r, k => by
    have ih := markSS_snoc l r (k + x.length)
    simp only [List.cons_append, markSS, ih, sumLen, List.map_cons, List.sum_cons]
    congr 4
    omega
theorem sumLen_snoc (l : List (List Int)) (r : List Int) : sumLen (l ++ [r]) = sumLen l + r.length := by simp [sumLen]
theorem sumLen_take (l : List (List Int)) (i : Nat) : sumLen (l.take i) ≤ sumLen l := by
  have h : l.take i ++ l.drop i = l := List.take_append_drop i l
  have e : sumLen (l.take i ++ l.drop i) = sumLen (l.take i) + sumLen (l.drop i) := by
    simp only [sumLen, List.map_append, List.sum_append]
  rw [h] at e
  omega
theorem markIntS_L0 : ∀ (suf pre : List Int) (k : Int), (pre ++ suf).length < 4611686018427387904 → 0 ≤ k → k + suf.length < 4611686018427387904 → laws_markIntS.L0 (pre ++ suf) k (pre.length : Int) = some (k + suf.length, pre ++ markL suf.length k)
  | [], pre, k, h, h0, hk => by
    rw [laws_markIntS.L0_eq, range_end]
    simp [markL]
  | x :: suf, pre, k, h, h0, hk => by
    have h1 : (pre.length : Int) < ((pre ++ x :: suf).length : Int) := by rw [List.length_append, List.length_cons]; omega
    have hk' : k + (suf.length + 1 : Nat) < 4611686018427387904 := by simpa using hk
    rw [laws_markIntS.L0_eq, if_pos h1, if_pos (by omega), wrap_mid h, wrap_in (n := k + 1) (by omega) (by omega)]
    have e : (pre ++ x :: suf).set ((pre.length : Int)).toNat k = (pre ++ [k]) ++ suf := by simp
    have el : ((pre ++ [x]).length : Int) = ((pre ++ [k]).length : Int) := by simp
    rw [e, el, markIntS_L0 suf (pre ++ [k]) (k + 1) (by simpa using h) (by omega) (by omega)]
    simp [markL]
    omega
theorem markIntS_some (l : List Int) (k : Int) (h0 : 0 ≤ k) (hk : k + l.length < 4611686018427387904) : ∃ kf, laws_markIntS.f kf l k = some (k + l.length, markL l.length k) := by
  refine Lim.rounds (laws_markIntS.F_lim l k) ?_
  rw [laws_markIntS.F_eq]
  have := markIntS_L0 l [] k (by simp; omega) h0 hk
  simpa using this
/-- A row of rows that lie apart: one of them, and what holds when it has been written. -/
theorem S_rows {w : World} {base : Nat} {ok : Nat → Prop} {v : Value} {xs : List (List Int)} (h : Kd.S (Kd.slice 3 (Kd.int .i64)) 25 w base ok v xs) (i : Nat) (row : List Int) (hrow : xs[i]? = some row) : ∃ (P : Nat → Prop) (u : Value), Kd.R (Kd.int .i64) 3 w base P u row ∧ (∀ ad n c, v = .slice (some ad) n c → w.cell? (ad.add i) = some u) ∧
    (∀ (w' : World) (x' : List Int), w.heap.size ≤ w'.heap.size → (∀ k, k < w.heap.size → ¬ P k → w'.heap[k]? = w.heap[k]?) → Kd.R (Kd.int .i64) 3 w' base P u x' → Kd.S (Kd.slice 3 (Kd.int .i64)) 25 w' base ok v (xs.set i x')) := by
  obtain ⟨f, h0, inner, ho, hr⟩ := h
  have hil : i < xs.length := (List.getElem?_eq_some_iff.1 hrow).1
  obtain ⟨u, hu, hR⟩ := hr.2 i (row, i) (Kd.zip_at hrow)
  refine ⟨fun k => (ok k ∧ some k ≠ v.ownBlock) ∧ f k = i, u, hR, ?_, fun w' x' hs hk hR' => ?_⟩
  · intro ad n c e
    subst e
    have hS : Kd.S (Kd.slice 3 (Kd.int .i64)) 25 w base ok (.slice (some ad) n c) xs := ⟨f, h0, inner, ho, hr⟩
    have hn := (Kd.S_reads' hS).1
    rcases ho.2 with ⟨h1, _⟩ | ⟨g, cap, cur, hv, hg, hb, hnc, hcap, hsz, htk⟩
    · cases h1
    · cases hv
      rw [add_block0, cell_of_row w g i cur _ _ hb]
      have h1 : cur.toList.take (xs.zipIdx.length * 1) = inner := htk
      have h2 : (inner.drop (i * 1)).take 1 = [u] := hu
      rw [List.length_zipIdx, Nat.mul_one] at h1
      rw [Nat.mul_one] at h2
      have h3 : inner[i]? = some u := by
        have h4 := congrArg (·[0]?) h2
        simpa [List.getElem?_take, List.getElem?_drop] using h4
      rw [← h1, List.getElem?_take, if_pos hil] at h3
      simpa using h3
  · have hlen : (xs.set i x').zipIdx.length = xs.zipIdx.length := by simp
    refine ⟨f, h0, inner, ?_, ?_, fun j p hj => ?_⟩
    · rw [hlen]
      refine ⟨ho.1, ?_⟩
      rcases ho.2 with h1 | ⟨g, cap, cur, hv, hg, hb, hnc, hcap, hsz, htk⟩
      · exact .inl h1
      · exact .inr ⟨g, cap, cur, hv, hg, (hk g (blk_lt hb) (fun hp => hp.1.2 (by rw [hv]; rfl))).trans hb, hnc, hcap, hsz, htk⟩
    · rw [hlen]
      exact hr.1
    · rw [List.getElem?_zipIdx, Nat.zero_add] at hj
      obtain ⟨x, hx, rfl⟩ := Option.map_eq_some_iff.1 hj
      by_cases e : i = j
      · subst e
        rw [List.getElem?_set, if_pos rfl, if_pos hil] at hx
        obtain rfl := Option.some.inj hx
        exact ⟨u, hu, hR'⟩
      · rw [List.getElem?_set, if_neg e] at hx
        have hM := hr.2 j (x, j) (Kd.zip_at hx)
        exact Kd.M_step (d := Kd.slice 3 (Kd.int .i64)) hM (fun k ho hl => hk k hl (fun hp => e (hp.2.symm.trans ho.2)))
set_option maxHeartbeats 8000000 in
set_option maxRecDepth 100000 in
theorem markIntSS_call (v : Value) (l : List (List Int)) (a1 : Int) (ok : Nat → Prop) (w0 w : World) (hB : Below w0.heap.size w0 w) (hS : Kd.S (Kd.slice 3 (Kd.int .i64)) 25 w w0.heap.size ok v l) (h0 : 0 ≤ a1) (h1 : a1 + (sumLen l : Int) < 4611686018427387904) (h2 : l.length < 4611686018427387904) :
    Calls Try.prog 32 #[v, .int .i64 a1] w fun e w' => e = .returned (.int .i64 (a1 + (sumLen l : Int))) ∧ Kd.S (Kd.slice 3 (Kd.int .i64)) 25 w' w0.heap.size ok v (markSS l a1) ∧ Below w0.heap.size w0 w' := by
  obtain ⟨A, c, rfl⟩ := Kd.S_slice hS
  have HB := Aside0.mk hB
  have HS := Aside0.mk hS
  have H0 := Aside0.mk h0
  have H1 := Aside0.mk h1
  clear hB hS h0 h1
  go_enter Try.func32, Try.ntmps32
  go_wp2
  go_loopw [1, 5] (fun v1 v5 wr => ∃ i : Nat, i ≤ l.length ∧ v5 = .int .i64 i ∧ v1 = .int .i64 (a1 + (sumLen (l.take i) : Int)) ∧ Aside0 (Kd.S (Kd.slice 3 (Kd.int .i64)) 25 wr w0.heap.size ok (.slice A l.length c) (markSS (l.take i) a1 ++ l.drop i)) ∧ Aside0 (Below w0.heap.size w0 wr)) (fun _ v5 _ => l.length - (intOf v5).toNat)
  case atStart => exact ⟨0, Nat.zero_le _, rfl, by simp [sumLen], ⟨by simpa [markSS] using HS.out⟩, HB⟩
  case round =>
    obtain ⟨i, hi, rfl, rfl, HS1, HB1⟩ := hrel
    by_cases hlt : i < l.length
    · obtain ⟨row, hrow⟩ : ∃ row, l[i]? = some row := ⟨_, List.getElem?_eq_getElem hlt⟩
      have hml : (markSS (l.take i) a1).length = i := by rw [markSS_length, List.length_take]; omega
      have hdrop : l.drop i = row :: l.drop (i + 1) := by
        have e : l[i]'hlt = row := by
          rw [List.getElem?_eq_getElem hlt] at hrow
          exact Option.some.inj hrow
        rw [← e]
        exact List.drop_eq_getElem_cons hlt
      have hat : (markSS (l.take i) a1 ++ l.drop i)[i]? = some row := by
        rw [List.getElem?_append_right (by omega), hml, Nat.sub_self, hdrop]
        rfl
      have htake : l.take (i + 1) = l.take i ++ [row] := by
        rw [List.take_add_one, hrow]
        rfl
      obtain ⟨P, u, hR, hcell, hback⟩ := S_rows HS1.out i row hat
      obtain ⟨Au, cu, eu⟩ := Kd.R_slice hR
      subst eu
      have hA : ∃ ad, A = some ad := by
        obtain ⟨g, cap, hv, _⟩ := Kd.S_form HS1.out (by rw [List.length_append, hml, hdrop, List.length_cons]; omega)
        injection hv with e _ _
        exact ⟨_, e⟩
      obtain ⟨ad, rfl⟩ := hA
      have hcu := hcell ad _ _ rfl
      have hle : sumLen (l.take (i + 1)) ≤ sumLen l := sumLen_take l (i + 1)
      rw [htake, sumLen_snoc] at hle
      have h1 := H1.out
      have h0 := H0.out
      obtain ⟨kk, hkk⟩ : ∃ kk : Int, a1 + (sumLen (l.take i) : Int) = kk := ⟨_, rfl⟩
      obtain ⟨kf, hkf⟩ := markIntS_some row kk (by omega) (by omega)
      have HKF := Aside0.mk hkf
      have HR := Aside0.mk hR
      have HBACK := Aside0.mk hback
      have HLT := Aside0.mk hlt
      have HNEW := Aside0.mk (show (markSS (l.take i) a1 ++ l.drop i).set i (markL row.length kk) = markSS (l.take (i + 1)) a1 ++ l.drop (i + 1) by
        rw [htake, markSS_snoc, hdrop, hkk, List.set_append_right _ _ (by omega), hml, Nat.sub_self]
        simp)
      have HKK := Aside0.mk (show kk + (row.length : Int) = a1 + (sumLen (l.take (i + 1)) : Int) by rw [htake, sumLen_snoc]; omega)
      rw [hkk]
      have p0 : (0 ≤ (i : Int)) = True := eq_true (by omega)
      have q0 : ((i : Int) < (l.length : Int)) = True := eq_true (by omega)
      clear hrow hml hdrop hat htake hR hcell hback hle hkk hkf h1 h0
      go_wp2_with (first | ((with_reducible refine gate_callee (f := 21) rfl ?_); refine goesL_ (some 17) rfl rfl Try.func21 (by kernel_rfl) rfl #[.slice Au row.length cu, .int .i64 kk] rfl (by (try simp only [List.map_toArray, List.map_cons, List.map_nil]); first | done | rfl) ?_; refine (laws_markIntS.calls kf P (.slice Au row.length cu) row kk _ _ w0 wr HB1.out HR.out HKF.out).mono ?_; rintro e w3 ⟨rfl, hR3, hB3, hK3⟩; refine ⟨_, rfl, ?_⟩; have HS3 := Aside0.mk (HBACK.out w3 (markL row.length kk) hK3.1 hK3.2 (Kd.R_reok rfl hR3 (fun k_ e_ => HR.out.1 k_ e_))); have HB3 := Aside0.mk hB3; clear hR3 hB3 hK3))
      go_roundw
      case rel => exact ⟨i + 1, HLT.out, by go_num, by rw [HKK.out], ⟨by have h := HS3.out; rw [HNEW.out] at h; exact h⟩, HB3⟩
      case measure => simp [intOf]; have := HLT.out; omega
    · obtain rfl : i = l.length := by omega
      have HS2 := Aside0.mk (show Kd.S (Kd.slice 3 (Kd.int .i64)) 25 wr w0.heap.size ok (.slice A l.length c) (markSS l a1) by have h := HS1.out; rw [List.take_length, List.drop_length, List.append_nil] at h; exact h)
      rw [List.take_length]
      clear hlt hi HS1
      go_wp2
      go_ret
      exact ⟨rfl, HS2.out, HB1.out⟩


end Go.Proofs.Ytmhcgihkijiecaa.Fn
namespace Go.Proofs.Ytmhcgihkijiecaa.Fn
open Go.RowKit Go.Proofs.YtmhcgihkijiecaaW.PrintWords Go.Proofs.YtmhcgihkijiecaaW.PrintLast Go.Proofs.YtmhcgihkijiecaaW.PrintMore
attribute [local go_sem] max2_int min2_int max_two min_two max_three min_three max_four min_four   -- for this text's walks alone
set_option linter.unusedVariables false
set_option linter.unusedSimpArgs false

/-! ### laws_heldIntS: function 22 -/
def laws_heldIntS.l0 : Nat → List Int → Int → Int → Option (Int)
  | 0, _, _, _ => none
  | k + 1, x0, x1, x5 => if x5 < (x0.length : Int) then (if 0 ≤ x5 then (if (rd x0 x5) = x1 then (laws_heldIntS.l0 k x0 (wrap64 (x1 + 1)) (wrap64 (x5 + 1))) else (some (-1))) else (none)) else (some x1)
def laws_heldIntS.f (k : Nat) (l0 : List Int) (a1 : Int) : Option (Int) := laws_heldIntS.l0 k l0 a1 0
theorem laws_heldIntS.mono_l : ∀ k, (∀ y0 y1 y2, LeO (laws_heldIntS.l0 k y0 y1 y2) (laws_heldIntS.l0 (k + 1) y0 y1 y2))
  | 0 => fun _ _ _ r h => by simp [laws_heldIntS.l0] at h
  | k + 1 => by
    have ih0 := laws_heldIntS.mono_l k
    · intro y0 y1 y2
      unfold laws_heldIntS.l0
      repeat' first
      | (with_reducible exact ih0 _ _ _)
      | (with_reducible exact LeO.refl _)
      | (with_reducible exact LeO.none _)
      | (with_reducible refine LeO.ite ?_ ?_)
      | (with_reducible refine LeO.bind ?_ (fun _ => ?_))
      | exact ih0 _ _ _
      | exact LeO.none _
      | refine LeO.ite ?_ ?_
      | refine LeO.bind ?_ (fun _ => ?_)
theorem laws_heldIntS.mono : ∀ a0 a1 k, LeO (laws_heldIntS.f k a0 a1) (laws_heldIntS.f (k + 1) a0 a1) := by
  intro a0 a1 k
  have ih0 := laws_heldIntS.mono_l k
  unfold laws_heldIntS.f
  repeat' first
      | (with_reducible exact ih0 _ _ _)
      | (with_reducible exact LeO.refl _)
      | (with_reducible exact LeO.none _)
      | (with_reducible refine LeO.ite ?_ ?_)
      | (with_reducible refine LeO.bind ?_ (fun _ => ?_))
      | exact ih0 _ _ _
      | exact LeO.none _
      | refine LeO.ite ?_ ?_
      | refine LeO.bind ?_ (fun _ => ?_)
set_option maxHeartbeats 8000000 in
set_option maxRecDepth 100000 in
theorem laws_heldIntS.calls (k : Nat) (A0 : Option Addr) (c0 : Nat) (l0 : List Int) (a1 : Int) (r : Int) (w : World) (hr0 : Kd.C (Kd.int .i64) w A0 l0.length l0) (hc0 : l0.length ≤ c0) (h : laws_heldIntS.f k l0 a1 = some r) :
    Calls Try.prog 22 #[.slice A0 l0.length c0, .int .i64 a1] w fun e w' => e = .returned (.int .i64 r) ∧ Drawn0 w w' := by
  have HR0 := Aside0.mk hr0
  have HC0 := Aside0.mk hc0
  clear hr0 hc0
  have H : (laws_heldIntS.l0 k l0 a1 0) = some r := h
  clear h
  have H' := Aside0.mk H
  clear H
  go_enter Try.func22, Try.ntmps22
  go_wp2
  go_loopg [1, 5] k (fun kq v1 v5 w' => ∃ (x1_1 : Int) (x5_1 : Int), v1 = .int .i64 x1_1 ∧ v5 = .int .i64 x5_1 ∧ Aside0 (laws_heldIntS.l0 kq l0 x1_1 x5_1 = some r) ∧ Aside0 (kq ≤ k) ∧ Drawn0 w w')
  case atStart => exact ⟨(a1), (0), (by first | rfl | (simp; done) | (simp [*]; done)), (by first | rfl | (simp; done) | (simp [*]; done)), H', ⟨Nat.le_refl _⟩, by repeat (first | exact Drawn0.refl _ | apply Drawn0.step)⟩
  case round =>
    clear H'
    try clear c2
    try clear p2
    obtain ⟨x1_1, x5_1, rfl, rfl, HA, HK1, ⟨m1, rfl⟩⟩ := hrel
    cases gk with
    | zero => exact absurd HA.out (by simp [laws_heldIntS.l0])
    | succ k1 =>
      have H := HA.out
      clear HA
      simp only [laws_heldIntS.l0] at H
      by_cases c3 : x5_1 < (l0.length : Int)
      · rw [if_pos c3] at H
        have c3b0 : decide (x5_1 < (l0.length : Int)) = true := decide_eq_true c3
        clear c3
        by_cases c4 : 0 ≤ x5_1
        · rw [if_pos c4] at H
          have c4b0 : decide (0 ≤ x5_1) = true := decide_eq_true c4
          clear c4
          by_cases c5 : (rd l0 x5_1) = x1_1
          · rw [if_pos c5] at H
            have c5b0 : ((rd l0 x5_1) == x1_1) = true := beq_iff_eq.mpr c5
            have c5b1 : ((rd l0 x5_1) != x1_1) = false := bne_eq_false_iff_eq.mpr c5
            clear c5
            have H' := Aside0.mk H
            clear H
            have p153 : 0 ≤ (x5_1 : Int) := of_decide_eq_true (by first | (with_reducible assumption) | assumption)
            have q153 : x5_1 < (l0.length : Int) := of_decide_eq_true (by first | (with_reducible assumption) | assumption)
            obtain ⟨ad153, e153, hx153_0⟩ := Kd.at_int HR0.out x5_1 p153 q153
            cases e153
            replace p153 := eq_true p153
            replace q153 := eq_true q153
            go_wp2
            go_roundg k1
            case measure => have := HK1.out; omega
            case rel => exact ⟨(wrap64 (x1_1 + 1)), (wrap64 (x5_1 + 1)), (by first | rfl | (simp; done) | (simp [*]; done)), (by first | rfl | (simp; done) | (simp [*]; done)), H', ⟨by have := HK1.out; omega⟩, by repeat (first | exact Drawn0.refl _ | apply Drawn0.step)⟩
          · rw [if_neg c5] at H
            have c5b0 : ((rd l0 x5_1) == x1_1) = false := beq_eq_false_iff_ne.mpr c5
            have c5b1 : ((rd l0 x5_1) != x1_1) = true := bne_iff_ne.mpr c5
            obtain rfl := Option.some.inj H
            have p153 : 0 ≤ (x5_1 : Int) := of_decide_eq_true (by first | (with_reducible assumption) | assumption)
            have q153 : x5_1 < (l0.length : Int) := of_decide_eq_true (by first | (with_reducible assumption) | assumption)
            obtain ⟨ad153, e153, hx153_0⟩ := Kd.at_int HR0.out x5_1 p153 q153
            cases e153
            replace p153 := eq_true p153
            replace q153 := eq_true q153
            go_wp2
            go_ret
            exact ⟨by first | rfl | (simp; done) | (simp [*]; done), by repeat (first | exact Drawn0.refl _ | apply Drawn0.step)⟩
        · rw [if_neg c4] at H
          exact absurd H (by simp)
      · rw [if_neg c3] at H
        have c3b0 : decide (x5_1 < (l0.length : Int)) = false := decide_eq_false c3
        clear c3
        obtain rfl := Option.some.inj H
        go_wp2
        go_ret
        exact ⟨by first | rfl | (simp; done) | (simp [*]; done), by repeat (first | exact Drawn0.refl _ | apply Drawn0.step)⟩

noncomputable def laws_heldIntS.L0 (x0 : List Int) (x1 : Int) (x5 : Int) : Option (Int) := lim fun k => laws_heldIntS.l0 k x0 x1 x5
theorem laws_heldIntS.L0_lim (x0 : List Int) (x1 : Int) (x5 : Int) : Lim (fun k => laws_heldIntS.l0 k x0 x1 x5) (laws_heldIntS.L0 x0 x1 x5) := Lim.of fun k => (laws_heldIntS.mono_l k) x0 x1 x5
noncomputable def laws_heldIntS.F (l0 : List Int) (a1 : Int) : Option (Int) := lim fun k => laws_heldIntS.f k l0 a1
theorem laws_heldIntS.F_lim (l0 : List Int) (a1 : Int) : Lim (fun k => laws_heldIntS.f k l0 a1) (laws_heldIntS.F l0 a1) := Lim.of fun k => laws_heldIntS.mono l0 a1 k
theorem laws_heldIntS.L0_eq (x0 : List Int) (x1 : Int) (x5 : Int) : laws_heldIntS.L0 x0 x1 x5 = (if x5 < (x0.length : Int) then (if 0 ≤ x5 then (if (rd x0 x5) = x1 then (laws_heldIntS.L0 x0 (wrap64 (x1 + 1)) (wrap64 (x5 + 1))) else (some (-1))) else (none)) else (some x1)) :=
  Lim.step (f := fun k => (if x5 < (x0.length : Int) then (if 0 ≤ x5 then (if (rd x0 x5) = x1 then (laws_heldIntS.l0 k x0 (wrap64 (x1 + 1)) (wrap64 (x5 + 1))) else (some (-1))) else (none)) else (some x1))) (laws_heldIntS.L0_lim x0 x1 x5) (fun k => by first | rfl | rw [laws_heldIntS.l0]) (by
    repeat' first
    | (with_reducible exact Lim.const _)
    | (with_reducible exact laws_heldIntS.L0_lim _ _ _)
    | (with_reducible refine Lim.ite ?_ ?_)
    | (with_reducible refine Lim.bind ?_ (fun _ => ?_)))
theorem laws_heldIntS.F_eq (l0 : List Int) (a1 : Int) : laws_heldIntS.F l0 a1 = (laws_heldIntS.L0 l0 a1 0) :=
  Lim.unique (laws_heldIntS.F_lim l0 a1) (by
    unfold laws_heldIntS.f
    repeat' first
    | (with_reducible exact Lim.const _)
    | (with_reducible exact laws_heldIntS.L0_lim _ _ _)
    | (with_reducible refine Lim.ite ?_ ?_)
    | (with_reducible refine Lim.bind ?_ (fun _ => ?_)))

end Go.Proofs.Ytmhcgihkijiecaa.Fn
namespace Go.Proofs.Ytmhcgihkijiecaa.Fn
open Go.RowKit Go.Proofs.YtmhcgihkijiecaaW.PrintWords Go.Proofs.YtmhcgihkijiecaaW.PrintLast Go.Proofs.YtmhcgihkijiecaaW.PrintMore
attribute [local go_sem] max2_int min2_int max_two min_two max_three min_three max_four min_four   -- for this text's walks alone
set_option linter.unusedVariables false
set_option linter.unusedSimpArgs false

/-! ### laws_heldIntSS: function 33 -/
def laws_heldIntSS.l0 : Nat → List (List Int) → Int → Int → Option (Int)
  | 0, _, _, _ => none
  | k + 1, x0, x1, x5 => if x5 < (x0.length : Int) then (if 0 ≤ x5 then ((laws_heldIntS.f k (rd_L1 x0 x5) x1).bind fun t286 => (if t286 < 0 then (some (-1)) else (laws_heldIntSS.l0 k x0 t286 (wrap64 (x5 + 1))))) else (none)) else (some x1)
def laws_heldIntSS.f (k : Nat) (l0 : List (List Int)) (a1 : Int) : Option (Int) := laws_heldIntSS.l0 k l0 a1 0
theorem laws_heldIntSS.mono_l : ∀ k, (∀ y0 y1 y2, LeO (laws_heldIntSS.l0 k y0 y1 y2) (laws_heldIntSS.l0 (k + 1) y0 y1 y2))
  | 0 => fun _ _ _ r h => by simp [laws_heldIntSS.l0] at h
  | k + 1 => by
    have ih0 := laws_heldIntSS.mono_l k
    · intro y0 y1 y2
      unfold laws_heldIntSS.l0
      repeat' first
      | (with_reducible exact ih0 _ _ _)
      | (with_reducible exact laws_heldIntS.mono _ _ _)
      | (with_reducible exact LeO.refl _)
      | (with_reducible exact LeO.none _)
      | (with_reducible refine LeO.ite ?_ ?_)
      | (with_reducible refine LeO.bind ?_ (fun _ => ?_))
      | exact ih0 _ _ _
      | exact laws_heldIntS.mono _ _ _
      | exact LeO.none _
      | refine LeO.ite ?_ ?_
      | refine LeO.bind ?_ (fun _ => ?_)
theorem laws_heldIntSS.mono : ∀ a0 a1 k, LeO (laws_heldIntSS.f k a0 a1) (laws_heldIntSS.f (k + 1) a0 a1) := by
  intro a0 a1 k
  have ih0 := laws_heldIntSS.mono_l k
  unfold laws_heldIntSS.f
  repeat' first
      | (with_reducible exact ih0 _ _ _)
      | (with_reducible exact laws_heldIntS.mono _ _ _)
      | (with_reducible exact LeO.refl _)
      | (with_reducible exact LeO.none _)
      | (with_reducible refine LeO.ite ?_ ?_)
      | (with_reducible refine LeO.bind ?_ (fun _ => ?_))
      | exact ih0 _ _ _
      | exact laws_heldIntS.mono _ _ _
      | exact LeO.none _
      | refine LeO.ite ?_ ?_
      | refine LeO.bind ?_ (fun _ => ?_)
set_option maxHeartbeats 8000000 in
set_option maxRecDepth 100000 in
theorem laws_heldIntSS.calls (k : Nat) (A0 : Option Addr) (c0 : Nat) (l0 : List (List Int)) (a1 : Int) (r : Int) (w : World) (hr0 : Kd.C (Kd.slice 3 (Kd.int .i64)) w A0 l0.length l0) (hc0 : l0.length ≤ c0) (h : laws_heldIntSS.f k l0 a1 = some r) :
    Calls Try.prog 33 #[.slice A0 l0.length c0, .int .i64 a1] w fun e w' => e = .returned (.int .i64 r) ∧ Drawn0 w w' := by
  have HR0 := Aside0.mk hr0
  have HC0 := Aside0.mk hc0
  clear hr0 hc0
  have H : (laws_heldIntSS.l0 k l0 a1 0) = some r := h
  clear h
  have H' := Aside0.mk H
  clear H
  go_enter Try.func33, Try.ntmps33
  go_wp2
  go_loopg [1, 5] k (fun kq v1 v5 w' => ∃ (x1_1 : Int) (x5_1 : Int), v1 = .int .i64 x1_1 ∧ v5 = .int .i64 x5_1 ∧ Aside0 (laws_heldIntSS.l0 kq l0 x1_1 x5_1 = some r) ∧ Aside0 (kq ≤ k) ∧ Drawn0 w w')
  case atStart => exact ⟨(a1), (0), (by first | rfl | (simp; done) | (simp [*]; done)), (by first | rfl | (simp; done) | (simp [*]; done)), H', ⟨Nat.le_refl _⟩, by repeat (first | exact Drawn0.refl _ | apply Drawn0.step)⟩
  case round =>
    clear H'
    try clear p2
    obtain ⟨x1_1, x5_1, rfl, rfl, HA, HK1, ⟨m1, rfl⟩⟩ := hrel
    cases gk with
    | zero => exact absurd HA.out (by simp [laws_heldIntSS.l0])
    | succ k1 =>
      have H := HA.out
      clear HA
      simp only [laws_heldIntSS.l0] at H
      by_cases c3 : x5_1 < (l0.length : Int)
      · rw [if_pos c3] at H
        have c3b0 : decide (x5_1 < (l0.length : Int)) = true := decide_eq_true c3
        clear c3
        by_cases c4 : 0 ≤ x5_1
        · rw [if_pos c4] at H
          have c4b0 : decide (0 ≤ x5_1) = true := decide_eq_true c4
          clear c4
          replace H := Option.bind_eq_some_iff.mp H
          obtain ⟨t286, A50, H⟩ := H
          replace H : (if t286 < 0 then (some (-1)) else (laws_heldIntSS.l0 k1 l0 t286 (wrap64 (x5_1 + 1)))) = some r := H
          have A5 := Aside0.mk A50
          clear A50
          by_cases c6 : t286 < 0
          · rw [if_pos c6] at H
            have c6b0 : decide (t286 < 0) = true := decide_eq_true c6
            clear c6
            obtain rfl := Option.some.inj H
            have p285 : 0 ≤ (x5_1 : Int) := of_decide_eq_true (by first | (with_reducible assumption) | assumption)
            have q285 : x5_1 < (l0.length : Int) := of_decide_eq_true (by first | (with_reducible assumption) | assumption)
            obtain ⟨ad285, A285_0, c285_0, e285, hx285_0, hl285_0, hi285_0⟩ := at_L1 HR0.out x5_1 p285 q285
            cases e285
            have HR285_0 := Aside0.mk hi285_0
            have HC285_0 := Aside0.mk hl285_0
            clear hi285_0 hl285_0
            replace p285 := eq_true p285
            replace q285 := eq_true q285
            go_wp2_with (first | ((with_reducible refine gate_callee (f := 22) rfl ?_); refine goesL_ (some 17) rfl rfl Try.func22 (by kernel_rfl) rfl #[.slice A285_0 (rd_L1 l0 x5_1).length c285_0, .int .i64 x1_1] rfl (by (try simp only [List.map_toArray, List.map_cons, List.map_nil]); first | done | rfl | (simp only [List.length_drop, List.length_take]; rfl)) ?_; (with_reducible refine (laws_heldIntS.calls k1 _ _ (rd_L1 l0 x5_1) x1_1 t286 _ ?side1 ?side2 A5.out).mono ?_); (case side1 => repeat (first | exact HR285_0.out | (with_reducible refine Kd.C_alloc ?_ _) | (with_reducible refine Kd.C_drewN ?_ _) | (with_reducible refine Kd.C_drew ?_))); (case side2 => exact HC285_0.out); rintro e w' ⟨rfl, ⟨nd, rfl⟩⟩; refine ⟨_, rfl, ?_⟩))
            go_ret
            exact ⟨by first | rfl | (simp; done) | (simp [*]; done), by repeat (first | exact Drawn0.refl _ | apply Drawn0.step)⟩
          · rw [if_neg c6] at H
            have c6b0 : decide (t286 < 0) = false := decide_eq_false c6
            clear c6
            have H' := Aside0.mk H
            clear H
            have p285 : 0 ≤ (x5_1 : Int) := of_decide_eq_true (by first | (with_reducible assumption) | assumption)
            have q285 : x5_1 < (l0.length : Int) := of_decide_eq_true (by first | (with_reducible assumption) | assumption)
            obtain ⟨ad285, A285_0, c285_0, e285, hx285_0, hl285_0, hi285_0⟩ := at_L1 HR0.out x5_1 p285 q285
            cases e285
            have HR285_0 := Aside0.mk hi285_0
            have HC285_0 := Aside0.mk hl285_0
            clear hi285_0 hl285_0
            replace p285 := eq_true p285
            replace q285 := eq_true q285
            go_wp2_with (first | ((with_reducible refine gate_callee (f := 22) rfl ?_); refine goesL_ (some 17) rfl rfl Try.func22 (by kernel_rfl) rfl #[.slice A285_0 (rd_L1 l0 x5_1).length c285_0, .int .i64 x1_1] rfl (by (try simp only [List.map_toArray, List.map_cons, List.map_nil]); first | done | rfl | (simp only [List.length_drop, List.length_take]; rfl)) ?_; (with_reducible refine (laws_heldIntS.calls k1 _ _ (rd_L1 l0 x5_1) x1_1 t286 _ ?side1 ?side2 A5.out).mono ?_); (case side1 => repeat (first | exact HR285_0.out | (with_reducible refine Kd.C_alloc ?_ _) | (with_reducible refine Kd.C_drewN ?_ _) | (with_reducible refine Kd.C_drew ?_))); (case side2 => exact HC285_0.out); rintro e w' ⟨rfl, ⟨nd, rfl⟩⟩; refine ⟨_, rfl, ?_⟩))
            go_roundg k1
            case measure => have := HK1.out; omega
            case rel => exact ⟨(t286), (wrap64 (x5_1 + 1)), (by first | rfl | (simp; done) | (simp [*]; done)), (by first | rfl | (simp; done) | (simp [*]; done)), H', ⟨by have := HK1.out; omega⟩, by repeat (first | exact Drawn0.refl _ | apply Drawn0.step)⟩
        · rw [if_neg c4] at H
          exact absurd H (by simp)
      · rw [if_neg c3] at H
        have c3b0 : decide (x5_1 < (l0.length : Int)) = false := decide_eq_false c3
        clear c3
        obtain rfl := Option.some.inj H
        go_wp2
        go_ret
        exact ⟨by first | rfl | (simp; done) | (simp [*]; done), by repeat (first | exact Drawn0.refl _ | apply Drawn0.step)⟩

noncomputable def laws_heldIntSS.L0 (x0 : List (List Int)) (x1 : Int) (x5 : Int) : Option (Int) := lim fun k => laws_heldIntSS.l0 k x0 x1 x5
theorem laws_heldIntSS.L0_lim (x0 : List (List Int)) (x1 : Int) (x5 : Int) : Lim (fun k => laws_heldIntSS.l0 k x0 x1 x5) (laws_heldIntSS.L0 x0 x1 x5) := Lim.of fun k => (laws_heldIntSS.mono_l k) x0 x1 x5
noncomputable def laws_heldIntSS.F (l0 : List (List Int)) (a1 : Int) : Option (Int) := lim fun k => laws_heldIntSS.f k l0 a1
theorem laws_heldIntSS.F_lim (l0 : List (List Int)) (a1 : Int) : Lim (fun k => laws_heldIntSS.f k l0 a1) (laws_heldIntSS.F l0 a1) := Lim.of fun k => laws_heldIntSS.mono l0 a1 k
theorem laws_heldIntSS.L0_eq (x0 : List (List Int)) (x1 : Int) (x5 : Int) : laws_heldIntSS.L0 x0 x1 x5 = (if x5 < (x0.length : Int) then (if 0 ≤ x5 then ((laws_heldIntS.F (rd_L1 x0 x5) x1).bind fun t286 => (if t286 < 0 then (some (-1)) else (laws_heldIntSS.L0 x0 t286 (wrap64 (x5 + 1))))) else (none)) else (some x1)) :=
  Lim.step (f := fun k => (if x5 < (x0.length : Int) then (if 0 ≤ x5 then ((laws_heldIntS.f k (rd_L1 x0 x5) x1).bind fun t286 => (if t286 < 0 then (some (-1)) else (laws_heldIntSS.l0 k x0 t286 (wrap64 (x5 + 1))))) else (none)) else (some x1))) (laws_heldIntSS.L0_lim x0 x1 x5) (fun k => by first | rfl | rw [laws_heldIntSS.l0]) (by
    repeat' first
    | (with_reducible exact Lim.const _)
    | (with_reducible exact laws_heldIntS.F_lim _ _)
    | (with_reducible exact laws_heldIntSS.L0_lim _ _ _)
    | (with_reducible refine Lim.ite ?_ ?_)
    | (with_reducible refine Lim.bind ?_ (fun _ => ?_)))
theorem laws_heldIntSS.F_eq (l0 : List (List Int)) (a1 : Int) : laws_heldIntSS.F l0 a1 = (laws_heldIntSS.L0 l0 a1 0) :=
  Lim.unique (laws_heldIntSS.F_lim l0 a1) (by
    unfold laws_heldIntSS.f
    repeat' first
    | (with_reducible exact Lim.const _)
    | (with_reducible exact laws_heldIntSS.L0_lim _ _ _)
    | (with_reducible refine Lim.ite ?_ ?_)
    | (with_reducible refine Lim.bind ?_ (fun _ => ?_)))

end Go.Proofs.Ytmhcgihkijiecaa.Fn
namespace Go.Proofs.Ytmhcgihkijiecaa.Fn
open Go.RowKit Go.Proofs.YtmhcgihkijiecaaW.PrintWords Go.Proofs.YtmhcgihkijiecaaW.PrintLast Go.Proofs.YtmhcgihkijiecaaW.PrintMore
attribute [local go_sem] max2_int min2_int max_two min_two max_three min_three max_four min_four   -- for this text's walks alone
set_option linter.unusedVariables false
set_option linter.unusedSimpArgs false

/-! ### laws_FnExactAllExtended: function 8 (given) -/
/-- What both sides come to, as the law asks it, over numbers and lists. -/
def laws_FnExactAllExtended.Pure : Prop := ∀ (a0 a1 : Int), (Lit.int .i64 a0).wf = true → (Lit.int .i64 a1).wf = true → ∃ (ws : List (List Int)) (wb : Bool) (k4 k7 : Nat), spec_AllExtended.f a0 a1 = some (ws, wb) ∧ impl_AllExtended.f a0 a1 = some (ws, wb) ∧ laws_eqIntSS.f k4 ws ws = some true ∧ laws_heldIntSS.f k7 (markSS ws 1) 1 = some (1 + (sumLen ws : Int)) ∧ ws.length < 1000000 ∧ sumLen ws < 1000000000
theorem all_drawn_below {w w' : World} (h : Drawn0 w w') : Below w.heap.size w w' := by
  obtain ⟨n, rfl⟩ := h
  exact pw_below_drewN (Below.refl _ _) n
set_option maxHeartbeats 8000000 in
set_option maxRecDepth 100000 in
theorem laws_FnExactAllExtended.calls (a0 a1 : Int) (ws : List (List Int)) (wb : Bool) (k4 k7 : Nat) (w : World) (e2 : spec_AllExtended.f a0 a1 = some (ws, wb)) (e3 : impl_AllExtended.f a0 a1 = some (ws, wb)) (e4 : laws_eqIntSS.f k4 ws ws = some true) (e7 : laws_heldIntSS.f k7 (markSS ws 1) 1 = some (1 + (sumLen ws : Int))) (hw1 : ws.length < 1000000) (hw2 : sumLen ws < 1000000000) :
    Calls Try.prog 8 #[.int .i64 a0, .int .i64 a1] w fun e w' => e = .returned (.bool true) ∧ Below w.heap.size w w' := by
  have E2 := Aside0.mk e2
  have E3 := Aside0.mk e3
  have E4 := Aside0.mk e4
  have E7 := Aside0.mk e7
  have HW1 := Aside0.mk hw1
  have HW2 := Aside0.mk hw2
  have b1 : (wb != wb) = false := by simp
  obtain ⟨m2, hm2⟩ : ∃ m2 : Int, 1 + (sumLen ws : Int) = m2 := ⟨_, rfl⟩
  have b3 : decide (m2 < 0) = false := decide_eq_false (by omega)
  have b4 : (m2 != m2) = false := by simp
  have HM2 := Aside0.mk hm2
  clear e2 e3 e4 e7 hw1 hw2 hm2
  go_enter Try.func8, Try.ntmps8
  go_wp2_with (first | ((with_reducible refine gate_callee (f := 29) rfl ?_); refine goesL_ (some 16) rfl rfl Try.func29 (by kernel_rfl) rfl #[.int .i64 a0, .int .i64 a1] rfl (by (try simp only [List.map_toArray, List.map_cons, List.map_nil]); first | done | rfl) ?_; refine (spec_AllExtended.calls a0 a1 ws wb w E2.out).mono ?_; rintro e w1 ⟨v1, rfl, hv1, hb1⟩; refine ⟨_, rfl, ?_⟩; obtain ⟨B1, d1, q1⟩ := Kd.S_slice hv1; subst q1; have HV1 := Aside0.mk hv1; have HB1 := Aside0.mk hb1; clear hv1 hb1) | ((with_reducible refine gate_callee (f := 30) rfl ?_); refine goesL_ (some 22) rfl rfl Try.func30 (by kernel_rfl) rfl #[.int .i64 a0, .int .i64 a1] rfl (by (try simp only [List.map_toArray, List.map_cons, List.map_nil]); first | done | rfl) ?_; refine (impl_AllExtended.calls a0 a1 ws wb w1 E3.out).mono ?_; rintro e w2 ⟨v2, rfl, hv2, hb2⟩; refine ⟨_, rfl, ?_⟩; obtain ⟨B2, d2, q2⟩ := Kd.S_slice hv2; subst q2; have HG := Aside0.mk hv2; have C := Aside0.mk hb2; clear hv2 hb2) | ((with_reducible refine gate_callee (f := 31) rfl ?_); refine goesL_ (some 27) rfl rfl Try.func31 (by kernel_rfl) rfl #[.slice B2 ws.length d2, .slice B1 ws.length d1] rfl (by (try simp only [List.map_toArray, List.map_cons, List.map_nil]); first | done | rfl) ?_; refine (laws_eqIntSS.calls k4 B2 d2 ws B1 d1 ws true w2 (Kd.S_reads' HG.out).2.2 (Kd.S_reads' HG.out).2.1 (Kd.S_reads' (Kd.S_below HV1.out C.out)).2.2 (Kd.S_reads' HV1.out).2.1 E4.out).mono ?_; rintro e w3 ⟨rfl, hd⟩; refine ⟨_, rfl, ?_⟩; have hb := all_drawn_below hd; clear hd; have n_ := Aside0.mk (Kd.S_below HG.out hb); clear HG; have HG := n_; clear n_; have n_ := Aside0.mk (below_step C.out hb); clear C; have C := n_; clear n_; clear hb) | ((with_reducible refine gate_callee (f := 32) rfl ?_); refine goesL_ (some 36) rfl rfl Try.func32 (by kernel_rfl) rfl #[.slice B2 ws.length d2, .int .i64 1] rfl (by (try simp only [List.map_toArray, List.map_cons, List.map_nil]); first | done | rfl) ?_; refine (markIntSS_call (.slice B2 ws.length d2) ws 1 _ w1 w3 C.out HG.out (by omega) (by have := HW2.out; omega) (by have := HW1.out; omega)).mono ?_; rintro e w4 ⟨rfl, hs, hb⟩; refine ⟨_, rfl, ?_⟩; rw [HM2.out]; have HGn := Aside0.mk (show Kd.S (Kd.slice 3 (Kd.int .i64)) 25 w4 w1.heap.size _ (.slice B2 (markSS ws 1).length d2) (markSS ws 1) by rw [markSS_length]; exact hs); have Cn := Aside0.mk hb; clear HG C hs hb; have HG := HGn; have C := Cn; clear HGn Cn) | ((with_reducible refine gate_callee (f := 33) rfl ?_); refine goesL_ (some 39) rfl rfl Try.func33 (by kernel_rfl) rfl #[.slice B2 ws.length d2, .int .i64 1] rfl (by (try simp only [List.map_toArray, List.map_cons, List.map_nil]); first | done | rfl) ?_; refine (calls_of_args (by rw [markSS_length]) (laws_heldIntSS.calls k7 B2 d2 (markSS ws 1) 1 (1 + (sumLen ws : Int)) w4 (Kd.S_reads' HG.out).2.2 (Kd.S_reads' HG.out).2.1 E7.out)).mono ?_; rintro e w5 ⟨rfl, hd⟩; refine ⟨_, rfl, ?_⟩; rw [HM2.out]; have hb := all_drawn_below hd; clear hd; have n_ := Aside0.mk (Kd.S_below HG.out hb); clear HG; have HG := n_; clear n_; have n_ := Aside0.mk (below_step C.out hb); clear C; have C := n_; clear n_; clear hb) | ((with_reducible refine gate_callee (f := 30) rfl ?_); refine goesL_ (some 48) rfl rfl Try.func30 (by kernel_rfl) rfl #[.int .i64 a0, .int .i64 a1] rfl (by (try simp only [List.map_toArray, List.map_cons, List.map_nil]); first | done | rfl) ?_; refine (impl_AllExtended.calls a0 a1 ws wb w5 E3.out).mono ?_; rintro e w6 ⟨v6, rfl, hv6, hb⟩; refine ⟨_, rfl, ?_⟩; obtain ⟨B6, d6, q6⟩ := Kd.S_slice hv6; subst q6; have HV6 := Aside0.mk hv6; clear hv6; have n_ := Aside0.mk (Kd.S_below HG.out hb); clear HG; have HG := n_; clear n_; have n_ := Aside0.mk (below_step C.out hb); clear C; have C := n_; clear n_; clear hb) | ((with_reducible refine gate_callee (f := 31) rfl ?_); refine goesL_ (some 53) rfl rfl Try.func31 (by kernel_rfl) rfl #[.slice B6 ws.length d6, .slice B1 ws.length d1] rfl (by (try simp only [List.map_toArray, List.map_cons, List.map_nil]); first | done | rfl) ?_; refine (laws_eqIntSS.calls k4 B6 d6 ws B1 d1 ws true w6 (Kd.S_reads' HV6.out).2.2 (Kd.S_reads' HV6.out).2.1 (Kd.S_reads' (Kd.S_below HV1.out C.out)).2.2 (Kd.S_reads' HV1.out).2.1 E4.out).mono ?_; rintro e w7 ⟨rfl, hd⟩; refine ⟨_, rfl, ?_⟩; have hb := all_drawn_below hd; clear hd; have n_ := Aside0.mk (Kd.S_below HG.out hb); clear HG; have HG := n_; clear n_; have n_ := Aside0.mk (below_step C.out hb); clear C; have C := n_; clear n_; clear hb) | ((with_reducible refine gate_callee (f := 33) rfl ?_); refine goesL_ (some 62) rfl rfl Try.func33 (by kernel_rfl) rfl #[.slice B2 ws.length d2, .int .i64 1] rfl (by (try simp only [List.map_toArray, List.map_cons, List.map_nil]); first | done | rfl) ?_; refine (calls_of_args (by rw [markSS_length]) (laws_heldIntSS.calls k7 B2 d2 (markSS ws 1) 1 (1 + (sumLen ws : Int)) w7 (Kd.S_reads' HG.out).2.2 (Kd.S_reads' HG.out).2.1 E7.out)).mono ?_; rintro e w8 ⟨rfl, hd⟩; refine ⟨_, rfl, ?_⟩; rw [HM2.out]; have hb := all_drawn_below hd; clear hd; have n_ := Aside0.mk (Kd.S_below HG.out hb); clear HG; have HG := n_; clear n_; have n_ := Aside0.mk (below_step C.out hb); clear C; have C := n_; clear n_; clear hb))
  go_ret
  exact ⟨rfl, below_step HB1.out C.out⟩
theorem laws_FnExactAllExtended.walk (P : laws_FnExactAllExtended.Pure) (a0 : Int) (a1 : Int) (w : World) (w0 : (Lit.int .i64 a0).wf = true) (w1 : (Lit.int .i64 a1).wf = true) :
    Calls Try.prog 8 #[.int .i64 a0, .int .i64 a1] w fun e w' => e = .returned (.bool true) ∧ Below w.heap.size w w' := by
  obtain ⟨ws, wb, k4, k7, e2, e3, e4, e7, h7, h8⟩ := P a0 a1 w0 w1
  exact laws_FnExactAllExtended.calls a0 a1 ws wb k4 k7 w e2 e3 e4 e7 h7 h8


end Go.Proofs.Ytmhcgihkijiecaa.Fn
namespace Go.Proofs.Ytmhcgihkijiecaa.Fn
open Go.RowKit Go.Proofs.YtmhcgihkijiecaaW.PrintWords Go.Proofs.YtmhcgihkijiecaaW.PrintLast Go.Proofs.YtmhcgihkijiecaaW.PrintMore
set_option linter.unusedVariables false
set_option linter.unusedSimpArgs false
theorem laws_eqIntS.L0_val : ∀ (sa pre sb : List Int), (pre ++ sa).length < 4611686018427387904 → sa.length = sb.length → laws_eqIntS.L0 (pre ++ sa) (pre ++ sb) (pre.length : Int) = some (decide (sa = sb))
  | [], pre, sb, h, hj => by
    obtain rfl : sb = [] := List.eq_nil_of_length_eq_zero hj.symm
    rw [laws_eqIntS.L0_eq, range_end]
    simp
  | x :: sa, pre, y :: sb, h, hj => by
    have h1 : (pre.length : Int) < ((pre ++ x :: sa).length : Int) := by rw [List.length_append, List.length_cons]; omega
    have h2 : (pre.length : Int) < ((pre ++ y :: sb).length : Int) := by rw [List.length_append, List.length_cons]; omega
    rw [laws_eqIntS.L0_eq, if_pos h1, if_pos (by omega), if_pos h2, rd_mid, rd_mid, wrap_mid h]
    by_cases e : x = y
    · subst e
      rw [if_pos rfl, app_mid pre x sa, app_mid pre x sb, laws_eqIntS.L0_val sa (pre ++ [x]) sb (by simpa using h) (by simpa using hj)]
      simp
    · rw [if_neg e]
      simp [e]
theorem laws_eqIntS.F_val (a b : List Int) (h : a.length < 4611686018427387904) : laws_eqIntS.F a b = some (decide (a = b)) := by
  rw [laws_eqIntS.F_eq]
  by_cases e : (a.length : Int) = (b.length : Int)
  · rw [if_pos e]
    have := laws_eqIntS.L0_val a [] b (by simpa using h) (by omega)
    simpa using this
  · rw [if_neg e]
    have : ¬ a = b := fun hab => e (by rw [hab])
    simp [this]
theorem laws_eqIntS.F_same (a : List Int) (h : a.length < 4611686018427387904) : laws_eqIntS.F a a = some true := by
  rw [laws_eqIntS.F_val a a h]
  simp
/-- The numbers k, k + 1, .., n of them. -/
def marks : Nat → Int → List Int
  | 0, _ => []
  | n + 1, k => k :: marks n (k + 1)
theorem marks_length : ∀ n k, (marks n k).length = n
  | 0, _ => rfl
  | n + 1, k => by simp [marks, marks_length n]
theorem laws_heldIntS.L0_val : ∀ (n : Nat) (pre : List Int) (k : Int), pre.length + n < 4611686018427387904 → 0 ≤ k → k + n < 4611686018427387904 → laws_heldIntS.L0 (pre ++ marks n k) k (pre.length : Int) = some (k + n)
  | 0, pre, k, h, h0, hk => by
    rw [laws_heldIntS.L0_eq, marks, range_end]
    simp
  | n + 1, pre, k, h, h0, hk => by
    have h1 : (pre.length : Int) < ((pre ++ k :: marks n (k + 1)).length : Int) := by rw [List.length_append, List.length_cons]; omega
    have h2 : (pre ++ k :: marks n (k + 1)).length < 4611686018427387904 := by rw [List.length_append, List.length_cons, marks_length]; omega
    rw [laws_heldIntS.L0_eq, marks, if_pos h1, if_pos (by omega), rd_mid, if_pos rfl, wrap_mid h2, wrap_in (n := k + 1) (by omega) (by omega), app_mid, laws_heldIntS.L0_val n (pre ++ [k]) (k + 1) (by simp; omega) (by omega) (by omega)]
    congr 1
    omega
theorem laws_heldIntS.F_val (n : Nat) (k : Int) (h0 : 0 ≤ k) (hk : k + n < 4611686018427387904) : laws_heldIntS.F (marks n k) k = some (k + n) := by
  rw [laws_heldIntS.F_eq]
  have := laws_heldIntS.L0_val n [] k (by simp; omega) h0 hk
  simpa using this
end Go.Proofs.Ytmhcgihkijiecaa.Fn
namespace Go.Proofs.Ytmhcgihkijiecaa.Fn
open Go.RowKit Go.Proofs.YtmhcgihkijiecaaW.PrintWords Go.Proofs.YtmhcgihkijiecaaW.PrintLast Go.Proofs.YtmhcgihkijiecaaW.PrintMore
set_option linter.unusedVariables false
set_option linter.unusedSimpArgs false
theorem spec_l1In.f_val (a b c : Int) : spec_l1In.f a b c = some (decide (b ≤ a) && decide (a ≤ c)) := by
  unfold spec_l1In.f
  by_cases h : a ≥ b
  · rw [if_pos h]
    simp [show b ≤ a from h]
  · rw [if_neg h]
    simp [show ¬ b ≤ a from h]
end Go.Proofs.Ytmhcgihkijiecaa.Fn
namespace Go.Proofs.Ytmhcgihkijiecaa.Fn
open Go.RowKit Go.Proofs.YtmhcgihkijiecaaW.PrintWords Go.Proofs.YtmhcgihkijiecaaW.PrintLast Go.Proofs.YtmhcgihkijiecaaW.PrintMore
set_option linter.unusedVariables false
set_option linter.unusedSimpArgs false
theorem markL_marks : ∀ n k, markL n k = marks n k
  | 0, _ => rfl
  | n + 1, k => by rw [markL, marks, markL_marks n (k + 1)]
theorem markSS_get : ∀ (l : List (List Int)) (k : Int) (j : Nat) (row : List Int), l[j]? = some row → (markSS l k)[j]? = some (marks row.length (k + (sumLen (l.take j) : Int)))
  | [], k, j, row, h => by simp at h
  | r :: l, k, 0, row, h => by
    have : r = row := by simpa using h
    subst this
    simp [markSS, sumLen, markL_marks]
  | r :: l, k, j + 1, row, h => by
    have ih := markSS_get l (k + r.length) j row (by simpa using h)
    simp only [markSS, List.getElem?_cons_succ, ih, List.take_succ_cons, sumLen, List.map_cons, List.sum_cons]
    congr 2
    omega
theorem laws_eqIntSS.L0_same (xs : List (List Int)) (hl : xs.length < 4611686018427387904) (hx : ∀ x ∈ xs, x.length < 4611686018427387904) : ∀ (m j : Nat), j + m = xs.length → laws_eqIntSS.L0 xs xs (j : Int) = some true
  | 0, j, hj => by rw [laws_eqIntSS.L0_eq, if_neg (by omega)]
  | m + 1, j, hj => by
    have e : rd_L1 xs (j : Int) = xs[j]'(by omega) := by unfold rd_L1; rw [Int.toNat_natCast, List.getD_eq_getElem?_getD, List.getElem?_eq_getElem (by omega)]; rfl
    rw [laws_eqIntSS.L0_eq, if_pos (by omega), if_pos (by omega), if_pos (by omega), e, laws_eqIntS.F_same _ (hx _ (List.getElem_mem _))]
    simp only [Option.bind_some, if_true]
    rw [show wrap64 ((j : Int) + 1) = ((j + 1 : Nat) : Int) by rw [wrap_in (by omega) (by omega)]; rfl, laws_eqIntSS.L0_same xs hl hx m (j + 1) (by omega)]
theorem laws_eqIntSS.F_same (xs : List (List Int)) (hl : xs.length < 4611686018427387904) (hx : ∀ x ∈ xs, x.length < 4611686018427387904) : laws_eqIntSS.F xs xs = some true := by
  rw [laws_eqIntSS.F_eq, if_pos rfl]
  exact laws_eqIntSS.L0_same xs hl hx xs.length 0 (by omega)
theorem laws_heldIntSS.L0_val (l : List (List Int)) (k : Int) (h0 : 0 ≤ k) (hk : k + (sumLen l : Int) < 4611686018427387904) (hl : l.length < 4611686018427387904) : ∀ (m j : Nat), j + m = l.length → laws_heldIntSS.L0 (markSS l k) (k + (sumLen (l.take j) : Int)) (j : Int) = some (k + (sumLen l : Int))
  | 0, j, hj => by
    rw [laws_heldIntSS.L0_eq, markSS_length, if_neg (by omega), List.take_of_length_le (by omega)]
  | m + 1, j, hj => by
    obtain ⟨row, hrow⟩ : ∃ row, l[j]? = some row := ⟨_, List.getElem?_eq_getElem (by omega)⟩
    have e : rd_L1 (markSS l k) (j : Int) = marks row.length (k + (sumLen (l.take j) : Int)) := by
      unfold rd_L1
      rw [Int.toNat_natCast, List.getD_eq_getElem?_getD, markSS_get l k j row hrow]
      rfl
    have htake : l.take (j + 1) = l.take j ++ [row] := by
      rw [List.take_add_one, hrow]
      rfl
    have hle := sumLen_take l (j + 1)
    have hs : sumLen (l.take (j + 1)) = sumLen (l.take j) + row.length := by rw [htake, sumLen_snoc]
    rw [laws_heldIntSS.L0_eq, markSS_length, if_pos (by omega), if_pos (by omega), e, laws_heldIntS.F_val row.length _ (by omega) (by omega)]
    simp only [Option.bind_some]
    rw [if_neg (by omega), show wrap64 ((j : Int) + 1) = ((j + 1 : Nat) : Int) by rw [wrap_in (by omega) (by omega)]; rfl, show k + (sumLen (l.take j) : Int) + (row.length : Int) = k + (sumLen (l.take (j + 1)) : Int) by omega, laws_heldIntSS.L0_val l k h0 hk hl m (j + 1) (by omega)]
theorem laws_heldIntSS.F_val (l : List (List Int)) (k : Int) (h0 : 0 ≤ k) (hk : k + (sumLen l : Int) < 4611686018427387904) (hl : l.length < 4611686018427387904) : laws_heldIntSS.F (markSS l k) k = some (k + (sumLen l : Int)) := by
  rw [laws_heldIntSS.F_eq]
  have := laws_heldIntSS.L0_val l k h0 hk hl l.length 0 (by omega)
  simpa [sumLen] using this
theorem sumLen_le (n : Nat) : ∀ (l : List (List Int)), (∀ x ∈ l, x.length ≤ n) → sumLen l ≤ l.length * n
  | [], _ => by simp [sumLen]
  | x :: l, h => by
    have ih := sumLen_le n l (fun y hy => h y (by simp [hy]))
    have hx := h x (by simp)
    have e : sumLen (x :: l) = x.length + sumLen l := by simp [sumLen]
    rw [e, List.length_cons, Nat.succ_mul]
    omega
end Go.Proofs.Ytmhcgihkijiecaa.Fn
namespace Go.Proofs.Ytmhcgihkijiecaa.Fn
open Go.RowKit Go.Proofs.YtmhcgihkijiecaaW.PrintWords Go.Proofs.YtmhcgihkijiecaaW.PrintLast Go.Proofs.YtmhcgihkijiecaaW.PrintMore
set_option linter.unusedVariables false
set_option linter.unusedSimpArgs false
/-- All rows, in order. -/
def extsLoop (rec : List Int → Nat → List (List Int)) (hole shift : Int) (row : List Int) (used a : Nat) : Nat → Int → List (List Int)
  | 0, _ => []
  | m + 1, n => (if sePassed hole row used n ((a : Int) + n + shift) then [] else rec ((row.set a n).set ((a : Int) + n + shift).toNat n) (used ||| 2 ^ n.toNat)) ++ extsLoop rec hole shift row used a m (n + 1)
def exts (from_ : Int) (N : Nat) (shift hole : Int) : Nat → List Int → Nat → List (List Int)
  | 0, _, _ => []
  | k + 1, row, used => if seAt hole row = row.length then [row] else extsLoop (exts from_ N shift hole k) hole shift row used (seAt hole row) N from_
/-- A function called for rows, one after the other, until it ends. -/
def foldE {σ : Type} (each : σ → List Int → Option (σ × Bool)) : σ → List (List Int) → Option (σ × Bool)
  | s, [] => some (s, false)
  | s, x :: l => (each s x).bind fun p => if p.2 = true then some (p.1, true) else foldE each p.1 l
theorem foldE_append {σ : Type} (each : σ → List Int → Option (σ × Bool)) : ∀ (a b : List (List Int)) (s : σ), foldE each s (a ++ b) = (foldE each s a).bind fun p => if p.2 = true then some (p.1, true) else foldE each p.1 b
  | [], b, s => by simp [foldE]
  | x :: a, b, s => by
    simp only [List.cons_append, foldE]
    cases each s x with
    | none => rfl
    | some p =>
      simp only [Option.bind_some]
      by_cases h : p.2 = true
      · simp [h]
      · simp only [if_neg h]
        exact foldE_append each a b p.1
/-- The row as the program's search has it. -/
def freeH (hole : Int) (row : List Int) : List Int := (List.range row.length).map fun j : Nat => if rd row j = 0 ∧ (j : Int) ≠ hole then -1 else rd row j
theorem freeH_len (hole : Int) (row : List Int) : (freeH hole row).length = row.length := by simp [freeH]
theorem freeH_rd {hole : Int} {row : List Int} (j : Nat) (h : j < row.length) : rd (freeH hole row) j = if rd row j = 0 ∧ (j : Int) ≠ hole then -1 else rd row j := by
  rw [rd_nat _ j (by rw [freeH_len]; exact h)]
  simp [freeH]
theorem ext_rd {a b : List Int} (hl : a.length = b.length) (h : ∀ j : Nat, j < a.length → rd a j = rd b j) : a = b := by
  apply List.ext_getElem hl
  intro j h1 h2
  have := h j h1
  rwa [rd_nat a j h1, rd_nat b j h2] at this
theorem rd_set (l : List Int) (a : Nat) (v : Int) (j : Nat) (hj : j < l.length) : rd (l.set a v) j = if a = j then v else rd l j := by
  rw [rd_nat _ j (by rw [List.length_set]; exact hj), rd_nat l j hj, List.getElem_set]
theorem freeH_set {hole : Int} {row : List Int} {a : Nat} {n : Int} (hn : n ≠ 0) : (freeH hole row).set a n = freeH hole (row.set a n) := by
  apply ext_rd (by simp [freeH_len])
  intro j hj
  have hj' : j < row.length := by simpa [freeH_len] using hj
  rw [rd_set (freeH hole row) a n j (by rw [freeH_len]; exact hj'), freeH_rd (row := row) j hj', freeH_rd (row := row.set a n) j (by rw [List.length_set]; exact hj'), rd_set row a n j hj']
  by_cases e : a = j
  · simp [e, hn]
  · simp [e]
theorem freeAt_is : ∀ (l : List Int) (a : Nat), a ≤ l.length → (∀ j : Nat, j < a → rd l j ≠ -1) → (a < l.length → rd l a = -1) → freeAt l = a
  | [], a, h, _, _ => by
    simp at h
    simp [freeAt, h]
  | x :: l, 0, _, _, h => by
    have := h (by simp)
    simp [rd] at this
    simp [freeAt, this]
  | x :: l, a + 1, h, h1, h2 => by
    have hx := h1 0 (by omega)
    simp [rd] at hx
    have ih := freeAt_is l a (by simpa using h) (fun j hj => by
      have := h1 (j + 1) (by omega)
      simpa [rd] using this) (fun ha => by
      have := h2 (by simpa using ha)
      simpa [rd] using this)
    simp [freeAt, hx, ih]
theorem seAtFrom_spec (hole : Int) : ∀ (l : List Int) (i : Nat), ∃ a, seAtFrom hole l i = i + a ∧ a ≤ l.length ∧ (∀ j : Nat, j < a → rd l j ≠ 0 ∨ ((i + j : Nat) : Int) = hole) ∧ (a < l.length → rd l a = 0 ∧ ((i + a : Nat) : Int) ≠ hole)
  | [], i => ⟨0, rfl, Nat.le_refl _, fun j hj => by omega, fun h => by simp at h⟩
  | x :: l, i => by
    by_cases h : x = 0 ∧ (i : Int) ≠ hole
    · exact ⟨0, by rw [seAtFrom, if_pos h]; rfl, Nat.zero_le _, fun j hj => by omega, fun _ => ⟨by simpa [rd] using h.1, by simpa using h.2⟩⟩
    · obtain ⟨a, h1, h2, h3, h4⟩ := seAtFrom_spec hole l (i + 1)
      refine ⟨a + 1, by rw [seAtFrom, if_neg h, h1]; omega, by simpa using h2, fun j hj => ?_, fun ha => ?_⟩
      · cases j with
        | zero =>
          by_cases hx : x = 0
          · exact .inr (by simpa using Classical.byContradiction fun e => h ⟨hx, e⟩)
          · exact .inl (by simpa [rd] using hx)
        | succ j =>
          have := h3 j (by omega)
          rw [show i + (j + 1) = i + 1 + j by omega]
          simpa [rd] using this
      · have := h4 (by simpa using ha)
        rw [show i + (a + 1) = i + 1 + a by omega]
        simpa [rd] using this
theorem seAt_spec (hole : Int) (l : List Int) : seAt hole l ≤ l.length ∧ (∀ j : Nat, j < seAt hole l → rd l j ≠ 0 ∨ (j : Int) = hole) ∧ (seAt hole l < l.length → rd l (seAt hole l) = 0 ∧ ((seAt hole l : Nat) : Int) ≠ hole) := by
  obtain ⟨a, h1, h2, h3, h4⟩ := seAtFrom_spec hole l 0
  have e : seAt hole l = a := by rw [seAt, h1, Nat.zero_add]
  rw [e]
  exact ⟨h2, fun j hj => by simpa using h3 j hj, fun ha => by simpa using h4 ha⟩
theorem freeH_free {hole : Int} {row : List Int} (hp : ∀ j : Nat, j < row.length → 0 ≤ rd row j) : freeAt (freeH hole row) = seAt hole row := by
  obtain ⟨h1, h2, h3⟩ := seAt_spec hole row
  refine freeAt_is _ _ (by rw [freeH_len]; exact h1) (fun j hj => ?_) (fun ha => ?_)
  · rw [freeH_rd j (by omega)]
    have := hp j (by omega)
    split
    · rename_i h
      rcases h2 j hj with h4 | h4
      · exact absurd h.1 h4
      · exact absurd h4 h.2
    · omega
  · rw [freeH_len] at ha
    rw [freeH_rd _ ha, if_pos (h3 ha)]
theorem freeH_full {hole : Int} {row : List Int} (h : seAt hole row = row.length) : freeH hole row = row := by
  refine ext_rd (freeH_len _ _) (fun j hj => ?_)
  rw [freeH_len] at hj
  have := (seAt_spec hole row).2.1 j (by omega)
  rw [freeH_rd j hj, if_neg (fun e => this.elim (fun h => h e.1) (fun h => e.2 h))]
/-- What is left of the numbers from_, .., N of them. -/
def leftH (from_ : Int) (N used : Nat) : List Int := (List.range N).map fun i => if used.testBit (from_.toNat + i) = true then 0 else from_ + (i : Int)
theorem leftH_len (from_ : Int) (N used : Nat) : (leftH from_ N used).length = N := by simp [leftH]
theorem leftH_rd {from_ : Int} {N used i : Nat} (h : i < N) : rd (leftH from_ N used) i = if used.testBit (from_.toNat + i) = true then 0 else from_ + (i : Int) := by
  rw [rd_nat _ i (by rw [leftH_len]; exact h)]
  simp [leftH]
theorem leftH_set {from_ : Int} {N used i : Nat} (h : i < N) : (leftH from_ N used).set i 0 = leftH from_ N (used ||| 2 ^ (from_.toNat + i)) := by
  apply List.ext_getElem?
  intro j
  rw [List.getElem?_set, leftH_len]
  by_cases hj : i = j
  · subst hj
    rw [if_pos rfl, if_pos h]
    simp [leftH, h, Nat.testBit_or, Nat.testBit_two_pow]
  · rw [if_neg hj]
    rcases Nat.lt_or_ge j N with h2 | h2
    · simp [leftH, h2, Nat.testBit_or, Nat.testBit_two_pow, hj]
    · rw [List.getElem?_eq_none (by rw [leftH_len]; exact h2), List.getElem?_eq_none (by rw [leftH_len]; exact h2)]
theorem count_free {r : List Int} {a : Nat} {n : Int} (t : Nat) (ha : a < r.length) (h0 : rd r a = -1) (hn : n ≠ -1) : ((r.set a n).set t n).count (-1) < r.count (-1) := by
  have hmem : (-1 : Int) ∈ r := by
    rw [rd_nat r a ha] at h0
    rw [← h0]
    exact List.getElem_mem ha
  have hpos := List.count_pos_iff.2 hmem
  have h1 : (r.set a n).count (-1) = r.count (-1) - 1 := by
    rw [List.count_set ha]
    rw [rd_nat r a ha] at h0
    simp [h0, hn]
  rcases Nat.lt_or_ge t (r.set a n).length with h | h
  · rw [List.count_set h, h1]
    simp only [beq_iff_eq, hn, if_false, Nat.add_zero]
    omega
  · rw [List.set_eq_of_length_le h, h1]
    omega
theorem fillLoop_exts {σ : Type} {each : σ → List Int → Option (σ × Bool)} {row told : List Int} {from_ shift hole : Int} {N used k : Nat} {rec : σ → List Int → List Int → Option (σ × Bool)} {recE : List Int → Nat → List (List Int)} (hz : ∀ j : Int, rd told j = 0) (hf : 1 ≤ from_) (hs : 0 ≤ shift) (hpos : ∀ j : Nat, j < row.length → 0 ≤ rd row j)
    (hrec : ∀ s row' used', row'.length = row.length → (freeH hole row').count (-1) < k → (∀ j : Nat, j < row'.length → 0 ≤ rd row' j) → rec s (freeH hole row') (leftH from_ N used') = foldE each s (recE row' used')) (hk : (freeH hole row).count (-1) < k + 1) (ha : seAt hole row < row.length) :
    ∀ (m i : Nat) (s : σ), i + m = N → fillLoop rec (freeH hole row) told (leftH from_ N used) shift m i s = foldE each s (extsLoop recE hole shift row used (seAt hole row) m (from_ + (i : Int)))
  | 0, i, s, hi => rfl
  | m + 1, i, s, hi => by
    have hfa := freeH_free (hole := hole) hpos
    have hn := leftH_rd (from_ := from_) (N := N) (used := used) (i := i) (by omega)
    have hnx : from_ + (i : Int) + 1 = from_ + ((i + 1 : Nat) : Int) := by omega
    have hb : (from_ + (i : Int)).toNat = from_.toNat + i := by omega
    by_cases hbit : used.testBit (from_.toNat + i) = true
    · rw [if_pos hbit] at hn
      have hp : sePassed hole row used (from_ + (i : Int)) ((seAt hole row : Int) + (from_ + (i : Int)) + shift) := .inl (by rw [hb]; exact hbit)
      rw [fillLoop_pass hfa hn rfl (.inl rfl), fillLoop_exts hz hf hs hpos hrec hk ha m (i + 1) s (by omega), extsLoop, if_pos hp, List.nil_append, hnx]
    · rw [if_neg hbit] at hn
      obtain ⟨n, hne⟩ : ∃ n, from_ + (i : Int) = n := ⟨_, rfl⟩
      rw [hne] at hn hnx hb ⊢
      obtain ⟨t, ht⟩ : ∃ t, (seAt hole row : Int) + n + shift = t := ⟨_, rfl⟩
      have hn1 : 1 ≤ n := by omega
      obtain ⟨tn, htn⟩ : ∃ tn : Nat, t = (tn : Int) := ⟨t.toNat, by omega⟩
      have hcond : passed (freeH hole row) told (seAt hole row) n t ↔ sePassed hole row used n t := by
        have hb2 : ¬ used.testBit n.toNat = true := by rw [hb]; exact hbit
        have hrd : tn < row.length → (rd (freeH hole row) t ≠ -1 ↔ (t = hole ∨ rd row t ≠ 0)) := fun h => by
          rw [htn, freeH_rd tn h]
          have h6 := hpos tn h
          by_cases h3 : rd row (tn : Int) = 0 ∧ (tn : Int) ≠ hole
          · rw [if_pos h3]
            simp [h3]
          · rw [if_neg h3]
            constructor
            · intro _
              by_cases h7 : rd row (tn : Int) = 0
              · exact .inl (Classical.byContradiction fun e => h3 ⟨h7, e⟩)
              · exact .inr h7
            · intro _; omega
        unfold passed
        rw [freeH_len, hz, hz]
        constructor
        · rintro (h | h | h | h | h)
          · omega
          · exact .inr (.inl h)
          · by_cases h5 : (row.length : Int) ≤ t
            · exact .inr (.inl h5)
            · exact .inr (.inr ((hrd (by omega)).1 h))
          · exact absurd rfl h.1
          · exact absurd rfl h.1
        · rintro (h | h | h)
          · exact absurd h hb2
          · exact .inr (.inl h)
          · by_cases h5 : (row.length : Int) ≤ t
            · exact .inr (.inl h5)
            · exact .inr (.inr (.inl ((hrd (by omega)).2 h)))
      by_cases hp : sePassed hole row used n t
      · rw [fillLoop_pass hfa hn ht (hcond.2 hp), fillLoop_exts hz hf hs hpos hrec hk ha m (i + 1) s (by omega), extsLoop, ht, if_pos hp, List.nil_append, hnx]
      · have hat := (seAt_spec hole row).2.2 ha
        have hfr : rd (freeH hole row) (seAt hole row) = -1 := by rw [freeH_rd _ ha, if_pos hat]
        have hc := count_free (n := n) t.toNat (by rw [freeH_len]; exact ha) hfr (by omega)
        rw [fillLoop_put hfa hn ht (fun h => hp (hcond.1 h)), freeH_set (show n ≠ 0 by omega), freeH_set (show n ≠ 0 by omega), leftH_set (show i < N by omega), hrec s _ _ (by simp) (by rw [freeH_set (show n ≠ 0 by omega), freeH_set (show n ≠ 0 by omega)] at hc; omega) (fun j hj => by
          have hj' : j < row.length := by simpa using hj
          rw [rd_set _ _ _ _ (by simpa using hj'), rd_set _ _ _ _ hj']
          have := hpos j hj'
          split
          · omega
          · split
            · omega
            · exact this), extsLoop, ht, if_neg hp, foldE_append, ← hb]
        cases foldE each s (recE ((row.set (seAt hole row) n).set t.toNat n) (used ||| 2 ^ n.toNat)) with
        | none => rfl
        | some p =>
          simp only [Option.bind_some]
          by_cases h8 : p.2 = true
          · rw [if_pos h8, if_pos h8]
          · rw [if_neg h8, if_neg h8, fillLoop_exts hz hf hs hpos hrec hk ha m (i + 1) p.1 (by omega), hnx]
theorem fillF_exts {σ : Type} (each : σ → List Int → Option (σ × Bool)) (told : List Int) (from_ shift hole : Int) (N : Nat) (hz : ∀ j : Int, rd told j = 0) (hf : 1 ≤ from_) (hs : 0 ≤ shift) : ∀ (k : Nat) (s : σ) (row : List Int) (used : Nat), (freeH hole row).count (-1) < k → (∀ j : Nat, j < row.length → 0 ≤ rd row j) → fillF each told shift k s (freeH hole row) (leftH from_ N used) = foldE each s (exts from_ N shift hole k row used)
  | 0, s, row, used, h, hp => by omega
  | k + 1, s, row, used, h, hp => by
    have hfa := freeH_free (hole := hole) hp
    unfold fillF exts
    rw [hfa, freeH_len]
    by_cases h2 : seAt hole row = row.length
    · rw [if_pos h2, if_pos h2, freeH_full h2]
      simp only [foldE]
      cases each s row with
      | none => rfl
      | some p =>
        simp only [Option.bind_some]
        by_cases h8 : p.2 = true
        · rw [if_pos h8, ← h8]
        · rw [if_neg h8]
          rw [Bool.not_eq_true] at h8
          rw [← h8]
    · have := (seAt_spec hole row).1
      rw [if_neg h2, if_neg h2, leftH_len, fillLoop_exts hz hf hs hp (fun s row' used' h1 h2 h3 => fillF_exts each told from_ shift hole N hz hf hs k s row' used' h2 h3) h (by omega) N 0 s (by omega)]
      simp
theorem take_more' {α : Type} (a b : List α) (n : Nat) : (a.take n ++ b).take n = (a ++ b).take n := by
  rcases Nat.le_total n a.length with h | h
  · rw [List.take_append_of_le_length (by rw [List.length_take]; omega), List.take_append_of_le_length h, List.take_take, Nat.min_self]
  · rw [List.take_of_length_le h]
theorem seLoop_exts {row : List Int} {from_ shift hole : Int} {used k most : Nat} {rec : SeSt → List Int → Nat → Option SeSt} {recE : List Int → Nat → List (List Int)} (hf : 1 ≤ from_) (hs : 0 ≤ shift) (hpos : ∀ j : Nat, j < row.length → 0 ≤ rd row j)
    (hrec : ∀ c xs row' used', (freeH hole row').count (-1) < k → (∀ j : Nat, j < row'.length → 0 ≤ rd row' j) → xs.length ≤ most → c + (recE row' used').length ≤ 1000000000000 → rec (c, xs) row' used' = some (c + (recE row' used').length, (xs ++ recE row' used').take most)) (hk : (freeH hole row).count (-1) < k + 1) (ha : seAt hole row < row.length) :
    ∀ (m : Nat) (n : Int) (c : Nat) (xs : List (List Int)), 1 ≤ n → xs.length ≤ most → c + (extsLoop recE hole shift row used (seAt hole row) m n).length ≤ 1000000000000 → seLoop rec hole shift row used (seAt hole row) m n (c, xs) = some (c + (extsLoop recE hole shift row used (seAt hole row) m n).length, (xs ++ extsLoop recE hole shift row used (seAt hole row) m n).take most)
  | 0, n, c, xs, hn, hx, hc => by
    simp only [seLoop, extsLoop, List.append_nil, List.length_nil, Nat.add_zero]
    rw [List.take_of_length_le hx]
  | m + 1, n, c, xs, hn, hx, hc => by
    obtain ⟨t, ht⟩ : ∃ t, (seAt hole row : Int) + n + shift = t := ⟨_, rfl⟩
    by_cases hp : sePassed hole row used n t
    · have e : extsLoop recE hole shift row used (seAt hole row) (m + 1) n = extsLoop recE hole shift row used (seAt hole row) m (n + 1) := by
        rw [extsLoop, ht, if_pos hp, List.nil_append]
      rw [e] at hc ⊢
      rw [seLoop_pass ht hp, seLoop_exts hf hs hpos hrec hk ha m (n + 1) c xs (by omega) hx hc]
    · have e : extsLoop recE hole shift row used (seAt hole row) (m + 1) n = recE ((row.set (seAt hole row) n).set t.toNat n) (used ||| 2 ^ n.toNat) ++ extsLoop recE hole shift row used (seAt hole row) m (n + 1) := by
        rw [extsLoop, ht, if_neg hp]
      have hat := (seAt_spec hole row).2.2 ha
      have hfr : rd (freeH hole row) (seAt hole row) = -1 := by rw [freeH_rd _ ha, if_pos hat]
      have hc2 := count_free (n := n) t.toNat (by rw [freeH_len]; exact ha) hfr (by omega)
      rw [freeH_set (show n ≠ 0 by omega), freeH_set (show n ≠ 0 by omega)] at hc2
      rw [e] at hc ⊢
      rw [List.length_append] at hc ⊢
      rw [seLoop_put ht hp, hrec c xs _ _ (by omega) (fun j hj => by
          have hj' : j < row.length := by simpa using hj
          rw [rd_set _ _ _ _ (by simpa using hj'), rd_set _ _ _ _ hj']
          have := hpos j hj'
          split
          · omega
          · split
            · omega
            · exact this) hx (by omega), Option.bind_some, seLoop_exts hf hs hpos hrec hk ha m (n + 1) _ _ (by omega) (by rw [List.length_take]; omega) (by omega), take_more', List.append_assoc, Nat.add_assoc]
theorem seF_exts (from_ to_ shift hole : Int) (most : Nat) (hm : most ≤ 1000000) (hf : 1 ≤ from_) (hs : 0 ≤ shift) : ∀ (k c : Nat) (xs : List (List Int)) (row : List Int) (used : Nat), (freeH hole row).count (-1) < k → (∀ j : Nat, j < row.length → 0 ≤ rd row j) → xs.length ≤ most → c + (exts from_ (to_ + 1 - from_).toNat shift hole k row used).length ≤ 1000000000000 → seF from_ to_ shift hole (most : Int) k (c, xs) row used = some (c + (exts from_ (to_ + 1 - from_).toNat shift hole k row used).length, (xs ++ exts from_ (to_ + 1 - from_).toNat shift hole k row used).take most)
  | 0, c, xs, row, used, h, hp, hx, hc => by omega
  | k + 1, c, xs, row, used, h, hp, hx, hc => by
    unfold seF
    by_cases h2 : seAt hole row = row.length
    · have e : exts from_ (to_ + 1 - from_).toNat shift hole (k + 1) row used = [row] := by rw [exts, if_pos h2]
      rw [e] at hc ⊢
      have hc' : c + 1 ≤ 1000000000000 := hc
      rw [if_pos h2, if_pos ⟨by show c < _; omega, by show xs.length < _; omega⟩]
      show some (c + 1, if (xs.length : Int) < (most : Int) then xs ++ [row] else xs) = _
      by_cases h3 : (xs.length : Int) < (most : Int)
      · rw [if_pos h3, List.take_of_length_le (by simp; omega)]
        rfl
      · rw [if_neg h3, List.take_append_of_le_length (by omega), List.take_of_length_le (by omega)]
        rfl
    · have e : exts from_ (to_ + 1 - from_).toNat shift hole (k + 1) row used = extsLoop (exts from_ (to_ + 1 - from_).toNat shift hole k) hole shift row used (seAt hole row) (to_ + 1 - from_).toNat from_ := by rw [exts, if_neg h2]
      rw [e] at hc ⊢
      have := (seAt_spec hole row).1
      rw [if_neg h2]
      exact seLoop_exts hf hs hp (fun c xs row' used' h1 h3 h4 h5 => seF_exts from_ to_ shift hole most hm hf hs k c xs row' used' h1 h3 h4 h5) h (by omega) _ _ c xs hf hx hc
/-- So many of the numbers are not used. -/
def unset (used : Nat) : Nat → Nat → Nat
  | _, 0 => 0
  | b, m + 1 => (if used.testBit b = true then 0 else 1) + unset used (b + 1) m
theorem unset_same {u v : Nat} : ∀ (m b : Nat), (∀ j, b ≤ j → u.testBit j = v.testBit j) → unset u b m = unset v b m
  | 0, b, h => rfl
  | m + 1, b, h => by
    rw [unset, unset, h b (Nat.le_refl _), unset_same m (b + 1) (fun j hj => h j (by omega))]
theorem unset_or {u c : Nat} (hu : u.testBit c = false) : ∀ (m b : Nat), b ≤ c → c < b + m → unset (u ||| 2 ^ c) b m + 1 = unset u b m
  | 0, b, h1, h2 => by omega
  | m + 1, b, h1, h2 => by
    by_cases e : c = b
    · subst e
      have h3 := unset_same (u := u ||| 2 ^ c) (v := u) m (c + 1) (fun j hj => by
        rw [Nat.testBit_or, Nat.testBit_two_pow]
        have : ¬ c = j := by omega
        simp [this])
      rw [unset, unset, h3]
      simp [Nat.testBit_or, Nat.testBit_two_pow, hu]
      omega
    · have ih := unset_or hu m (b + 1) (by omega) (by omega)
      rw [unset, unset, Nat.testBit_or, Nat.testBit_two_pow]
      simp only [e, decide_false, Bool.or_false]
      omega
def fct : Nat → Nat
  | 0 => 1
  | n + 1 => (n + 1) * fct n
theorem fct_pos : ∀ n, 1 ≤ fct n
  | 0 => Nat.le_refl _
  | n + 1 => by
    have := fct_pos n
    rw [fct]
    exact Nat.le_trans this (Nat.le_mul_of_pos_left _ (Nat.succ_pos n))
theorem extsLoop_len {recE : List Int → Nat → List (List Int)} {hole shift : Int} {row : List Int} {used a B : Nat} {from_ : Int} {N : Nat} (hf : 1 ≤ from_) (hB : ∀ i, i < N → used.testBit (from_.toNat + i) = false → ∀ row', (recE row' (used ||| 2 ^ (from_.toNat + i))).length ≤ B) : ∀ (m i : Nat), i + m = N → (extsLoop recE hole shift row used a m (from_ + (i : Int))).length ≤ unset used (from_.toNat + i) m * B
  | 0, i, h => by simp [extsLoop]
  | m + 1, i, h => by
    have ih := extsLoop_len (recE := recE) (hole := hole) (shift := shift) (row := row) (a := a) hf hB m (i + 1) (by omega)
    have hnx : from_ + (i : Int) + 1 = from_ + ((i + 1 : Nat) : Int) := by omega
    have hb : (from_ + (i : Int)).toNat = from_.toNat + i := by omega
    rw [extsLoop, unset, List.length_append, hnx]
    rw [show from_.toNat + (i + 1) = from_.toNat + i + 1 by omega] at ih
    by_cases hbit : used.testBit (from_.toNat + i) = true
    · rw [if_pos hbit, if_pos (.inl (by rw [hb]; exact hbit))]
      simpa using ih
    · rw [if_neg hbit, Nat.add_mul, Nat.one_mul]
      refine Nat.add_le_add ?_ ih
      split
      · exact Nat.zero_le _
      · rw [hb]
        exact hB i (by omega) (Bool.eq_false_iff.mpr hbit) _
theorem exts_len (from_ : Int) (N : Nat) (shift hole : Int) (hf : 1 ≤ from_) : ∀ (k : Nat) (row : List Int) (used : Nat), (exts from_ N shift hole k row used).length ≤ fct (unset used from_.toNat N)
  | 0, row, used => Nat.zero_le _
  | k + 1, row, used => by
    rw [exts]
    split
    · exact fct_pos _
    · have h := extsLoop_len (recE := exts from_ N shift hole k) (hole := hole) (shift := shift) (row := row) (used := used) (a := seAt hole row) (B := fct (unset used from_.toNat N - 1)) (N := N) hf (fun i hi hb row' => by
        have h1 := exts_len from_ N shift hole hf k row' (used ||| 2 ^ (from_.toNat + i))
        have h2 := unset_or hb N from_.toNat (by omega) (by omega)
        have h3 : unset (used ||| 2 ^ (from_.toNat + i)) from_.toNat N = unset used from_.toNat N - 1 := by omega
        rw [h3] at h1
        exact h1) N 0 (by omega)
      have e0 : from_ + ((0 : Nat) : Int) = from_ := by simp
      rw [e0, Nat.add_zero] at h
      refine Nat.le_trans h ?_
      generalize unset used from_.toNat N = U
      cases U with
      | zero => simp
      | succ U => exact Nat.le_refl _
theorem unset_zero : ∀ (m b : Nat), unset 0 b m = m
  | 0, _ => rfl
  | m + 1, b => by
    rw [unset, unset_zero m (b + 1), Nat.zero_testBit]
    simp
    omega
theorem fct_small {n : Nat} (h : n ≤ 7) : fct n ≤ 5040 := by
  have : n = 0 ∨ n = 1 ∨ n = 2 ∨ n = 3 ∨ n = 4 ∨ n = 5 ∨ n = 6 ∨ n = 7 := by omega
  rcases this with rfl | rfl | rfl | rfl | rfl | rfl | rfl | rfl <;> decide
end Go.Proofs.Ytmhcgihkijiecaa.Fn
namespace Go.Proofs.Ytmhcgihkijiecaa.Fn
open Go.RowKit Go.Proofs.YtmhcgihkijiecaaW.PrintWords Go.Proofs.YtmhcgihkijiecaaW.PrintLast Go.Proofs.YtmhcgihkijiecaaW.PrintMore
set_option linter.unusedVariables false
set_option linter.unusedSimpArgs false
def extRows (n hole : Int) : List (List Int) := exts 1 n.toNat 0 hole (2 * n.toNat + 1 + 1) (List.replicate (2 * n.toNat + 1) 0) 0
theorem replicate_rd (p : Nat) (v : Int) (j : Nat) (h : j < p) : rd (List.replicate p v) j = v := by
  rw [rd_nat _ j (by simpa using h)]
  simp
theorem extRun_exts {n hole : Int} (h : extOk n hole = true) {σ : Type} (each : σ → List Int → Option (σ × Bool)) (s : σ) : extRun n hole each s = foldE each s (extRows n hole) := by
  have hd := of_decide_eq_true h
  have e1 : rowStart (2 * n.toNat + 1) hole = freeH hole (List.replicate (2 * n.toNat + 1) 0) := by
    refine ext_rd (by rw [rowStart_len, freeH_len, List.length_replicate]) (fun j hj => ?_)
    rw [rowStart_len] at hj
    rw [freeH_rd j (by simpa using hj), replicate_rd _ _ j hj]
    unfold rowStart
    rw [if_pos hd.2.2.1, rd_set _ _ _ _ (by simpa using hj), replicate_rd _ _ j hj]
    by_cases e : hole.toNat = j
    · have e2 : (j : Int) = hole := by omega
      simp [e, e2]
    · have e2 : ¬ (j : Int) = hole := by omega
      simp [e, e2]
  have e2 : numbersUp 1 n.toNat = leftH 1 n.toNat 0 := by simp [numbersUp, leftH]
  rw [extRun, if_pos h, rowsRun, e1, e2, fillF_exts each _ 1 0 hole n.toNat (fun j => by
    unfold rd
    rw [List.getD_eq_getElem?_getD, List.getElem?_replicate]
    split <;> rfl) (by omega) (by omega) _ s _ 0 (by
      have := List.count_le_length (a := (-1 : Int)) (l := freeH hole (List.replicate (2 * n.toNat + 1) 0))
      rw [freeH_len, List.length_replicate] at this
      omega) (fun j hj => by rw [replicate_rd _ _ j (by simpa using hj)]; omega)]
  rfl
theorem extRows_len {n hole : Int} (h : extOk n hole = true) : (extRows n hole).length ≤ 5040 := by
  have hd := of_decide_eq_true h
  have h1 := exts_len 1 n.toNat 0 hole (by omega) (2 * n.toNat + 1 + 1) (List.replicate (2 * n.toNat + 1) 0) 0
  rw [unset_zero] at h1
  exact Nat.le_trans h1 (fct_small (by omega))
theorem seF_rows {n hole : Int} (h : extOk n hole = true) (most : Nat) (hm : most ≤ 1000000) : seF 1 n 0 hole (most : Int) (2 * n.toNat + 1 + 1) (0, []) (List.replicate (2 * n.toNat + 1) 0) 0 = some ((extRows n hole).length, (extRows n hole).take most) := by
  have hl := extRows_len h
  unfold extRows at hl ⊢
  have e : (n + 1 - 1).toNat = n.toNat := by omega
  have := seF_exts 1 n 0 hole most hm (by omega) (by omega) (2 * n.toNat + 1 + 1) 0 [] (List.replicate (2 * n.toNat + 1) 0) 0 (by
      have := List.count_le_length (a := (-1 : Int)) (l := freeH hole (List.replicate (2 * n.toNat + 1) 0))
      rw [freeH_len, List.length_replicate] at this
      omega) (fun j hj => by rw [replicate_rd _ _ j (by simpa using hj)]; omega) (Nat.zero_le _) (by rw [e]; omega)
  rw [e] at this
  simpa using this
theorem spec_hoAsked.f_val (n hole : Int) : spec_hoAsked.f n 7 hole = some (extOk n hole) := by
  unfold spec_hoAsked.f extOk
  rw [spec_l1In.f_val]
  simp only [Option.bind_some]
  by_cases h : 1 ≤ n ∧ n ≤ 7
  · rw [if_pos (by simp [h]), spec_l1In.f_val, wrap_in (by omega) (by omega)]
    simp [h]
  · rw [if_neg (by simpa using h), decide_eq_false (fun e => h ⟨e.1, e.2.1⟩)]
end Go.Proofs.Ytmhcgihkijiecaa.Fn
namespace Go.Proofs.Ytmhcgihkijiecaa.Fn
open Go.RowKit Go.Proofs.YtmhcgihkijiecaaW.PrintWords Go.Proofs.YtmhcgihkijiecaaW.PrintLast Go.Proofs.YtmhcgihkijiecaaW.PrintMore
set_option linter.unusedVariables false
set_option linter.unusedSimpArgs false
theorem extsLoop_mem {rec : List Int → Nat → List (List Int)} {hole shift : Int} {row : List Int} {used a L : Nat} (hrec : ∀ row' used' x, row'.length = L → x ∈ rec row' used' → x.length = L) (hL : row.length = L) : ∀ (m : Nat) (n : Int) (x : List Int), x ∈ extsLoop rec hole shift row used a m n → x.length = L
  | 0, n, x, h => by simp [extsLoop] at h
  | m + 1, n, x, h => by
    rw [extsLoop] at h
    rcases List.mem_append.1 h with h | h
    · split at h
      · simp at h
      · exact hrec _ _ x (by simpa using hL) h
    · exact extsLoop_mem hrec hL m (n + 1) x h
theorem exts_mem (from_ : Int) (N : Nat) (shift hole : Int) : ∀ (k : Nat) (row : List Int) (used : Nat) (x : List Int), x ∈ exts from_ N shift hole k row used → x.length = row.length
  | 0, row, used, x, h => by simp [exts] at h
  | k + 1, row, used, x, h => by
    rw [exts] at h
    split at h
    · rw [List.mem_singleton.1 h]
    · exact extsLoop_mem (L := row.length) (fun row' used' x h1 h2 => (exts_mem from_ N shift hole k row' used' x h2).trans h1) rfl _ _ x h
theorem extRows_mem {n hole : Int} {x : List Int} (h : x ∈ extRows n hole) : x.length = 2 * n.toNat + 1 := by
  have := exts_mem _ _ _ _ _ _ _ _ h
  simpa using this
def firstExtended (n hole : Int) : List Int × Bool := if extOk n hole = true then (match extRows n hole with | [] => ([], false) | x :: _ => (x, true)) else ([], false)
theorem firstExtended_len (n hole : Int) : (firstExtended n hole).1.length ≤ 15 := by
  unfold firstExtended
  split
  · rename_i h
    have hd := of_decide_eq_true h
    have hm := fun x => extRows_mem (n := n) (hole := hole) (x := x)
    cases hL : extRows n hole with
    | nil => simp
    | cons x l =>
      have h5 : x.length = 2 * n.toNat + 1 := hm x (by rw [hL]; simp)
      show x.length ≤ 15
      omega
  · simp
end Go.Proofs.Ytmhcgihkijiecaa.Fn
namespace Go.Proofs.Ytmhcgihkijiecaa.Fn
open Go.RowKit Go.Proofs.YtmhcgihkijiecaaW.PrintWords Go.Proofs.YtmhcgihkijiecaaW.PrintLast Go.Proofs.YtmhcgihkijiecaaW.PrintMore
set_option linter.unusedVariables false
set_option linter.unusedSimpArgs false
theorem foldE_all (most : Int) : ∀ (l xs : List (List Int)), ((xs.length + l.length : Nat) : Int) ≤ most → xs.length + l.length ≤ 1000000 → foldE (eachAll most) xs l = some (xs ++ l, false)
  | [], xs, h, h2 => by simp [foldE]
  | x :: l, xs, h, h2 => by
    have h' : ((xs.length + (l.length + 1) : Nat) : Int) ≤ most := by simpa using h
    have h2' : xs.length + (l.length + 1) ≤ 1000000 := by simpa using h2
    have e : decide (most < ((xs.length + 1 : Nat) : Int)) = false := decide_eq_false (by omega)
    simp only [foldE, eachAll]
    rw [if_pos (by omega)]
    simp only [Option.bind_some, e, Bool.false_eq_true, if_false]
    rw [foldE_all most l (xs ++ [x]) (by simp; omega) (by simp; omega)]
    simp
def allExtended (n hole : Int) : List (List Int) × Bool := if extOk n hole = true then (extRows n hole, true) else ([], false)
theorem impl_AllExtended.f_val (n hole : Int) : impl_AllExtended.f n hole = some (allExtended n hole) := by
  unfold impl_AllExtended.f allExtended
  by_cases h : extOk n hole = true
  · have hl := extRows_len h
    rw [extRun_exts h, foldE_all _ _ [] (by simp; omega) (by simp; omega), if_pos h, h]
    simp only [List.nil_append, Option.bind_some]
    rw [if_pos (by omega)]
  · rw [extRun, if_neg h, if_neg h]
    rw [Bool.not_eq_true] at h
    rw [h]
    rfl
theorem spec_AllExtended.f_val (n hole : Int) : spec_AllExtended.f n hole = some (allExtended n hole) := by
  unfold spec_AllExtended.f allExtended
  rw [spec_hoAsked.f_val]
  simp only [Option.bind_some]
  by_cases h : extOk n hole = true
  · have hd := of_decide_eq_true h
    have hl := extRows_len h
    have hs := seF_rows h 100000 (by omega)
    rw [if_pos h, if_pos h, if_pos (by omega)]
    rw [show ((100000 : Nat) : Int) = 100000 from rfl, List.take_of_length_le (by omega)] at hs
    rw [hs]
    rfl
  · rw [if_neg h, if_neg h]
end Go.Proofs.Ytmhcgihkijiecaa.Fn
namespace Go.Proofs.Ytmhcgihkijiecaa.Pure
open Go.RowKit Go.Proofs.Ytmhcgihkijiecaa.Fn Go.Proofs.YtmhcgihkijiecaaW.PrintWords Go.Proofs.YtmhcgihkijiecaaW.PrintLast Go.Proofs.YtmhcgihkijiecaaW.PrintMore
set_option linter.unusedVariables false
set_option linter.unusedSimpArgs false
theorem FnExactAllExtended : laws_FnExactAllExtended.Pure := by
  intro a0 a1 _ _
  have s := spec_AllExtended.f_val a0 a1
  have i := impl_AllExtended.f_val a0 a1
  have hb : (allExtended a0 a1).1.length ≤ 5040 ∧ ∀ x ∈ (allExtended a0 a1).1, x.length ≤ 15 := by
    unfold allExtended
    by_cases h : extOk a0 a1 = true
    · have hd := of_decide_eq_true h
      rw [if_pos h]
      exact ⟨extRows_len h, fun x hx => by have := extRows_mem hx; omega⟩
    · rw [if_neg h]
      exact ⟨by simp, fun x hx => by cases hx⟩
  generalize allExtended a0 a1 = p at s i hb
  obtain ⟨ws, wb⟩ := p
  obtain ⟨hb1, hb2⟩ := hb
  have hs := sumLen_le 15 ws hb2
  have hs2 : ws.length * 15 ≤ 5040 * 15 := Nat.mul_le_mul_right 15 hb1
  have hsum : sumLen ws ≤ 75600 := Nat.le_trans hs hs2
  have hb1' : ws.length ≤ 5040 := hb1
  clear hs hs2
  obtain ⟨k4, e4⟩ := Lim.rounds (laws_eqIntSS.F_lim ws ws) (laws_eqIntSS.F_same ws (by omega) (fun x hx => by have : x.length ≤ 15 := hb2 x hx; omega))
  obtain ⟨k7, e7⟩ := Lim.rounds (laws_heldIntSS.F_lim (markSS ws 1) 1) (laws_heldIntSS.F_val ws 1 (by omega) (by omega) (by omega))
  exact ⟨ws, wb, k4, k7, s, i, e4, e7, by omega, by omega⟩
end Go.Proofs.Ytmhcgihkijiecaa.Pure
