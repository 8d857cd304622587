/- The machine's side and plain lemmas for FnExactBlocksOfSet: texts of this session, merged by its program (part 1). -/
import Derived.Laws.Rows
import Derived.Test.YtiopjegbggjdcaaMFnExactBlocksOfSet0
namespace Go.Proofs.Ytiopjegbggjdcaa.Fn
open Go.RowKit Go.Proofs.YtiopjegbggjdcaaW.PrintWords Go.Proofs.YtiopjegbggjdcaaW.PrintLast Go.Proofs.YtiopjegbggjdcaaW.PrintMore
attribute [local go_sem] max2_int min2_int max_two min_two max_three min_three max_four min_four   -- for this text's walks alone
set_option linter.unusedVariables false
set_option linter.unusedSimpArgs false

/-! ### impl_fill: function 108 (given) -/
/-! ### the search: fill, with whatever function it calls -/
/-- The first free place; the row's length where there is none. -/
def freeAt : List Int → Nat
  | [] => 0
  | x :: l => if x = -1 then 0 else freeAt l + 1
theorem freeAt_le : ∀ l : List Int, freeAt l ≤ l.length
  | [] => Nat.le_refl _
  | x :: l => by
    have := freeAt_le l
    unfold freeAt
    split
    · simp
    · simp; omega
theorem freeAt_rd : ∀ l : List Int, freeAt l < l.length → rd l (freeAt l) = -1
  | [], h => by simp at h
  | x :: l, h => by
    unfold freeAt at h ⊢
    split
    · rename_i hx
      simp [rd, hx]
    · rename_i hx
      rw [if_neg hx] at h
      have := freeAt_rd l (by simpa using h)
      simpa [rd] using this
theorem index_free : ∀ (suf pre : List Int), (pre ++ suf).length < 4611686018427387904 → slices_Index_int_int.L0 (pre ++ suf) (-1) ((pre ++ suf).length : Int) (pre.length : Int) = some (if freeAt suf = suf.length then -1 else ((pre.length + freeAt suf : Nat) : Int))
  | [], pre, h => by
    rw [slices_Index_int_int.L0_eq, range_end]
    rfl
  | x :: suf, pre, h => by
    have e : (pre ++ [x]).length = pre.length + 1 := by simp
    rw [slices_Index_int_int.L0_eq, range_step, rd_mid, wrap_mid h, app_mid pre x suf, index_free suf (pre ++ [x]) (by simpa using h), e]
    by_cases hx : x = -1
    · rw [if_pos hx.symm]
      simp [freeAt, hx]
    · rw [if_neg (fun h => hx h.symm)]
      simp only [freeAt, if_neg hx, List.length_cons, Nat.add_right_cancel_iff]
      split
      · rfl
      · congr 2
        omega
theorem index_free_some (l : List Int) (h : l.length < 4611686018427387904) : ∃ k, slices_Index_int_int.f k l (-1) = some (if freeAt l = l.length then -1 else (freeAt l : Int)) := by
  refine Lim.rounds (slices_Index_int_int.F_lim l (-1)) ?_
  rw [slices_Index_int_int.F_eq]
  have := index_free l [] (by simpa using h)
  simpa using this
/-- The numbers that are left, from the i-th on: each that fits is put, what follows is looked for, and it is taken away again. -/
def fillLoop {σ : Type} (rec : σ → List Int → List Int → Option (σ × Bool)) (row told left : List Int) (shift : Int) : Nat → Nat → σ → Option (σ × Bool)
  | 0, _, s => some (s, false)
  | m + 1, i, s =>
    if rd left i = 0 ∨ (row.length : Int) ≤ freeAt row + rd left i + shift ∨ rd row (freeAt row + rd left i + shift) ≠ -1 ∨ (rd told (freeAt row) ≠ 0 ∧ rd told (freeAt row) ≠ rd left i) ∨ (rd told (freeAt row + rd left i + shift) ≠ 0 ∧ rd told (freeAt row + rd left i + shift) ≠ rd left i) then fillLoop rec row told left shift m (i + 1) s
    else (rec s ((row.set (freeAt row) (rd left i)).set (freeAt row + rd left i + shift).toNat (rd left i)) (left.set i 0)).bind fun p => if p.2 = true then some (p.1, true) else fillLoop rec row told left shift m (i + 1) p.1
def fillF {σ : Type} (each : σ → List Int → Option (σ × Bool)) (told : List Int) (shift : Int) : Nat → σ → List Int → List Int → Option (σ × Bool)
  | 0, _, _, _ => none
  | k + 1, s, row, left => if freeAt row = row.length then each s row else fillLoop (fillF each told shift k) row told left shift left.length 0 s
/-- What fill asks of the function that it calls: its state stands whatever happens at the blocks X; a call leaves X and all that is older than base as it is. -/
structure EachOk {σ : Type} (base : Nat) (X : Nat → Prop) (fid : FuncId) (caps : Array Value) (each : σ → List Int → Option (σ × Bool)) (I : σ → World → Prop) : Prop where
  fn : ∃ fn, Try.prog.funcs[fid]? = some fn ∧ (fn.name == "runtime.NumGoroutine") = false ∧ fn.body.isSome = true
  stable : ∀ s w w', I s w → w.heap.size ≤ w'.heap.size → (∀ k, k < w.heap.size → ¬ X k → w'.heap[k]? = w.heap[k]?) → I s w'
  call : ∀ s row A c w s' b, I s w → Kd.C (Kd.int .i64) w A row.length row → row.length ≤ c → row.length ≤ 1000 → each s row = some (s', b) → Calls Try.prog fid (#[.slice A row.length c] ++ caps) w fun e w' => e = .returned (.bool b) ∧ I s' w' ∧ Below base w w' ∧ (∀ k, X k → w'.heap[k]? = w.heap[k]?)
section
variable {P : Program} {ops : Array Oper} {Q : Exit → Act → World → Prop}
/-- A call of a function value that lies in a place. -/
theorem goesV_ {rest : List Oper} {oi : Oper} {a : Act} {w : World} (N : Option Tmp) (hd : oi.dst = N) (hg : oi.guard = none) {f : FuncId} {fn : Func} {p : Tmp} {xs : Array Operand} {ts : Array TypeId} {caps : Array Value} (hf : P.funcs[f]? = some fn) (hname : (fn.name == "runtime.NumGoroutine") = false) (hb : fn.body.isSome = true) (args : Array Value)
    (hop : oi.op = .call { callee := .value (.tmp p), args := xs, argTypes := ts }) (hv : a.eval (.tmp p) = .func (.func f) #[] caps) (hargs : xs.map a.eval = args)
    (h : Calls P f (args ++ caps) w fun e w' => ∃ v, e = .returned v ∧ wpList P ops Q rest (a.put N v) w') : wpList P ops Q (oi :: rest) a w := by
  refine wpList_plain hg fun K hK => ?_
  have he := enters_ hf hname hb (args ++ caps) w
  have hrun : (execOp a.eval oi).run P w = .ok (.enter f (args ++ caps)) w := by
    unfold execOp
    simp [hop, resolve, Deferred.ofValue, invoke, hv, hargs, he]
  unfold Oper.wp
  rw [hrun, Oper.upon_enter]
  refine h.mono fun e w'' hh => ?_
  obtain ⟨v, rfl, hk⟩ := hh
  subst hd
  exact hK _ _ hk
theorem gate_value {o : Oper} {rest : List Oper} {a : Act} {W : World} {p : Tmp} {xs : Array Operand} {ts : Array TypeId} (_ho : o.op = .call { callee := .value (.tmp p), args := xs, argTypes := ts }) (h : wpList P ops Q (o :: rest) a W) : wpList P ops Q (o :: rest) a W := h
end
/-- A block of whole numbers. -/
def IB (w : World) (g : Nat) (l : List Int) : Prop := w.heap[g]? = some (.cells (l.map (Value.int .i64)).toArray 3 (0, 0))
theorem IB.cell {w : World} {g : Nat} {l : List Int} (h : IB w g l) (j : Nat) (hj : j < l.length) : w.cell? ⟨g, j, none⟩ = some (.int .i64 (rd l j)) := by
  rw [blk_cell h j]
  simp [rd, hj]
theorem IB.cellI {w : World} {g : Nat} {l : List Int} (h : IB w g l) (j : Int) (h0 : 0 ≤ j) (hj : j < l.length) : w.cell? ⟨g, j.toNat, none⟩ = some (.int .i64 (rd l j)) := by
  have := h.cell j.toNat (by omega)
  rw [Int.toNat_of_nonneg h0] at this
  exact this
theorem IB.set {w W : World} {g : Nat} {l : List Int} (h : IB w g l) (j : Nat) (v : Int) (hw : W = w.setCell ⟨g, j, none⟩ (.int .i64 v)) : IB W g (l.set j v) := by
  subst hw
  refine blk_put h j _ ?_
  simp [List.map_set]
theorem IB.far {w W : World} {g g' : Nat} {l : List Int} (h : IB w g l) (hne : g ≠ g') (j : Nat) (v : Value) (hw : W = w.setCell ⟨g', j, none⟩ v) : IB W g l := by
  subst hw
  exact blk_far h (by simpa using hne) v
theorem add_block0 (g j : Nat) : (Addr.add ⟨g, 0, none⟩ j) = ⟨g, j, none⟩ := by
  unfold Addr.add
  split
  · rename_i h
    rw [h]
  · simp
theorem add_block (ad : Addr) (j : Nat) : (ad.add j).block = ad.block := by
  unfold Addr.add
  split <;> rfl
theorem IB.C {w : World} {g : Nat} {l : List Int} (h : IB w g l) (hl : l.length ≤ 1000) : Kd.C (Kd.int .i64) w (some ⟨g, 0, none⟩) l.length l := by
  refine Kd.C_of_reads (d := (0 : Int)) (h1 := fun _ => rfl) ⟨rfl, by omega, fun _ => ⟨_, rfl, fun j hj => ?_⟩⟩
  have := h.cell j hj
  simp only [rd, Int.toNat_natCast] at this
  rw [add_block0]
  exact this
/-- Cells that lie in a block that stays. -/
theorem told_same {w W : World} {ad : Addr} {l : List Int} (h : ∀ j, j < l.length → w.cell? (ad.add j) = some (.int .i64 (rd l j))) (hk : W.heap[ad.block]? = w.heap[ad.block]?) : ∀ j, j < l.length → W.cell? (ad.add j) = some (.int .i64 (rd l j)) := by
  intro j hj
  rw [← h j hj]
  simp only [World.cell?, add_block, hk]
/-- Whether a number is passed over. -/
def passed (row told : List Int) (a : Nat) (n t : Int) : Prop := n = 0 ∨ (row.length : Int) ≤ t ∨ rd row t ≠ -1 ∨ (rd told a ≠ 0 ∧ rd told a ≠ n) ∨ (rd told t ≠ 0 ∧ rd told t ≠ n)
theorem fillLoop_pass {σ : Type} {rec : σ → List Int → List Int → Option (σ × Bool)} {row told left : List Int} {shift : Int} {m i a : Nat} {s : σ} {n t : Int} (ha : freeAt row = a) (hn : rd left i = n) (ht : (a : Int) + n + shift = t) (h : passed row told a n t) : fillLoop rec row told left shift (m + 1) i s = fillLoop rec row told left shift m (i + 1) s := by
  subst ha
  subst hn
  subst ht
  exact if_pos h
theorem fillLoop_put {σ : Type} {rec : σ → List Int → List Int → Option (σ × Bool)} {row told left : List Int} {shift : Int} {m i a : Nat} {s : σ} {n t : Int} (ha : freeAt row = a) (hn : rd left i = n) (ht : (a : Int) + n + shift = t) (h : ¬ passed row told a n t) : fillLoop rec row told left shift (m + 1) i s = (rec s ((row.set a n).set t.toNat n) (left.set i 0)).bind fun p => if p.2 = true then some (p.1, true) else fillLoop rec row told left shift m (i + 1) p.1 := by
  subst ha
  subst hn
  subst ht
  exact if_neg h
theorem set_back {l : List Int} {a : Nat} {t : Int} {n v : Int} (ha : a < l.length) (ht0 : 0 ≤ t) (ht : t < l.length) (h1 : rd l a = v) (h2 : rd l t = v) : ((((l.set a n).set t.toNat n).set a v).set t.toNat v) = l := by
  apply List.ext_getElem?
  intro j
  simp only [rd] at h1 h2
  simp only [List.getElem?_set, List.length_set]
  have e1 : l[t.toNat]? = some v := by
    rw [← h2, List.getD_eq_getElem?_getD, List.getElem?_eq_getElem (by omega)]
    rfl
  have e2 : l[a]? = some v := by
    rw [← h1, List.getD_eq_getElem?_getD, Int.toNat_natCast, List.getElem?_eq_getElem (by omega)]
    rfl
  by_cases hj : t.toNat = j
  · subst hj
    rw [if_pos rfl, if_pos (by omega), e1]
  · rw [if_neg hj]
    by_cases hj2 : a = j
    · subst hj2
      rw [if_pos rfl, if_pos (by omega), e2]
    · rw [if_neg hj2, if_neg hj, if_neg hj2]
theorem set_back1 {l : List Int} {i : Nat} {n v : Int} (hi : i < l.length) (h : rd l i = n) : (l.set i v).set i n = l := by
  apply List.ext_getElem?
  intro j
  simp only [rd] at h
  simp only [List.getElem?_set, List.length_set]
  by_cases hj : i = j
  · subst hj
    rw [if_pos rfl, if_pos hi, ← h, List.getD_eq_getElem?_getD, Int.toNat_natCast, List.getElem?_eq_getElem hi]
    rfl
  · rw [if_neg hj, if_neg hj]
/-- Two rows that a call writes, and what stays. -/
structure At2 (base gr gl : Nat) (W w : World) (r l : List Int) : Prop where
  row : IB w gr r
  left : IB w gl l
  other : ∀ k, k ≠ gr → k ≠ gl → w.heap[k]? = W.heap[k]?
  size : w.heap.size = W.heap.size
  below : Below base W w
theorem size_setCell (w : World) (a : Addr) (v : Value) : (w.setCell a v).heap.size = w.heap.size := by
  simp [World.setCell]
theorem At2.putR {base gr gl : Nat} {W w w' : World} {r l : List Int} (h : At2 base gr gl W w r l) (hne : gr ≠ gl) (hb : base ≤ gr) (j : Nat) (v : Int) (hw : w' = w.setCell ⟨gr, j, none⟩ (.int .i64 v)) : At2 base gr gl W w' (r.set j v) l :=
  ⟨h.row.set j v hw, h.left.far (Ne.symm hne) j _ hw, fun k h1 h2 => by subst hw; exact (Below.heap_setCell w _ _ k h1).trans (h.other k h1 h2), by subst hw; rw [size_setCell]; exact h.size, by subst hw; exact h.below.setCell hb _⟩
theorem At2.putL {base gr gl : Nat} {W w w' : World} {r l : List Int} (h : At2 base gr gl W w r l) (hne : gr ≠ gl) (hb : base ≤ gl) (j : Nat) (v : Int) (hw : w' = w.setCell ⟨gl, j, none⟩ (.int .i64 v)) : At2 base gr gl W w' r (l.set j v) :=
  ⟨h.row.far hne j _ hw, h.left.set j v hw, fun k h1 h2 => by subst hw; exact (Below.heap_setCell w _ _ k h2).trans (h.other k h1 h2), by subst hw; rw [size_setCell]; exact h.size, by subst hw; exact h.below.setCell hb _⟩
theorem At2.refl {gr gl : Nat} {w : World} {r l : List Int} (base : Nat) (hr : IB w gr r) (hl : IB w gl l) : At2 base gr gl w w r l := ⟨hr, hl, fun _ _ _ => rfl, rfl, Below.refl _ _⟩
/-- Behind a number that was put and taken away again all is as before but the state. -/
theorem fill_end {σ : Type} {base : Nat} {X : Nat → Prop} {fid : FuncId} {caps : Array Value} {each : σ → List Int → Option (σ × Bool)} {I : σ → World → Prop} {gr gl : Nat} {w W0 w5 w8 w11 : World} {s2 : σ} {row left row1 left1 row2 left2 : List Int} (hI : I s2 w8) (hB : Below base w5 w8) (hX : ∀ k, X k → w8.heap[k]? = w5.heap[k]?) (E : EachOk base X fid caps each I)
    (a2 : At2 base gr gl W0 W0 row left) (a5 : At2 base gr gl W0 w5 row1 left1) (a11 : At2 base gr gl w8 w11 row2 left2) (hB2 : Below base w W0) (hX2 : ∀ k, X k → W0.heap[k]? = w.heap[k]?) (hXr : X gr) (hXl : X gl) (er : row2 = row) (el : left2 = left) : I s2 w11 ∧ Below base w w11 ∧ (∀ k, X k → w11.heap[k]? = w.heap[k]?) := by
  subst er
  subst el
  refine ⟨E.stable _ _ _ hI (by rw [a11.size]; exact Nat.le_refl _) (fun k _ hk => a11.other k (fun e => hk (e ▸ hXr)) (fun e => hk (e ▸ hXl))), hB2.trans (a5.below.trans (hB.trans a11.below)), fun k hk => ?_⟩
  by_cases e1 : k = gr
  · subst e1
    exact a11.row.trans (a2.row.symm.trans (hX2 _ hk))
  · by_cases e2 : k = gl
    · subst e2
      exact a11.left.trans (a2.left.symm.trans (hX2 _ hk))
    · exact (a11.other k e1 e2).trans ((hX k hk).trans ((a5.other k e1 e2).trans (hX2 k hk)))
set_option maxHeartbeats 16000000 in
set_option maxRecDepth 100000 in
theorem fill_calls {σ : Type} {base : Nat} {X : Nat → Prop} {fid : FuncId} {caps : Array Value} {each : σ → List Int → Option (σ × Bool)} {I : σ → World → Prop} (E : EachOk base X fid caps each I) (told : List Int) (ad : Addr) (ct : Nat) (shift : Int) (hs : 0 ≤ shift ∧ shift ≤ 1) (gr gl : Nat) (hXr : X gr) (hXl : X gl) (hne : gr ≠ gl) (hbr : base ≤ gr) (hbl : base ≤ gl) (htr : ad.block ≠ gr) (htl : ad.block ≠ gl) (htk : ad.block < base ∨ X ad.block) :
    ∀ (k : Nat) (s s' : σ) (b : Bool) (row left : List Int) (w : World), row.length = told.length → row.length ≤ 1000 → left.length ≤ 1000 → (∀ x ∈ left, 0 ≤ x ∧ x ≤ 1000) → I s w → IB w gr row → IB w gl left → (∀ j, j < told.length → w.cell? (ad.add j) = some (.int .i64 (rd told j))) → fillF each told shift k s row left = some (s', b) →
    Calls Try.prog 108 #[.slice (some ⟨gr, 0, none⟩) row.length row.length, .slice (some ad) told.length ct, .slice (some ⟨gl, 0, none⟩) left.length left.length, .int .i64 shift, .func (.func fid) #[] caps] w fun e w' => e = .returned (.bool b) ∧ I s' w' ∧ Below base w w' ∧ (∀ k, X k → w'.heap[k]? = w.heap[k]?) := by
  have HXr := Aside0.mk hXr
  have HXl := Aside0.mk hXl
  have HNE := Aside0.mk hne
  have HBR := Aside0.mk hbr
  have HBL := Aside0.mk hbl
  have HTR := Aside0.mk htr
  have HTL := Aside0.mk htl
  have HTK := Aside0.mk htk
  have HS := Aside0.mk hs
  clear hXr hXl hne hbr hbl htr htl htk hs
  obtain ⟨fn, hf1, hf2, hf3⟩ := E.fn
  have HF1 := Aside0.mk hf1
  have HF2 := Aside0.mk hf2
  have HF3 := Aside0.mk hf3
  clear hf1 hf2 hf3
  intro k
  induction k with
  | zero =>
    intro s s' b row left w _ _ _ _ _ _ _ _ h
    cases h
  | succ k ih =>
    intro s s' b row left w hlt hlr hll hlm hI hR hL hT h
    have IH := Aside0.mk ih
    have HLT := Aside0.mk hlt
    have HLR := Aside0.mk hlr
    have HLL := Aside0.mk hll
    have HLM := Aside0.mk hlm
    have HI := Aside0.mk hI
    have HR := Aside0.mk hR
    have HL := Aside0.mk hL
    have HT := Aside0.mk hT
    obtain ⟨ki, hki⟩ := index_free_some row (by omega)
    by_cases hfr : freeAt row = row.length
    · rw [if_pos hfr] at hki
      have HKI := Aside0.mk hki
      have H := Aside0.mk (show each s row = some (s', b) by rw [← h]; exact (if_pos hfr).symm)
      clear ih hlt hlr hll hlm hI hR hL hT h hki hfr
      go_enter Try.func108, Try.ntmps108
      go_wp2_with (first | ((with_reducible refine gate_callee (f := 106) rfl ?_); refine goesL_ (some 17) rfl rfl Try.func106 (by kernel_rfl) rfl #[.slice (some ⟨gr, 0, none⟩) row.length row.length, .int .i64 (-1)] rfl (by (try simp only [List.map_toArray, List.map_cons, List.map_nil]); first | done | rfl) ?_; (with_reducible refine (slices_Index_int_int.calls ki _ _ row (-1) (-1) _ ?side1 ?side2 HKI.out).mono ?_); (case side1 => exact HR.out.C HLR.out); (case side2 => exact Nat.le_refl _); rintro e w1 ⟨rfl, ⟨nd, rfl⟩⟩; refine ⟨_, rfl, ?_⟩) | ((with_reducible refine gate_value (p := 20) rfl ?_); refine goesV_ (some 22) rfl rfl HF1.out HF2.out HF3.out #[.slice (some ⟨gr, 0, none⟩) row.length row.length] rfl (by first | rfl | (simp [Act.eval]; done) | (simp [Act.eval]; rfl)) (by (try simp only [List.map_toArray, List.map_cons, List.map_nil]); first | done | rfl) ?_; (refine (E.call s row _ _ _ s' b ?side1 ?side2 ?side3 ?side4 H.out).mono ?_); (case side1 => exact E.stable _ _ _ HI.out (Nat.le_refl _) (fun _ _ _ => rfl)); (case side2 => exact HR.out.C HLR.out); (case side3 => exact Nat.le_refl _); (case side4 => exact HLR.out); rintro e w2 ⟨rfl, hI2, hB2, hX2⟩; refine ⟨_, rfl, ?_⟩; have HI2 := Aside0.mk hI2; have HB2 := Aside0.mk hB2; have HX2 := Aside0.mk hX2; clear hI2 hB2 hX2))
      go_ret
      exact ⟨rfl, HI2.out, (pw_below_drewN (Below.refl _ _) nd).trans HB2.out, HX2.out⟩
    · rw [if_neg hfr] at hki
      have hfa : freeAt row < row.length := by have := freeAt_le row; omega
      have H := Aside0.mk (show fillLoop (fillF each told shift k) row told left shift left.length 0 s = some (s', b) by rw [← h]; exact (if_neg hfr).symm)
      obtain ⟨a, ha⟩ : ∃ a, freeAt row = a := ⟨_, rfl⟩
      rw [ha] at hki hfa
      have HKI := Aside0.mk hki
      have HA := Aside0.mk ha
      have HFA := Aside0.mk hfa
      have HF := Aside0.mk (show rd row a = -1 by rw [← ha]; exact freeAt_rd row (by omega))
      have ha0 : decide ((a : Int) < 0) = false := decide_eq_false (by omega)
      clear ih hlt hlr hll hlm hI hR hL hT h hki hfr ha hfa
      go_enter Try.func108, Try.ntmps108
      go_wp2_with (first | ((with_reducible refine gate_callee (f := 106) rfl ?_); refine goesL_ (some 17) rfl rfl Try.func106 (by kernel_rfl) rfl #[.slice (some ⟨gr, 0, none⟩) row.length row.length, .int .i64 (-1)] rfl (by (try simp only [List.map_toArray, List.map_cons, List.map_nil]); first | done | rfl) ?_; (with_reducible refine (slices_Index_int_int.calls ki _ _ row (-1) (a : Int) _ ?side1 ?side2 HKI.out).mono ?_); (case side1 => exact HR.out.C HLR.out); (case side2 => exact Nat.le_refl _); rintro e w1 ⟨rfl, ⟨nd, rfl⟩⟩; refine ⟨_, rfl, ?_⟩))
      go_loopw [25] (fun v wr => ∃ (i : Nat) (s1 : σ), i ≤ left.length ∧ v = .int .i64 i ∧ Aside0 (I s1 wr) ∧ Aside0 (Below base w wr) ∧ Aside0 (∀ k, X k → wr.heap[k]? = w.heap[k]?) ∧ Aside0 (fillLoop (fillF each told shift k) row told left shift (left.length - i) i s1 = some (s', b))) (fun v _ => left.length - (intOf v).toNat)
      case atStart => exact ⟨0, s, Nat.zero_le _, rfl, ⟨E.stable _ _ _ HI.out (Nat.le_refl _) (fun _ _ _ => rfl)⟩, ⟨pw_below_drewN (Below.refl _ _) _⟩, ⟨fun _ _ => rfl⟩, ⟨by rw [Nat.sub_zero]; exact H.out⟩⟩
      case round =>
        obtain ⟨i, s1, hi, rfl, HI1, HB1, HX1, H1⟩ := hrel
        by_cases hlt : i < left.length
        · have hR1 : IB wr gr row := (HX1.out gr HXr.out).trans HR.out
          have hL1 : IB wr gl left := (HX1.out gl HXl.out).trans HL.out
          have hT1 := told_same (W := wr) HT.out (HTK.out.elim (fun h => HB1.out.block _ h) (fun h => HX1.out _ h))
          obtain ⟨m, hm⟩ : ∃ m, left.length - i = m + 1 := ⟨left.length - i - 1, by omega⟩
          have hm2 : left.length - (i + 1) = m := by omega
          have h1 := H1.out
          rw [hm] at h1
          obtain ⟨n, hn⟩ : ∃ n, rd left i = n := ⟨_, rfl⟩
          have hn01 : 0 ≤ n ∧ n ≤ 1000 := by
            rw [← hn, rd_nat left i hlt]
            exact HLM.out _ (List.getElem_mem hlt)
          have hci : wr.cell? ⟨gl, i, none⟩ = some (.int .i64 n) := by rw [← hn]; exact hL1.cell i hlt
          obtain ⟨t, ht⟩ : ∃ t : Int, (a : Int) + n + shift = t := ⟨_, rfl⟩
          have hfa := HFA.out
          have hs := HS.out
          have hlr := HLR.out
          have hw1 : wrap64 (wrap64 ((a : Int) + n) + shift) = t := by rw [wrap_in (n := (a : Int) + n) (by omega) (by omega), wrap_in (by omega) (by omega), ht]
          have hw2 : IntKind.i64.wrap (IntKind.i64.wrap ((a : Int) + n) + shift) = t := by rw [i64_w, i64_w]; exact hw1
          have HT0 := Aside0.mk (show 0 ≤ t by omega)
          have HN := Aside0.mk hn
          have HN01 := Aside0.mk hn01
          have HTT := Aside0.mk ht
          have HM := Aside0.mk hm
          have HM2 := Aside0.mk hm2
          have HH := Aside0.mk h1
          have HR1 := Aside0.mk hR1
          have HL1 := Aside0.mk hL1
          have HT1 := Aside0.mk hT1
          have HLT1 := Aside0.mk hlt
          have hlt0 : decide ((i : Int) < (left.length : Int)) = true := decide_eq_true (by omega)
          have p0 : (0 ≤ (i : Int)) = True := eq_true (by omega)
          have q0 : ((i : Int) < (left.length : Int)) = True := eq_true (by omega)
          have HI0 := Aside0.mk hi
          have HWI := Aside0.mk (show wrap64 ((i : Int) + 1) = ((i + 1 : Nat) : Int) by have := HLL.out; rw [wrap_in (by omega) (by omega)]; rfl)
          clear H1 hn hn01 ht hm hm2 h1 hR1 hL1 hT1 hfa hs hlr
          go_upto_region 8 with (fail)
          rw [hw1]
          clear hw1 hw2
          go_cut [79] (fun v79 wc => ∃ x : Bool, v79 = .bool x ∧ Aside0 (Drawn0 wr wc) ∧ Aside0 (x = true ↔ passed row told a n t))
          case first =>
            by_cases c1 : n = 0
            · have b1 : (n == 0) = true := beq_iff_eq.mpr c1
              have HP := Aside0.mk (show passed row told a n t from .inl c1)
              clear c1
              go_wp2
              go_meet
              case rel => exact ⟨true, rfl, ⟨by first | exact Drawn0.refl _ | exact ⟨_, rfl⟩⟩, ⟨⟨fun _ => HP.out, fun _ => rfl⟩⟩⟩
            have b1 : (n == 0) = false := beq_eq_false_iff_ne.mpr c1
            have C1 := Aside0.mk c1
            clear c1
            by_cases c2 : (row.length : Int) ≤ t
            · have b2 : decide ((row.length : Int) ≤ t) = true := decide_eq_true c2
              have HP := Aside0.mk (show passed row told a n t from .inr (.inl c2))
              clear c2
              go_wp2
              go_meet
              case rel => exact ⟨true, rfl, ⟨by first | exact Drawn0.refl _ | exact ⟨_, rfl⟩⟩, ⟨⟨fun _ => HP.out, fun _ => rfl⟩⟩⟩
            have b2 : decide ((row.length : Int) ≤ t) = false := decide_eq_false c2
            have C2 := Aside0.mk c2
            clear c2
            have hcr := HR1.out.cellI t HT0.out (by have := C2.out; omega)
            have p1 : (0 ≤ t) = True := eq_true HT0.out
            have q1 : (t < (row.length : Int)) = True := eq_true (by have := C2.out; omega)
            obtain ⟨u, hu⟩ : ∃ u, rd row t = u := ⟨_, rfl⟩
            rw [hu] at hcr
            have HU := Aside0.mk hu
            clear hu
            by_cases c3 : u = -1
            rotate_left
            · have b3 : (u != -1) = true := bne_iff_ne.mpr c3
              have HP := Aside0.mk (show passed row told a n t from .inr (.inr (.inl (by rw [HU.out]; exact c3))))
              clear c3
              go_wp2
              go_meet
              case rel => exact ⟨true, rfl, ⟨by first | exact Drawn0.refl _ | exact ⟨_, rfl⟩⟩, ⟨⟨fun _ => HP.out, fun _ => rfl⟩⟩⟩
            have b3 : (u != -1) = false := bne_eq_false_iff_eq.mpr c3
            have C3 := Aside0.mk c3
            clear c3
            have hca := HT1.out a (by have := HFA.out; have := HLT.out; omega)
            have hct := HT1.out t.toNat (by have := C2.out; have := HLT.out; have := HT0.out; omega)
            rw [Int.toNat_of_nonneg HT0.out] at hct
            have p2 : (0 ≤ (a : Int)) = True := eq_true (by omega)
            have q2 : ((a : Int) < (told.length : Int)) = True := eq_true (by have := HFA.out; have := HLT.out; omega)
            have q3 : (t < (told.length : Int)) = True := eq_true (by have := C2.out; have := HLT.out; omega)
            obtain ⟨ya, hya⟩ : ∃ u, rd told a = u := ⟨_, rfl⟩
            obtain ⟨yt, hyt⟩ : ∃ u, rd told t = u := ⟨_, rfl⟩
            rw [hya] at hca
            rw [hyt] at hct
            have HYA := Aside0.mk hya
            have HYT := Aside0.mk hyt
            clear hya hyt
            by_cases c4 : ya ≠ 0 ∧ ya ≠ n
            · have b4 : (ya != 0) = true := bne_iff_ne.mpr c4.1
              have b5 : (ya != n) = true := bne_iff_ne.mpr c4.2
              have HP := Aside0.mk (show passed row told a n t from .inr (.inr (.inr (.inl (by rw [HYA.out]; exact c4)))))
              clear c4
              go_wp2
              go_meet
              case rel => exact ⟨true, rfl, ⟨by first | exact Drawn0.refl _ | exact ⟨_, rfl⟩⟩, ⟨⟨fun _ => HP.out, fun _ => rfl⟩⟩⟩
            have C4 := Aside0.mk c4
            by_cases c5 : yt ≠ 0 ∧ yt ≠ n
            · have b6 : (yt != 0) = true := bne_iff_ne.mpr c5.1
              have b7 : (yt != n) = true := bne_iff_ne.mpr c5.2
              have HP := Aside0.mk (show passed row told a n t from .inr (.inr (.inr (.inr (by rw [HYT.out]; exact c5)))))
              clear c5
              by_cases c6 : ya = 0
              · have b4 : (ya != 0) = false := bne_eq_false_iff_eq.mpr c6
                clear c6 c4
                go_wp2
                go_meet
                case rel => exact ⟨true, rfl, ⟨by first | exact Drawn0.refl _ | exact ⟨_, rfl⟩⟩, ⟨⟨fun _ => HP.out, fun _ => rfl⟩⟩⟩
              · have b4 : (ya != 0) = true := bne_iff_ne.mpr c6
                have b5 : (ya != n) = false := bne_eq_false_iff_eq.mpr (Classical.byContradiction fun h => c4 ⟨c6, h⟩)
                clear c6 c4
                go_wp2
                go_meet
                case rel => exact ⟨true, rfl, ⟨by first | exact Drawn0.refl _ | exact ⟨_, rfl⟩⟩, ⟨⟨fun _ => HP.out, fun _ => rfl⟩⟩⟩
            have C5 := Aside0.mk c5
            have HP := Aside0.mk (show ¬ passed row told a n t from fun h => by
              rcases h with h | h | h | h | h
              · exact C1.out h
              · exact C2.out h
              · rw [HU.out] at h; exact h C3.out
              · rw [HYA.out] at h; exact C4.out h
              · rw [HYT.out] at h; exact C5.out h)
            by_cases c6 : ya = 0
            · have b4 : (ya != 0) = false := bne_eq_false_iff_eq.mpr c6
              by_cases c7 : yt = 0
              · have b6 : (yt != 0) = false := bne_eq_false_iff_eq.mpr c7
                clear c6 c7 c4 c5
                go_wp2
                go_meet
                case rel => exact ⟨false, rfl, ⟨by first | exact Drawn0.refl _ | exact ⟨_, rfl⟩⟩, ⟨⟨fun h => by simp at h, fun h => absurd h HP.out⟩⟩⟩
              · have b6 : (yt != 0) = true := bne_iff_ne.mpr c7
                have b7 : (yt != n) = false := bne_eq_false_iff_eq.mpr (Classical.byContradiction fun h => c5 ⟨c7, h⟩)
                clear c6 c7 c4 c5
                go_wp2
                go_meet
                case rel => exact ⟨false, rfl, ⟨by first | exact Drawn0.refl _ | exact ⟨_, rfl⟩⟩, ⟨⟨fun h => by simp at h, fun h => absurd h HP.out⟩⟩⟩
            · have b4 : (ya != 0) = true := bne_iff_ne.mpr c6
              have b5 : (ya != n) = false := bne_eq_false_iff_eq.mpr (Classical.byContradiction fun h => c4 ⟨c6, h⟩)
              by_cases c7 : yt = 0
              · have b6 : (yt != 0) = false := bne_eq_false_iff_eq.mpr c7
                clear c6 c7 c4 c5
                go_wp2
                go_meet
                case rel => exact ⟨false, rfl, ⟨by first | exact Drawn0.refl _ | exact ⟨_, rfl⟩⟩, ⟨⟨fun h => by simp at h, fun h => absurd h HP.out⟩⟩⟩
              · have b6 : (yt != 0) = true := bne_iff_ne.mpr c7
                have b7 : (yt != n) = false := bne_eq_false_iff_eq.mpr (Classical.byContradiction fun h => c5 ⟨c7, h⟩)
                clear c6 c7 c4 c5
                go_wp2
                go_meet
                case rel => exact ⟨false, rfl, ⟨by first | exact Drawn0.refl _ | exact ⟨_, rfl⟩⟩, ⟨⟨fun h => by simp at h, fun h => absurd h HP.out⟩⟩⟩
          case rest =>
            obtain ⟨x, rfl, HDC, HPX⟩ := hcut
            obtain ⟨⟨ndc, rfl⟩⟩ := HDC
            cases x with
            | true =>
              have h2 := (fillLoop_pass (rec := fillF each told shift k) (m := m) (s := s1) HA.out HN.out HTT.out (HPX.out.1 rfl)).symm.trans HH.out
              have HH2 := Aside0.mk (show fillLoop (fillF each told shift k) row told left shift (left.length - (i + 1)) (i + 1) s1 = some (s', b) by rw [HM2.out]; exact h2)
              clear h2
              go_wp2
              go_roundw
              case rel => exact ⟨i + 1, s1, HLT1.out, congrArg (Value.int .i64) HWI.out, ⟨E.stable _ _ _ HI1.out (Nat.le_refl _) (fun _ _ _ => rfl)⟩, ⟨HB1.out.trans (pw_below_drewN (Below.refl _ _) _)⟩, ⟨fun k hk => HX1.out k hk⟩, HH2⟩
              case measure => have := HLT1.out; rw [HWI.out]; simp [intOf]; omega
            | false =>
              have hnp : ¬ passed row told a n t := fun h => by simpa using HPX.out.2 h
              have h2 := (fillLoop_put (rec := fillF each told shift k) (m := m) (s := s1) HA.out HN.out HTT.out hnp).symm.trans HH.out
              have htl : t < (row.length : Int) := by
                rcases Int.lt_or_le t row.length with h | h
                · exact h
                · exact absurd (Or.inr (Or.inl h)) hnp
              have hrt : rd row t = -1 := Classical.byContradiction fun h => hnp (.inr (.inr (.inl h)))
              have HRT := Aside0.mk hrt
              have HTL1 := Aside0.mk htl
              clear hnp hrt
              obtain ⟨⟨s2, d⟩, hrec, h3⟩ := Option.bind_eq_some_iff.1 h2
              have HREC := Aside0.mk hrec
              have H3 := Aside0.mk h3
              clear h2 h3 hrec
              have p1 : (0 ≤ t) = True := eq_true HT0.out
              have q1 : (t < (row.length : Int)) = True := eq_true htl
              have p2 : (0 ≤ (a : Int)) = True := eq_true (by omega)
              have q2 : ((a : Int) < (row.length : Int)) = True := eq_true (by have := HFA.out; omega)
              clear htl
              have A2 := Aside0.mk (At2.refl (w := wr.drewN ndc) base HR1.out HL1.out)
              have HI2 := Aside0.mk (show I s1 (wr.drewN ndc) from E.stable _ _ _ HI1.out (Nat.le_refl _) (fun _ _ _ => rfl))
              have HB2 := Aside0.mk (show Below base w (wr.drewN ndc) from HB1.out.trans (pw_below_drewN (Below.refl _ _) _))
              have HX2 := Aside0.mk (show ∀ k, X k → (wr.drewN ndc).heap[k]? = w.heap[k]? from HX1.out)
              have HT2 := Aside0.mk (show ∀ j, j < told.length → (wr.drewN ndc).cell? (ad.add j) = some (.int .i64 (rd told j)) from HT1.out)
              generalize wr.drewN ndc = W0 at A2 HI2 HB2 HX2 HT2 ⊢
              have hc1 := A2.out.row.cell a HFA.out
              have hf1 := blk_frozen A2.out.row a
              have HCALL := Aside0.mk (show ∀ w7, At2 base gr gl W0 w7 ((row.set a n).set t.toNat n) (left.set i 0) → Calls Try.prog 108 #[.slice (some ⟨gr, 0, none⟩) row.length row.length, .slice (some ad) told.length ct, .slice (some ⟨gl, 0, none⟩) left.length left.length, .int .i64 shift, .func (.func fid) #[] caps] w7 fun e w' => e = .returned (.bool d) ∧ I s2 w' ∧ Below base w7 w' ∧ (∀ k, X k → w'.heap[k]? = w7.heap[k]?) from fun w7 h7 => by
                have h8 := IH.out s1 s2 d ((row.set a n).set t.toNat n) (left.set i 0) w7 (by simpa using HLT.out) (by simpa using HLR.out) (by simpa using HLL.out) (fun x hx => (List.mem_or_eq_of_mem_set hx).elim (HLM.out x) (fun e => by omega)) (E.stable _ _ _ HI2.out (by rw [h7.size]; exact Nat.le_refl _) (fun k _ hk => h7.other k (fun e => hk (e ▸ HXr.out)) (fun e => hk (e ▸ HXl.out)))) h7.row h7.left (told_same HT2.out (h7.other _ HTR.out HTL.out)) HREC.out
                rw [List.length_set, List.length_set, List.length_set] at h8
                exact h8)
              cases d with
              | true =>
                have h4 : s2 = s' ∧ true = b := by simpa using H3.out
                obtain ⟨rfl, rfl⟩ := h4
                clear H3
                go_wp2_with (first | ((with_reducible refine gate_store (t := 3) (p := 86) rfl ?_); refine store_event (t := 3) (p := 86) (v := ?voa) (w1 := (W0.setCell ⟨gr, a, none⟩ (.int .i64 n))) ?hg ?ho ?hn ?hr ?_; (case ho => rfl); (case hg => rfl); (case hn => rfl); (case hr => first | (go_simp; done) | (go_simp; rfl)); intro w3 hw3; have A3 := Aside0.mk (A2.out.putR HNE.out HBR.out a n hw3); clear hw3; have hc2 := A3.out.row.cellI t HT0.out (by have := HTL1.out; rw [List.length_set]; exact this); have hf2 := blk_frozen A3.out.row t.toNat) | ((with_reducible refine gate_store (t := 3) (p := 87) rfl ?_); refine store_event (t := 3) (p := 87) (v := ?vob) (w1 := (w3.setCell ⟨gr, t.toNat, none⟩ (.int .i64 n))) ?hg ?ho ?hn ?hr ?_; (case ho => rfl); (case hg => rfl); (case hn => rfl); (case hr => first | (go_simp; done) | (go_simp; rfl)); intro w4 hw4; have A4 := Aside0.mk (A3.out.putR HNE.out HBR.out t.toNat n hw4); clear hw4; have hc3 := A4.out.left.cell i HLT1.out; have hf3 := blk_frozen A4.out.left i) | ((with_reducible refine gate_store (t := 3) (p := 90) rfl ?_); refine store_event (t := 3) (p := 90) (v := ?voc) (w1 := (w4.setCell ⟨gl, i, none⟩ (.int .i64 0))) ?hg ?ho ?hn ?hr ?_; (case ho => rfl); (case hg => rfl); (case hn => rfl); (case hr => first | (go_simp; done) | (go_simp; rfl)); intro w5 hw5; have A5 := Aside0.mk (A4.out.putL HNE.out HBL.out i 0 hw5); clear hw5) | ((with_reducible refine gate_callee (f := 108) rfl ?_); refine goesL_ (some 96) rfl rfl Try.func108 (by kernel_rfl) rfl #[.slice (some ⟨gr, 0, none⟩) row.length row.length, .slice (some ad) told.length ct, .slice (some ⟨gl, 0, none⟩) left.length left.length, .int .i64 shift, .func (.func fid) #[] caps] rfl (by (try simp only [List.map_toArray, List.map_cons, List.map_nil]); first | done | rfl) ?_; refine (HCALL.out w5 A5.out).mono ?_; rintro e w8 ⟨rfl, hI8, hB8, hX8⟩; refine ⟨_, rfl, ?_⟩; have HI8 := Aside0.mk hI8; have HB8 := Aside0.mk hB8; have HX8 := Aside0.mk hX8; clear hI8 hB8 hX8; have A8 := Aside0.mk (At2.refl base (show IB w8 gr _ from (HX8.out gr HXr.out).trans A5.out.row) (show IB w8 gl _ from (HX8.out gl HXl.out).trans A5.out.left)); have hc4 := A8.out.left.cell i (by rw [List.length_set]; exact HLT1.out); have hf4 := blk_frozen A8.out.left i) | ((with_reducible refine gate_store (t := 3) (p := 100) rfl ?_); refine store_event (t := 3) (p := 100) (v := ?vod) (w1 := (w8.setCell ⟨gl, i, none⟩ (.int .i64 n))) ?hg ?ho ?hn ?hr ?_; (case ho => rfl); (case hg => rfl); (case hn => rfl); (case hr => first | (go_simp; done) | (go_simp; rfl)); intro w9 hw9; have A9 := Aside0.mk (A8.out.putL HNE.out HBL.out i n hw9); clear hw9; have hc5 := A9.out.row.cell a (by rw [List.length_set, List.length_set]; exact HFA.out); have hf5 := blk_frozen A9.out.row a) | ((with_reducible refine gate_store (t := 3) (p := 105) rfl ?_); refine store_event (t := 3) (p := 105) (v := ?voe) (w1 := (w9.setCell ⟨gr, a, none⟩ (.int .i64 (-1)))) ?hg ?ho ?hn ?hr ?_; (case ho => rfl); (case hg => rfl); (case hn => rfl); (case hr => first | (go_simp; done) | (go_simp; rfl)); intro w10 hw10; have A10 := Aside0.mk (A9.out.putR HNE.out HBR.out a (-1) hw10); clear hw10; have hc6 := A10.out.row.cellI t HT0.out (by have := HTL1.out; rw [List.length_set, List.length_set, List.length_set]; exact this); have hf6 := blk_frozen A10.out.row t.toNat) | ((with_reducible refine gate_store (t := 3) (p := 106) rfl ?_); refine store_event (t := 3) (p := 106) (v := ?vof) (w1 := (w10.setCell ⟨gr, t.toNat, none⟩ (.int .i64 (-1)))) ?hg ?ho ?hn ?hr ?_; (case ho => rfl); (case hg => rfl); (case hn => rfl); (case hr => first | (go_simp; done) | (go_simp; rfl)); intro w11 hw11; have A11 := Aside0.mk (A10.out.putR HNE.out HBR.out t.toNat (-1) hw11); clear hw11))
                go_ret
                exact ⟨rfl, fill_end HI8.out HB8.out HX8.out E A2.out A5.out A11.out HB2.out HX2.out HXr.out HXl.out (set_back HFA.out HT0.out HTL1.out HF.out HRT.out) (set_back1 HLT1.out HN.out)⟩
              | false =>
                have HH2 := Aside0.mk (show fillLoop (fillF each told shift k) row told left shift (left.length - (i + 1)) (i + 1) s2 = some (s', b) by rw [HM2.out]; simpa using H3.out)
                clear H3
                go_wp2_with (first | ((with_reducible refine gate_store (t := 3) (p := 86) rfl ?_); refine store_event (t := 3) (p := 86) (v := ?voa) (w1 := (W0.setCell ⟨gr, a, none⟩ (.int .i64 n))) ?hg ?ho ?hn ?hr ?_; (case ho => rfl); (case hg => rfl); (case hn => rfl); (case hr => first | (go_simp; done) | (go_simp; rfl)); intro w3 hw3; have A3 := Aside0.mk (A2.out.putR HNE.out HBR.out a n hw3); clear hw3; have hc2 := A3.out.row.cellI t HT0.out (by have := HTL1.out; rw [List.length_set]; exact this); have hf2 := blk_frozen A3.out.row t.toNat) | ((with_reducible refine gate_store (t := 3) (p := 87) rfl ?_); refine store_event (t := 3) (p := 87) (v := ?vob) (w1 := (w3.setCell ⟨gr, t.toNat, none⟩ (.int .i64 n))) ?hg ?ho ?hn ?hr ?_; (case ho => rfl); (case hg => rfl); (case hn => rfl); (case hr => first | (go_simp; done) | (go_simp; rfl)); intro w4 hw4; have A4 := Aside0.mk (A3.out.putR HNE.out HBR.out t.toNat n hw4); clear hw4; have hc3 := A4.out.left.cell i HLT1.out; have hf3 := blk_frozen A4.out.left i) | ((with_reducible refine gate_store (t := 3) (p := 90) rfl ?_); refine store_event (t := 3) (p := 90) (v := ?voc) (w1 := (w4.setCell ⟨gl, i, none⟩ (.int .i64 0))) ?hg ?ho ?hn ?hr ?_; (case ho => rfl); (case hg => rfl); (case hn => rfl); (case hr => first | (go_simp; done) | (go_simp; rfl)); intro w5 hw5; have A5 := Aside0.mk (A4.out.putL HNE.out HBL.out i 0 hw5); clear hw5) | ((with_reducible refine gate_callee (f := 108) rfl ?_); refine goesL_ (some 96) rfl rfl Try.func108 (by kernel_rfl) rfl #[.slice (some ⟨gr, 0, none⟩) row.length row.length, .slice (some ad) told.length ct, .slice (some ⟨gl, 0, none⟩) left.length left.length, .int .i64 shift, .func (.func fid) #[] caps] rfl (by (try simp only [List.map_toArray, List.map_cons, List.map_nil]); first | done | rfl) ?_; refine (HCALL.out w5 A5.out).mono ?_; rintro e w8 ⟨rfl, hI8, hB8, hX8⟩; refine ⟨_, rfl, ?_⟩; have HI8 := Aside0.mk hI8; have HB8 := Aside0.mk hB8; have HX8 := Aside0.mk hX8; clear hI8 hB8 hX8; have A8 := Aside0.mk (At2.refl base (show IB w8 gr _ from (HX8.out gr HXr.out).trans A5.out.row) (show IB w8 gl _ from (HX8.out gl HXl.out).trans A5.out.left)); have hc4 := A8.out.left.cell i (by rw [List.length_set]; exact HLT1.out); have hf4 := blk_frozen A8.out.left i) | ((with_reducible refine gate_store (t := 3) (p := 100) rfl ?_); refine store_event (t := 3) (p := 100) (v := ?vod) (w1 := (w8.setCell ⟨gl, i, none⟩ (.int .i64 n))) ?hg ?ho ?hn ?hr ?_; (case ho => rfl); (case hg => rfl); (case hn => rfl); (case hr => first | (go_simp; done) | (go_simp; rfl)); intro w9 hw9; have A9 := Aside0.mk (A8.out.putL HNE.out HBL.out i n hw9); clear hw9; have hc5 := A9.out.row.cell a (by rw [List.length_set, List.length_set]; exact HFA.out); have hf5 := blk_frozen A9.out.row a) | ((with_reducible refine gate_store (t := 3) (p := 105) rfl ?_); refine store_event (t := 3) (p := 105) (v := ?voe) (w1 := (w9.setCell ⟨gr, a, none⟩ (.int .i64 (-1)))) ?hg ?ho ?hn ?hr ?_; (case ho => rfl); (case hg => rfl); (case hn => rfl); (case hr => first | (go_simp; done) | (go_simp; rfl)); intro w10 hw10; have A10 := Aside0.mk (A9.out.putR HNE.out HBR.out a (-1) hw10); clear hw10; have hc6 := A10.out.row.cellI t HT0.out (by have := HTL1.out; rw [List.length_set, List.length_set, List.length_set]; exact this); have hf6 := blk_frozen A10.out.row t.toNat) | ((with_reducible refine gate_store (t := 3) (p := 106) rfl ?_); refine store_event (t := 3) (p := 106) (v := ?vof) (w1 := (w10.setCell ⟨gr, t.toNat, none⟩ (.int .i64 (-1)))) ?hg ?ho ?hn ?hr ?_; (case ho => rfl); (case hg => rfl); (case hn => rfl); (case hr => first | (go_simp; done) | (go_simp; rfl)); intro w11 hw11; have A11 := Aside0.mk (A10.out.putR HNE.out HBR.out t.toNat (-1) hw11); clear hw11))
                go_roundw
                case rel =>
                  have R := fill_end HI8.out HB8.out HX8.out E A2.out A5.out A11.out HB2.out HX2.out HXr.out HXl.out (set_back HFA.out HT0.out HTL1.out HF.out HRT.out) (set_back1 HLT1.out HN.out)
                  exact ⟨i + 1, s2, HLT1.out, congrArg (Value.int .i64) HWI.out, ⟨R.1⟩, ⟨R.2.1⟩, ⟨R.2.2⟩, HH2⟩
                case measure => have := HLT1.out; rw [HWI.out]; simp [intOf]; omega
        · obtain rfl : i = left.length := by omega
          have h2 : s1 = s' ∧ false = b := by simpa [fillLoop] using H1.out
          obtain ⟨rfl, rfl⟩ := h2
          clear H1
          go_wp2
          go_ret
          exact ⟨rfl, HI1.out, HB1.out, HX1.out⟩


end Go.Proofs.Ytiopjegbggjdcaa.Fn
namespace Go.Proofs.Ytiopjegbggjdcaa.Fn
open Go.RowKit Go.Proofs.YtiopjegbggjdcaaW.PrintWords Go.Proofs.YtiopjegbggjdcaaW.PrintLast Go.Proofs.YtiopjegbggjdcaaW.PrintMore
attribute [local go_sem] max2_int min2_int max_two min_two max_three min_three max_four min_four   -- for this text's walks alone
set_option linter.unusedVariables false
set_option linter.unusedSimpArgs false

/-! ### laws_markIntSS: function 36 (given) -/
/-- The numbers from k on, n of them; so for rows, one after the other. -/
def markL : Nat → Int → List Int
  | 0, _ => []
  | n + 1, k => k :: markL n (k + 1)
def sumLen (l : List (List Int)) : Nat := (l.map List.length).sum
def markSS : List (List Int) → Int → List (List Int)
  | [], _ => []
  | r :: l, k => markL r.length k :: markSS l (k + r.length)
theorem markL_length : ∀ n k, (markL n k).length = n
  | 0, _ => rfl
  | n + 1, k => by simp [markL, markL_length n]
theorem markSS_length : ∀ l k, (markSS l k).length = l.length
  | [], _ => rfl
  | r :: l, k => by simp [markSS, markSS_length l]
theorem markSS_snoc : ∀ (l : List (List Int)) (r : List Int) (k : Int), markSS (l ++ [r]) k = markSS l k ++ [markL r.length (k + (sumLen l : Int))]
  | [], r, k => by simp [markSS, sumLen]
  | x :: l, r, k => by
    have ih := markSS_snoc l r (k + x.length)
    simp only [List.cons_append, markSS, ih, sumLen, List.map_cons, List.sum_cons]
    congr 4
    omega
theorem sumLen_snoc (l : List (List Int)) (r : List Int) : sumLen (l ++ [r]) = sumLen l + r.length := by simp [sumLen]
theorem sumLen_take (l : List (List Int)) (i : Nat) : sumLen (l.take i) ≤ sumLen l := by
  have h : l.take i ++ l.drop i = l := List.take_append_drop i l
  have e : sumLen (l.take i ++ l.drop i) = sumLen (l.take i) + sumLen (l.drop i) := by
    simp only [sumLen, List.map_append, List.sum_append]
  rw [h] at e
  omega
theorem markIntS_L0 : ∀ (suf pre : List Int) (k : Int), (pre ++ suf).length < 4611686018427387904 → 0 ≤ k → k + suf.length < 4611686018427387904 → laws_markIntS.L0 (pre ++ suf) k (pre.length : Int) = some (k + suf.length, pre ++ markL suf.length k)
  | [], pre, k, h, h0, hk => by
    rw [laws_markIntS.L0_eq, range_end]
    simp [markL]
  | x :: suf, pre, k, h, h0, hk => by
    have h1 : (pre.length : Int) < ((pre ++ x :: suf).length : Int) := by rw [List.length_append, List.length_cons]; omega
    have hk' : k + (suf.length + 1 : Nat) < 4611686018427387904 := by simpa using hk
    rw [laws_markIntS.L0_eq, if_pos h1, if_pos (by omega), wrap_mid h, wrap_in (n := k + 1) (by omega) (by omega)]
    have e : (pre ++ x :: suf).set ((pre.length : Int)).toNat k = (pre ++ [k]) ++ suf := by simp
    have el : ((pre ++ [x]).length : Int) = ((pre ++ [k]).length : Int) := by simp
    rw [e, el, markIntS_L0 suf (pre ++ [k]) (k + 1) (by simpa using h) (by omega) (by omega)]
    simp [markL]
    omega
theorem markIntS_some (l : List Int) (k : Int) (h0 : 0 ≤ k) (hk : k + l.length < 4611686018427387904) : ∃ kf, laws_markIntS.f kf l k = some (k + l.length, markL l.length k) := by
  refine Lim.rounds (laws_markIntS.F_lim l k) ?_
  rw [laws_markIntS.F_eq]
  have := markIntS_L0 l [] k (by simp; omega) h0 hk
  simpa using this
/-- A row of rows that lie apart: one of them, and what holds when it has been written. -/
theorem S_rows {w : World} {base : Nat} {ok : Nat → Prop} {v : Value} {xs : List (List Int)} (h : Kd.S (Kd.slice 3 (Kd.int .i64)) 22 w base ok v xs) (i : Nat) (row : List Int) (hrow : xs[i]? = some row) : ∃ (P : Nat → Prop) (u : Value), Kd.R (Kd.int .i64) 3 w base P u row ∧ (∀ ad n c, v = .slice (some ad) n c → w.cell? (ad.add i) = some u) ∧
    (∀ (w' : World) (x' : List Int), w.heap.size ≤ w'.heap.size → (∀ k, k < w.heap.size → ¬ P k → w'.heap[k]? = w.heap[k]?) → Kd.R (Kd.int .i64) 3 w' base P u x' → Kd.S (Kd.slice 3 (Kd.int .i64)) 22 w' base ok v (xs.set i x')) := by
  obtain ⟨f, h0, inner, ho, hr⟩ := h
  have hil : i < xs.length := (List.getElem?_eq_some_iff.1 hrow).1
  obtain ⟨u, hu, hR⟩ := hr.2 i (row, i) (Kd.zip_at hrow)
  refine ⟨fun k => (ok k ∧ some k ≠ v.ownBlock) ∧ f k = i, u, hR, ?_, fun w' x' hs hk hR' => ?_⟩
  · intro ad n c e
    subst e
    have hS : Kd.S (Kd.slice 3 (Kd.int .i64)) 22 w base ok (.slice (some ad) n c) xs := ⟨f, h0, inner, ho, hr⟩
    have hn := (Kd.S_reads' hS).1
    rcases ho.2 with ⟨h1, _⟩ | ⟨g, cap, cur, hv, hg, hb, hnc, hcap, hsz, htk⟩
    · cases h1
    · cases hv
      rw [add_block0, cell_of_row w g i cur _ _ hb]
      have h1 : cur.toList.take (xs.zipIdx.length * 1) = inner := htk
      have h2 : (inner.drop (i * 1)).take 1 = [u] := hu
      rw [List.length_zipIdx, Nat.mul_one] at h1
      rw [Nat.mul_one] at h2
      have h3 : inner[i]? = some u := by
        have h4 := congrArg (·[0]?) h2
        simpa [List.getElem?_take, List.getElem?_drop] using h4
      rw [← h1, List.getElem?_take, if_pos hil] at h3
      simpa using h3
  · have hlen : (xs.set i x').zipIdx.length = xs.zipIdx.length := by simp
    refine ⟨f, h0, inner, ?_, ?_, fun j p hj => ?_⟩
    · rw [hlen]
      refine ⟨ho.1, ?_⟩
      rcases ho.2 with h1 | ⟨g, cap, cur, hv, hg, hb, hnc, hcap, hsz, htk⟩
      · exact .inl h1
      · exact .inr ⟨g, cap, cur, hv, hg, (hk g (blk_lt hb) (fun hp => hp.1.2 (by rw [hv]; rfl))).trans hb, hnc, hcap, hsz, htk⟩
    · rw [hlen]
      exact hr.1
    · rw [List.getElem?_zipIdx, Nat.zero_add] at hj
      obtain ⟨x, hx, rfl⟩ := Option.map_eq_some_iff.1 hj
      by_cases e : i = j
      · subst e
        rw [List.getElem?_set, if_pos rfl, if_pos hil] at hx
        obtain rfl := Option.some.inj hx
        exact ⟨u, hu, hR'⟩
      · rw [List.getElem?_set, if_neg e] at hx
        have hM := hr.2 j (x, j) (Kd.zip_at hx)
        exact Kd.M_step (d := Kd.slice 3 (Kd.int .i64)) hM (fun k ho hl => hk k hl (fun hp => e (hp.2.symm.trans ho.2)))
set_option maxHeartbeats 8000000 in
set_option maxRecDepth 100000 in
theorem markIntSS_call (v : Value) (l : List (List Int)) (a1 : Int) (ok : Nat → Prop) (w0 w : World) (hB : Below w0.heap.size w0 w) (hS : Kd.S (Kd.slice 3 (Kd.int .i64)) 22 w w0.heap.size ok v l) (h0 : 0 ≤ a1) (h1 : a1 + (sumLen l : Int) < 4611686018427387904) (h2 : l.length < 4611686018427387904) :
    Calls Try.prog 36 #[v, .int .i64 a1] w fun e w' => e = .returned (.int .i64 (a1 + (sumLen l : Int))) ∧ Kd.S (Kd.slice 3 (Kd.int .i64)) 22 w' w0.heap.size ok v (markSS l a1) ∧ Below w0.heap.size w0 w' := by
  obtain ⟨A, c, rfl⟩ := Kd.S_slice hS
  have HB := Aside0.mk hB
  have HS := Aside0.mk hS
  have H0 := Aside0.mk h0
  have H1 := Aside0.mk h1
  clear hB hS h0 h1
  go_enter Try.func36, Try.ntmps36
  go_wp2
  go_loopw [1, 5] (fun v1 v5 wr => ∃ i : Nat, i ≤ l.length ∧ v5 = .int .i64 i ∧ v1 = .int .i64 (a1 + (sumLen (l.take i) : Int)) ∧ Aside0 (Kd.S (Kd.slice 3 (Kd.int .i64)) 22 wr w0.heap.size ok (.slice A l.length c) (markSS (l.take i) a1 ++ l.drop i)) ∧ Aside0 (Below w0.heap.size w0 wr)) (fun _ v5 _ => l.length - (intOf v5).toNat)
  case atStart => exact ⟨0, Nat.zero_le _, rfl, by simp [sumLen], ⟨by simpa [markSS] using HS.out⟩, HB⟩
  case round =>
    obtain ⟨i, hi, rfl, rfl, HS1, HB1⟩ := hrel
    by_cases hlt : i < l.length
    · obtain ⟨row, hrow⟩ : ∃ row, l[i]? = some row := ⟨_, List.getElem?_eq_getElem hlt⟩
      have hml : (markSS (l.take i) a1).length = i := by rw [markSS_length, List.length_take]; omega
      have hdrop : l.drop i = row :: l.drop (i + 1) := by
        have e : l[i]'hlt = row := by
          rw [List.getElem?_eq_getElem hlt] at hrow
          exact Option.some.inj hrow
        rw [← e]
        exact List.drop_eq_getElem_cons hlt
      have hat : (markSS (l.take i) a1 ++ l.drop i)[i]? = some row := by
        rw [List.getElem?_append_right (by omega), hml, Nat.sub_self, hdrop]
        rfl
      have htake : l.take (i + 1) = l.take i ++ [row] := by
        rw [List.take_add_one, hrow]
        rfl
      obtain ⟨P, u, hR, hcell, hback⟩ := S_rows HS1.out i row hat
      obtain ⟨Au, cu, eu⟩ := Kd.R_slice hR
      subst eu
      have hA : ∃ ad, A = some ad := by
        obtain ⟨g, cap, hv, _⟩ := Kd.S_form HS1.out (by rw [List.length_append, hml, hdrop, List.length_cons]; omega)
        injection hv with e _ _
        exact ⟨_, e⟩
      obtain ⟨ad, rfl⟩ := hA
      have hcu := hcell ad _ _ rfl
      have hle : sumLen (l.take (i + 1)) ≤ sumLen l := sumLen_take l (i + 1)
      rw [htake, sumLen_snoc] at hle
      have h1 := H1.out
      have h0 := H0.out
      obtain ⟨kk, hkk⟩ : ∃ kk : Int, a1 + (sumLen (l.take i) : Int) = kk := ⟨_, rfl⟩
      obtain ⟨kf, hkf⟩ := markIntS_some row kk (by omega) (by omega)
      have HKF := Aside0.mk hkf
      have HR := Aside0.mk hR
      have HBACK := Aside0.mk hback
      have HLT := Aside0.mk hlt
      have HNEW := Aside0.mk (show (markSS (l.take i) a1 ++ l.drop i).set i (markL row.length kk) = markSS (l.take (i + 1)) a1 ++ l.drop (i + 1) by
        rw [htake, markSS_snoc, hdrop, hkk, List.set_append_right _ _ (by omega), hml, Nat.sub_self]
        simp)
      have HKK := Aside0.mk (show kk + (row.length : Int) = a1 + (sumLen (l.take (i + 1)) : Int) by rw [htake, sumLen_snoc]; omega)
      rw [hkk]
      have p0 : (0 ≤ (i : Int)) = True := eq_true (by omega)
      have q0 : ((i : Int) < (l.length : Int)) = True := eq_true (by omega)
      clear hrow hml hdrop hat htake hR hcell hback hle hkk hkf h1 h0
      go_wp2_with (first | ((with_reducible refine gate_callee (f := 25) rfl ?_); refine goesL_ (some 17) rfl rfl Try.func25 (by kernel_rfl) rfl #[.slice Au row.length cu, .int .i64 kk] rfl (by (try simp only [List.map_toArray, List.map_cons, List.map_nil]); first | done | rfl) ?_; refine (laws_markIntS.calls kf P (.slice Au row.length cu) row kk _ _ w0 wr HB1.out HR.out HKF.out).mono ?_; rintro e w3 ⟨rfl, hR3, hB3, hK3⟩; refine ⟨_, rfl, ?_⟩; have HS3 := Aside0.mk (HBACK.out w3 (markL row.length kk) hK3.1 hK3.2 (Kd.R_reok rfl hR3 (fun k_ e_ => HR.out.1 k_ e_))); have HB3 := Aside0.mk hB3; clear hR3 hB3 hK3))
      go_roundw
      case rel => exact ⟨i + 1, HLT.out, by go_num, by rw [HKK.out], ⟨by have h := HS3.out; rw [HNEW.out] at h; exact h⟩, HB3⟩
      case measure => simp [intOf]; have := HLT.out; omega
    · obtain rfl : i = l.length := by omega
      have HS2 := Aside0.mk (show Kd.S (Kd.slice 3 (Kd.int .i64)) 22 wr w0.heap.size ok (.slice A l.length c) (markSS l a1) by have h := HS1.out; rw [List.take_length, List.drop_length, List.append_nil] at h; exact h)
      rw [List.take_length]
      clear hlt hi HS1
      go_wp2
      go_ret
      exact ⟨rfl, HS2.out, HB1.out⟩


end Go.Proofs.Ytiopjegbggjdcaa.Fn
namespace Go.Proofs.Ytiopjegbggjdcaa.Fn
open Go.RowKit Go.Proofs.YtiopjegbggjdcaaW.PrintWords Go.Proofs.YtiopjegbggjdcaaW.PrintLast Go.Proofs.YtiopjegbggjdcaaW.PrintMore
attribute [local go_sem] max2_int min2_int max_two min_two max_three min_three max_four min_four   -- for this text's walks alone
set_option linter.unusedVariables false
set_option linter.unusedSimpArgs false

/-! ### laws_heldIntS: function 30 -/
def laws_heldIntS.l0 : Nat → List Int → Int → Int → Option (Int)
  | 0, _, _, _ => none
  | k + 1, x0, x1, x5 => if x5 < (x0.length : Int) then (if 0 ≤ x5 then (if (rd x0 x5) = x1 then (laws_heldIntS.l0 k x0 (wrap64 (x1 + 1)) (wrap64 (x5 + 1))) else (some (-1))) else (none)) else (some x1)
def laws_heldIntS.f (k : Nat) (l0 : List Int) (a1 : Int) : Option (Int) := laws_heldIntS.l0 k l0 a1 0
theorem laws_heldIntS.mono_l : ∀ k, (∀ y0 y1 y2, LeO (laws_heldIntS.l0 k y0 y1 y2) (laws_heldIntS.l0 (k + 1) y0 y1 y2))
  | 0 => fun _ _ _ r h => by simp [laws_heldIntS.l0] at h
  | k + 1 => by
    have ih0 := laws_heldIntS.mono_l k
    · intro y0 y1 y2
      unfold laws_heldIntS.l0
      repeat' first
      | (with_reducible exact ih0 _ _ _)
      | (with_reducible exact LeO.refl _)
      | (with_reducible exact LeO.none _)
      | (with_reducible refine LeO.ite ?_ ?_)
      | (with_reducible refine LeO.bind ?_ (fun _ => ?_))
      | exact ih0 _ _ _
      | exact LeO.none _
      | refine LeO.ite ?_ ?_
      | refine LeO.bind ?_ (fun _ => ?_)
theorem laws_heldIntS.mono : ∀ a0 a1 k, LeO (laws_heldIntS.f k a0 a1) (laws_heldIntS.f (k + 1) a0 a1) := by
  intro a0 a1 k
  have ih0 := laws_heldIntS.mono_l k
  unfold laws_heldIntS.f
  repeat' first
      | (with_reducible exact ih0 _ _ _)
      | (with_reducible exact LeO.refl _)
      | (with_reducible exact LeO.none _)
      | (with_reducible refine LeO.ite ?_ ?_)
      | (with_reducible refine LeO.bind ?_ (fun _ => ?_))
      | exact ih0 _ _ _
      | exact LeO.none _
      | refine LeO.ite ?_ ?_
      | refine LeO.bind ?_ (fun _ => ?_)
set_option maxHeartbeats 8000000 in
set_option maxRecDepth 100000 in
theorem laws_heldIntS.calls (k : Nat) (A0 : Option Addr) (c0 : Nat) (l0 : List Int) (a1 : Int) (r : Int) (w : World) (hr0 : Kd.C (Kd.int .i64) w A0 l0.length l0) (hc0 : l0.length ≤ c0) (h : laws_heldIntS.f k l0 a1 = some r) :
    Calls Try.prog 30 #[.slice A0 l0.length c0, .int .i64 a1] w fun e w' => e = .returned (.int .i64 r) ∧ Drawn0 w w' := by
  have HR0 := Aside0.mk hr0
  have HC0 := Aside0.mk hc0
  clear hr0 hc0
  have H : (laws_heldIntS.l0 k l0 a1 0) = some r := h
  clear h
  have H' := Aside0.mk H
  clear H
  go_enter Try.func30, Try.ntmps30
  go_wp2
  go_loopg [1, 5] k (fun kq v1 v5 w' => ∃ (x1_1 : Int) (x5_1 : Int), v1 = .int .i64 x1_1 ∧ v5 = .int .i64 x5_1 ∧ Aside0 (laws_heldIntS.l0 kq l0 x1_1 x5_1 = some r) ∧ Aside0 (kq ≤ k) ∧ Drawn0 w w')
  case atStart => exact ⟨(a1), (0), (by first | rfl | (simp; done) | (simp [*]; done)), (by first | rfl | (simp; done) | (simp [*]; done)), H', ⟨Nat.le_refl _⟩, by repeat (first | exact Drawn0.refl _ | apply Drawn0.step)⟩
  case round =>
    clear H'
    try clear p2
    obtain ⟨x1_1, x5_1, rfl, rfl, HA, HK1, ⟨m1, rfl⟩⟩ := hrel
    cases gk with
    | zero => exact absurd HA.out (by simp [laws_heldIntS.l0])
    | succ k1 =>
      have H := HA.out
      clear HA
      simp only [laws_heldIntS.l0] at H
      by_cases c3 : x5_1 < (l0.length : Int)
      · rw [if_pos c3] at H
        have c3b0 : decide (x5_1 < (l0.length : Int)) = true := decide_eq_true c3
        clear c3
        by_cases c4 : 0 ≤ x5_1
        · rw [if_pos c4] at H
          have c4b0 : decide (0 ≤ x5_1) = true := decide_eq_true c4
          clear c4
          by_cases c5 : (rd l0 x5_1) = x1_1
          · rw [if_pos c5] at H
            have c5b0 : ((rd l0 x5_1) == x1_1) = true := beq_iff_eq.mpr c5
            have c5b1 : ((rd l0 x5_1) != x1_1) = false := bne_eq_false_iff_eq.mpr c5
            clear c5
            have H' := Aside0.mk H
            clear H
            have p118 : 0 ≤ (x5_1 : Int) := of_decide_eq_true (by first | (with_reducible assumption) | assumption)
            have q118 : x5_1 < (l0.length : Int) := of_decide_eq_true (by first | (with_reducible assumption) | assumption)
            obtain ⟨ad118, e118, hx118_0⟩ := Kd.at_int HR0.out x5_1 p118 q118
            cases e118
            replace p118 := eq_true p118
            replace q118 := eq_true q118
            go_wp2
            go_roundg k1
            case measure => have := HK1.out; omega
            case rel => exact ⟨(wrap64 (x1_1 + 1)), (wrap64 (x5_1 + 1)), (by first | rfl | (simp; done) | (simp [*]; done)), (by first | rfl | (simp; done) | (simp [*]; done)), H', ⟨by have := HK1.out; omega⟩, by repeat (first | exact Drawn0.refl _ | apply Drawn0.step)⟩
          · rw [if_neg c5] at H
            have c5b0 : ((rd l0 x5_1) == x1_1) = false := beq_eq_false_iff_ne.mpr c5
            have c5b1 : ((rd l0 x5_1) != x1_1) = true := bne_iff_ne.mpr c5
            obtain rfl := Option.some.inj H
            have p118 : 0 ≤ (x5_1 : Int) := of_decide_eq_true (by first | (with_reducible assumption) | assumption)
            have q118 : x5_1 < (l0.length : Int) := of_decide_eq_true (by first | (with_reducible assumption) | assumption)
            obtain ⟨ad118, e118, hx118_0⟩ := Kd.at_int HR0.out x5_1 p118 q118
            cases e118
            replace p118 := eq_true p118
            replace q118 := eq_true q118
            go_wp2
            go_ret
            exact ⟨by first | rfl | (simp; done) | (simp [*]; done), by repeat (first | exact Drawn0.refl _ | apply Drawn0.step)⟩
        · rw [if_neg c4] at H
          exact absurd H (by simp)
      · rw [if_neg c3] at H
        have c3b0 : decide (x5_1 < (l0.length : Int)) = false := decide_eq_false c3
        clear c3
        obtain rfl := Option.some.inj H
        go_wp2
        go_ret
        exact ⟨by first | rfl | (simp; done) | (simp [*]; done), by repeat (first | exact Drawn0.refl _ | apply Drawn0.step)⟩

noncomputable def laws_heldIntS.L0 (x0 : List Int) (x1 : Int) (x5 : Int) : Option (Int) := lim fun k => laws_heldIntS.l0 k x0 x1 x5
theorem laws_heldIntS.L0_lim (x0 : List Int) (x1 : Int) (x5 : Int) : Lim (fun k => laws_heldIntS.l0 k x0 x1 x5) (laws_heldIntS.L0 x0 x1 x5) := Lim.of fun k => (laws_heldIntS.mono_l k) x0 x1 x5
noncomputable def laws_heldIntS.F (l0 : List Int) (a1 : Int) : Option (Int) := lim fun k => laws_heldIntS.f k l0 a1
theorem laws_heldIntS.F_lim (l0 : List Int) (a1 : Int) : Lim (fun k => laws_heldIntS.f k l0 a1) (laws_heldIntS.F l0 a1) := Lim.of fun k => laws_heldIntS.mono l0 a1 k
theorem laws_heldIntS.L0_eq (x0 : List Int) (x1 : Int) (x5 : Int) : laws_heldIntS.L0 x0 x1 x5 = (if x5 < (x0.length : Int) then (if 0 ≤ x5 then (if (rd x0 x5) = x1 then (laws_heldIntS.L0 x0 (wrap64 (x1 + 1)) (wrap64 (x5 + 1))) else (some (-1))) else (none)) else (some x1)) :=
  Lim.step (f := fun k => (if x5 < (x0.length : Int) then (if 0 ≤ x5 then (if (rd x0 x5) = x1 then (laws_heldIntS.l0 k x0 (wrap64 (x1 + 1)) (wrap64 (x5 + 1))) else (some (-1))) else (none)) else (some x1))) (laws_heldIntS.L0_lim x0 x1 x5) (fun k => by first | rfl | rw [laws_heldIntS.l0]) (by
    repeat' first
    | (with_reducible exact Lim.const _)
    | (with_reducible exact laws_heldIntS.L0_lim _ _ _)
    | (with_reducible refine Lim.ite ?_ ?_)
    | (with_reducible refine Lim.bind ?_ (fun _ => ?_)))
theorem laws_heldIntS.F_eq (l0 : List Int) (a1 : Int) : laws_heldIntS.F l0 a1 = (laws_heldIntS.L0 l0 a1 0) :=
  Lim.unique (laws_heldIntS.F_lim l0 a1) (by
    unfold laws_heldIntS.f
    repeat' first
    | (with_reducible exact Lim.const _)
    | (with_reducible exact laws_heldIntS.L0_lim _ _ _)
    | (with_reducible refine Lim.ite ?_ ?_)
    | (with_reducible refine Lim.bind ?_ (fun _ => ?_)))

end Go.Proofs.Ytiopjegbggjdcaa.Fn
namespace Go.Proofs.Ytiopjegbggjdcaa.Fn
open Go.RowKit Go.Proofs.YtiopjegbggjdcaaW.PrintWords Go.Proofs.YtiopjegbggjdcaaW.PrintLast Go.Proofs.YtiopjegbggjdcaaW.PrintMore
attribute [local go_sem] max2_int min2_int max_two min_two max_three min_three max_four min_four   -- for this text's walks alone
set_option linter.unusedVariables false
set_option linter.unusedSimpArgs false

/-! ### laws_heldIntSS: function 37 -/
def laws_heldIntSS.l0 : Nat → List (List Int) → Int → Int → Option (Int)
  | 0, _, _, _ => none
  | k + 1, x0, x1, x5 => if x5 < (x0.length : Int) then (if 0 ≤ x5 then ((laws_heldIntS.f k (rd_L1 x0 x5) x1).bind fun t699 => (if t699 < 0 then (some (-1)) else (laws_heldIntSS.l0 k x0 t699 (wrap64 (x5 + 1))))) else (none)) else (some x1)
def laws_heldIntSS.f (k : Nat) (l0 : List (List Int)) (a1 : Int) : Option (Int) := laws_heldIntSS.l0 k l0 a1 0
theorem laws_heldIntSS.mono_l : ∀ k, (∀ y0 y1 y2, LeO (laws_heldIntSS.l0 k y0 y1 y2) (laws_heldIntSS.l0 (k + 1) y0 y1 y2))
  | 0 => fun _ _ _ r h => by simp [laws_heldIntSS.l0] at h
  | k + 1 => by
    have ih0 := laws_heldIntSS.mono_l k
    · intro y0 y1 y2
      unfold laws_heldIntSS.l0
      repeat' first
      | (with_reducible exact ih0 _ _ _)
      | (with_reducible exact laws_heldIntS.mono _ _ _)
      | (with_reducible exact LeO.refl _)
      | (with_reducible exact LeO.none _)
      | (with_reducible refine LeO.ite ?_ ?_)
      | (with_reducible refine LeO.bind ?_ (fun _ => ?_))
      | exact ih0 _ _ _
      | exact laws_heldIntS.mono _ _ _
      | exact LeO.none _
      | refine LeO.ite ?_ ?_
      | refine LeO.bind ?_ (fun _ => ?_)
theorem laws_heldIntSS.mono : ∀ a0 a1 k, LeO (laws_heldIntSS.f k a0 a1) (laws_heldIntSS.f (k + 1) a0 a1) := by
  intro a0 a1 k
  have ih0 := laws_heldIntSS.mono_l k
  unfold laws_heldIntSS.f
  repeat' first
      | (with_reducible exact ih0 _ _ _)
      | (with_reducible exact laws_heldIntS.mono _ _ _)
      | (with_reducible exact LeO.refl _)
      | (with_reducible exact LeO.none _)
      | (with_reducible refine LeO.ite ?_ ?_)
      | (with_reducible refine LeO.bind ?_ (fun _ => ?_))
      | exact ih0 _ _ _
      | exact laws_heldIntS.mono _ _ _
      | exact LeO.none _
      | refine LeO.ite ?_ ?_
      | refine LeO.bind ?_ (fun _ => ?_)
set_option maxHeartbeats 8000000 in
set_option maxRecDepth 100000 in
theorem laws_heldIntSS.calls (k : Nat) (A0 : Option Addr) (c0 : Nat) (l0 : List (List Int)) (a1 : Int) (r : Int) (w : World) (hr0 : Kd.C (Kd.slice 3 (Kd.int .i64)) w A0 l0.length l0) (hc0 : l0.length ≤ c0) (h : laws_heldIntSS.f k l0 a1 = some r) :
    Calls Try.prog 37 #[.slice A0 l0.length c0, .int .i64 a1] w fun e w' => e = .returned (.int .i64 r) ∧ Drawn0 w w' := by
  have HR0 := Aside0.mk hr0
  have HC0 := Aside0.mk hc0
  clear hr0 hc0
  have H : (laws_heldIntSS.l0 k l0 a1 0) = some r := h
  clear h
  have H' := Aside0.mk H
  clear H
  go_enter Try.func37, Try.ntmps37
  go_wp2
  go_loopg [1, 5] k (fun kq v1 v5 w' => ∃ (x1_1 : Int) (x5_1 : Int), v1 = .int .i64 x1_1 ∧ v5 = .int .i64 x5_1 ∧ Aside0 (laws_heldIntSS.l0 kq l0 x1_1 x5_1 = some r) ∧ Aside0 (kq ≤ k) ∧ Drawn0 w w')
  case atStart => exact ⟨(a1), (0), (by first | rfl | (simp; done) | (simp [*]; done)), (by first | rfl | (simp; done) | (simp [*]; done)), H', ⟨Nat.le_refl _⟩, by repeat (first | exact Drawn0.refl _ | apply Drawn0.step)⟩
  case round =>
    clear H'
    try clear p2
    obtain ⟨x1_1, x5_1, rfl, rfl, HA, HK1, ⟨m1, rfl⟩⟩ := hrel
    cases gk with
    | zero => exact absurd HA.out (by simp [laws_heldIntSS.l0])
    | succ k1 =>
      have H := HA.out
      clear HA
      simp only [laws_heldIntSS.l0] at H
      by_cases c3 : x5_1 < (l0.length : Int)
      · rw [if_pos c3] at H
        have c3b0 : decide (x5_1 < (l0.length : Int)) = true := decide_eq_true c3
        clear c3
        by_cases c4 : 0 ≤ x5_1
        · rw [if_pos c4] at H
          have c4b0 : decide (0 ≤ x5_1) = true := decide_eq_true c4
          clear c4
          replace H := Option.bind_eq_some_iff.mp H
          obtain ⟨t699, A50, H⟩ := H
          replace H : (if t699 < 0 then (some (-1)) else (laws_heldIntSS.l0 k1 l0 t699 (wrap64 (x5_1 + 1)))) = some r := H
          have A5 := Aside0.mk A50
          clear A50
          by_cases c6 : t699 < 0
          · rw [if_pos c6] at H
            have c6b0 : decide (t699 < 0) = true := decide_eq_true c6
            clear c6
            obtain rfl := Option.some.inj H
            have p698 : 0 ≤ (x5_1 : Int) := of_decide_eq_true (by first | (with_reducible assumption) | assumption)
            have q698 : x5_1 < (l0.length : Int) := of_decide_eq_true (by first | (with_reducible assumption) | assumption)
            obtain ⟨ad698, A698_0, c698_0, e698, hx698_0, hl698_0, hi698_0⟩ := at_L1 HR0.out x5_1 p698 q698
            cases e698
            have HR698_0 := Aside0.mk hi698_0
            have HC698_0 := Aside0.mk hl698_0
            clear hi698_0 hl698_0
            replace p698 := eq_true p698
            replace q698 := eq_true q698
            go_wp2_with (first | ((with_reducible refine gate_callee (f := 30) rfl ?_); refine goesL_ (some 17) rfl rfl Try.func30 (by kernel_rfl) rfl #[.slice A698_0 (rd_L1 l0 x5_1).length c698_0, .int .i64 x1_1] rfl (by (try simp only [List.map_toArray, List.map_cons, List.map_nil]); first | done | rfl | (simp only [List.length_drop, List.length_take]; rfl)) ?_; (with_reducible refine (laws_heldIntS.calls k1 _ _ (rd_L1 l0 x5_1) x1_1 t699 _ ?side1 ?side2 A5.out).mono ?_); (case side1 => repeat (first | exact HR698_0.out | (with_reducible refine Kd.C_alloc ?_ _) | (with_reducible refine Kd.C_drewN ?_ _) | (with_reducible refine Kd.C_drew ?_))); (case side2 => exact HC698_0.out); rintro e w' ⟨rfl, ⟨nd, rfl⟩⟩; refine ⟨_, rfl, ?_⟩))
            go_ret
            exact ⟨by first | rfl | (simp; done) | (simp [*]; done), by repeat (first | exact Drawn0.refl _ | apply Drawn0.step)⟩
          · rw [if_neg c6] at H
            have c6b0 : decide (t699 < 0) = false := decide_eq_false c6
            clear c6
            have H' := Aside0.mk H
            clear H
            have p698 : 0 ≤ (x5_1 : Int) := of_decide_eq_true (by first | (with_reducible assumption) | assumption)
            have q698 : x5_1 < (l0.length : Int) := of_decide_eq_true (by first | (with_reducible assumption) | assumption)
            obtain ⟨ad698, A698_0, c698_0, e698, hx698_0, hl698_0, hi698_0⟩ := at_L1 HR0.out x5_1 p698 q698
            cases e698
            have HR698_0 := Aside0.mk hi698_0
            have HC698_0 := Aside0.mk hl698_0
            clear hi698_0 hl698_0
            replace p698 := eq_true p698
            replace q698 := eq_true q698
            go_wp2_with (first | ((with_reducible refine gate_callee (f := 30) rfl ?_); refine goesL_ (some 17) rfl rfl Try.func30 (by kernel_rfl) rfl #[.slice A698_0 (rd_L1 l0 x5_1).length c698_0, .int .i64 x1_1] rfl (by (try simp only [List.map_toArray, List.map_cons, List.map_nil]); first | done | rfl | (simp only [List.length_drop, List.length_take]; rfl)) ?_; (with_reducible refine (laws_heldIntS.calls k1 _ _ (rd_L1 l0 x5_1) x1_1 t699 _ ?side1 ?side2 A5.out).mono ?_); (case side1 => repeat (first | exact HR698_0.out | (with_reducible refine Kd.C_alloc ?_ _) | (with_reducible refine Kd.C_drewN ?_ _) | (with_reducible refine Kd.C_drew ?_))); (case side2 => exact HC698_0.out); rintro e w' ⟨rfl, ⟨nd, rfl⟩⟩; refine ⟨_, rfl, ?_⟩))
            go_roundg k1
            case measure => have := HK1.out; omega
            case rel => exact ⟨(t699), (wrap64 (x5_1 + 1)), (by first | rfl | (simp; done) | (simp [*]; done)), (by first | rfl | (simp; done) | (simp [*]; done)), H', ⟨by have := HK1.out; omega⟩, by repeat (first | exact Drawn0.refl _ | apply Drawn0.step)⟩
        · rw [if_neg c4] at H
          exact absurd H (by simp)
      · rw [if_neg c3] at H
        have c3b0 : decide (x5_1 < (l0.length : Int)) = false := decide_eq_false c3
        clear c3
        obtain rfl := Option.some.inj H
        go_wp2
        go_ret
        exact ⟨by first | rfl | (simp; done) | (simp [*]; done), by repeat (first | exact Drawn0.refl _ | apply Drawn0.step)⟩

noncomputable def laws_heldIntSS.L0 (x0 : List (List Int)) (x1 : Int) (x5 : Int) : Option (Int) := lim fun k => laws_heldIntSS.l0 k x0 x1 x5
theorem laws_heldIntSS.L0_lim (x0 : List (List Int)) (x1 : Int) (x5 : Int) : Lim (fun k => laws_heldIntSS.l0 k x0 x1 x5) (laws_heldIntSS.L0 x0 x1 x5) := Lim.of fun k => (laws_heldIntSS.mono_l k) x0 x1 x5
noncomputable def laws_heldIntSS.F (l0 : List (List Int)) (a1 : Int) : Option (Int) := lim fun k => laws_heldIntSS.f k l0 a1
theorem laws_heldIntSS.F_lim (l0 : List (List Int)) (a1 : Int) : Lim (fun k => laws_heldIntSS.f k l0 a1) (laws_heldIntSS.F l0 a1) := Lim.of fun k => laws_heldIntSS.mono l0 a1 k
theorem laws_heldIntSS.L0_eq (x0 : List (List Int)) (x1 : Int) (x5 : Int) : laws_heldIntSS.L0 x0 x1 x5 = (if x5 < (x0.length : Int) then (if 0 ≤ x5 then ((laws_heldIntS.F (rd_L1 x0 x5) x1).bind fun t699 => (if t699 < 0 then (some (-1)) else (laws_heldIntSS.L0 x0 t699 (wrap64 (x5 + 1))))) else (none)) else (some x1)) :=
  Lim.step (f := fun k => (if x5 < (x0.length : Int) then (if 0 ≤ x5 then ((laws_heldIntS.f k (rd_L1 x0 x5) x1).bind fun t699 => (if t699 < 0 then (some (-1)) else (laws_heldIntSS.l0 k x0 t699 (wrap64 (x5 + 1))))) else (none)) else (some x1))) (laws_heldIntSS.L0_lim x0 x1 x5) (fun k => by first | rfl | rw [laws_heldIntSS.l0]) (by
    repeat' first
    | (with_reducible exact Lim.const _)
    | (with_reducible exact laws_heldIntS.F_lim _ _)
    | (with_reducible exact laws_heldIntSS.L0_lim _ _ _)
    | (with_reducible refine Lim.ite ?_ ?_)
    | (with_reducible refine Lim.bind ?_ (fun _ => ?_)))
theorem laws_heldIntSS.F_eq (l0 : List (List Int)) (a1 : Int) : laws_heldIntSS.F l0 a1 = (laws_heldIntSS.L0 l0 a1 0) :=
  Lim.unique (laws_heldIntSS.F_lim l0 a1) (by
    unfold laws_heldIntSS.f
    repeat' first
    | (with_reducible exact Lim.const _)
    | (with_reducible exact laws_heldIntSS.L0_lim _ _ _)
    | (with_reducible refine Lim.ite ?_ ?_)
    | (with_reducible refine Lim.bind ?_ (fun _ => ?_)))

end Go.Proofs.Ytiopjegbggjdcaa.Fn
namespace Go.Proofs.Ytiopjegbggjdcaa.Fn
open Go.RowKit Go.Proofs.YtiopjegbggjdcaaW.PrintWords Go.Proofs.YtiopjegbggjdcaaW.PrintLast Go.Proofs.YtiopjegbggjdcaaW.PrintMore
attribute [local go_sem] max2_int min2_int max_two min_two max_three min_three max_four min_four   -- for this text's walks alone
set_option linter.unusedVariables false
set_option linter.unusedSimpArgs false

/-! ### laws_FnExactBlocksOfSet: function 8 (given) -/
/-- What both sides come to, as the law asks it, over numbers and lists. -/
def laws_FnExactBlocksOfSet.Pure : Prop := ∀ (a0 : Int) (l1 : List Int), (Lit.int .i64 a0).wf = true → l1.length ≤ maxLen → l1.length * 8 ≤ 140737488351232 → (∀ x ∈ l1, (Lit.int .i64 x).wf = true) → l1.length > 1048576 ∨ ∃ (ws : List (List Int)) (wb : Bool) (k1 k2 k3 k4 k5 k6 k7 : Nat) (m1 : Int) (mx : List Int), laws_toIntS.f k1 l1 = some l1 ∧ spec_BlocksOfSet.f k2 a0 l1 = some (ws, wb) ∧ impl_BlocksOfSet.f k3 a0 l1 = some (ws, wb) ∧ laws_eqIntSS.f k4 ws ws = some true ∧ laws_eqIntS.f k5 l1 l1 = some true ∧ laws_markIntS.f k6 l1 1 = some (m1, mx) ∧ 0 ≤ m1 ∧ laws_heldIntSS.f k7 (markSS ws 1) 1 = some (1 + (sumLen ws : Int)) ∧ ws.length < 1000000 ∧ sumLen ws < 1000000000
theorem drawn_below {w w' : World} (h : Drawn0 w w') : Below w.heap.size w w' := by
  obtain ⟨n, rfl⟩ := h
  exact pw_below_drewN (Below.refl _ _) n
set_option maxHeartbeats 8000000 in
set_option maxRecDepth 100000 in
theorem laws_FnExactBlocksOfSet.calls (a0 : Int) (A1 : Option Addr) (c1 : Nat) (l1 : List Int) (ws : List (List Int)) (wb : Bool) (k1 k2 k3 k4 k5 k6 k7 : Nat) (m1 : Int) (mx : List Int) (w : World) (hr : Kd.C (Kd.int .i64) w A1 l1.length l1) (hc : l1.length ≤ c1) (hl : ¬ l1.length > 1048576) (e1 : laws_toIntS.f k1 l1 = some l1) (e2 : spec_BlocksOfSet.f k2 a0 l1 = some (ws, wb)) (e3 : impl_BlocksOfSet.f k3 a0 l1 = some (ws, wb)) (e4 : laws_eqIntSS.f k4 ws ws = some true) (e5 : laws_eqIntS.f k5 l1 l1 = some true) (e6 : laws_markIntS.f k6 l1 1 = some (m1, mx)) (hm1 : 0 ≤ m1) (e7 : laws_heldIntSS.f k7 (markSS ws 1) 1 = some (1 + (sumLen ws : Int))) (hw1 : ws.length < 1000000) (hw2 : sumLen ws < 1000000000) :
    Calls Try.prog 8 #[.int .i64 a0, .slice A1 l1.length c1] w fun e w' => e = .returned (.bool true) ∧ Below w.heap.size w w' := by
  have HR := Aside0.mk hr
  have HC := Aside0.mk hc
  have E1 := Aside0.mk e1
  have E2 := Aside0.mk e2
  have E3 := Aside0.mk e3
  have E4 := Aside0.mk e4
  have E5 := Aside0.mk e5
  have E6 := Aside0.mk e6
  have E7 := Aside0.mk e7
  have HW1 := Aside0.mk hw1
  have HW2 := Aside0.mk hw2
  have b0 : decide ((1048576 : Int) < (l1.length : Int)) = false := decide_eq_false (by omega)
  have b1 : (wb != wb) = false := by simp
  have b2 : decide (m1 < 0) = false := decide_eq_false (by omega)
  obtain ⟨m2, hm2⟩ : ∃ m2 : Int, 1 + (sumLen ws : Int) = m2 := ⟨_, rfl⟩
  have b3 : decide (m2 < 0) = false := decide_eq_false (by omega)
  have b4 : (m2 != m2) = false := by simp
  have HM2 := Aside0.mk hm2
  clear hr hc hl e1 e2 e3 e4 e5 e6 hm1 e7 hw1 hw2 hm2
  go_enter Try.func8, Try.ntmps8
  go_wp2_with (first | ((with_reducible refine gate_callee (f := 21) rfl ?_); refine goesL_ (some 21) rfl rfl Try.func21 (by kernel_rfl) rfl #[.slice A1 l1.length c1] rfl (by (try simp only [List.map_toArray, List.map_cons, List.map_nil]); first | done | rfl) ?_; refine (laws_toIntS.calls k1 A1 c1 l1 l1 w HR.out HC.out E1.out).mono ?_; rintro e w1 ⟨v1, rfl, hv1, hb1⟩; refine ⟨_, rfl, ?_⟩; obtain ⟨B1, d1, q1⟩ := Kd.R_slice hv1; subst q1; have HV1 := Aside0.mk hv1; have HB1 := Aside0.mk hb1; clear hv1 hb1) | ((with_reducible refine gate_callee (f := 33) rfl ?_); refine goesL_ (some 22) rfl rfl Try.func33 (by kernel_rfl) rfl #[.int .i64 a0, .slice B1 l1.length d1] rfl (by (try simp only [List.map_toArray, List.map_cons, List.map_nil]); first | done | rfl) ?_; refine (spec_BlocksOfSet.calls k2 a0 B1 d1 l1 ws wb w1 (Kd.R_reads' HV1.out).2.2 (Kd.R_reads' HV1.out).2.1 E2.out).mono ?_; rintro e w2 ⟨v2, rfl, hv2, hb2⟩; refine ⟨_, rfl, ?_⟩; obtain ⟨B2, d2, q2⟩ := Kd.S_slice hv2; subst q2; have HV2 := Aside0.mk hv2; have HBW2 := Aside0.mk (show Below w.heap.size w w2 from HB1.out.trans (hb2.mono HB1.out.size)); clear hv2 hb2) | ((with_reducible refine gate_callee (f := 21) rfl ?_); refine goesL_ (some 26) rfl rfl Try.func21 (by kernel_rfl) rfl #[.slice A1 l1.length c1] rfl (by (try simp only [List.map_toArray, List.map_cons, List.map_nil]); first | done | rfl) ?_; refine (laws_toIntS.calls k1 A1 c1 l1 l1 w2 (Kd.C_below HR.out HBW2.out) HC.out E1.out).mono ?_; rintro e w3 ⟨v3, rfl, hv3, hb3⟩; refine ⟨_, rfl, ?_⟩; obtain ⟨B3, d3, q3⟩ := Kd.R_slice hv3; subst q3; have HV3 := Aside0.mk hv3; have HB3 := Aside0.mk hb3; clear hv3 hb3) | ((with_reducible refine gate_callee (f := 34) rfl ?_); refine goesL_ (some 30) rfl rfl Try.func34 (by kernel_rfl) rfl #[.int .i64 a0, .slice B3 l1.length d3] rfl (by (try simp only [List.map_toArray, List.map_cons, List.map_nil]); first | done | rfl) ?_; refine (impl_BlocksOfSet.calls k3 a0 B3 d3 l1 ws wb w3 (Kd.R_reads' HV3.out).2.2 (Kd.R_reads' HV3.out).2.1 E3.out).mono ?_; rintro e w4 ⟨v4, rfl, hv4, hb4⟩; refine ⟨_, rfl, ?_⟩; obtain ⟨B4, d4, q4⟩ := Kd.S_slice hv4; subst q4; have HV4 := Aside0.mk hv4; have HB4 := Aside0.mk hb4; have HX4 := Aside0.mk (Kd.R_below HV3.out hb4); have HB24 := Aside0.mk (show Below w2.heap.size w2 w4 from HB3.out.trans (hb4.mono HB3.out.size)); clear hv4 hb4) | ((with_reducible refine gate_callee (f := 35) rfl ?_); refine goesL_ (some 35) rfl rfl Try.func35 (by kernel_rfl) rfl #[.slice B4 ws.length d4, .slice B2 ws.length d2] rfl (by (try simp only [List.map_toArray, List.map_cons, List.map_nil]); first | done | rfl) ?_; refine (laws_eqIntSS.calls k4 B4 d4 ws B2 d2 ws true w4 (Kd.S_reads' HV4.out).2.2 (Kd.S_reads' HV4.out).2.1 (Kd.S_reads' (Kd.S_below HV2.out HB24.out)).2.2 (Kd.S_reads' HV2.out).2.1 E4.out).mono ?_; rintro e w5 ⟨rfl, hd5⟩; refine ⟨_, rfl, ?_⟩; have hb5 := drawn_below hd5; have HV5 := Aside0.mk (Kd.S_below HV4.out hb5); have HX5 := Aside0.mk (Kd.R_below HX4.out hb5); have HB25 := Aside0.mk (show Below w2.heap.size w2 w5 from HB24.out.trans (hb5.mono HB24.out.size)); clear hd5 hb5) | ((with_reducible refine gate_callee (f := 21) rfl ?_); refine goesL_ (some 44) rfl rfl Try.func21 (by kernel_rfl) rfl #[.slice A1 l1.length c1] rfl (by (try simp only [List.map_toArray, List.map_cons, List.map_nil]); first | done | rfl) ?_; refine (laws_toIntS.calls k1 A1 c1 l1 l1 w5 (Kd.C_below HR.out (HBW2.out.trans (HB25.out.mono HBW2.out.size))) HC.out E1.out).mono ?_; rintro e w6 ⟨v6, rfl, hv6, hb6⟩; refine ⟨_, rfl, ?_⟩; obtain ⟨B6, d6, q6⟩ := Kd.R_slice hv6; subst q6; have HV6 := Aside0.mk hv6; have HG6 := Aside0.mk (Kd.S_below HV5.out hb6); have HX6 := Aside0.mk (Kd.R_below HX5.out hb6); have HB26 := Aside0.mk (show Below w2.heap.size w2 w6 from HB25.out.trans (hb6.mono HB25.out.size)); clear hv6 hb6) | ((with_reducible refine gate_callee (f := 24) rfl ?_); refine goesL_ (some 45) rfl rfl Try.func24 (by kernel_rfl) rfl #[.slice B3 l1.length d3, .slice B6 l1.length d6] rfl (by (try simp only [List.map_toArray, List.map_cons, List.map_nil]); first | done | rfl) ?_; refine (laws_eqIntS.calls k5 B3 d3 l1 B6 d6 l1 true w6 (Kd.R_reads' HX6.out).2.2 (Kd.R_reads' HX6.out).2.1 (Kd.R_reads' HV6.out).2.2 (Kd.R_reads' HV6.out).2.1 E5.out).mono ?_; rintro e w7 ⟨rfl, hd7⟩; refine ⟨_, rfl, ?_⟩; have hb7 := drawn_below hd7; have HG7 := Aside0.mk (Kd.S_below HG6.out hb7); have HX7 := Aside0.mk (Kd.R_below HX6.out hb7); have HB27 := Aside0.mk (show Below w2.heap.size w2 w7 from HB26.out.trans (hb7.mono HB26.out.size)); clear hd7 hb7) | ((with_reducible refine gate_callee (f := 25) rfl ?_); refine goesL_ (some 49) rfl rfl Try.func25 (by kernel_rfl) rfl #[.slice B3 l1.length d3, .int .i64 1] rfl (by (try simp only [List.map_toArray, List.map_cons, List.map_nil]); first | done | rfl) ?_; refine (laws_markIntS.calls k6 (fun k_ => some k_ = (.slice B3 l1.length d3 : Value).ownBlock) (.slice B3 l1.length d3) l1 1 m1 mx w2 w7 HB27.out (Kd.R_tight rfl HX7.out) E6.out).mono ?_; rintro e w8 ⟨rfl, hr8, hb8, hk8⟩; refine ⟨_, rfl, ?_⟩; have HG8 := Aside0.mk (show Kd.S (Kd.slice 3 (Kd.int .i64)) 22 w8 w3.heap.size _ (.slice B4 ws.length d4) ws from Kd.S_step (Kd.S_bound HG7.out) (fun k ho hl => hk8.2 k hl (fun e => by have h1 := Kd.R_lt HV3.out k e.symm; have h2 := ho.2.1; omega))); have HB28 := Aside0.mk hb8; clear hr8 hb8 hk8) | (go_at_call 35; refine (laws_eqIntSS.calls k4 B4 d4 ws B2 d2 ws true w8 (Kd.S_reads' HG8.out).2.2 (Kd.S_reads' HG8.out).2.1 (Kd.S_reads' (Kd.S_below HV2.out HB28.out)).2.2 (Kd.S_reads' HV2.out).2.1 E4.out).mono ?_; rintro e w9 ⟨rfl, hd9⟩; have hb9 := drawn_below hd9; have HG9 := Aside0.mk (Kd.S_below HG8.out hb9); have HB29 := Aside0.mk (show Below w2.heap.size w2 w9 from HB28.out.trans (hb9.mono HB28.out.size)); clear hd9 hb9) | ((with_reducible refine gate_callee (f := 36) rfl ?_); refine goesL_ (some 65) rfl rfl Try.func36 (by kernel_rfl) rfl #[.slice B4 ws.length d4, .int .i64 1] rfl (by (try simp only [List.map_toArray, List.map_cons, List.map_nil]); first | done | rfl) ?_; refine (markIntSS_call (.slice B4 ws.length d4) ws 1 _ w2 w9 HB29.out (Kd.S_lower HG9.out HB3.out.size) (by omega) (by have := HW2.out; omega) (by have := HW1.out; omega)).mono ?_; rintro e wa ⟨rfl, hsa, hba⟩; refine ⟨_, rfl, ?_⟩; rw [HM2.out]; have HGa := Aside0.mk (show Kd.S (Kd.slice 3 (Kd.int .i64)) 22 wa w2.heap.size _ (.slice B4 (markSS ws 1).length d4) (markSS ws 1) by rw [markSS_length]; exact hsa); have HB2a := Aside0.mk hba; have HBWa := Aside0.mk (show Below w.heap.size w wa from HBW2.out.trans (hba.mono HBW2.out.size)); clear hsa hba) | ((with_reducible refine gate_callee (f := 37) rfl ?_); refine goesL_ (some 68) rfl rfl Try.func37 (by kernel_rfl) rfl #[.slice B4 ws.length d4, .int .i64 1] rfl (by (try simp only [List.map_toArray, List.map_cons, List.map_nil]); first | done | rfl) ?_; refine (calls_of_args (by rw [markSS_length]) (laws_heldIntSS.calls k7 B4 d4 (markSS ws 1) 1 (1 + (sumLen ws : Int)) wa (Kd.S_reads' HGa.out).2.2 (Kd.S_reads' HGa.out).2.1 E7.out)).mono ?_; rintro e wb1 ⟨rfl, hdb⟩; refine ⟨_, rfl, ?_⟩; rw [HM2.out]; have hbb := drawn_below hdb; have HGb := Aside0.mk (Kd.S_below HGa.out hbb); have HB2b := Aside0.mk (show Below w2.heap.size w2 wb1 from HB2a.out.trans (hbb.mono HB2a.out.size)); clear hdb hbb) | ((with_reducible refine gate_callee (f := 21) rfl ?_); refine goesL_ (some 77) rfl rfl Try.func21 (by kernel_rfl) rfl #[.slice A1 l1.length c1] rfl (by (try simp only [List.map_toArray, List.map_cons, List.map_nil]); first | done | rfl) ?_; refine (laws_toIntS.calls k1 A1 c1 l1 l1 wb1 (Kd.C_below HR.out (HBW2.out.trans (HB2b.out.mono HBW2.out.size))) HC.out E1.out).mono ?_; rintro e wc1 ⟨vc, rfl, hvc, hbc⟩; refine ⟨_, rfl, ?_⟩; obtain ⟨Bc, dc, qc⟩ := Kd.R_slice hvc; subst qc; have HVc := Aside0.mk hvc; have HGc := Aside0.mk (Kd.S_below HGb.out hbc); have HB2c := Aside0.mk (show Below w2.heap.size w2 wc1 from HB2b.out.trans (hbc.mono HB2b.out.size)); clear hvc hbc) | ((with_reducible refine gate_callee (f := 34) rfl ?_); refine goesL_ (some 78) rfl rfl Try.func34 (by kernel_rfl) rfl #[.int .i64 a0, .slice Bc l1.length dc] rfl (by (try simp only [List.map_toArray, List.map_cons, List.map_nil]); first | done | rfl) ?_; refine (impl_BlocksOfSet.calls k3 a0 Bc dc l1 ws wb wc1 (Kd.R_reads' HVc.out).2.2 (Kd.R_reads' HVc.out).2.1 E3.out).mono ?_; rintro e wd ⟨vd, rfl, hvd, hbd⟩; refine ⟨_, rfl, ?_⟩; obtain ⟨Bd, dd, qd⟩ := Kd.S_slice hvd; subst qd; have HVd := Aside0.mk hvd; have HGd := Aside0.mk (Kd.S_below HGc.out hbd); have HB2d := Aside0.mk (show Below w2.heap.size w2 wd from HB2c.out.trans (hbd.mono HB2c.out.size)); clear hvd hbd) | ((with_reducible refine gate_callee (f := 35) rfl ?_); refine goesL_ (some 83) rfl rfl Try.func35 (by kernel_rfl) rfl #[.slice Bd ws.length dd, .slice B2 ws.length d2] rfl (by (try simp only [List.map_toArray, List.map_cons, List.map_nil]); first | done | rfl) ?_; refine (laws_eqIntSS.calls k4 Bd dd ws B2 d2 ws true wd (Kd.S_reads' HVd.out).2.2 (Kd.S_reads' HVd.out).2.1 (Kd.S_reads' (Kd.S_below HV2.out HB2d.out)).2.2 (Kd.S_reads' HV2.out).2.1 E4.out).mono ?_; rintro e we ⟨rfl, hde⟩; refine ⟨_, rfl, ?_⟩; have hbe := drawn_below hde; have HGe := Aside0.mk (Kd.S_below HGd.out hbe); have HB2e := Aside0.mk (show Below w2.heap.size w2 we from HB2d.out.trans (hbe.mono HB2d.out.size)); clear hde hbe) | ((with_reducible refine gate_callee (f := 37) rfl ?_); refine goesL_ (some 92) rfl rfl Try.func37 (by kernel_rfl) rfl #[.slice B4 ws.length d4, .int .i64 1] rfl (by (try simp only [List.map_toArray, List.map_cons, List.map_nil]); first | done | rfl) ?_; refine (calls_of_args (by rw [markSS_length]) (laws_heldIntSS.calls k7 B4 d4 (markSS ws 1) 1 (1 + (sumLen ws : Int)) we (Kd.S_reads' HGe.out).2.2 (Kd.S_reads' HGe.out).2.1 E7.out)).mono ?_; rintro e wf ⟨rfl, hdf⟩; refine ⟨_, rfl, ?_⟩; rw [HM2.out]; have hbf := drawn_below hdf; have HBW9 := Aside0.mk (show Below w.heap.size w wf from HBW2.out.trans ((HB2e.out.trans (hbf.mono HB2e.out.size)).mono HBW2.out.size)); clear hdf hbf))
  go_ret
  exact ⟨rfl, HBW9.out⟩
theorem laws_FnExactBlocksOfSet.big (a0 : Int) (A1 : Option Addr) (c1 : Nat) (l1 : List Int) (w : World) (hl : l1.length > 1048576) :
    Calls Try.prog 8 #[.int .i64 a0, .slice A1 l1.length c1] w fun e w' => e = .returned (.bool true) ∧ Below w.heap.size w w' := by
  have b0 : decide ((1048576 : Int) < (l1.length : Int)) = true := decide_eq_true (by omega)
  clear hl
  go_enter Try.func8, Try.ntmps8
  go_wp2
  go_ret
  exact ⟨rfl, Below.refl _ _⟩
theorem laws_FnExactBlocksOfSet.walk (P : laws_FnExactBlocksOfSet.Pure) (a0 : Int) (a1 : Option Addr) (len1 cap1 : Nat) (z1 : List Int) (w : World) (w0 : (Lit.int .i64 a0).wf = true) (w1 : (a1 = none ∧ len1 = 0 ∧ cap1 = 0 ∧ z1 = []) ∨ ∃ x, a1 = some x ∧ len1 ≤ cap1 ∧ cap1 ≤ maxLen ∧ z1.length = cap1 ∧ (∀ i, i < z1.length → w.cell? (x.add i) = some (.int .i64 (z1.getD i 0))) ∧ ∀ n ∈ z1, (Lit.int .i64 n).wf = true) (y1 : len1 * 8 ≤ 140737488351232) :
    Calls Try.prog 8 #[.int .i64 a0, .slice a1 len1 cap1] w fun e w' => e = .returned (.bool true) ∧ Below w.heap.size w w' := by
  obtain ⟨l1, rfl, hr1, hm1, hw1, hc1⟩ := ReadsInt.ofRowC w1
  rcases P a0 l1 w0 hm1 y1 hw1 with h | ⟨ws, wb, k1, k2, k3, k4, k5, k6, k7, m1, mx, e1, e2, e3, e4, e5, e6, h6, e7, h7, h8⟩
  · exact laws_FnExactBlocksOfSet.big a0 _ _ l1 w h
  · by_cases h : l1.length > 1048576
    · exact laws_FnExactBlocksOfSet.big a0 _ _ l1 w h
    · exact laws_FnExactBlocksOfSet.calls a0 _ _ l1 ws wb k1 k2 k3 k4 k5 k6 k7 m1 mx w (Kd.C_of_reads (d := (0 : Int)) (h1 := fun _ => rfl) hr1) hc1 h e1 e2 e3 e4 e5 e6 h6 e7 h7 h8


end Go.Proofs.Ytiopjegbggjdcaa.Fn
namespace Go.Proofs.Ytiopjegbggjdcaa.Fn
open Go.RowKit Go.Proofs.YtiopjegbggjdcaaW.PrintWords Go.Proofs.YtiopjegbggjdcaaW.PrintLast Go.Proofs.YtiopjegbggjdcaaW.PrintMore
set_option linter.unusedVariables false
set_option linter.unusedSimpArgs false
theorem laws_toIntS.L0_val : ∀ (suf pre junk : List Int), (pre ++ suf).length < 4611686018427387904 → junk.length = suf.length → laws_toIntS.L0 (pre ++ suf) (pre ++ junk) (pre.length : Int) = some (pre ++ suf)
  | [], pre, junk, h, hj => by
    obtain rfl : junk = [] := List.eq_nil_of_length_eq_zero hj
    rw [laws_toIntS.L0_eq, range_end]
  | x :: suf, pre, j :: junk, h, hj => by
    have hj' : junk.length = suf.length := by simpa using hj
    have h1 : (pre.length : Int) < ((pre ++ x :: suf).length : Int) := by rw [List.length_append, List.length_cons]; omega
    have h2 : (pre.length : Int) < ((pre ++ j :: junk).length : Int) := by rw [List.length_append, List.length_cons]; omega
    have ih := laws_toIntS.L0_val suf (pre ++ [x]) junk (by simpa using h) hj'
    rw [laws_toIntS.L0_eq, if_pos h1, if_pos (by omega), if_pos h2, rd_mid, wrap_mid h]
    have e : (pre ++ j :: junk).set ((pre.length : Int)).toNat x = (pre ++ [x]) ++ junk := by simp
    rw [e, app_mid]
    exact ih
theorem laws_toIntS.F_val (l : List Int) (h : l.length ≤ 35184372088832) : laws_toIntS.F l = some l := by
  rw [laws_toIntS.F_eq, if_pos (by omega), if_pos (by simpa using h)]
  have := laws_toIntS.L0_val l [] (List.replicate l.length 0) (by simp; omega) (by simp)
  simpa using this
theorem laws_eqIntS.L0_val : ∀ (sa pre sb : List Int), (pre ++ sa).length < 4611686018427387904 → sa.length = sb.length → laws_eqIntS.L0 (pre ++ sa) (pre ++ sb) (pre.length : Int) = some (decide (sa = sb))
  | [], pre, sb, h, hj => by
    obtain rfl : sb = [] := List.eq_nil_of_length_eq_zero hj.symm
    rw [laws_eqIntS.L0_eq, range_end]
    simp
  | x :: sa, pre, y :: sb, h, hj => by
    have h1 : (pre.length : Int) < ((pre ++ x :: sa).length : Int) := by rw [List.length_append, List.length_cons]; omega
    have h2 : (pre.length : Int) < ((pre ++ y :: sb).length : Int) := by rw [List.length_append, List.length_cons]; omega
    rw [laws_eqIntS.L0_eq, if_pos h1, if_pos (by omega), if_pos h2, rd_mid, rd_mid, wrap_mid h]
    by_cases e : x = y
    · subst e
      rw [if_pos rfl, app_mid pre x sa, app_mid pre x sb, laws_eqIntS.L0_val sa (pre ++ [x]) sb (by simpa using h) (by simpa using hj)]
      simp
    · rw [if_neg e]
      simp [e]
theorem laws_eqIntS.F_val (a b : List Int) (h : a.length < 4611686018427387904) : laws_eqIntS.F a b = some (decide (a = b)) := by
  rw [laws_eqIntS.F_eq]
  by_cases e : (a.length : Int) = (b.length : Int)
  · rw [if_pos e]
    have := laws_eqIntS.L0_val a [] b (by simpa using h) (by omega)
    simpa using this
  · rw [if_neg e]
    have : ¬ a = b := fun hab => e (by rw [hab])
    simp [this]
theorem laws_eqIntS.F_same (a : List Int) (h : a.length < 4611686018427387904) : laws_eqIntS.F a a = some true := by
  rw [laws_eqIntS.F_val a a h]
  simp
/-- The numbers k, k + 1, .., n of them. -/
def marks : Nat → Int → List Int
  | 0, _ => []
  | n + 1, k => k :: marks n (k + 1)
theorem marks_length : ∀ n k, (marks n k).length = n
  | 0, _ => rfl
  | n + 1, k => by simp [marks, marks_length n]
theorem laws_markIntS.L0_val : ∀ (suf pre : List Int) (k : Int), (pre ++ suf).length < 4611686018427387904 → 0 ≤ k → k + suf.length < 4611686018427387904 → laws_markIntS.L0 (pre ++ suf) k (pre.length : Int) = some (k + suf.length, pre ++ marks suf.length k)
  | [], pre, k, h, h0, hk => by
    rw [laws_markIntS.L0_eq, range_end]
    simp [marks]
  | x :: suf, pre, k, h, h0, hk => by
    have h1 : (pre.length : Int) < ((pre ++ x :: suf).length : Int) := by rw [List.length_append, List.length_cons]; omega
    have hk' : k + (suf.length + 1 : Nat) < 4611686018427387904 := by simpa using hk
    rw [laws_markIntS.L0_eq, if_pos h1, if_pos (by omega), wrap_mid h, wrap_in (n := k + 1) (by omega) (by omega)]
    have e : (pre ++ x :: suf).set ((pre.length : Int)).toNat k = (pre ++ [k]) ++ suf := by simp
    have el : ((pre ++ [x]).length : Int) = ((pre ++ [k]).length : Int) := by simp
    rw [e, el, laws_markIntS.L0_val suf (pre ++ [k]) (k + 1) (by simpa using h) (by omega) (by omega)]
    simp [marks]
    omega
theorem laws_markIntS.F_val (l : List Int) (k : Int) (h0 : 0 ≤ k) (hk : k + l.length < 4611686018427387904) : laws_markIntS.F l k = some (k + l.length, marks l.length k) := by
  rw [laws_markIntS.F_eq]
  have := laws_markIntS.L0_val l [] k (by simp; omega) h0 hk
  simpa using this
theorem laws_heldIntS.L0_val : ∀ (n : Nat) (pre : List Int) (k : Int), pre.length + n < 4611686018427387904 → 0 ≤ k → k + n < 4611686018427387904 → laws_heldIntS.L0 (pre ++ marks n k) k (pre.length : Int) = some (k + n)
  | 0, pre, k, h, h0, hk => by
    rw [laws_heldIntS.L0_eq, marks, range_end]
    simp
  | n + 1, pre, k, h, h0, hk => by
    have h1 : (pre.length : Int) < ((pre ++ k :: marks n (k + 1)).length : Int) := by rw [List.length_append, List.length_cons]; omega
    have h2 : (pre ++ k :: marks n (k + 1)).length < 4611686018427387904 := by rw [List.length_append, List.length_cons, marks_length]; omega
    rw [laws_heldIntS.L0_eq, marks, if_pos h1, if_pos (by omega), rd_mid, if_pos rfl, wrap_mid h2, wrap_in (n := k + 1) (by omega) (by omega), app_mid, laws_heldIntS.L0_val n (pre ++ [k]) (k + 1) (by simp; omega) (by omega) (by omega)]
    congr 1
    omega
theorem laws_heldIntS.F_val (n : Nat) (k : Int) (h0 : 0 ≤ k) (hk : k + n < 4611686018427387904) : laws_heldIntS.F (marks n k) k = some (k + n) := by
  rw [laws_heldIntS.F_eq]
  have := laws_heldIntS.L0_val n [] k (by simp; omega) h0 hk
  simpa using this
end Go.Proofs.Ytiopjegbggjdcaa.Fn
namespace Go.Proofs.Ytiopjegbggjdcaa.Fn
open Go.RowKit Go.Proofs.YtiopjegbggjdcaaW.PrintWords Go.Proofs.YtiopjegbggjdcaaW.PrintLast Go.Proofs.YtiopjegbggjdcaaW.PrintMore
set_option linter.unusedVariables false
set_option linter.unusedSimpArgs false
theorem spec_l1In.f_val (a b c : Int) : spec_l1In.f a b c = some (decide (b ≤ a) && decide (a ≤ c)) := by
  unfold spec_l1In.f
  by_cases h : a ≥ b
  · rw [if_pos h]
    simp [show b ≤ a from h]
  · rw [if_neg h]
    simp [show ¬ b ≤ a from h]
theorem spec_l1All.L0_val (a b : Int) : ∀ (suf pre : List Int), (pre ++ suf).length < 4611686018427387904 → spec_l1All.L0 a b (pre ++ suf) ((pre ++ suf).length : Int) (pre.length : Int) = some (suf.all (fun x => decide (a ≤ x) && decide (x ≤ b)))
  | [], pre, h => by
    rw [spec_l1All.L0_eq, range_end]
    simp
  | x :: suf, pre, h => by
    rw [spec_l1All.L0_eq, range_step, rd_mid, wrap_mid h, spec_l1In.f_val]
    simp only [Option.bind_some]
    by_cases h1 : (decide (a ≤ x) && decide (x ≤ b)) = true
    · rw [if_pos h1, app_mid, spec_l1All.L0_val a b suf (pre ++ [x]) (by simpa using h)]
      simp only [List.all_cons, h1, Bool.true_and]
    · rw [if_neg h1]
      simp only [List.all_cons, Bool.not_eq_true] at h1 ⊢
      rw [h1, Bool.false_and]
theorem spec_l1All.F_val (l : List Int) (a b : Int) (h : l.length < 4611686018427387904) : spec_l1All.F l a b = some (l.all (fun x => decide (a ≤ x) && decide (x ≤ b))) := by
  rw [spec_l1All.F_eq]
  have := spec_l1All.L0_val a b l [] (by simpa using h)
  simpa using this
end Go.Proofs.Ytiopjegbggjdcaa.Fn
namespace Go.Proofs.Ytiopjegbggjdcaa.Fn
open Go.RowKit Go.Proofs.YtiopjegbggjdcaaW.PrintWords Go.Proofs.YtiopjegbggjdcaaW.PrintLast Go.Proofs.YtiopjegbggjdcaaW.PrintMore
set_option linter.unusedVariables false
set_option linter.unusedSimpArgs false
theorem impl_isCircle.f_val (v : Int) : impl_isCircle.f v = some (decide (2 ≤ v ∧ v ≤ 31)) := by
  unfold impl_isCircle.f
  by_cases h : v ≥ 2
  · rw [if_pos h]
    congr 1
    rw [decide_eq_decide]
    omega
  · rw [if_neg h]
    congr 1
    rw [eq_comm, decide_eq_false_iff_not]
    omega
/-- Points of a circle, growing. -/
def growing : List Int → Bool
  | [] => true
  | [_] => true
  | x :: y :: l => decide (x < y) && growing (y :: l)
def isCircleSet (v : Int) (l : List Int) : Bool := decide (2 ≤ v ∧ v ≤ 31) && decide (1 ≤ l.length ∧ l.length ≤ 8) && decide ((l.length : Int) < v) && l.all (fun x => decide (0 ≤ x ∧ x < v)) && growing l
theorem isCircleSet_parts {v : Int} {l : List Int} (h : isCircleSet v l = true) : (2 ≤ v ∧ v ≤ 31) ∧ (1 ≤ l.length ∧ l.length ≤ 8) ∧ (l.length : Int) < v ∧ (∀ x ∈ l, 0 ≤ x ∧ x < v) ∧ growing l = true := by
  simp only [isCircleSet, Bool.and_eq_true, decide_eq_true_eq, List.all_eq_true] at h
  obtain ⟨⟨⟨⟨h1, h2⟩, h3⟩, h4⟩, h5⟩ := h
  exact ⟨h1, h2, h3, h4, h5⟩
theorem growing_snoc : ∀ (l : List Int) (x y : Int), growing (l ++ [x, y]) = (growing (l ++ [x]) && decide (x < y))
  | [], x, y => by simp [growing]
  | [z], x, y => by simp [growing]
  | z :: u :: l, x, y => by
    have ih := growing_snoc (u :: l) x y
    simp only [List.cons_append, growing] at ih ⊢
    rw [ih, Bool.and_assoc]
theorem growing_sorted : ∀ (l : List Int), growing l = true → l.Pairwise (· < ·)
  | [], _ => List.Pairwise.nil
  | [x], _ => by simp
  | x :: y :: l, h => by
    simp only [growing, Bool.and_eq_true, decide_eq_true_eq] at h
    have ih := growing_sorted (y :: l) h.2
    refine List.pairwise_cons.2 ⟨fun z hz => ?_, ih⟩
    rcases List.mem_cons.1 hz with rfl | hz
    · exact h.1
    · exact Int.lt_trans h.1 ((List.pairwise_cons.1 ih).1 z hz)
/-- From the place behind pre on: no point out of the circle, none behind a greater one. -/
theorem impl_IsCircleSet.L0_val (v : Int) (l : List Int) (hl : l.length < 4611686018427387904) : ∀ (suf pre : List Int), l = pre ++ suf → growing pre = true → impl_IsCircleSet.L0 v l l (l.length : Int) (pre.length : Int) = some (suf.all (fun x => decide (0 ≤ x ∧ x < v)) && growing l)
  | [], pre, e, hg => by
    subst e
    rw [impl_IsCircleSet.L0_eq, if_neg (by simp)]
    simp [hg]
  | x :: suf, pre, e, hg => by
    have hrd : rd l (pre.length : Int) = x := by rw [e, rd_mid]
    have hlen : pre.length < l.length := by rw [e]; simp
    have hw : wrap64 ((pre.length : Int) + 1) = ((pre ++ [x]).length : Int) := by rw [wrap_in (by omega) (by omega)]; simp
    rw [impl_IsCircleSet.L0_eq, if_pos (by omega), if_pos (by omega), if_pos (by omega), hrd, hw]
    by_cases h1 : x < 0
    · rw [if_pos h1]
      simp [show ¬ (0 ≤ x ∧ x < v) by omega]
    · rw [if_neg h1]
      by_cases h2 : x ≥ v
      · rw [if_pos h2]
        simp [show ¬ (0 ≤ x ∧ x < v) by omega]
      · rw [if_neg h2]
        have h3 : decide (0 ≤ x ∧ x < v) = true := decide_eq_true (by omega)
        rcases List.eq_nil_or_concat pre with hp | ⟨p, y, hp⟩
        · subst hp
          rw [if_neg (by simp), impl_IsCircleSet.L0_val v l hl suf ([] ++ [x]) (by simpa using e) (by simp [growing]), List.all_cons, h3, Bool.true_and]
        · have hp' : pre = p ++ [y] := by simpa using hp
          have hpl : pre.length = p.length + 1 := by rw [hp']; simp
          have hw2 : wrap64 ((pre.length : Int) - 1) = (p.length : Int) := by rw [wrap_in (by omega) (by omega)]; omega
          have hry : rd l (p.length : Int) = y := by rw [e, hp', List.append_assoc, List.singleton_append, rd_mid]
          rw [if_pos (by omega), hw2, if_pos (by omega), if_pos (by omega), hry]
          by_cases h4 : y ≥ x
          · rw [if_pos h4]
            have h5 : growing l = false := by
              rw [Bool.eq_false_iff]
              intro hgl
              have hs := growing_sorted l hgl
              rw [e, hp', List.append_assoc] at hs
              have := (List.pairwise_append.1 hs).2.1
              simp at this
              omega
            rw [h5, Bool.and_false]
          · rw [if_neg h4, impl_IsCircleSet.L0_val v l hl suf (pre ++ [x]) (by rw [e]; simp) (by rw [hp', List.append_assoc]; simp only [List.singleton_append]; rw [growing_snoc, ← hp', hg]; simp; omega), List.all_cons, h3, Bool.true_and]
theorem impl_IsCircleSet.F_val (v : Int) (l : List Int) (h : l.length < 4611686018427387904) : impl_IsCircleSet.F v l = some (isCircleSet v l) := by
  have hL := impl_IsCircleSet.L0_val v l h l [] (by simp) rfl
  rw [impl_IsCircleSet.F_eq, impl_isCircle.f_val]
  simp only [Option.bind_some, impl_IsCircleSet.J0_eq]
  unfold isCircleSet
  by_cases h1 : 2 ≤ v ∧ v ≤ 31
  · rw [if_pos (by simpa using h1), decide_eq_true h1]
    by_cases h2 : (l.length : Int) < 1
    · rw [if_pos h2, if_pos (by trivial), decide_eq_false (show ¬ (1 ≤ l.length ∧ l.length ≤ 8) by omega)]
      simp
    · rw [if_neg h2]
      by_cases h3 : (l.length : Int) > 8
      · rw [if_pos h3, if_pos (by trivial), decide_eq_false (show ¬ (1 ≤ l.length ∧ l.length ≤ 8) by omega)]
        simp
      · rw [if_neg h3, decide_eq_true (show (1 ≤ l.length ∧ l.length ≤ 8) by omega)]
        by_cases h4 : (l.length : Int) ≥ v
        · rw [if_pos (by simpa using h4), decide_eq_false (show ¬ (l.length : Int) < v by omega)]
          simp
        · rw [if_neg (by simpa using h4), decide_eq_true (show (l.length : Int) < v by omega)]
          simpa using hL
  · rw [if_neg (by simpa using h1), if_pos (by trivial), decide_eq_false h1]
    simp
theorem spec_ciGood.L0_val (l : List Int) (hl : l.length < 4611686018427387904) : ∀ (suf pre : List Int) (y : Int), l = pre ++ y :: suf → growing (pre ++ [y]) = true → spec_ciGood.L0 l ((pre.length : Int) + 1) = some (growing l)
  | [], pre, y, e, hg => by
    have hlen : l.length = pre.length + 1 := by rw [e]; simp
    rw [spec_ciGood.L0_eq, if_neg (by omega), e, hg]
  | x :: suf, pre, y, e, hg => by
    have hlen : pre.length + 1 < l.length := by rw [e]; simp
    have hy : rd l (pre.length : Int) = y := by rw [e, rd_mid]
    have hx : rd l ((pre.length : Int) + 1) = x := by
      have h := rd_mid (pre ++ [y]) x suf
      rw [List.length_append, List.length_singleton, List.append_assoc, List.singleton_append, ← e] at h
      rw [← h]
      rfl
    have hw1 : wrap64 ((pre.length : Int) + 1 - 1) = (pre.length : Int) := by rw [wrap_in (by omega) (by omega)]; omega
    have hw2 : wrap64 ((pre.length : Int) + 1 + 1) = ((pre ++ [y]).length : Int) + 1 := by rw [wrap_in (by omega) (by omega)]; simp
    rw [spec_ciGood.L0_eq, if_pos (by omega), hw1, if_pos (by omega), if_pos (by omega), if_pos (by omega), hy, hx, hw2]
    by_cases h4 : y ≥ x
    · rw [if_pos h4]
      have h5 : growing l = false := by
        rw [Bool.eq_false_iff]
        intro hgl
        have hs := growing_sorted l hgl
        rw [e] at hs
        have := (List.pairwise_append.1 hs).2.1
        simp at this
        omega
      rw [h5]
    · rw [if_neg h4, spec_ciGood.L0_val l hl suf (pre ++ [y]) x (by rw [e]; simp) (by rw [List.append_assoc, List.singleton_append, growing_snoc, hg]; simp; omega)]
theorem spec_ciGood.F_val (v : Int) (l : List Int) (h : l.length < 4611686018427387904) : spec_ciGood.F v l = some (isCircleSet v l) := by
  rw [spec_ciGood.F_eq, spec_l1In.f_val, spec_l1In.f_val]
  simp only [Option.bind_some, spec_ciGood.J0_eq]
  unfold isCircleSet
  by_cases h1 : 2 ≤ v ∧ v ≤ 31
  · rw [if_pos (by simpa using h1), decide_eq_true h1]
    by_cases h2 : 1 ≤ l.length ∧ l.length ≤ 8
    · rw [if_pos (by simp; omega), decide_eq_true h2]
      by_cases h4 : (l.length : Int) ≥ v
      · rw [if_pos h4, if_pos (by trivial), decide_eq_false (show ¬ (l.length : Int) < v by omega)]
        simp
      · rw [if_neg h4, decide_eq_true (show (l.length : Int) < v by omega), wrap_in (n := v - 1) (by omega) (by omega), spec_l1All.F_val l 0 (v - 1) h]
        simp only [Option.bind_some]
        have e1 : (l.all fun x => decide (0 ≤ x) && decide (x ≤ v - 1)) = l.all (fun x => decide (0 ≤ x ∧ x < v)) := by
          congr 1
          funext x
          rw [← Bool.decide_and, decide_eq_decide]
          omega
        rw [e1]
        by_cases h5 : l.all (fun x => decide (0 ≤ x ∧ x < v)) = true
        · rw [h5, if_neg (by simp)]
          cases l with
          | nil => simp at h2
          | cons y suf =>
            have := spec_ciGood.L0_val (y :: suf) h suf [] y (by simp) rfl
            simp at this ⊢
            exact this
        · rw [Bool.eq_false_iff.2 h5, if_pos (by simp)]
          simp
    · rw [if_neg (by simp; omega), if_pos (by trivial), decide_eq_false h2]
      simp
  · rw [if_neg (by simp; omega), if_pos (by trivial), decide_eq_false h1]
    simp
/-- The points k times x and m behind. -/
def residues (v k m : Int) (l : List Int) : List Int := l.map fun x => Int.tmod (x * k + m) v
/-- The points of a circle that are in a list, growing. -/
def pointsOf (v : Int) (r : List Int) : List Int := ((List.range v.toNat).map fun n : Nat => (n : Int)).filter fun x => decide (x ∈ r)
theorem sorted_ext : ∀ (a b : List Int), a.Pairwise (· < ·) → b.Pairwise (· < ·) → (∀ x, x ∈ a ↔ x ∈ b) → a = b
  | [], [], _, _, _ => rfl
  | [], y :: b, _, _, h => by have := (h y).2 (by simp); cases this
  | x :: a, [], _, _, h => by have := (h x).1 (by simp); cases this
  | x :: a, y :: b, ha, hb, h => by
    obtain ⟨ha1, ha2⟩ := List.pairwise_cons.1 ha
    obtain ⟨hb1, hb2⟩ := List.pairwise_cons.1 hb
    have hxy : x = y := by
      have h1 := (h x).1 (by simp)
      have h2 := (h y).2 (by simp)
      rcases List.mem_cons.1 h1 with e | h1
      · exact e
      · rcases List.mem_cons.1 h2 with e | h2
        · exact e.symm
        · have := hb1 x h1
          have := ha1 y h2
          omega
    subst hxy
    congr 1
    refine sorted_ext a b ha2 hb2 fun z => ⟨fun hz => ?_, fun hz => ?_⟩
    · rcases List.mem_cons.1 ((h z).1 (by simp [hz])) with e | h1
      · have := ha1 z hz
        omega
      · exact h1
    · rcases List.mem_cons.1 ((h z).2 (by simp [hz])) with e | h1
      · have := hb1 z hz
        omega
      · exact h1
theorem pointsOf_sorted (v : Int) (r : List Int) : (pointsOf v r).Pairwise (· < ·) := by
  unfold pointsOf
  refine List.Pairwise.filter _ ?_
  rw [List.pairwise_map]
  exact List.pairwise_lt_range.imp (fun h => by omega)
theorem mem_pointsOf {v : Int} {r : List Int} (hr : ∀ x ∈ r, 0 ≤ x ∧ x < v) (x : Int) : x ∈ pointsOf v r ↔ x ∈ r := by
  unfold pointsOf
  rw [List.mem_filter, List.mem_map, decide_eq_true_eq]
  constructor
  · exact fun h => h.2
  · intro h
    have := hr x h
    exact ⟨⟨x.toNat, List.mem_range.2 (by omega), by omega⟩, h⟩
theorem residues_bound {v k m : Int} {l : List Int} (hv : 0 < v) (h : ∀ x ∈ l, 0 ≤ x * k + m) : ∀ x ∈ residues v k m l, 0 ≤ x ∧ x < v := by
  intro x hx
  obtain ⟨y, hy, rfl⟩ := List.mem_map.1 hx
  have := h y hy
  exact ⟨Int.tmod_nonneg _ this, Int.tmod_lt_of_pos _ hv⟩
theorem sortInt_sorted {r : List Int} (hn : r.Nodup) : (sortInt r).Pairwise (· < ·) := by
  have h1 : (sortInt r).Pairwise fun x y => decide (x ≤ y) = true := by
    unfold sortInt
    exact List.pairwise_mergeSort (fun a b c h1 h2 => by simp only [decide_eq_true_eq] at h1 h2 ⊢; omega) (fun a b => by simp only [Bool.or_eq_true, decide_eq_true_eq]; omega) r
  have h2 : (sortInt r).Nodup := (List.mergeSort_perm r _).nodup_iff.2 hn
  have h3 := List.Pairwise.and h1 h2
  exact h3.imp (fun h => by
    have a := h.1
    have b := h.2
    simp only [decide_eq_true_eq] at a
    omega)
theorem sortInt_points {v : Int} {r : List Int} (hr : ∀ x ∈ r, 0 ≤ x ∧ x < v) (hn : r.Nodup) : sortInt r = pointsOf v r := by
  refine sorted_ext _ _ (sortInt_sorted hn) (pointsOf_sorted v r) fun x => ?_
  rw [mem_pointsOf hr x]
  exact (List.mergeSort_perm r _).mem_iff
theorem impl_image.L0_val (v k m : Int) (hv : v ≠ 0) (hk : 0 ≤ k ∧ k ≤ 31) (hm : 0 ≤ m ∧ m ≤ 31) : ∀ (suf pre acc : List Int), (∀ x ∈ suf, 0 ≤ x ∧ x ≤ 31) → (pre ++ suf).length ≤ 1000 → acc.length + suf.length ≤ 1000 → impl_image.L0 v k m acc (pre ++ suf) ((pre ++ suf).length : Int) (pre.length : Int) = some (sortInt (acc ++ residues v k m suf))
  | [], pre, acc, hx, h, ha => by
    rw [impl_image.L0_eq, range_end]
    unfold slices_Sort_int_int.f residues
    rw [if_pos (by omega)]
    simp
  | x :: suf, pre, acc, hx, h, ha => by
    have ha' : acc.length + (suf.length + 1) ≤ 1000 := by simpa using ha
    have e : (pre ++ [x]).length = pre.length + 1 := by simp
    have hx1 := hx x (by simp)
    have hp : 0 ≤ x * k ∧ x * k ≤ 31 * 31 := ⟨Int.mul_nonneg hx1.1 hk.1, Int.le_trans (Int.mul_le_mul_of_nonneg_right hx1.2 hk.1) (Int.mul_le_mul_of_nonneg_left hk.2 (by omega))⟩
    have hw : wrap64 (wrap64 (x * k) + m) = x * k + m := by
      generalize x * k = p at hp
      rw [wrap_in (n := p) (by omega) (by omega), wrap_in (by omega) (by omega)]
    rw [impl_image.L0_eq, range_step, rd_mid, wrap_mid (pre := pre) (x := x) (suf := suf) (by omega), app_mid pre x suf, if_neg hv, if_pos (by omega), hw, impl_image.L0_val v k m hv hk hm suf (pre ++ [x]) _ (fun y hy => hx y (by simp [hy])) (by simpa using h) (by simp; omega)]
    simp [residues]
theorem impl_image.F_val (v k m : Int) (l : List Int) (hv : v ≠ 0) (hk : 0 ≤ k ∧ k ≤ 31) (hm : 0 ≤ m ∧ m ≤ 31) (hx : ∀ x ∈ l, 0 ≤ x ∧ x ≤ 31) (hl : l.length ≤ 1000) : impl_image.F v l k m = some (sortInt (residues v k m l)) := by
  rw [impl_image.F_eq]
  have := impl_image.L0_val v k m hv hk hm l [] [] hx (by simpa using hl) (by simpa using hl)
  simpa using this
/-- The points from the x-th on. -/
def pointsFrom (v : Int) (r : List Int) : Nat → Nat → List Int
  | 0, _ => []
  | n + 1, x => if (x : Int) ∈ r then (x : Int) :: pointsFrom v r n (x + 1) else pointsFrom v r n (x + 1)
theorem pointsFrom_eq (v : Int) (r : List Int) : ∀ n x, pointsFrom v r n x = ((List.range' x n).map fun n : Nat => (n : Int)).filter fun x => decide (x ∈ r)
  | 0, x => by simp [pointsFrom]
  | n + 1, x => by
    have ih := pointsFrom_eq v r n (x + 1)
    rw [List.range'_succ]
    by_cases h : (x : Int) ∈ r
    · simp [pointsFrom, h, ih]
    · simp [pointsFrom, h, ih]
theorem spec_ciSet.L1_val (v : Int) (hv : v ≠ 0) (l acc : List Int) (x : Int) (ha : acc.length < 17592186044416) : ∀ (suf pre : List Int), l = pre ++ suf → l.length ≤ 1000 → spec_ciSet.L1 v l acc x l (l.length : Int) (pre.length : Int) = if x ∈ suf.map (fun y => Int.tmod y v) then spec_ciSet.L0 v l (acc ++ [x]) (wrap64 (x + 1)) else spec_ciSet.L0 v l acc (wrap64 (x + 1))
  | [], pre, e, h => by
    rw [spec_ciSet.L1_eq, if_neg (by rw [e]; simp)]
    simp
  | y :: suf, pre, e, h => by
    have hrd : rd l (pre.length : Int) = y := by rw [e, rd_mid]
    have hlen : pre.length < l.length := by rw [e]; simp
    have hw : wrap64 ((pre.length : Int) + 1) = ((pre ++ [y]).length : Int) := by rw [wrap_in (by omega) (by omega)]; simp
    rw [spec_ciSet.L1_eq, if_pos (by omega), if_pos (by omega), if_pos (by omega), if_neg hv, hrd, hw]
    by_cases h1 : Int.tmod y v = x
    · rw [if_pos h1, if_pos ha, if_pos (by simp [h1])]
    · rw [if_neg h1, spec_ciSet.L1_val v hv l acc x ha suf (pre ++ [y]) (by rw [e]; simp) h]
      have h2 : ¬ x = Int.tmod y v := fun e => h1 e.symm
      simp only [List.map_cons, List.mem_cons, h2, false_or]
theorem spec_ciSet.L0_val (v : Int) (hv : 0 < v) (hv2 : v ≤ 1000) (l : List Int) (hl : l.length ≤ 1000) : ∀ (n x : Nat) (acc : List Int), (x : Int) + n = v → acc.length + n ≤ 2000 → spec_ciSet.L0 v l acc (x : Int) = some (acc ++ pointsFrom v (l.map fun y => Int.tmod y v) n x)
  | 0, x, acc, hx, ha => by
    rw [spec_ciSet.L0_eq, if_neg (by omega)]
    simp [pointsFrom]
  | n + 1, x, acc, hx, ha => by
    have hw : wrap64 ((x : Int) + 1) = ((x + 1 : Nat) : Int) := by rw [wrap_in (by omega) (by omega)]; rfl
    have h1 := spec_ciSet.L1_val v (by omega) l acc (x : Int) (by omega) l [] (by simp) hl
    rw [spec_ciSet.L0_eq, if_pos (by omega)]
    simp only [List.length_nil, Int.ofNat_zero, Int.natCast_zero] at h1
    rw [h1, hw]
    by_cases h2 : (x : Int) ∈ l.map fun y => Int.tmod y v
    · rw [if_pos h2, spec_ciSet.L0_val v hv hv2 l hl n (x + 1) _ (by omega) (by simp; omega)]
      simp only [pointsFrom, if_pos h2, List.append_assoc, List.singleton_append]
    · rw [if_neg h2, spec_ciSet.L0_val v hv hv2 l hl n (x + 1) _ (by omega) (by omega)]
      simp only [pointsFrom, if_neg h2]
theorem spec_ciSet.F_val (v : Int) (hv : 0 < v) (hv2 : v ≤ 1000) (l : List Int) (hl : l.length ≤ 1000) : spec_ciSet.F v l = some (pointsOf v (l.map fun y => Int.tmod y v)) := by
  rw [spec_ciSet.F_eq]
  have := spec_ciSet.L0_val v hv hv2 l hl v.toNat 0 [] (by omega) (by simp; omega)
  rw [pointsFrom_eq] at this
  unfold pointsOf
  rw [List.range_eq_range']
  simpa using this
theorem spec_ciMove.L0_val (v m : Int) (hv : 0 < v) (hv2 : v ≤ 1000) (hm : 0 ≤ m ∧ m ≤ 31) : ∀ (suf pre acc : List Int), (∀ x ∈ suf, 0 ≤ x ∧ x ≤ 31) → (pre ++ suf).length ≤ 1000 → acc.length + suf.length ≤ 1000 → spec_ciMove.L0 v m acc (pre ++ suf) ((pre ++ suf).length : Int) (pre.length : Int) = some (pointsOf v ((acc ++ suf.map (· + m)).map fun y => Int.tmod y v))
  | [], pre, acc, hx, h, ha => by
    rw [spec_ciMove.L0_eq, range_end, spec_ciSet.F_val v hv hv2 acc (by omega)]
    simp
  | x :: suf, pre, acc, hx, h, ha => by
    have ha' : acc.length + (suf.length + 1) ≤ 1000 := by simpa using ha
    have e : (pre ++ [x]).length = pre.length + 1 := by simp
    have hx1 := hx x (by simp)
    rw [spec_ciMove.L0_eq, range_step, rd_mid, wrap_mid (pre := pre) (x := x) (suf := suf) (by omega), app_mid pre x suf, if_pos (by omega), wrap_in (n := x + m) (by omega) (by omega), spec_ciMove.L0_val v m hv hv2 hm suf (pre ++ [x]) _ (fun y hy => hx y (by simp [hy])) (by simpa using h) (by simp; omega)]
    simp
theorem spec_ciMove.F_val (v m : Int) (l : List Int) (hv : 0 < v) (hv2 : v ≤ 1000) (hm : 0 ≤ m ∧ m ≤ 31) (hx : ∀ x ∈ l, 0 ≤ x ∧ x ≤ 31) (hl : l.length ≤ 1000) : spec_ciMove.F v l m = some (pointsOf v (residues v 1 m l)) := by
  rw [spec_ciMove.F_eq]
  have := spec_ciMove.L0_val v m hv hv2 hm l [] [] hx (by simpa using hl) (by simpa using hl)
  simp only [List.nil_append, List.map_map, List.length_nil] at this
  rw [show residues v 1 m l = l.map ((fun y => Int.tmod y v) ∘ (· + m)) by simp [residues, Function.comp_def]]
  simpa using this
/-- Points apart stay apart, moved or times what has no common divisor with v. -/
theorem residues_nodup {v k m : Int} {l : List Int} (hv : 0 < v) (hk : 0 ≤ k) (hm : 0 ≤ m) (hx : ∀ x ∈ l, 0 ≤ x ∧ x < v) (hs : l.Pairwise (· < ·)) (hg : Nat.gcd v.toNat k.toNat = 1) : (residues v k m l).Nodup := by
  unfold residues
  rw [List.Nodup, List.pairwise_map]
  refine List.Pairwise.imp_of_mem ?_ hs
  intro x y hxm hym hlt he
  have h1 := hx x hxm
  have h2 := hx y hym
  obtain ⟨a, rfl⟩ : ∃ a : Nat, x = a := ⟨x.toNat, by omega⟩
  obtain ⟨b, rfl⟩ : ∃ b : Nat, y = b := ⟨y.toNat, by omega⟩
  obtain ⟨n, rfl⟩ : ∃ n : Nat, v = n := ⟨v.toNat, by omega⟩
  obtain ⟨c, rfl⟩ : ∃ c : Nat, k = c := ⟨k.toNat, by omega⟩
  obtain ⟨d, rfl⟩ : ∃ d : Nat, m = d := ⟨m.toNat, by omega⟩
  have he2 : (a * c + d) % n = (b * c + d) % n := by
    have e1 : ((a : Int) * c + d) = ((a * c + d : Nat) : Int) := by simp
    have e2 : ((b : Int) * c + d) = ((b * c + d : Nat) : Int) := by simp
    rw [e1, e2, ← Int.ofNat_tmod, ← Int.ofNat_tmod] at he
    exact Int.ofNat.inj he
  have hab : a < b := by omega
  have hd : n ∣ (b * c + d) - (a * c + d) := Nat.dvd_of_mod_eq_zero (Nat.sub_mod_eq_zero_of_mod_eq he2.symm)
  have hd2 : n ∣ (b - a) * c := by
    rw [Nat.sub_mul]
    have e : b * c - a * c = (b * c + d) - (a * c + d) := by omega
    rw [e]
    exact hd
  have hd3 : n ∣ b - a := Nat.Coprime.dvd_of_dvd_mul_right (by simpa [Nat.Coprime] using hg) hd2
  have := Nat.le_of_dvd (by omega) hd3
  omega
/-- A set moved, a set's multiple. -/
def movedSet (v : Int) (l : List Int) (m : Int) : List Int := pointsOf v (residues v 1 m l)
def timesSet (v : Int) (l : List Int) (k : Int) : List Int := pointsOf v (residues v k 0 l)
def isMult (v : Int) (l : List Int) (m : Nat) : Bool := decide (Nat.gcd v.toNat m = 1) && (List.range' 0 v.toNat).any fun n : Nat => decide (timesSet v l m = movedSet v l n)
def multsFrom (v : Int) (l : List Int) : Nat → Nat → List Int
  | 0, _ => []
  | n + 1, m => if isMult v l m = true then (m : Int) :: multsFrom v l n (m + 1) else multsFrom v l n (m + 1)
theorem multsFrom_step {v : Int} {l : List Int} {n m : Nat} {b : Bool} (e : isMult v l m = b) : multsFrom v l (n + 1) m = if b = true then (m : Int) :: multsFrom v l n (m + 1) else multsFrom v l n (m + 1) := by
  subst e
  rfl
theorem isMult_gcd {v : Int} {l : List Int} {m : Nat} (h : Nat.gcd v.toNat m = 1) : isMult v l m = (List.range' 0 v.toNat).any fun n : Nat => decide (timesSet v l m = movedSet v l n) := by
  unfold isMult
  rw [decide_eq_true h, Bool.true_and]
theorem isMult_no {v : Int} {l : List Int} {m : Nat} (h : ¬ Nat.gcd v.toNat m = 1) : isMult v l m = false := by
  unfold isMult
  rw [decide_eq_false h, Bool.false_and]
def multipliersOf (v : Int) (l : List Int) : List Int × Bool := if isCircleSet v l = true then (multsFrom v l (v - 1).toNat 1, true) else ([], false)
theorem multsFrom_len (v : Int) (l : List Int) : ∀ n m, (multsFrom v l n m).length ≤ n
  | 0, _ => Nat.le_refl _
  | n + 1, m => by
    have := multsFrom_len v l n (m + 1)
    unfold multsFrom
    split
    · simp; omega
    · omega
theorem multipliersOf_len (v : Int) (l : List Int) : (multipliersOf v l).1.length ≤ 31 := by
  unfold multipliersOf
  split
  · rename_i h
    have h1 := (isCircleSet_parts h).1
    have := multsFrom_len v l (v - 1).toNat 1
    simp only
    omega
  · simp
theorem pointsOf_len (v : Int) (r : List Int) : (pointsOf v r).length ≤ v.toNat := by
  unfold pointsOf
  refine Nat.le_trans (List.length_filter_le _ _) ?_
  simp
theorem image_moved {v : Int} {l : List Int} (h : isCircleSet v l = true) (m : Nat) (hm : (m : Int) < v) : impl_image.F v l 1 m = some (movedSet v l m) := by
  obtain ⟨h1, h2, h3, h4, h5⟩ := isCircleSet_parts h
  rw [impl_image.F_val v 1 m l (by omega) (by omega) (by omega) (fun x hx => by have := h4 x hx; omega) (by omega), sortInt_points (residues_bound (by omega) (fun x hx => by have := h4 x hx; omega)) (residues_nodup (by omega) (by omega) (by omega) h4 (growing_sorted l h5) (by simp))]
  rfl
theorem image_times {v : Int} {l : List Int} (h : isCircleSet v l = true) (k : Nat) (hk : (k : Int) < v) (hg : Nat.gcd v.toNat k = 1) : impl_image.F v l k 0 = some (timesSet v l k) := by
  obtain ⟨h1, h2, h3, h4, h5⟩ := isCircleSet_parts h
  rw [impl_image.F_val v k 0 l (by omega) (by omega) (by omega) (fun x hx => by have := h4 x hx; omega) (by omega), sortInt_points (residues_bound (by omega) (fun x hx => by have := h4 x hx; have := Int.mul_nonneg this.1 (Int.natCast_nonneg k); omega)) (residues_nodup (by omega) (by omega) (by omega) h4 (growing_sorted l h5) (by simpa using hg))]
  rfl
end Go.Proofs.Ytiopjegbggjdcaa.Fn
namespace Go.Proofs.Ytiopjegbggjdcaa.Fn
open Go.RowKit Go.Proofs.YtiopjegbggjdcaaW.PrintWords Go.Proofs.YtiopjegbggjdcaaW.PrintLast Go.Proofs.YtiopjegbggjdcaaW.PrintMore
set_option linter.unusedVariables false
set_option linter.unusedSimpArgs false
theorem markL_marks : ∀ n k, markL n k = marks n k
  | 0, _ => rfl
  | n + 1, k => by rw [markL, marks, markL_marks n (k + 1)]
theorem markSS_get : ∀ (l : List (List Int)) (k : Int) (j : Nat) (row : List Int), l[j]? = some row → (markSS l k)[j]? = some (marks row.length (k + (sumLen (l.take j) : Int)))
  | [], k, j, row, h => by simp at h
  | r :: l, k, 0, row, h => by
    have : r = row := by simpa using h
    subst this
    simp [markSS, sumLen, markL_marks]
  | r :: l, k, j + 1, row, h => by
    have ih := markSS_get l (k + r.length) j row (by simpa using h)
    simp only [markSS, List.getElem?_cons_succ, ih, List.take_succ_cons, sumLen, List.map_cons, List.sum_cons]
    congr 2
    omega
theorem laws_eqIntSS.L0_same (xs : List (List Int)) (hl : xs.length < 4611686018427387904) (hx : ∀ x ∈ xs, x.length < 4611686018427387904) : ∀ (m j : Nat), j + m = xs.length → laws_eqIntSS.L0 xs xs (j : Int) = some true
  | 0, j, hj => by rw [laws_eqIntSS.L0_eq, if_neg (by omega)]
  | m + 1, j, hj => by
    have e : rd_L1 xs (j : Int) = xs[j]'(by omega) := by unfold rd_L1; rw [Int.toNat_natCast, List.getD_eq_getElem?_getD, List.getElem?_eq_getElem (by omega)]; rfl
    rw [laws_eqIntSS.L0_eq, if_pos (by omega), if_pos (by omega), if_pos (by omega), e, laws_eqIntS.F_same _ (hx _ (List.getElem_mem _))]
    simp only [Option.bind_some, if_true]
    rw [show wrap64 ((j : Int) + 1) = ((j + 1 : Nat) : Int) by rw [wrap_in (by omega) (by omega)]; rfl, laws_eqIntSS.L0_same xs hl hx m (j + 1) (by omega)]
theorem laws_eqIntSS.F_same (xs : List (List Int)) (hl : xs.length < 4611686018427387904) (hx : ∀ x ∈ xs, x.length < 4611686018427387904) : laws_eqIntSS.F xs xs = some true := by
  rw [laws_eqIntSS.F_eq, if_pos rfl]
  exact laws_eqIntSS.L0_same xs hl hx xs.length 0 (by omega)
theorem laws_heldIntSS.L0_val (l : List (List Int)) (k : Int) (h0 : 0 ≤ k) (hk : k + (sumLen l : Int) < 4611686018427387904) (hl : l.length < 4611686018427387904) : ∀ (m j : Nat), j + m = l.length → laws_heldIntSS.L0 (markSS l k) (k + (sumLen (l.take j) : Int)) (j : Int) = some (k + (sumLen l : Int))
  | 0, j, hj => by
    rw [laws_heldIntSS.L0_eq, markSS_length, if_neg (by omega), List.take_of_length_le (by omega)]
  | m + 1, j, hj => by
    obtain ⟨row, hrow⟩ : ∃ row, l[j]? = some row := ⟨_, List.getElem?_eq_getElem (by omega)⟩
    have e : rd_L1 (markSS l k) (j : Int) = marks row.length (k + (sumLen (l.take j) : Int)) := by
      unfold rd_L1
      rw [Int.toNat_natCast, List.getD_eq_getElem?_getD, markSS_get l k j row hrow]
      rfl
    have htake : l.take (j + 1) = l.take j ++ [row] := by
      rw [List.take_add_one, hrow]
      rfl
    have hle := sumLen_take l (j + 1)
    have hs : sumLen (l.take (j + 1)) = sumLen (l.take j) + row.length := by rw [htake, sumLen_snoc]
    rw [laws_heldIntSS.L0_eq, markSS_length, if_pos (by omega), if_pos (by omega), e, laws_heldIntS.F_val row.length _ (by omega) (by omega)]
    simp only [Option.bind_some]
    rw [if_neg (by omega), show wrap64 ((j : Int) + 1) = ((j + 1 : Nat) : Int) by rw [wrap_in (by omega) (by omega)]; rfl, show k + (sumLen (l.take j) : Int) + (row.length : Int) = k + (sumLen (l.take (j + 1)) : Int) by omega, laws_heldIntSS.L0_val l k h0 hk hl m (j + 1) (by omega)]
theorem laws_heldIntSS.F_val (l : List (List Int)) (k : Int) (h0 : 0 ≤ k) (hk : k + (sumLen l : Int) < 4611686018427387904) (hl : l.length < 4611686018427387904) : laws_heldIntSS.F (markSS l k) k = some (k + (sumLen l : Int)) := by
  rw [laws_heldIntSS.F_eq]
  have := laws_heldIntSS.L0_val l k h0 hk hl l.length 0 (by omega)
  simpa [sumLen] using this
theorem sumLen_le (n : Nat) : ∀ (l : List (List Int)), (∀ x ∈ l, x.length ≤ n) → sumLen l ≤ l.length * n
  | [], _ => by simp [sumLen]
  | x :: l, h => by
    have ih := sumLen_le n l (fun y hy => h y (by simp [hy]))
    have hx := h x (by simp)
    have e : sumLen (x :: l) = x.length + sumLen l := by simp [sumLen]
    rw [e, List.length_cons, Nat.succ_mul]
    omega
end Go.Proofs.Ytiopjegbggjdcaa.Fn
namespace Go.Proofs.Ytiopjegbggjdcaa.Fn
open Go.RowKit Go.Proofs.YtiopjegbggjdcaaW.PrintWords Go.Proofs.YtiopjegbggjdcaaW.PrintLast Go.Proofs.YtiopjegbggjdcaaW.PrintMore
set_option linter.unusedVariables false
set_option linter.unusedSimpArgs false
def blocksFrom (v : Int) (l : List Int) : Nat → Nat → List (List Int)
  | 0, _ => []
  | n + 1, k => movedSet v l k :: blocksFrom v l n (k + 1)
def blocksOf (v : Int) (l : List Int) : List (List Int) × Bool := if isCircleSet v l = true then (blocksFrom v l v.toNat 0, true) else ([], false)
theorem blocksFrom_len (v : Int) (l : List Int) : ∀ n k, (blocksFrom v l n k).length = n
  | 0, _ => rfl
  | n + 1, k => by simp [blocksFrom, blocksFrom_len v l n]
theorem blocksFrom_mem (v : Int) (l : List Int) : ∀ n k x, x ∈ blocksFrom v l n k → x.length ≤ v.toNat
  | 0, _, x, h => by simp [blocksFrom] at h
  | n + 1, k, x, h => by
    rcases List.mem_cons.1 h with rfl | h
    · exact pointsOf_len v _
    · exact blocksFrom_mem v l n (k + 1) x h
theorem spec_BlocksOfSet.L0_val {v : Int} {l : List Int} (h : isCircleSet v l = true) : ∀ (n k : Nat) (acc : List (List Int)), (k : Int) + n = v → acc.length + n ≤ 1000 → spec_BlocksOfSet.L0 v l acc (k : Int) = some (acc ++ blocksFrom v l n k, true)
  | 0, k, acc, hk, ha => by
    rw [spec_BlocksOfSet.L0_eq, if_neg (by omega)]
    simp [blocksFrom]
  | n + 1, k, acc, hk, ha => by
    obtain ⟨h1, h2, h3, h4, h5⟩ := isCircleSet_parts h
    rw [spec_BlocksOfSet.L0_eq, if_pos (by omega), spec_ciMove.F_val v k l (by omega) (by omega) (by omega) (fun x hx => by have := h4 x hx; omega) (by omega)]
    simp only [Option.bind_some]
    rw [if_pos (by omega), show wrap64 ((k : Int) + 1) = ((k + 1 : Nat) : Int) by rw [wrap_in (by omega) (by omega)]; rfl, spec_BlocksOfSet.L0_val h n (k + 1) _ (by omega) (by simp; omega)]
    simp [blocksFrom, movedSet]
theorem spec_BlocksOfSet.F_val (v : Int) (l : List Int) (hl : l.length < 4611686018427387904) : spec_BlocksOfSet.F v l = some (blocksOf v l) := by
  rw [spec_BlocksOfSet.F_eq, spec_ciGood.F_val v l hl]
  simp only [Option.bind_some]
  unfold blocksOf
  by_cases h : isCircleSet v l = true
  · have h1 := (isCircleSet_parts h).1
    rw [if_pos h, if_pos h]
    have := spec_BlocksOfSet.L0_val h v.toNat 0 [] (by omega) (by simp; omega)
    simpa using this
  · rw [if_neg h, if_neg h]
theorem impl_BlocksOfSet.L0_val {v : Int} {l : List Int} (h : isCircleSet v l = true) : ∀ (n k : Nat) (acc : List (List Int)), (k : Int) + n = v → acc.length + n ≤ 1000 → impl_BlocksOfSet.L0 v l acc v (k : Int) = some (acc ++ blocksFrom v l n k, true)
  | 0, k, acc, hk, ha => by
    rw [impl_BlocksOfSet.L0_eq, if_neg (by omega)]
    simp [blocksFrom]
  | n + 1, k, acc, hk, ha => by
    have h1 := (isCircleSet_parts h).1
    rw [impl_BlocksOfSet.L0_eq, if_pos (by omega), image_moved h k (by omega)]
    simp only [Option.bind_some]
    rw [if_pos (by omega), show wrap64 ((k : Int) + 1) = ((k + 1 : Nat) : Int) by rw [wrap_in (by omega) (by omega)]; rfl, impl_BlocksOfSet.L0_val h n (k + 1) _ (by omega) (by simp; omega)]
    simp [blocksFrom]
theorem impl_BlocksOfSet.F_val (v : Int) (l : List Int) (hl : l.length < 4611686018427387904) : impl_BlocksOfSet.F v l = some (blocksOf v l) := by
  rw [impl_BlocksOfSet.F_eq, impl_IsCircleSet.F_val v l hl]
  simp only [Option.bind_some]
  unfold blocksOf
  by_cases h : isCircleSet v l = true
  · have h1 := (isCircleSet_parts h).1
    rw [if_pos h, if_pos h]
    have := impl_BlocksOfSet.L0_val h v.toNat 0 [] (by omega) (by simp; omega)
    simpa using this
  · rw [if_neg h, if_neg h]
end Go.Proofs.Ytiopjegbggjdcaa.Fn
namespace Go.Proofs.Ytiopjegbggjdcaa.Pure
open Go.RowKit Go.Proofs.Ytiopjegbggjdcaa.Fn Go.Proofs.YtiopjegbggjdcaaW.PrintWords Go.Proofs.YtiopjegbggjdcaaW.PrintLast Go.Proofs.YtiopjegbggjdcaaW.PrintMore
set_option linter.unusedVariables false
set_option linter.unusedSimpArgs false
theorem FnExactBlocksOfSet : laws_FnExactBlocksOfSet.Pure := by
  intro a0 l1 _ _ _ _
  by_cases h0 : l1.length > 1048576
  · exact .inl h0
  · obtain ⟨k1, e1⟩ := Lim.rounds (laws_toIntS.F_lim l1) (laws_toIntS.F_val l1 (by omega))
    obtain ⟨k2, e2⟩ := Lim.rounds (spec_BlocksOfSet.F_lim a0 l1) (spec_BlocksOfSet.F_val a0 l1 (by omega))
    obtain ⟨k3, e3⟩ := Lim.rounds (impl_BlocksOfSet.F_lim a0 l1) (impl_BlocksOfSet.F_val a0 l1 (by omega))
    have hb : (blocksOf a0 l1).1.length ≤ 31 ∧ ∀ x ∈ (blocksOf a0 l1).1, x.length ≤ 31 := by
      unfold blocksOf
      by_cases h : isCircleSet a0 l1 = true
      · have h1 := (isCircleSet_parts h).1
        rw [if_pos h]
        exact ⟨by rw [blocksFrom_len]; omega, fun x hx => by have := blocksFrom_mem _ _ _ _ x hx; omega⟩
      · rw [if_neg h]
        exact ⟨by simp, fun x hx => by cases hx⟩
    generalize blocksOf a0 l1 = p at e2 e3 hb
    obtain ⟨ws, wb⟩ := p
    obtain ⟨hb1, hb2⟩ := hb
    have hs := sumLen_le 31 ws hb2
    have hs2 : ws.length * 31 ≤ 31 * 31 := Nat.mul_le_mul_right 31 hb1
    have hsum : sumLen ws ≤ 961 := Nat.le_trans hs hs2
    obtain ⟨k4, e4⟩ := Lim.rounds (laws_eqIntSS.F_lim ws ws) (laws_eqIntSS.F_same ws (by omega) (fun x hx => by have := hb2 x hx; omega))
    obtain ⟨k5, e5⟩ := Lim.rounds (laws_eqIntS.F_lim l1 l1) (laws_eqIntS.F_same l1 (by omega))
    obtain ⟨k6, e6⟩ := Lim.rounds (laws_markIntS.F_lim l1 1) (laws_markIntS.F_val l1 1 (by omega) (by omega))
    obtain ⟨k7, e7⟩ := Lim.rounds (laws_heldIntSS.F_lim (markSS ws 1) 1) (laws_heldIntSS.F_val ws 1 (by omega) (by omega) (by omega))
    exact .inr ⟨ws, wb, k1, k2, k3, k4, k5, k6, k7, _, _, e1, e2, e3, e4, e5, e6, by omega, e7, by omega, by omega⟩
end Go.Proofs.Ytiopjegbggjdcaa.Pure
