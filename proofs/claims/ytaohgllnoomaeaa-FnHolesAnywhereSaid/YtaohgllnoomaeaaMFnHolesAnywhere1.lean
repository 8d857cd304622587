/- The machine's side and plain lemmas for FnHolesAnywhere: texts of this session, merged by its program (part 1). -/
import Derived.Laws.Rows
import Derived.Lib.SliceRun
import Derived.Sort.OwnSortedInts
import Derived.Test.YtaohgllnoomaeaaShelf
import Derived.Test.YtaohgllnoomaeaaMFnHolesAnywhere0
namespace Go.Proofs.Ytaohgllnoomaeaa.Fn
open Go.RowKit Go.Proofs.YtaohgllnoomaeaaW.PrintWords Go.Proofs.YtaohgllnoomaeaaW.PrintLast Go.Proofs.YtaohgllnoomaeaaW.PrintMore
attribute [local go_sem] max2_int min2_int max_two min_two max_three min_three max_four min_four   -- for this text's walks alone
set_option linter.unusedVariables false
set_option linter.unusedSimpArgs false

/-! ### impl_rows: function 237 (given) -/
/-! ### rows: three rows are made, and filled -/
theorem zeros_rd (n j : Nat) : rd (List.replicate n (0 : Int)) (j : Int) = 0 := by
 unfold rd
 rw [Int.toNat_natCast, List.getD_eq_getElem?_getD, List.getElem?_replicate]
 split <;> rfl
/-- The row before it is filled: all places free, but the hole. -/
def rowStart (places : Nat) (hole : Int) : List Int := if 0 ≤ hole then (List.replicate places (-1)).set hole.toNat 0 else List.replicate places (-1)
theorem rowStart_len (places : Nat) (hole : Int) : (rowStart places hole).length = places := by
 unfold rowStart
 split <;> simp
/-- What rows does with the function that it calls. -/
def rowsRun (places n : Nat) (d shift hole : Int) {σ : Type} (each : σ → List Int → Option (σ × Bool)) (s : σ) : Option (σ × Bool) := fillF each (List.replicate places 0) shift (places + 1) s (rowStart places hole) (numbersUp d n)
set_option maxHeartbeats 16000000 in
set_option maxRecDepth 100000 in
theorem rows_call {σ : Type} {base : Nat} {fid : FuncId} {ecaps : Array Value} {each : σ → List Int → Option (σ × Bool)} {I : (Nat → Prop) → σ → World → Prop} (places n : Nat) (d shift hole : Int) (s s' : σ) (b : Bool) (w : World) (hp : places ≤ 100) (hn : n ≤ 100) (hd : 0 ≤ d ∧ d ≤ 100) (hs : 0 ≤ shift ∧ shift ≤ 1) (hh : -1 ≤ hole ∧ hole < places) (hbase : base ≤ w.heap.size)
  (hE : ∀ X : Nat → Prop, (∀ k, X k → w.heap.size ≤ k) → EachOk base X fid ecaps each (I X)) (hI : ∀ (X : Nat → Prop) w', Below w.heap.size w w' → (∀ k, X k → w.heap.size ≤ k ∧ k < w'.heap.size) → I X s w')
  (h : rowsRun places n d shift hole each s = some (s', b)) :
  Calls Try.prog 237 #[.int .i64 (places : Int), .int .i64 (n : Int), .int .i64 d, .int .i64 shift, .int .i64 hole, .func (.func fid) #[] ecaps] w fun e w' => e = .returned (.tuple #[]) ∧ (∃ X : Nat → Prop, (∀ k, X k → w.heap.size ≤ k) ∧ I X s' w') ∧ Below base w w' := by
 have HP := Aside0.mk hp
 have HN := Aside0.mk hn
 have HD := Aside0.mk hd
 have HS := Aside0.mk hs
 have HH := Aside0.mk hh
 have HBASE := Aside0.mk hbase
 have HE := Aside0.mk hE
 have HI := Aside0.mk hI
 have HF := Aside0.mk h
 clear hs hbase hE hI h hd hh
 go_enter Try.func237, Try.ntmps237
 go_upto_region 0 with (fail)
 go_cut [12, 13] (fun v12 v13 wc => ∃ gr gl : Nat, v12 = .slice (some ⟨gr, 0, none⟩) places places ∧ v13 = .slice (some ⟨gl, 0, none⟩) n n ∧ gr ≠ gl ∧ Aside0 (IB wc gr (List.replicate places 0)) ∧ Aside0 (IB wc gl (List.replicate n 0)) ∧ Aside0 (Below w.heap.size w wc) ∧ w.heap.size ≤ gr ∧ w.heap.size ≤ gl)
 case first =>
  refine start_ (n := 6) (S := fun _ => True) (ds := []) #[false, false, false, false, false, false] (by kernel_rfl) rfl rfl trivial (fun hHeld => ?_)
  have HB1 := Aside0.mk (below_drew1 (Below.refl w.heap.size w))
  have HSZ := Aside0.mk (show w.heap.size ≤ w.drew.heap.size from Nat.le_refl _)
  generalize w.drew = w1 at HB1 HSZ hHeld ⊢
  refine pure_ (i := 0) (N := some 16) (v := ?_) (a' := ?_) #[true, false, false, false, false, false] rfl rfl (by kernel_rfl) (fun _ _ _ h => h) (Or.inl ⟨by rfl, ?_⟩) ?_ ?_
  rotate_left
  ·intro w'
   go_simp
   with_reducible rfl
  rotate_left
  ·simp only [Act.put, List.setIfInBounds_toArray, List.set_cons_zero, List.set_cons_succ, i64_w, i32_w]
   rfl
  refine pure_ (i := 2) (N := some 18) (v := ?_) (a' := ?_) #[true, false, true, false, false, false] rfl rfl (by kernel_rfl) (fun _ _ _ h => h) (Or.inl ⟨by rfl, ?_⟩) ?_ ?_
  rotate_left
  ·intro w'
   go_simp
   with_reducible rfl
  rotate_left
  ·simp only [Act.put, List.setIfInBounds_toArray, List.set_cons_zero, List.set_cons_succ, i64_w, i32_w]
   rfl
  refine two_ (i := 1) (j := 3) #[true, true, true, false, false, false] #[true, false, true, true, false, false] rfl rfl rfl rfl (by kernel_rfl) (by decide) (by decide) (fun K hK => ?_) (fun K hK => ?_)
  ·refine IB_make_step (n := places) (by rfl) rfl rfl rfl rfl (by omega) ?_
   intro w2 hI2 hB2
   refine hK.out _ _ trivial (fun hHeld => ?_)
   clear hK K
   refine norm_ (a' := ?_) ?_ ?_
   rotate_left
   ·show Act.put _ (some 17) _ = _
    simp only [Act.put, List.setIfInBounds_toArray, List.set_cons_zero, List.set_cons_succ, i64_w, i32_w]
    rfl
   refine pure_ (i := 4) (N := some 12) (v := ?_) (a' := ?_) #[true, true, true, false, true, false] rfl rfl (by kernel_rfl) (fun _ _ _ h => h) (Or.inl ⟨by rfl, ?_⟩) ?_ ?_
   rotate_left
   ·intro w'
    go_simp
    with_reducible rfl
   rotate_left
   ·simp only [Act.put, List.setIfInBounds_toArray, List.set_cons_zero, List.set_cons_succ, i64_w, i32_w]
    rfl
   refine one_ (i := 3) (N := some 19) #[true, true, true, true, true, false] rfl rfl (by kernel_rfl) (by decide) (fun K hK => ?_)
   refine IB_make_step (n := n) (by rfl) rfl rfl rfl rfl (by omega) ?_
   intro w3 hI3 hB3
   refine hK.out _ _ trivial (fun hHeld => ?_)
   clear hK K
   refine norm_ (a' := ?_) ?_ ?_
   rotate_left
   ·show Act.put _ (some 19) _ = _
    simp only [Act.put, List.setIfInBounds_toArray, List.set_cons_zero, List.set_cons_succ, i64_w, i32_w]
    rfl
   refine pure_ (i := 5) (N := some 13) (v := ?_) (a' := ?_) #[true, true, true, true, true, true] rfl rfl (by kernel_rfl) (fun _ _ _ h => h) (Or.inl ⟨by rfl, ?_⟩) ?_ ?_
   rotate_left
   ·intro w'
    go_simp
    with_reducible rfl
   rotate_left
   ·simp only [Act.put, List.setIfInBounds_toArray, List.set_cons_zero, List.set_cons_succ, i64_w, i32_w]
    rfl
   refine done_ (by kernel_rfl) ?_
   try go_wp2
   go_meet
   case rel => exact ⟨w1.heap.size, w2.heap.size, rfl, rfl, by have := blk_lt hI2; omega, ⟨IB_below hI2 hB3⟩, ⟨hI3⟩, ⟨HB1.out.trans ((hB2.mono HSZ.out).trans (hB3.mono (Nat.le_trans HSZ.out hB2.size)))⟩, HSZ.out, Nat.le_trans HSZ.out hB2.size⟩
  ·refine IB_make_step (n := n) (by rfl) rfl rfl rfl rfl (by omega) ?_
   intro w2 hI2 hB2
   refine hK.out _ _ trivial (fun hHeld => ?_)
   clear hK K
   refine norm_ (a' := ?_) ?_ ?_
   rotate_left
   ·show Act.put _ (some 19) _ = _
    simp only [Act.put, List.setIfInBounds_toArray, List.set_cons_zero, List.set_cons_succ, i64_w, i32_w]
    rfl
   refine one_ (i := 1) (N := some 17) #[true, true, true, true, false, false] rfl rfl (by kernel_rfl) (by decide) (fun K hK => ?_)
   refine IB_make_step (n := places) (by rfl) rfl rfl rfl rfl (by omega) ?_
   intro w3 hI3 hB3
   refine hK.out _ _ trivial (fun hHeld => ?_)
   clear hK K
   refine norm_ (a' := ?_) ?_ ?_
   rotate_left
   ·show Act.put _ (some 17) _ = _
    simp only [Act.put, List.setIfInBounds_toArray, List.set_cons_zero, List.set_cons_succ, i64_w, i32_w]
    rfl
   refine pure_ (i := 4) (N := some 12) (v := ?_) (a' := ?_) #[true, true, true, true, true, false] rfl rfl (by kernel_rfl) (fun _ _ _ h => h) (Or.inl ⟨by rfl, ?_⟩) ?_ ?_
   rotate_left
   ·intro w'
    go_simp
    with_reducible rfl
   rotate_left
   ·simp only [Act.put, List.setIfInBounds_toArray, List.set_cons_zero, List.set_cons_succ, i64_w, i32_w]
    rfl
   refine pure_ (i := 5) (N := some 13) (v := ?_) (a' := ?_) #[true, true, true, true, true, true] rfl rfl (by kernel_rfl) (fun _ _ _ h => h) (Or.inl ⟨by rfl, ?_⟩) ?_ ?_
   rotate_left
   ·intro w'
    go_simp
    with_reducible rfl
   rotate_left
   ·simp only [Act.put, List.setIfInBounds_toArray, List.set_cons_zero, List.set_cons_succ, i64_w, i32_w]
    rfl
   refine done_ (by kernel_rfl) ?_
   try go_wp2
   go_meet
   case rel => exact ⟨w2.heap.size, w1.heap.size, rfl, rfl, by have := blk_lt hI2; omega, ⟨hI3⟩, ⟨IB_below hI2 hB3⟩, ⟨HB1.out.trans ((hB2.mono HSZ.out).trans (hB3.mono (Nat.le_trans HSZ.out hB2.size)))⟩, Nat.le_trans HSZ.out hB2.size, HSZ.out⟩
 case rest =>
  obtain ⟨gr, gl, rfl, rfl, hne, HR, HL, HB, hgr, hgl⟩ := hcut
  have HNE := Aside0.mk hne
  have HGR := Aside0.mk hgr
  have HGL := Aside0.mk hgl
  clear hne hgr hgl
  go_wp2
  go_loopw [22] (fun v22 wr => ∃ i : Nat, i ≤ places ∧ v22 = .int .i64 i ∧ Aside0 (At2 w.heap.size gr gl wc wr (List.replicate i (-1) ++ List.replicate (places - i) 0) (List.replicate n 0))) (fun v _ => places - (intOf v).toNat)
  case atStart => exact ⟨0, Nat.zero_le _, rfl, ⟨At2.refl _ HR.out HL.out⟩⟩
  case round =>
   obtain ⟨i, hi, rfl, HA⟩ := hrel
   by_cases hlt : i < places
   ·have hc1 := HA.out.row.cell i (by simp; omega)
    have hf1 := blk_frozen HA.out.row i
    have HLT := Aside0.mk hlt
    go_wp2
    go_roundw
    case rel =>
     refine ⟨i + 1, HLT.out, by go_num, ⟨?_⟩⟩
     have h := HA.out.putR HNE.out (by have := HGR.out; omega) i (-1) rfl
     rw [set_at (by simp) HLT.out, ← List.replicate_succ'] at h
     exact h
    case measure => simp [intOf]; have := HLT.out; omega
   ·obtain rfl : i = places := by omega
    have HA := Aside0.mk (show At2 w.heap.size gr gl wc wr (List.replicate i (-1)) (List.replicate n 0) by simpa using HA.out)
    clear hlt hi
    have hd := HD.out
    by_cases hz : 0 ≤ hole
    ·obtain ⟨hn0, rfl⟩ : ∃ hn : Nat, hole = (hn : Int) := ⟨hole.toNat, by omega⟩
     have hlh : hn0 < i := by have := HH.out.2; omega
     have hc1 := HA.out.row.cell hn0 (by simp; omega)
     have hf1 := blk_frozen HA.out.row hn0
     have hA9 : ∀ w', w' = wr.setCell ⟨gr, hn0, none⟩ (.int .i64 0) → At2 w.heap.size gr gl wc w' (rowStart i (hn0 : Int)) (List.replicate n 0) := fun w' hw => by
      have h := HA.out.putR HNE.out (by have := HGR.out; omega) hn0 0 hw
      unfold rowStart
      rw [if_pos (by omega), Int.toNat_natCast]
      exact h
     have HA9 := Aside0.mk hA9
     clear hA9
     go_wp2
     have HA := Aside0.mk (HA9.out _ rfl)
     generalize hW : wr.setCell _ _ = wr2 at HA ⊢
     clear hc1 hf1
     go_loopw [36] (fun v36 wq => ∃ j : Nat, j ≤ n ∧ v36 = .int .i64 j ∧ Aside0 (At2 w.heap.size gr gl wc wq (rowStart i (hn0 : Int)) (numbersUp d j ++ List.replicate (n - j) 0))) (fun v _ => n - (intOf v).toNat)
     case atStart => exact ⟨0, Nat.zero_le _, rfl, ⟨by simpa [numbersUp] using HA.out⟩⟩
     case round =>
      obtain ⟨j, hj, rfl, HA2⟩ := hrel
      by_cases hlt : j < n
      ·have hc1 := HA2.out.left.cell j (by simp [numbersUp_len]; omega)
       have hf1 := blk_frozen HA2.out.left j
       have HLT := Aside0.mk hlt
       go_wp2
       go_roundw
       case rel =>
        refine ⟨j + 1, HLT.out, by go_num, ⟨?_⟩⟩
        have h := HA2.out.putL HNE.out (by have := HGL.out; omega) j (d + (j : Int)) rfl
        rw [set_at (numbersUp_len _ _) HLT.out, ← numbersUp_succ] at h
        exact h
       case measure => simp [intOf]; have := HLT.out; omega
      ·obtain rfl : j = n := by omega
       have HA3 := Aside0.mk (show At2 w.heap.size gr gl wc wr (rowStart i (hn0 : Int)) (numbersUp d j) by simpa using HA2.out)
       clear hlt hj HA2 HA
       go_wp2_with (first | ((with_reducible refine gate_dst (N := 48) rfl ?_); refine IB_make_event (N := 48) (x := .tmp 47) (y := .tmp 47) (n := i) ?hg ?hd ?ho ?hx ?hy (Nat.le_trans HP.out (by decide)) ?_; (case hg => rfl); (case hd => rfl); (case ho => rfl); (case hx => rfl); (case hy => rfl); intro gt hgt w4 hI4 hB4; have HGT := Aside0.mk hgt; have HI4 := Aside0.mk hI4; have HB4 := Aside0.mk hB4; have HX := Aside0.mk (show ∀ k, (k = gr ∨ k = gl ∨ k = gt) → w.heap.size ≤ k from fun k hk => by have h1 := HGR.out; have h2 := HGL.out; have h3 := (HB.out.trans HA3.out.below).size; omega); have HB0 := Aside0.mk (below_step (HB.out.trans HA3.out.below) hB4); have hcall := fill_calls (HE.out (fun k => k = gr ∨ k = gl ∨ k = gt) HX.out) (List.replicate i 0) ⟨gt, 0, none⟩ i shift HS.out gr gl (.inl rfl) (.inr (.inl rfl)) HNE.out (by have := HGR.out; have := HBASE.out; omega) (by have := HGL.out; have := HBASE.out; omega) (fun e => by have h1 := blk_lt HA3.out.row; have h2 : gt = gr := e; omega) (fun e => by have h1 := blk_lt HA3.out.left; have h2 : gt = gl := e; omega) (.inr (.inr (.inr rfl))) (i + 1) s s' b (rowStart i (hn0 : Int)) (numbersUp d j) w4 (by rw [rowStart_len]; simp) (by rw [rowStart_len]; have := HP.out; omega) (by rw [numbersUp_len]; have := HN.out; omega) (fun x hx => by have h1 := mem_numbersUp hx; have h2 := HN.out; have h3 := HD.out; omega) (HI.out _ w4 HB0.out (fun k hk => ⟨HX.out k hk, by have h1 := blk_lt HA3.out.row; have h2 := blk_lt HA3.out.left; have h3 := blk_lt hI4; have h4 := hB4.size; omega⟩)) (IB_below HA3.out.row hB4) (IB_below HA3.out.left hB4) (fun x hx => by rw [zeros_rd, add_block0]; have h1 := hI4.cell x (by simpa using hx); rw [zeros_rd] at h1; exact h1) HF.out; rw [rowStart_len, numbersUp_len, List.length_replicate] at hcall; have HCALL := Aside0.mk hcall; clear hcall hgt hI4 hB4) | ((with_reducible refine gate_callee (f := 260) rfl ?_); refine goesA (some 52) Try.func260 #[.slice (some ⟨gr, 0, none⟩) i i, .slice (some ⟨gt, 0, none⟩) i i, .slice (some ⟨gl, 0, none⟩) j j, .int .i64 shift, .func (.func fid) #[] ecaps] ?_; refine HCALL.out.mono ?_; rintro e w5 ⟨rfl, hI5, hB5, hX5⟩; refine ⟨_, rfl, ?_⟩; have HI5 := Aside0.mk hI5; have HB5 := Aside0.mk hB5; clear hI5 hB5 hX5))
       first | go_end0 | ((try simp only [Exit.inBlock, Exit.then]); refine bodyPost_ret (results_none rfl _ _ _) rfl ?_)
       exact ⟨rfl, ⟨_, HX.out, HI5.out⟩, (HB0.out.mono HBASE.out).trans HB5.out⟩
    ·have HA9 := Aside0.mk (show At2 w.heap.size gr gl wc wr (rowStart i hole) (List.replicate n 0) by
      unfold rowStart
      rw [if_neg hz]
      exact HA.out)
     have hz1 : hole < 0 := by omega
     clear HA
     have HA := HA9
     clear HA9
     go_wp2
     go_loopw [36] (fun v36 wq => ∃ j : Nat, j ≤ n ∧ v36 = .int .i64 j ∧ Aside0 (At2 w.heap.size gr gl wc wq (rowStart i hole) (numbersUp d j ++ List.replicate (n - j) 0))) (fun v _ => n - (intOf v).toNat)
     case atStart => exact ⟨0, Nat.zero_le _, rfl, ⟨by simpa [numbersUp] using HA.out⟩⟩
     case round =>
      obtain ⟨j, hj, rfl, HA2⟩ := hrel
      by_cases hlt : j < n
      ·have hc1 := HA2.out.left.cell j (by simp [numbersUp_len]; omega)
       have hf1 := blk_frozen HA2.out.left j
       have HLT := Aside0.mk hlt
       go_wp2
       go_roundw
       case rel =>
        refine ⟨j + 1, HLT.out, by go_num, ⟨?_⟩⟩
        have h := HA2.out.putL HNE.out (by have := HGL.out; omega) j (d + (j : Int)) rfl
        rw [set_at (numbersUp_len _ _) HLT.out, ← numbersUp_succ] at h
        exact h
       case measure => simp [intOf]; have := HLT.out; omega
      ·obtain rfl : j = n := by omega
       have HA3 := Aside0.mk (show At2 w.heap.size gr gl wc wr (rowStart i hole) (numbersUp d j) by simpa using HA2.out)
       clear hlt hj HA2 HA
       go_wp2_with (first | ((with_reducible refine gate_dst (N := 48) rfl ?_); refine IB_make_event (N := 48) (x := .tmp 47) (y := .tmp 47) (n := i) ?hg ?hd ?ho ?hx ?hy (Nat.le_trans HP.out (by decide)) ?_; (case hg => rfl); (case hd => rfl); (case ho => rfl); (case hx => rfl); (case hy => rfl); intro gt hgt w4 hI4 hB4; have HGT := Aside0.mk hgt; have HI4 := Aside0.mk hI4; have HB4 := Aside0.mk hB4; have HX := Aside0.mk (show ∀ k, (k = gr ∨ k = gl ∨ k = gt) → w.heap.size ≤ k from fun k hk => by have h1 := HGR.out; have h2 := HGL.out; have h3 := (HB.out.trans HA3.out.below).size; omega); have HB0 := Aside0.mk (below_step (HB.out.trans HA3.out.below) hB4); have hcall := fill_calls (HE.out (fun k => k = gr ∨ k = gl ∨ k = gt) HX.out) (List.replicate i 0) ⟨gt, 0, none⟩ i shift HS.out gr gl (.inl rfl) (.inr (.inl rfl)) HNE.out (by have := HGR.out; have := HBASE.out; omega) (by have := HGL.out; have := HBASE.out; omega) (fun e => by have h1 := blk_lt HA3.out.row; have h2 : gt = gr := e; omega) (fun e => by have h1 := blk_lt HA3.out.left; have h2 : gt = gl := e; omega) (.inr (.inr (.inr rfl))) (i + 1) s s' b (rowStart i hole) (numbersUp d j) w4 (by rw [rowStart_len]; simp) (by rw [rowStart_len]; have := HP.out; omega) (by rw [numbersUp_len]; have := HN.out; omega) (fun x hx => by have h1 := mem_numbersUp hx; have h2 := HN.out; have h3 := HD.out; omega) (HI.out _ w4 HB0.out (fun k hk => ⟨HX.out k hk, by have h1 := blk_lt HA3.out.row; have h2 := blk_lt HA3.out.left; have h3 := blk_lt hI4; have h4 := hB4.size; omega⟩)) (IB_below HA3.out.row hB4) (IB_below HA3.out.left hB4) (fun x hx => by rw [zeros_rd, add_block0]; have h1 := hI4.cell x (by simpa using hx); rw [zeros_rd] at h1; exact h1) HF.out; rw [rowStart_len, numbersUp_len, List.length_replicate] at hcall; have HCALL := Aside0.mk hcall; clear hcall hgt hI4 hB4) | ((with_reducible refine gate_callee (f := 260) rfl ?_); refine goesA (some 52) Try.func260 #[.slice (some ⟨gr, 0, none⟩) i i, .slice (some ⟨gt, 0, none⟩) i i, .slice (some ⟨gl, 0, none⟩) j j, .int .i64 shift, .func (.func fid) #[] ecaps] ?_; refine HCALL.out.mono ?_; rintro e w5 ⟨rfl, hI5, hB5, hX5⟩; refine ⟨_, rfl, ?_⟩; have HI5 := Aside0.mk hI5; have HB5 := Aside0.mk hB5; clear hI5 hB5 hX5))
       first | go_end0 | ((try simp only [Exit.inBlock, Exit.then]); refine bodyPost_ret (results_none rfl _ _ _) rfl ?_)
       exact ⟨rfl, ⟨_, HX.out, HI5.out⟩, (HB0.out.mono HBASE.out).trans HB5.out⟩


end Go.Proofs.Ytaohgllnoomaeaa.Fn
namespace Go.Proofs.Ytaohgllnoomaeaa.Fn
open Go.RowKit Go.Proofs.YtaohgllnoomaeaaW.PrintWords Go.Proofs.YtaohgllnoomaeaaW.PrintLast Go.Proofs.YtaohgllnoomaeaaW.PrintMore
attribute [local go_sem] max2_int min2_int max_two min_two max_three min_three max_four min_four   -- for this text's walks alone
set_option linter.unusedVariables false
set_option linter.unusedSimpArgs false

/-! ### impl_extendedKind: function 219 (given) -/
/-! ### the kind of the extended rows -/
def extOk (n hole : Int) : Bool := decide (1 ≤ n ∧ n ≤ 7 ∧ 0 ≤ hole ∧ hole ≤ 2 * n)
def extRun (n hole : Int) {σ : Type} (each : σ → List Int → Option (σ × Bool)) (s : σ) : Option (σ × Bool) := if extOk n hole = true then rowsRun (2 * n.toNat + 1) n.toNat 1 0 hole each s else some (s, false)
set_option maxHeartbeats 8000000 in
set_option maxRecDepth 100000 in
theorem ext1_ok (hole n : Int) (h : extOk n hole = false) : KindOk 258 #[] (fun _ => True) (fun {σ} each s => extRun n hole (σ := σ) each s) := by
 intro σ base fid ecaps each I s s' b w hPre hbase hE hI hr
 have hr' : some (s, false) = some (s', b) := by
  have h1 : ¬ extOk n hole = true := by rw [h]; decide
  simpa only [extRun, if_neg h1] using hr
 obtain ⟨rfl, rfl⟩ := Prod.mk.inj (Option.some.inj hr')
 have HB := Aside0.mk hbase
 have HI := Aside0.mk (hI (fun _ => False) w (Below.refl _ _) (fun _ hk => hk.elim))
 clear hr hr' hE hI hbase hPre h
 show Calls Try.prog 258 #[.func (.func fid) #[] ecaps] w _
 go_enter Try.func258, Try.ntmps258
 try go_wp2
 first | go_end0 | ((try simp only [Exit.inBlock, Exit.then]); refine bodyPost_ret (results_none rfl _ _ _) rfl ?_)
 exact ⟨rfl, ⟨_, fun _ hk => hk.elim, HI.out⟩, Below.refl _ _⟩
set_option maxHeartbeats 8000000 in
set_option maxRecDepth 100000 in
theorem ext2_ok (g2 g3 : Nat) (hole n : Int) (h : extOk n hole = true) : KindOk 259 #[.pointer (some ⟨g2, 0, none⟩), .pointer (some ⟨g3, 0, none⟩)] (fun w => w.heap[g2]? = some (.cells #[.int .i64 n] 3 (0, 0)) ∧ w.heap[g3]? = some (.cells #[.int .i64 hole] 3 (0, 0))) (fun {σ} each s => extRun n hole (σ := σ) each s) := by
 intro σ base fid ecaps each I s s' b w hPre hbase hE hI hr
 simp only [extRun, if_pos h] at hr
 have hd := of_decide_eq_true h
 obtain ⟨m, rfl⟩ : ∃ m : Nat, n = (m : Int) := ⟨n.toNat, by omega⟩
 rw [Int.toNat_natCast] at hr
 have hc2 := cell_of_one hPre.1
 have hc3 := cell_of_one hPre.2
 have hw1 := wrap_in (n := 2 * (m : Int)) (by omega) (by omega)
 have hw2 := wrap_in (n := 2 * (m : Int) + 1) (by omega) (by omega)
 have HCALL := Aside0.mk (rows_call (2 * m + 1) m 1 0 hole s s' b w (by omega) (by omega) (by omega) (by omega) (by omega) hbase hE hI hr)
 have hcast : ((2 * m + 1 : Nat) : Int) = 2 * (m : Int) + 1 := by omega
 rw [hcast] at HCALL
 clear hr hE hI hbase hPre h hd hcast
 show Calls Try.prog 259 #[.func (.func fid) #[] ecaps, .pointer (some ⟨g2, 0, none⟩), .pointer (some ⟨g3, 0, none⟩)] w _
 go_enter Try.func259, Try.ntmps259
 go_wp2_with (first | ((with_reducible refine gate_callee (f := 237) rfl ?_); refine goesA (some 10) Try.func237 #[.int .i64 (wrap64 (2 * (m : Int) + 1)), .int .i64 (m : Int), .int .i64 1, .int .i64 0, .int .i64 hole, .func (.func fid) #[] ecaps] ?_; rw [hw2]; refine HCALL.out.mono ?_; rintro e w5 ⟨rfl, hI5, hB5⟩; refine ⟨_, rfl, ?_⟩; have HI5 := Aside0.mk hI5; have HB5 := Aside0.mk hB5; clear hI5 hB5))
 first | go_end0 | ((try simp only [Exit.inBlock, Exit.then]); refine bodyPost_ret (results_none rfl _ _ _) rfl ?_)
 exact ⟨rfl, HI5.out, HB5.out⟩
def ExtRet (n hole : Int) (w : World) (e : Ending) (w' : World) : Prop := ∃ (kf : FuncId) (kcaps : Array Value) (Pre : World → Prop), e = .returned (.tuple #[.func (.func kf) #[] kcaps, .bool (extOk n hole)]) ∧ KindFn kf ∧ (∀ w2, Below w'.heap.size w' w2 → Pre w2) ∧ KindOk kf kcaps Pre (fun {σ} each s => extRun n hole (σ := σ) each s) ∧ Below w.heap.size w w'
set_option maxHeartbeats 8000000 in
set_option maxRecDepth 100000 in
theorem ext_no1 (a0 a1 : Int) (w : World) (h1 : a0 < 1) :
  Calls Try.prog 219 #[.int .i64 a0, .int .i64 a1] w (ExtRet a0 a1 w) := by
 have HOK := Aside0.mk (show extOk a0 a1 = false from decide_eq_false (by omega))
 have b1 : decide (a0 < 1) = true := decide_eq_true h1
 clear h1
 go_enter Try.func219, Try.ntmps219
 go_wp2_with (first | ((with_reducible refine gate_dst (N := 2) rfl ?_); refine box_event ?hg (N := 2) ?hd (cs := #[.int .i64 a0]) (t := 3) ?hr ?_; (case hd => rfl); (case hg => rfl); (case hr => first | (go_simp; done) | (go_simp; rfl)); intro g2 hg w1 hbox hb; have BK2 := Aside0.mk hbox; have HB2 := Aside0.mk hb; clear hb hbox hg) | ((with_reducible refine gate_dst (N := 3) rfl ?_); refine box_event ?hg (N := 3) ?hd (cs := #[.int .i64 a1]) (t := 3) ?hr ?_; (case hd => rfl); (case hg => rfl); (case hr => first | (go_simp; done) | (go_simp; rfl)); intro g3 hg w2 hbox hb; have BK3 := Aside0.mk hbox; have HB3 := Aside0.mk hb; have BK2n := Aside0.mk (blk_below BK2.out hb); clear BK2; have BK2 := BK2n; clear BK2n; have hc2 := blk_cell BK2.out 0; have hc3 := blk_cell BK3.out 0; simp only [List.getElem?_toArray, List.getElem?_cons_zero] at hc2 hc3; have HB := Aside0.mk (show Below w.heap.size w w2 from HB2.out.trans (HB3.out.mono HB2.out.size)); clear hb hbox hg))
 go_ret2
 refine ⟨258, #[], fun _ => True, by rw [HOK.out]; rfl, ⟨_, Try.func258, by kernel_rfl, rfl⟩, fun _ _ => trivial, ext1_ok a1 a0 HOK.out, HB.out⟩
set_option maxHeartbeats 8000000 in
set_option maxRecDepth 100000 in
theorem ext_no2 (a0 a1 : Int) (w : World) (h1 : 7 < a0) :
  Calls Try.prog 219 #[.int .i64 a0, .int .i64 a1] w (ExtRet a0 a1 w) := by
 have HOK := Aside0.mk (show extOk a0 a1 = false from decide_eq_false (by omega))
 have b1 : decide (a0 < 1) = false := decide_eq_false (by omega)
 have b2 : decide (7 < a0) = true := decide_eq_true h1
 clear h1
 go_enter Try.func219, Try.ntmps219
 go_wp2_with (first | ((with_reducible refine gate_dst (N := 2) rfl ?_); refine box_event ?hg (N := 2) ?hd (cs := #[.int .i64 a0]) (t := 3) ?hr ?_; (case hd => rfl); (case hg => rfl); (case hr => first | (go_simp; done) | (go_simp; rfl)); intro g2 hg w1 hbox hb; have BK2 := Aside0.mk hbox; have HB2 := Aside0.mk hb; clear hb hbox hg) | ((with_reducible refine gate_dst (N := 3) rfl ?_); refine box_event ?hg (N := 3) ?hd (cs := #[.int .i64 a1]) (t := 3) ?hr ?_; (case hd => rfl); (case hg => rfl); (case hr => first | (go_simp; done) | (go_simp; rfl)); intro g3 hg w2 hbox hb; have BK3 := Aside0.mk hbox; have HB3 := Aside0.mk hb; have BK2n := Aside0.mk (blk_below BK2.out hb); clear BK2; have BK2 := BK2n; clear BK2n; have hc2 := blk_cell BK2.out 0; have hc3 := blk_cell BK3.out 0; simp only [List.getElem?_toArray, List.getElem?_cons_zero] at hc2 hc3; have HB := Aside0.mk (show Below w.heap.size w w2 from HB2.out.trans (HB3.out.mono HB2.out.size)); clear hb hbox hg))
 go_ret2
 refine ⟨258, #[], fun _ => True, by rw [HOK.out]; rfl, ⟨_, Try.func258, by kernel_rfl, rfl⟩, fun _ _ => trivial, ext1_ok a1 a0 HOK.out, HB.out⟩
set_option maxHeartbeats 8000000 in
set_option maxRecDepth 100000 in
theorem ext_no3 (a0 a1 : Int) (w : World) (h1 : 1 ≤ a0 ∧ a0 ≤ 7) (h2 : a1 < 0) :
  Calls Try.prog 219 #[.int .i64 a0, .int .i64 a1] w (ExtRet a0 a1 w) := by
 have HOK := Aside0.mk (show extOk a0 a1 = false from decide_eq_false (by omega))
 have b1 : decide (a0 < 1) = false := decide_eq_false (by omega)
 have b2 : decide (7 < a0) = false := decide_eq_false (by omega)
 have b3 : decide (a1 < 0) = true := decide_eq_true h2
 clear h1 h2
 go_enter Try.func219, Try.ntmps219
 go_wp2_with (first | ((with_reducible refine gate_dst (N := 2) rfl ?_); refine box_event ?hg (N := 2) ?hd (cs := #[.int .i64 a0]) (t := 3) ?hr ?_; (case hd => rfl); (case hg => rfl); (case hr => first | (go_simp; done) | (go_simp; rfl)); intro g2 hg w1 hbox hb; have BK2 := Aside0.mk hbox; have HB2 := Aside0.mk hb; clear hb hbox hg) | ((with_reducible refine gate_dst (N := 3) rfl ?_); refine box_event ?hg (N := 3) ?hd (cs := #[.int .i64 a1]) (t := 3) ?hr ?_; (case hd => rfl); (case hg => rfl); (case hr => first | (go_simp; done) | (go_simp; rfl)); intro g3 hg w2 hbox hb; have BK3 := Aside0.mk hbox; have HB3 := Aside0.mk hb; have BK2n := Aside0.mk (blk_below BK2.out hb); clear BK2; have BK2 := BK2n; clear BK2n; have hc2 := blk_cell BK2.out 0; have hc3 := blk_cell BK3.out 0; simp only [List.getElem?_toArray, List.getElem?_cons_zero] at hc2 hc3; have HB := Aside0.mk (show Below w.heap.size w w2 from HB2.out.trans (HB3.out.mono HB2.out.size)); clear hb hbox hg))
 go_ret2
 refine ⟨258, #[], fun _ => True, by rw [HOK.out]; rfl, ⟨_, Try.func258, by kernel_rfl, rfl⟩, fun _ _ => trivial, ext1_ok a1 a0 HOK.out, HB.out⟩
set_option maxHeartbeats 8000000 in
set_option maxRecDepth 100000 in
theorem ext_no4 (a0 a1 : Int) (w : World) (h1 : 1 ≤ a0 ∧ a0 ≤ 7) (h2 : 2 * a0 < a1) :
  Calls Try.prog 219 #[.int .i64 a0, .int .i64 a1] w (ExtRet a0 a1 w) := by
 have HOK := Aside0.mk (show extOk a0 a1 = false from decide_eq_false (by omega))
 have b1 : decide (a0 < 1) = false := decide_eq_false (by omega)
 have b2 : decide (7 < a0) = false := decide_eq_false (by omega)
 have b3 : decide (a1 < 0) = false := decide_eq_false (by omega)
 have hw := wrap_in (n := 2 * a0) (by omega) (by omega)
 have b4 : decide (2 * a0 < a1) = true := decide_eq_true h2
 clear h1 h2
 go_enter Try.func219, Try.ntmps219
 go_wp2_with (first | ((with_reducible refine gate_dst (N := 2) rfl ?_); refine box_event ?hg (N := 2) ?hd (cs := #[.int .i64 a0]) (t := 3) ?hr ?_; (case hd => rfl); (case hg => rfl); (case hr => first | (go_simp; done) | (go_simp; rfl)); intro g2 hg w1 hbox hb; have BK2 := Aside0.mk hbox; have HB2 := Aside0.mk hb; clear hb hbox hg) | ((with_reducible refine gate_dst (N := 3) rfl ?_); refine box_event ?hg (N := 3) ?hd (cs := #[.int .i64 a1]) (t := 3) ?hr ?_; (case hd => rfl); (case hg => rfl); (case hr => first | (go_simp; done) | (go_simp; rfl)); intro g3 hg w2 hbox hb; have BK3 := Aside0.mk hbox; have HB3 := Aside0.mk hb; have BK2n := Aside0.mk (blk_below BK2.out hb); clear BK2; have BK2 := BK2n; clear BK2n; have hc2 := blk_cell BK2.out 0; have hc3 := blk_cell BK3.out 0; simp only [List.getElem?_toArray, List.getElem?_cons_zero] at hc2 hc3; have HB := Aside0.mk (show Below w.heap.size w w2 from HB2.out.trans (HB3.out.mono HB2.out.size)); clear hb hbox hg))
 go_ret2
 refine ⟨258, #[], fun _ => True, by rw [HOK.out]; rfl, ⟨_, Try.func258, by kernel_rfl, rfl⟩, fun _ _ => trivial, ext1_ok a1 a0 HOK.out, HB.out⟩
set_option maxHeartbeats 8000000 in
set_option maxRecDepth 100000 in
theorem ext_yes (a0 a1 : Int) (w : World) (h1 : 1 ≤ a0 ∧ a0 ≤ 7) (h2 : 0 ≤ a1) (h3 : a1 ≤ 2 * a0) :
  Calls Try.prog 219 #[.int .i64 a0, .int .i64 a1] w (ExtRet a0 a1 w) := by
 have HOK := Aside0.mk (show extOk a0 a1 = true from decide_eq_true (by omega))
 have b1 : decide (a0 < 1) = false := decide_eq_false (by omega)
 have b2 : decide (7 < a0) = false := decide_eq_false (by omega)
 have b3 : decide (a1 < 0) = false := decide_eq_false (by omega)
 have hw := wrap_in (n := 2 * a0) (by omega) (by omega)
 have b4 : decide (2 * a0 < a1) = false := decide_eq_false (by omega)
 clear h1 h2 h3
 go_enter Try.func219, Try.ntmps219
 go_wp2_with (first | ((with_reducible refine gate_dst (N := 2) rfl ?_); refine box_event ?hg (N := 2) ?hd (cs := #[.int .i64 a0]) (t := 3) ?hr ?_; (case hd => rfl); (case hg => rfl); (case hr => first | (go_simp; done) | (go_simp; rfl)); intro g2 hg w1 hbox hb; have BK2 := Aside0.mk hbox; have HB2 := Aside0.mk hb; clear hb hbox hg) | ((with_reducible refine gate_dst (N := 3) rfl ?_); refine box_event ?hg (N := 3) ?hd (cs := #[.int .i64 a1]) (t := 3) ?hr ?_; (case hd => rfl); (case hg => rfl); (case hr => first | (go_simp; done) | (go_simp; rfl)); intro g3 hg w2 hbox hb; have BK3 := Aside0.mk hbox; have HB3 := Aside0.mk hb; have BK2n := Aside0.mk (blk_below BK2.out hb); clear BK2; have BK2 := BK2n; clear BK2n; have hc2 := blk_cell BK2.out 0; have hc3 := blk_cell BK3.out 0; simp only [List.getElem?_toArray, List.getElem?_cons_zero] at hc2 hc3; have HB := Aside0.mk (show Below w.heap.size w w2 from HB2.out.trans (HB3.out.mono HB2.out.size)); clear hb hbox hg))
 go_ret2
 refine ⟨259, #[.pointer (some ⟨g2, 0, none⟩), .pointer (some ⟨g3, 0, none⟩)], fun w => w.heap[g2]? = some (.cells #[.int .i64 a0] 3 (0, 0)) ∧ w.heap[g3]? = some (.cells #[.int .i64 a1] 3 (0, 0)), by rw [HOK.out]; rfl, ⟨_, Try.func259, by kernel_rfl, rfl⟩, fun w3 hb => ⟨blk_below BK2.out hb, blk_below BK3.out hb⟩, ext2_ok g2 g3 a1 a0 HOK.out, HB.out⟩
theorem impl_extendedKind_call (a0 a1 : Int) (w : World) : Calls Try.prog 219 #[.int .i64 a0, .int .i64 a1] w (ExtRet a0 a1 w) := by
 by_cases h1 : a0 < 1
 ·exact ext_no1 a0 a1 w h1
 ·by_cases h2 : 7 < a0
  ·exact ext_no2 a0 a1 w h2
  ·by_cases h3 : a1 < 0
   ·exact ext_no3 a0 a1 w ⟨by omega, by omega⟩ h3
   ·by_cases h4 : 2 * a0 < a1
    ·exact ext_no4 a0 a1 w ⟨by omega, by omega⟩ h4
    ·exact ext_yes a0 a1 w ⟨by omega, by omega⟩ (by omega) (by omega)


end Go.Proofs.Ytaohgllnoomaeaa.Fn
namespace Go.Proofs.Ytaohgllnoomaeaa.Fn
open Go.RowKit Go.Proofs.YtaohgllnoomaeaaW.PrintWords Go.Proofs.YtaohgllnoomaeaaW.PrintLast Go.Proofs.YtaohgllnoomaeaaW.PrintMore
attribute [local go_sem] max2_int min2_int max_two min_two max_three min_three max_four min_four   -- for this text's walks alone
set_option linter.unusedVariables false
set_option linter.unusedSimpArgs false

/-! ### slices_Clone_int_int: function 156 (given) -/
def slices_Clone_int_int.f (l0 : List Int) : Option (List Int) := if l0.length < 17592186044416 then some l0 else none
theorem slices_Clone_int_int.app_room {y l : List Int} (h1 : l.length < 17592186044416) (h2 : y = []) : (y.length + l.length) * 8 ≤ 140737488355328 := by
 subst h2; simp; omega
set_option maxHeartbeats 8000000 in
set_option maxRecDepth 100000 in
theorem slices_Clone_int_int.calls (A0 : Option Addr) (c0 : Nat) (l0 : List Int) (r : List Int) (w : World) (hr0 : Kd.C (Kd.int .i64) w A0 l0.length l0) (hc0 : l0.length ≤ c0) (h : slices_Clone_int_int.f l0 = some r) :
  Calls Try.prog 156 #[.slice A0 l0.length c0] w fun e w' => ∃ v0_ : Value, e = .returned (v0_) ∧ Kd.R (Kd.int .i64) 3 w' w.heap.size (fun _ => True) v0_ r ∧ Below w.heap.size w w' := by
 have HR0 := Aside0.mk hr0
 have hlen : l0.length < 17592186044416 := by
  unfold slices_Clone_int_int.f at h
  split at h
  ·assumption
  ·cases h
 obtain rfl : l0 = r := by
  unfold slices_Clone_int_int.f at h
  rw [if_pos hlen] at h
  exact Option.some.inj h
 have LM := Aside0.mk hlen
 have HB := Aside0.mk (Below.refl w.heap.size w)
 have hu := Try.underlying31
 have heq := fun (w : World) => Lib.run_eql_slice_nil (P := Try.prog) w 31 3 A0 l0.length c0 0 0 hu
 clear h hlen hc0
 cases A0 with
 | none =>
  have hl : l0 = [] := by
   cases l0 with
   | nil => rfl
   | cons x xs =>
    obtain ⟨ad, e, _⟩ := hr0.2.2 (by simp)
    cases e
  have HL := Aside0.mk hl
  clear hr0 hl
  go_enter Try.func156, Try.ntmps156
  go_wp2
  go_ret
  exact ⟨_, rfl, by rw [HL.out]; exact Kd.R_nil _ _ _ _ _, atB HB⟩
 | some ad =>
  clear hr0
  obtain ⟨y113, hy113⟩ : ∃ y_ : List Int, y_ = (([] : List Int)) := ⟨_, rfl⟩
  have Ny113 := Aside0.mk hy113
  clear hy113
  obtain ⟨y116, hy116⟩ : ∃ y_ : List Int, y_ = (y113 ++ l0) := ⟨_, rfl⟩
  have Ny116 := Aside0.mk hy116
  clear hy116
  go_enter Try.func156, Try.ntmps156
  go_wp2_with (first | ((with_reducible refine gate_dst (N := 5) rfl ?_); refine Kd.R_lit (Kd.int .i64) _ 3 ?hg (N := 5) ?hd (xs := ([] : List Int)) (inner := []) (ok := fun _ => True) (okp := fun _ => True) ?hr ?hp (fun _ hk => hk) trivial (Below.refl _ _) (Nat.le_refl _) (by simp) ?_; (case hd => rfl); (case hg => rfl); (case hr => first | (go_simp; done) | (go_simp; rfl)); (case hp => exact (Reps.none _ _)); intro v114 w3 ho4 hb hg_ hnew_; clear hg_ hnew_; (first | rw [← Ny113.out] at ho4 | (simp only [Int.reduceToNat] at ho4; rw [← Ny113.out] at ho4)); have HO115 := lowR ho4 HB; replace HB := upB HB hb; clear hb ho4) | ((with_reducible refine gate_builtin (b := .append) (xs := #[.tmp 5, .tmp 6]) rfl ?_); at_builtin; refine Kd.R_append_rows (Kd.int .i64) (w0 := w) w.heap.size rfl (.tmp 5) (.tmp 6) 31 3 (.int .i64 0) 8 rfl Try.underlying31 info3 rfl (by decide) (by omega) v114 y113 l0 _ _ _ (fun _ => True) (fun _ => False) rfl rfl ?aO ?aR (fun _ _ h => h) (fun _ h => h.elim) ?aF ?aB ?aS ?aL ?_; (case aR => repeat (first | exact (Kd.C_below HR0.out HB.out) | (with_reducible refine Kd.C_alloc ?_ _) | (with_reducible refine Kd.C_drewN ?_ _) | (with_reducible refine Kd.C_drew ?_))); (case aB => exact (atB HB)); (case aF => exact (fun _ _ => trivial)); (case aO => exact (atR HO115)); (case aS => exact (szB HB)); (case aL => exact slices_Clone_int_int.app_room LM.out Ny113.out); intro v117 w5 ho hb hg hat; rw [← Ny116.out] at ho; have HO118 := Aside0.mk (ho); replace HB := Aside0.mk (hb); clear HO115; clear ho hb hg hat))
  go_ret
  exact ⟨_, rfl, by (with_reducible repeat (first | apply Kd.R_alloc | apply Kd.R_drewN | apply Kd.R_drew)); have h := HO118.out; rw [Ny116.out, Ny113.out, List.nil_append] at h; exact h, atB HB⟩


end Go.Proofs.Ytaohgllnoomaeaa.Fn
namespace Go.Proofs.Ytaohgllnoomaeaa.Fn
open Go.RowKit Go.Proofs.YtaohgllnoomaeaaW.PrintWords Go.Proofs.YtaohgllnoomaeaaW.PrintLast Go.Proofs.YtaohgllnoomaeaaW.PrintMore
attribute [local go_sem] max2_int min2_int max_two min_two max_three min_three max_four min_four   -- for this text's walks alone
set_option linter.unusedVariables false
set_option linter.unusedSimpArgs false

/-! ### impl_kind_all: function 149 (given) -/
/-! ### what kind.all calls: each row is kept, until there are too many -/
/-- The rows that were found lie in the variable at bo; none of their blocks is one of X. -/
structure AllI (base bo bm : Nat) (most : Int) (X : Nat → Prop) (xs : List (List Int)) (w : World) : Prop where
 out : ∃ v, w.heap[bo]? = some (.cells #[v] 28 (0, 0)) ∧ Kd.S (Kd.slice 3 (Kd.int .i64)) 31 w base (fun k => ¬ X k) v xs
 most : w.heap[bm]? = some (.cells #[.int .i64 most] 3 (0, 0))
 bo : base ≤ bo
 bm : base ≤ bm
 lt : ∀ k, X k → k < w.heap.size
def eachAll (most : Int) (xs : List (List Int)) (row : List Int) : Option (List (List Int) × Bool) := if xs.length < 5864062014805 then some (xs ++ [row], decide (most < ((xs.length + 1 : Nat) : Int))) else none
set_option maxHeartbeats 8000000 in
set_option maxRecDepth 100000 in
theorem all1_call {base bo bm : Nat} {most : Int} {X : Nat → Prop} (hXo : ¬ X bo) (hXm : ¬ X bm) (xs : List (List Int)) (row : List Int) (A : Option Addr) (c : Nat) (w : World) (hI : AllI base bo bm most X xs w) (hr : Kd.C (Kd.int .i64) w A row.length row) (hc : row.length ≤ c) (hl : row.length ≤ 1000) (hx : xs.length < 5864062014805) :
  Calls Try.prog 239 #[.slice A row.length c, .pointer (some ⟨bo, 0, none⟩), .pointer (some ⟨bm, 0, none⟩)] w fun e w' => e = .returned (.bool (decide (most < ((xs.length + 1 : Nat) : Int)))) ∧ AllI base bo bm most X (xs ++ [row]) w' ∧ Below base w w' ∧ (∀ k, X k → w'.heap[k]? = w.heap[k]?) := by
 obtain ⟨⟨v, h1, h2⟩, h3, h4, h5, h6⟩ := hI
 have HO := Aside0.mk h1
 have HS := Aside0.mk h2
 have HM := Aside0.mk h3
 have H4 := Aside0.mk h4
 have H5 := Aside0.mk h5
 have H6 := Aside0.mk h6
 have HR := Aside0.mk hr
 have HC := Aside0.mk hc
 have HL := Aside0.mk hl
 have HX := Aside0.mk hx
 have HXO := Aside0.mk hXo
 have HXM := Aside0.mk hXm
 clear h1 h2 h3 h4 h5 h6 hr hc hl hx hXo hXm
 have hcl : slices_Clone_int_int.f row = some row := if_pos (by have := HL.out; omega)
 have HCL := Aside0.mk hcl
 clear hcl
 go_enter Try.func239, Try.ntmps239
 go_upto_region 1 with (fail)
 refine start_ (n := 6) (S := fun w' => w'.cell? ⟨bo, 0, none⟩ = some v) (ds := [5]) #[false, false, false, false, false, false] (by kernel_rfl) rfl rfl (show w.drew.cell? ⟨bo, 0, none⟩ = some v from cell_of_one HO.out) (fun hHeld => ?_)
 have HO1 := Aside0.mk (show w.drew.heap[bo]? = some (.cells #[v] 28 (0, 0)) from HO.out)
 have HM1 := Aside0.mk (show w.drew.heap[bm]? = some (.cells #[.int .i64 most] 3 (0, 0)) from HM.out)
 have HS1 := Aside0.mk (Kd.S_drew HS.out)
 have HR1 := Aside0.mk (Kd.C_drew HR.out)
 have HB1 := Aside0.mk (below_drew1 (Below.refl base w))
 have HK1 := Aside0.mk (show ∀ k, X k → w.drew.heap[k]? = w.heap[k]? from fun _ _ => rfl)
 have HL1 := Aside0.mk (show ∀ k, X k → k < w.drew.heap.size from H6.out)
 generalize w.drew = w1 at HO1 HM1 HS1 HR1 HB1 HK1 HL1 hHeld ⊢
 refine take_ (i := 0) (N := some 5) (v := ?_) (a' := ?_) #[true, false, false, false, false, false] rfl rfl (by kernel_rfl) (fun _ _ _ h => h) (Or.inl ⟨by rfl, ?_⟩) hHeld ?_ ?_
 rotate_left
 ·rintro w' s0
  go_simp
  with_reducible rfl
 rotate_left
 ·simp only [Act.put, List.setIfInBounds_toArray, List.set_cons_zero, List.set_cons_succ, i64_w, i32_w]
  rfl
 refine pure_ (i := 1) (N := some 6) (v := ?_) (a' := ?_) #[true, true, false, false, false, false] rfl rfl (by kernel_rfl) (fun _ _ _ h => h) (Or.inl ⟨by rfl, ?_⟩) ?_ ?_
 rotate_left
 ·intro w'
  go_simp
  with_reducible rfl
 rotate_left
 ·simp only [Act.put, List.setIfInBounds_toArray, List.set_cons_zero, List.set_cons_succ, i64_w, i32_w]
  rfl
 refine one_ (i := 2) (N := some 7) #[true, true, true, false, false, false] rfl rfl (by kernel_rfl) (by decide) (fun K hK => ?_)
 refine goes_ Try.func156 (by kernel_rfl) rfl #[.slice A row.length c] (by rfl) rfl rfl (by (try simp only [List.map_toArray, List.map_cons, List.map_nil]); first | done | rfl) ?_
 refine (slices_Clone_int_int.calls A c row row w1 HR1.out HC.out HCL.out).mono ?_
 rintro e w2 ⟨v2, rfl, hv2, hb2⟩
 refine ⟨_, rfl, ?_⟩
 have HV2 := Aside0.mk hv2
 have HB2 := Aside0.mk hb2
 have HO2 := Aside0.mk (blk_below HO1.out hb2)
 have HM2 := Aside0.mk (blk_below HM1.out hb2)
 have HS2 := Aside0.mk (Kd.S_below (Kd.S_bound HS1.out) hb2)
 clear hv2 hb2
 refine hK.out _ _ (cell_of_one HO2.out) (fun hHeld => ?_)
 clear hK K
 refine norm_ (a' := ?_) ?_ ?_
 rotate_left
 ·show Act.put _ (some 7) _ = _
  simp only [Act.put, List.setIfInBounds_toArray, List.set_cons_zero, List.set_cons_succ, i64_w, i32_w]
  rfl
 obtain ⟨A2, c2, e2⟩ := Kd.R_slice HV2.out
 subst e2
 refine one_ (i := 3) (N := some 8) #[true, true, true, true, false, false] rfl rfl (by kernel_rfl) (by decide) (fun K hK => ?_)
 refine value_ (v := .slice (some ⟨w2.heap.size, 0, none⟩) 1 1) (w1 := w2.alloc (.cells #[.slice A2 row.length c2] 31)) (by rfl) rfl ?_ ?_
 ·first | (go_simp; done) | (go_simp; rfl)
 refine hK.out _ _ (cell_of_one (blk_alloc HO2.out _)) (fun hHeld => ?_)
 clear hK K
 refine norm_ (a' := ?_) ?_ ?_
 rotate_left
 ·show Act.put _ (some 8) _ = _
  simp only [Act.put, List.setIfInBounds_toArray, List.set_cons_zero, List.set_cons_succ, i64_w, i32_w]
  rfl
 refine one_ (i := 4) (N := some 9) #[true, true, true, true, true, false] rfl rfl (by kernel_rfl) (by decide) (fun K hK => ?_)
 have hsz := HB2.out.size
 have hb1 : base ≤ w1.heap.size := by have := blk_lt HO1.out; have := H4.out; omega
 refine Kd.S_append_step (Kd.slice 3 (Kd.int .i64)) (w0 := w) (W := w2) base (by rfl) (.tmp 5) (.tmp 8) 28 31 (.slice none 0 0) 24 rfl Try.underlying28 info31 rfl (by decide) (by omega) v xs row [.slice A2 row.length c2] (fun k => ¬ X k) (fun k_ => some k_ = (.slice A2 row.length c2 : Value).ownBlock) rfl rfl ?aP ?aK ?aF ?aO ?aB ?aS ?aL ?_
 case aP => exact Kd.M_row (Kd.R_mono (Kd.R_tight rfl (Kd.R_lower HV2.out hb1)) (fun _ h_ => h_))
 case aK =>
  intro k hk
  have h1 := Kd.R_base HV2.out k hk.symm
  exact ⟨fun hx => by have := HL1.out k hx; omega, fun e => by have := Kd.S_lt HS1.out k e.symm; omega⟩
 case aF => exact fun k hk hx => by have := HL1.out k hx; omega
 case aO =>
  refine Kd.S_mono HS2.out (fun k hk => ⟨hk.1, fun e => ?_⟩)
  have h1 := Kd.R_base HV2.out k e.symm
  have := hk.2.2.1
  omega
 case aB => exact HB1.out.trans (HB2.out.mono hb1)
 case aS => omega
 case aL => have := HX.out; omega
 intro v1 w3 hS3 hB3 hg3 hat3
 have HO3 := blk_grown HO2.out hg3 (Kd.S_ne HS2.out HO2.out (by decide))
 have HM3 := Aside0.mk (blk_grown HM2.out hg3 (Kd.S_ne HS2.out HM2.out (by decide)))
 have HK3 := Aside0.mk (show ∀ k, X k → w3.heap[k]? = w.heap[k]? from fun k hk => (hg3.block k (by have := HL1.out k hk; omega) (fun e => ((Kd.S_R HS2.out).1 k e.symm).1 hk)).trans ((HB2.out.block k (HL1.out k hk)).trans (HK1.out k hk)))
 have HB3 := Aside0.mk hB3
 have HS3 := Aside0.mk hS3
 have HL3 := Aside0.mk (show ∀ k, X k → k < w3.heap.size from fun k hk => by have := HL1.out k hk; have := hg3.size; omega)
 clear hsz hb1 hS3 hB3 hg3 hat3
 have hHeld0 := cell_of_one HO3
 have hc3 := hHeld0
 have hf3 := free_of_one HO3
 have HO3 := Aside0.mk HO3
 obtain ⟨A4, c4, e4⟩ := Kd.S_slice HS3.out
 subst e4
 refine hK.out _ _ hHeld0 (fun hHeld => ?_)
 clear hK K
 refine norm_ (a' := ?_) ?_ ?_
 rotate_left
 ·show Act.put _ (some 9) _ = _
  simp only [Act.put, List.setIfInBounds_toArray, List.set_cons_zero, List.set_cons_succ, i64_w, i32_w]
  rfl
 refine last_ (i := 5) (N := none) #[true, true, true, true, true, true] rfl rfl (by kernel_rfl) (by decide) (fun K hK => ?_)
 refine skip_ (w1 := w3.setCell ⟨bo, 0, none⟩ (.slice A4 (xs ++ [row]).length c4)) (by rfl) rfl ?_ ?_
 ·first | (go_simp; done) | (go_simp; rfl)
 refine hK.out _ _ ?_
 clear hK K
 refine done_ (by kernel_rfl) ?_
 have hno : bo ≠ bm := fun e => by
  have h1 := HO3.out
  rw [e, HM3.out] at h1
  simp at h1
 have HO4 := Aside0.mk (one_setCell (u := (.slice A4 (xs ++ [row]).length c4)) HO3.out)
 have HM4 := Aside0.mk (blk_far HM3.out (show bm ≠ (⟨bo, 0, none⟩ : Addr).block from fun e => hno e.symm) (.slice A4 (xs ++ [row]).length c4))
 have HS4 := Aside0.mk (Kd.S_set HS3.out HO3.out (by decide) 0 (.slice A4 (xs ++ [row]).length c4))
 have HB4 := Aside0.mk (HB3.out.setCell (show base ≤ (⟨bo, 0, none⟩ : Addr).block from H4.out) (.slice A4 (xs ++ [row]).length c4))
 have HK4 := Aside0.mk (show ∀ k, X k → (w3.setCell ⟨bo, 0, none⟩ (.slice A4 (xs ++ [row]).length c4)).heap[k]? = w.heap[k]? from fun k hk => (Below.heap_setCell w3 _ _ k (fun e => HXO.out (by rw [show k = bo from e] at hk; exact hk))).trans (HK3.out k hk))
 have HL4 := Aside0.mk (show ∀ k, X k → k < (w3.setCell ⟨bo, 0, none⟩ (.slice A4 (xs ++ [row]).length c4)).heap.size from fun k hk => by rw [size_setCell]; exact HL3.out k hk)
 clear hno hc3 hf3 hHeld hHeld0
 generalize w3.setCell ⟨bo, 0, none⟩ (.slice A4 (xs ++ [row]).length c4) = w4 at HO4 HM4 HS4 HB4 HK4 HL4 ⊢
 have hc4 := cell_of_one HO4.out
 have hc5 := cell_of_one HM4.out
 have hlen : (xs ++ [row]).length = xs.length + 1 := by simp
 rw [hlen] at hc4
 have HLEN := Aside0.mk hlen
 clear hlen
 go_wp2
 go_ret
 refine ⟨rfl, ⟨⟨_, HO4.out, HS4.out⟩, HM4.out, H4.out, H5.out, HL4.out⟩, HB4.out, HK4.out⟩
theorem AllI.stable {base bo bm : Nat} {most : Int} {X : Nat → Prop} (hXo : ¬ X bo) (hXm : ¬ X bm) {xs : List (List Int)} {w w' : World} (h : AllI base bo bm most X xs w) (hs : w.heap.size ≤ w'.heap.size) (hk : ∀ k, k < w.heap.size → ¬ X k → w'.heap[k]? = w.heap[k]?) : AllI base bo bm most X xs w' := by
 obtain ⟨⟨v, h1, h2⟩, h3, h4, h5, h6⟩ := h
 exact ⟨⟨v, (hk bo (blk_lt h1) hXo).trans h1, Kd.S_step h2 (fun k ho hl => hk k hl ho)⟩, (hk bm (blk_lt h3) hXm).trans h3, h4, h5, fun k hx => Nat.lt_of_lt_of_le (h6 k hx) hs⟩
theorem all1_ok {base bo bm N : Nat} {most : Int} {X : Nat → Prop} (hX : ∀ k, X k → N ≤ k) (hbo : bo < N) (hbm : bm < N) : EachOk base X 239 #[.pointer (some ⟨bo, 0, none⟩), .pointer (some ⟨bm, 0, none⟩)] (eachAll most) (AllI base bo bm most X) := by
 have hXo : ¬ X bo := fun h => by have := hX bo h; omega
 have hXm : ¬ X bm := fun h => by have := hX bm h; omega
 refine ⟨⟨_, Try.func239, by kernel_rfl, rfl⟩, fun s w w' h hs hk => h.stable hXo hXm hs hk, fun s row A c w s' b hI hr hc hl h => ?_⟩
 unfold eachAll at h
 split at h
 ·rename_i hx
  obtain ⟨rfl, rfl⟩ := Prod.mk.inj (Option.some.inj h)
  exact all1_call hXo hXm s row A c w hI hr hc hl hx
 ·cases h
/-- What kind.all asks of a kind, a function of a function: it comes to the state s', whatever else there is. -/
def KindAll (kf : FuncId) (first caps : Array Value) (base : Nat) (Pre : World → Prop) (most : Int) (xs : List (List Int)) : Prop :=
 ∀ (bo bm : Nat) (w : World), Pre w → base ≤ w.heap.size → base ≤ bo → base ≤ bm → bo < w.heap.size → bm < w.heap.size →
  (∀ (X : Nat → Prop) w', Below w.heap.size w w' → (∀ k, X k → w.heap.size ≤ k ∧ k < w'.heap.size) → AllI base bo bm most X [] w') →
  Calls Try.prog kf (first ++ #[.func (.func 239) #[] #[.pointer (some ⟨bo, 0, none⟩), .pointer (some ⟨bm, 0, none⟩)]] ++ caps) w fun e w' => e = .returned (.tuple #[]) ∧ (∃ X : Nat → Prop, (∀ k, X k → w.heap.size ≤ k) ∧ AllI base bo bm most X xs w') ∧ Below base w w'
section
variable {P : Program} {ops : Array Oper} {Q : Exit → Act → World → Prop}
/-- A call of a function value with arguments of its own. -/
theorem goesW_ {rest : List Oper} {oi : Oper} {a : Act} {w : World} (N : Option Tmp) (hd : oi.dst = N) (hg : oi.guard = none) {f : FuncId} {fn : Func} {p : Tmp} {xs : Array Operand} {ts : Array TypeId} {first caps : Array Value} (hf : P.funcs[f]? = some fn) (hname : (fn.name == "runtime.NumGoroutine") = false) (hb : fn.body.isSome = true) (args : Array Value)
  (hop : oi.op = .call { callee := .value (.tmp p), args := xs, argTypes := ts }) (hv : a.eval (.tmp p) = .func (.func f) first caps) (hargs : xs.map a.eval = args)
  (h : Calls P f (first ++ args ++ caps) w fun e w' => ∃ v, e = .returned v ∧ wpList P ops Q rest (a.put N v) w') : wpList P ops Q (oi :: rest) a w := by
 refine wpList_plain hg fun K hK => ?_
 have he := enters_ hf hname hb (first ++ args ++ caps) w
 have hrun : (execOp a.eval oi).run P w = .ok (.enter f (first ++ args ++ caps)) w := by
  rw [Array.append_assoc] at he ⊢
  unfold execOp
  simp [hop, resolve, Deferred.ofValue, invoke, hv, hargs, he]
 unfold Oper.wp
 rw [hrun, Oper.upon_enter]
 refine h.mono fun e w'' hh => ?_
 obtain ⟨v, rfl, hk⟩ := hh
 subst hd
 exact hK _ _ hk
end
set_option maxHeartbeats 8000000 in
set_option maxRecDepth 100000 in
theorem kind_all_call {kf : FuncId} {kfn : Func} {first caps : Array Value} {Pre : World → Prop} {most : Int} {xs : List (List Int)} (w : World) (hf1 : Try.prog.funcs[kf]? = some kfn) (hf2 : (kfn.name == "runtime.NumGoroutine") = false) (hf3 : kfn.body.isSome = true) (hP : ∀ w', Below w.heap.size w w' → Pre w') (h : KindAll kf first caps w.heap.size Pre most xs) (r1 : List (List Int)) (r2 : Bool) (hr1 : r1 = if (xs.length : Int) ≤ most then xs else []) (hr2 : r2 = decide ((xs.length : Int) ≤ most)) :
  Calls Try.prog 149 #[.func (.func kf) first caps, .int .i64 most] w fun e w' => ∃ v0_ : Value, e = .returned (.tuple #[v0_, .bool r2]) ∧ Kd.S (Kd.slice 3 (Kd.int .i64)) 31 w' w.heap.size (fun _ => True) v0_ r1 ∧ Below w.heap.size w w' := by
 have HF1 := Aside0.mk hf1
 have HF2 := Aside0.mk hf2
 have HF3 := Aside0.mk hf3
 have HP := Aside0.mk hP
 have H := Aside0.mk h
 clear hf1 hf2 hf3 hP h
 go_enter Try.func149, Try.ntmps149
 go_upto_region 2 with (fail)
 have hb1 : Below w.heap.size w ((w.alloc (.cells #[.int .i64 most] 3)).alloc (.cells #[.slice none 0 0] 28)) := below_alloc (below_alloc (Below.refl _ _) _) _
 have hm1 : ((w.alloc (.cells #[.int .i64 most] 3)).alloc (.cells #[.slice none 0 0] 28)).heap[w.heap.size]? = some (.cells #[.int .i64 most] 3 (0, 0)) := heap_alloc2_old w _ _
 have ho1 : ((w.alloc (.cells #[.int .i64 most] 3)).alloc (.cells #[.slice none 0 0] 28)).heap[w.heap.size + 1]? = some (.cells #[.slice none 0 0] 28 (0, 0)) := heap_alloc2_new w _ _
 have HB1 := Aside0.mk hb1
 have HM1 := Aside0.mk hm1
 have HO1 := Aside0.mk ho1
 clear hb1 hm1 ho1
 generalize ((w.alloc (.cells #[.int .i64 most] 3)).alloc (.cells #[.slice none 0 0] 28)) = w2 at HB1 HM1 HO1 ⊢
 have HCALL := Aside0.mk (H.out (w.heap.size + 1) w.heap.size w2 (HP.out w2 HB1.out) HB1.out.size (Nat.le_succ _) (Nat.le_refl _) (blk_lt HO1.out) (blk_lt HM1.out) (fun X w' hb hX => ⟨⟨_, blk_below HO1.out hb, Kd.S_nil _ _ _ _ _⟩, blk_below HM1.out hb, Nat.le_succ _, Nat.le_refl _, fun k hk => (hX k hk).2⟩))
 by_cases hle : (xs.length : Int) ≤ most
 ·have b1 : decide (most < (xs.length : Int)) = false := decide_eq_false (by omega)
  rw [if_pos hle] at hr1
  rw [decide_eq_true hle] at hr2
  subst hr1
  subst hr2
  clear hle
  go_wp2_with (first | ((with_reducible refine gate_value (p := 7) rfl ?_); refine goesW_ (some 9) rfl rfl HF1.out HF2.out HF3.out #[.func (.func 239) #[] #[.pointer (some ⟨w.heap.size + 1, 0, none⟩), .pointer (some ⟨w.heap.size, 0, none⟩)]] rfl (by first | rfl | (simp [Act.eval]; done)) (by (try simp only [List.map_toArray, List.map_cons, List.map_nil]); first | done | rfl) ?_; refine HCALL.out.mono ?_; rintro e w3 ⟨rfl, ⟨X, hX, hI⟩, hB⟩; refine ⟨_, rfl, ?_⟩; obtain ⟨⟨v3, ho, hs⟩, hm, _, _, _⟩ := hI; obtain ⟨A3, c3, e3⟩ := Kd.S_slice hs; subst e3; have hc1 := cell_of_one ho; have hc2 := cell_of_one hm; have HS3 := Aside0.mk hs; have HB3 := Aside0.mk hB; clear hX ho hs hm hB))
  go_ret2
  exact ⟨_, rfl, Kd.S_mono HS3.out (fun _ _ => trivial), HB1.out.trans HB3.out⟩
 ·have b1 : decide (most < (xs.length : Int)) = true := decide_eq_true (by omega)
  rw [if_neg hle] at hr1
  rw [decide_eq_false hle] at hr2
  subst hr1
  subst hr2
  clear hle
  go_wp2_with (first | ((with_reducible refine gate_value (p := 7) rfl ?_); refine goesW_ (some 9) rfl rfl HF1.out HF2.out HF3.out #[.func (.func 239) #[] #[.pointer (some ⟨w.heap.size + 1, 0, none⟩), .pointer (some ⟨w.heap.size, 0, none⟩)]] rfl (by first | rfl | (simp [Act.eval]; done)) (by (try simp only [List.map_toArray, List.map_cons, List.map_nil]); first | done | rfl) ?_; refine HCALL.out.mono ?_; rintro e w3 ⟨rfl, ⟨X, hX, hI⟩, hB⟩; refine ⟨_, rfl, ?_⟩; obtain ⟨⟨v3, ho, hs⟩, hm, _, _, _⟩ := hI; obtain ⟨A3, c3, e3⟩ := Kd.S_slice hs; subst e3; have hc1 := cell_of_one ho; have hc2 := cell_of_one hm; have HS3 := Aside0.mk hs; have HB3 := Aside0.mk hB; clear hX ho hs hm hB))
  go_ret2
  exact ⟨_, rfl, Kd.S_nil _ _ _ _ _, HB1.out.trans HB3.out⟩


end Go.Proofs.Ytaohgllnoomaeaa.Fn
namespace Go.Proofs.Ytaohgllnoomaeaa.Fn
open Go.RowKit Go.Proofs.YtaohgllnoomaeaaW.PrintWords Go.Proofs.YtaohgllnoomaeaaW.PrintLast Go.Proofs.YtaohgllnoomaeaaW.PrintMore
attribute [local go_sem] max2_int min2_int max_two min_two max_three min_three max_four min_four   -- for this text's walks alone
set_option linter.unusedVariables false
set_option linter.unusedSimpArgs false

/-! ### impl_AllExtended: function 107 (given) -/
def impl_AllExtended.f (a0 : Int) (a1 : Int) : Option (List (List Int) × Bool) := (extRun a0 a1 (eachAll 1073741824) []).bind fun p => some (if (p.1.length : Int) ≤ 1073741824 then p.1 else [], extOk a0 a1)
/-- A kind, as kind.all asks for it. -/
theorem kind_all_of {kf : FuncId} {kcaps : Array Value} {Pre : World → Prop} {run : {σ : Type} → (σ → List Int → Option (σ × Bool)) → σ → Option (σ × Bool)} (base : Nat) (h : KindOk kf kcaps Pre run) (most : Int) (xs : List (List Int)) (b : Bool) (hr : run (eachAll most) [] = some (xs, b)) : KindAll kf #[] kcaps base Pre most xs := by
 intro bo bm w hP hb hb1 hb2 hlo hlm hI
 have := h (I := fun X => AllI base bo bm most X) [] xs b w hP hb (fun X hX => all1_ok hX hlo hlm) hI hr
 simpa using this
set_option maxHeartbeats 8000000 in
set_option maxRecDepth 100000 in
theorem impl_AllExtended.calls (a0 : Int) (a1 : Int) (r1 : List (List Int)) (r2 : Bool) (w : World) (h : impl_AllExtended.f a0 a1 = some (r1, r2)) :
  Calls Try.prog 107 #[.int .i64 a0, .int .i64 a1] w fun e w' => ∃ v0_ : Value, e = .returned (.tuple #[v0_, .bool r2]) ∧ Kd.S (Kd.slice 3 (Kd.int .i64)) 31 w' w.heap.size (fun _ => True) v0_ r1 ∧ Below w.heap.size w w' := by
 obtain ⟨⟨xs, b⟩, hrun, h⟩ := Option.bind_eq_some_iff.1 h
 obtain ⟨hr1, rfl⟩ := Prod.mk.inj (Option.some.inj h)
 have HRUN := Aside0.mk hrun
 have HR1 := Aside0.mk hr1.symm
 clear h hrun hr1
 go_enter Try.func107, Try.ntmps107
 go_wp2_with (first | ((with_reducible refine gate_callee (f := 219) rfl ?_); refine goesA (some 13) Try.func219 #[.int .i64 a0, .int .i64 a1] ?_; refine (impl_extendedKind_call a0 a1 w).mono ?_; rintro e w1 ⟨kf, kcaps, Pre, rfl, hF1, hP1, hK1, hB1⟩; refine ⟨_, rfl, ?_⟩; have HF1 := Aside0.mk hF1; have HP1 := Aside0.mk hP1; have HK1 := Aside0.mk @hK1; have HB1 := Aside0.mk hB1; clear hF1 hP1 hK1 hB1) | ((with_reducible refine gate_callee (f := 149) rfl ?_); refine goesA (some 18) Try.func149 #[.func (.func kf) #[] kcaps, .int .i64 1073741824] ?_; refine (kind_all_call w1 HF1.out.fn.choose_spec.1 HF1.out.fn.choose_spec.2.1 HF1.out.fn.choose_spec.2.2 HP1.out (kind_all_of w1.heap.size HK1.out 1073741824 xs b HRUN.out) r1 (decide ((xs.length : Int) ≤ 1073741824)) HR1.out rfl).mono ?_; rintro e w2 ⟨v2, rfl, hS2, hB2⟩; refine ⟨_, rfl, ?_⟩; have HS2 := Aside0.mk hS2; have HB2 := Aside0.mk hB2; clear hS2 hB2))
 go_ret2
 exact ⟨_, rfl, Kd.S_lower HS2.out HB1.out.size, HB1.out.trans (HB2.out.mono HB1.out.size)⟩


end Go.Proofs.Ytaohgllnoomaeaa.Fn
namespace Go.Proofs.Ytaohgllnoomaeaa.Fn
open Go.RowKit Go.Proofs.YtaohgllnoomaeaaW.PrintWords Go.Proofs.YtaohgllnoomaeaaW.PrintLast Go.Proofs.YtaohgllnoomaeaaW.PrintMore
attribute [local go_sem] max2_int min2_int max_two min_two max_three min_three max_four min_four   -- for this text's walks alone
set_option linter.unusedVariables false
set_option linter.unusedSimpArgs false

/-! ### impl_CountExtended: function 109 (given) -/
def impl_CountExtended.f (a0 : Int) (a1 : Int) : Option (Int × Bool) := (extRun a0 a1 eachCount 0).bind fun p => some ((p.1 : Int), extOk a0 a1)
set_option maxHeartbeats 8000000 in
set_option maxRecDepth 100000 in
theorem impl_CountExtended.calls (a0 : Int) (a1 : Int) (r1 : Int) (r2 : Bool) (w : World) (h : impl_CountExtended.f a0 a1 = some (r1, r2)) :
  Calls Try.prog 109 #[.int .i64 a0, .int .i64 a1] w fun e w' => e = .returned (.tuple #[.int .i64 r1, .bool r2]) ∧ Below w.heap.size w w' := by
 obtain ⟨⟨m, b⟩, hrun, h⟩ := Option.bind_eq_some_iff.1 h
 obtain ⟨rfl, rfl⟩ := Prod.mk.inj (Option.some.inj h)
 have HRUN := Aside0.mk hrun
 clear h hrun
 go_enter Try.func109, Try.ntmps109
 go_wp2_with (first | ((with_reducible refine gate_callee (f := 219) rfl ?_); refine goesA (some 11) Try.func219 #[.int .i64 a0, .int .i64 a1] ?_; refine (impl_extendedKind_call a0 a1 w).mono ?_; rintro e w1 ⟨kf, kcaps, Pre, rfl, hF1, hP1, hK1, hB1⟩; refine ⟨_, rfl, ?_⟩; have HF1 := Aside0.mk hF1; have HP1 := Aside0.mk hP1; have HK1 := Aside0.mk @hK1; have HB1 := Aside0.mk hB1; clear hF1 hP1 hK1 hB1) | ((with_reducible refine gate_callee (f := 147) rfl ?_); refine goesA (some 15) Try.func147 #[.func (.func kf) #[] kcaps] ?_; refine (kind_count_call w1 HF1.out HP1.out HK1.out m b HRUN.out).mono ?_; rintro e w2 ⟨rfl, hB2⟩; refine ⟨_, rfl, ?_⟩; have HB2 := Aside0.mk hB2; clear hB2))
 go_ret2
 exact ⟨rfl, HB1.out.trans (HB2.out.mono HB1.out.size)⟩


end Go.Proofs.Ytaohgllnoomaeaa.Fn
namespace Go.Proofs.Ytaohgllnoomaeaa.Fn
open Go.RowKit Go.Proofs.YtaohgllnoomaeaaW.PrintWords Go.Proofs.YtaohgllnoomaeaaW.PrintLast Go.Proofs.YtaohgllnoomaeaaW.PrintMore
attribute [local go_sem] max2_int min2_int max_two min_two max_three min_three max_four min_four   -- for this text's walks alone
set_option linter.unusedVariables false
set_option linter.unusedSimpArgs false

/-! ### laws_big: function 10 -/
def laws_big.f (l0 : List Int) (l1 : List Int) : Option (Bool) := if (l0.length : Int) > 1048576 then (some true) else (some (decide ((l1.length : Int) > (wrap64 (1048576 - (l0.length : Int))))))
set_option maxHeartbeats 8000000 in
set_option maxRecDepth 100000 in
theorem laws_big.calls (A0 : Option Addr) (c0 : Nat) (l0 : List Int) (A1 : Option Addr) (c1 : Nat) (l1 : List Int) (r : Bool) (w : World) (hr0 : Kd.C (Kd.int .u8) w A0 l0.length l0) (hc0 : l0.length ≤ c0) (hr1 : Kd.C (Kd.int .u8) w A1 l1.length l1) (hc1 : l1.length ≤ c1) (h : laws_big.f l0 l1 = some r) :
  Calls Try.prog 10 #[.slice A0 l0.length c0, .slice A1 l1.length c1] w fun e w' => e = .returned (.bool r) ∧ Drawn0 w w' := by
 have HR0 := Aside0.mk hr0
 have HC0 := Aside0.mk hc0
 clear hr0 hc0
 have HR1 := Aside0.mk hr1
 have HC1 := Aside0.mk hc1
 clear hr1 hc1
 have H := h
 unfold laws_big.f at H
 clear h
 by_cases c3 : (l0.length : Int) > 1048576
 ·rw [if_pos c3] at H
  have c3b0 : decide (1048576 < (l0.length : Int)) = true := decide_eq_true c3
  have c3b1 : decide (1048576 < l0.length) = true := decide_eq_true (by omega)
  clear c3
  obtain rfl := Option.some.inj H
  go_enter Try.func10, Try.ntmps10
  go_wp2
  go_ret
  exact ⟨by first | rfl | (simp; done) | (simp [*]; done), by repeat (first | exact Drawn0.refl _ | apply Drawn0.step)⟩
 ·rw [if_neg c3] at H
  have c3b0 : decide (1048576 < (l0.length : Int)) = false := decide_eq_false c3
  have c3b1 : decide (1048576 < l0.length) = false := decide_eq_false (by omega)
  clear c3
  obtain rfl := Option.some.inj H
  go_enter Try.func10, Try.ntmps10
  go_wp2
  go_ret
  exact ⟨by first | rfl | (simp; done) | (simp [*]; done), by repeat (first | exact Drawn0.refl _ | apply Drawn0.step)⟩


end Go.Proofs.Ytaohgllnoomaeaa.Fn
namespace Go.Proofs.Ytaohgllnoomaeaa.Fn
open Go.RowKit Go.Proofs.YtaohgllnoomaeaaW.PrintWords Go.Proofs.YtaohgllnoomaeaaW.PrintLast Go.Proofs.YtaohgllnoomaeaaW.PrintMore
attribute [local go_sem] max2_int min2_int max_two min_two max_three min_three max_four min_four   -- for this text's walks alone
set_option linter.unusedVariables false
set_option linter.unusedSimpArgs false

/-! ### impl_holes: function 182 -/
def impl_holes.l0 : Nat → List Int → List Int → Int → Int → Option (List Int)
 | 0, _, _, _, _ => none
 | k + 1, x3, x6, x7, x8 => if x8 < x7 then (if 0 ≤ x8 then (if x8 < (x6.length : Int) then (if (rd x6 x8) = 0 then (if x3.length < 17592186044416 then (impl_holes.l0 k (x3 ++ [x8]) x6 x7 (wrap64 (x8 + 1))) else (none)) else (impl_holes.l0 k x3 x6 x7 (wrap64 (x8 + 1)))) else (none)) else (none)) else (some x3)
def impl_holes.f (k : Nat) (l0 : List Int) : Option (List Int) := impl_holes.l0 k ([] : List Int) l0 (l0.length : Int) 0
theorem impl_holes.mono_l : ∀ k, (∀ y0 y1 y2 y3, LeO (impl_holes.l0 k y0 y1 y2 y3) (impl_holes.l0 (k + 1) y0 y1 y2 y3))
 | 0 => fun _ _ _ _ r h => by simp [impl_holes.l0] at h
 | k + 1 => by
  have ih0 := impl_holes.mono_l k
  ·intro y0 y1 y2 y3
   unfold impl_holes.l0
   repeat' (first | (with_reducible first | exact ih0 _ _ _ _ | exact LeO.refl _ | exact LeO.none _ | refine LeO.ite ?_ ?_ | refine LeO.bind ?_ (fun _ => ?_)) | exact ih0 _ _ _ _ | exact LeO.none _ | refine LeO.ite ?_ ?_ | refine LeO.bind ?_ (fun _ => ?_))
theorem impl_holes.mono : ∀ a0 k, LeO (impl_holes.f k a0) (impl_holes.f (k + 1) a0) := by
 intro a0 k
 have ih0 := impl_holes.mono_l k
 unfold impl_holes.f
 repeat' (first | (with_reducible first | exact ih0 _ _ _ _ | exact LeO.refl _ | exact LeO.none _ | refine LeO.ite ?_ ?_ | refine LeO.bind ?_ (fun _ => ?_)) | exact ih0 _ _ _ _ | exact LeO.none _ | refine LeO.ite ?_ ?_ | refine LeO.bind ?_ (fun _ => ?_))
set_option maxHeartbeats 8000000 in
set_option maxRecDepth 100000 in
theorem impl_holes.calls (k : Nat) (A0 : Option Addr) (c0 : Nat) (l0 : List Int) (r : List Int) (w : World) (hr0 : Kd.C (Kd.int .i64) w A0 l0.length l0) (hc0 : l0.length ≤ c0) (h : impl_holes.f k l0 = some r) :
  Calls Try.prog 182 #[.slice A0 l0.length c0] w fun e w' => ∃ v0_ : Value, e = .returned (v0_) ∧ Kd.R (Kd.int .i64) 3 w' w.heap.size (fun _ => True) v0_ r ∧ Below w.heap.size w w' := by
 have HR0 := Aside0.mk hr0
 have HC0 := Aside0.mk hc0
 clear hr0 hc0
 have HB := Aside0.mk (Below.refl w.heap.size w)
 have H := h
 unfold impl_holes.f at H
 clear h
 have H' := Aside0.mk H
 clear H
 go_enter Try.func182, Try.ntmps182
 go_wp2
 go_loopg [3, 8] k (fun kq v3 v8 w' => ∃ (x3_1 : List Int) (x8_1 : Int), v8 = .int .i64 x8_1 ∧ Aside0 (impl_holes.l0 kq x3_1 l0 (l0.length : Int) x8_1 = some r) ∧ Aside0 (kq ≤ k) ∧ Aside0 (Kd.R (Kd.int .i64) 3 w' w.heap.size (fun _ => True) v3 x3_1) ∧ Aside0 (Below w.heap.size w w'))
 case atStart => exact ⟨(([] : List Int)), (0), eqd, H', ⟨Nat.le_refl _⟩, ⟨by first | exact Kd.R_nil _ _ _ _ _ | exact Kd.N_nil _ _ _ _ _ | exact Kd.V_nil _ _ _ _ _ | exact Kd.Q_nil _ _ _ _ _ | exact Kd.S_nil _ _ _ _ _⟩, ⟨atB HB⟩⟩
 case round =>
  clear H'
  try clear c1
  obtain ⟨x3_1, x8_1, rfl, HA, HK1, HO_3, HB⟩ := hrel
  cases gk with
  | zero => exact absurd HA.out (by simp [impl_holes.l0])
  | succ k1 =>
   have H := HA.out
   clear HA
   simp only [impl_holes.l0] at H
   by_cases c2 : x8_1 < (l0.length : Int)
   ·rw [if_pos c2] at H
    have c2b0 : decide (x8_1 < (l0.length : Int)) = true := decide_eq_true c2
    clear c2
    by_cases c3 : 0 ≤ x8_1
    ·rw [if_pos c3] at H
     have c3b0 : decide (0 ≤ x8_1) = true := decide_eq_true c3
     clear c3
     by_cases c4 : x8_1 < (l0.length : Int)
     ·rw [if_pos c4] at H
      have c4b0 : decide (x8_1 < (l0.length : Int)) = true := decide_eq_true c4
      clear c4
      by_cases c5 : (rd l0 x8_1) = 0
      ·rw [if_pos c5] at H
       have c5b0 : ((rd l0 x8_1) == 0) = true := beq_iff_eq.mpr c5
       have c5b1 : ((rd l0 x8_1) != 0) = false := bne_eq_false_iff_eq.mpr c5
       clear c5
       by_cases c6 : x3_1.length < 17592186044416
       ·rw [if_pos c6] at H
        have LMc6 := Aside0.mk c6
        clear c6
        obtain ⟨y152, hy152⟩ : ∃ y_ : List Int, y_ = (x3_1 ++ [x8_1]) := ⟨_, rfl⟩
        replace H : (impl_holes.l0 k1 y152 l0 (l0.length : Int) (wrap64 (x8_1 + 1))) = some r := by first | (rw [hy152]; with_reducible exact H) | (have H2_ := (Option.bind_some _ _).symm.trans H; rw [hy152]; with_reducible exact H2_) | (have H2_ := (Option.bind_some _ _).symm.trans H; with_reducible exact H2_) | with_reducible exact H | (rw [hy152]; exact H) | exact H
        have Ny152 := Aside0.mk hy152
        clear hy152
        have H' := Aside0.mk H
        clear H
        have p151 : 0 ≤ (x8_1 : Int) := ofd
        have q151 : x8_1 < (l0.length : Int) := ofd
        obtain ⟨ad151, e151, hx151_0⟩ := Kd.at_int HR0.out x8_1 p151 q151
        cases e151
        replace hx151_0 := (HB.out.cell (World.block_lt_of_cell? w _ hx151_0)).trans hx151_0
        replace p151 := eq_true p151
        replace q151 := eq_true q151
        go_wp2_with (first | ((with_reducible refine gate_builtin (b := .append) (xs := #[.tmp 15, .tmp 17]) rfl ?_); at_builtin; refine Kd.R_append (Kd.int .i64) (w0 := w) w.heap.size rfl (.tmp 15) (.tmp 17) 31 3 (.int .i64 0) 8 rfl Try.underlying31 info3 rfl (by decide) (by omega) u3 x3_1 x8_1 [.int .i64 x8_1] (fun _ => True) (fun _ => False) rfl rfl ?aP (fun _ hk => hk.elim) ?aF ?aO ?aB ?aS ?aL ?_; (case aP => exact rfl); (case aB => exact (atB HB)); (case aF => exact (fun _ _ => trivial)); (case aO => exact (atR HO_3)); (case aS => exact (szB HB)); (case aL => have := LMc6.out; omega); intro v153 w7 ho hb hg hat; rw [← Ny152.out] at ho; have HO154 := Aside0.mk (ho); replace HB := Aside0.mk (hb); clear HO_3; clear ho hb hg hat))
        go_roundg k1
        case measure => have := HK1.out; omega
        case rel => exact ⟨(y152), (wrap64 (x8_1 + 1)), eqd, H', ⟨by have := HK1.out; omega⟩, ⟨atR HO154⟩, ⟨atB HB⟩⟩
       ·rw [if_neg c6] at H
        exact absurd H (by simp)
      ·rw [if_neg c5] at H
       have c5b0 : ((rd l0 x8_1) == 0) = false := beq_eq_false_iff_ne.mpr c5
       have c5b1 : ((rd l0 x8_1) != 0) = true := bne_iff_ne.mpr c5
       have H' := Aside0.mk H
       clear H
       have p151 : 0 ≤ (x8_1 : Int) := ofd
       have q151 : x8_1 < (l0.length : Int) := ofd
       obtain ⟨ad151, e151, hx151_0⟩ := Kd.at_int HR0.out x8_1 p151 q151
       cases e151
       replace hx151_0 := (HB.out.cell (World.block_lt_of_cell? w _ hx151_0)).trans hx151_0
       replace p151 := eq_true p151
       replace q151 := eq_true q151
       go_wp2
       go_roundg k1
       case measure => have := HK1.out; omega
       case rel => exact ⟨(x3_1), (wrap64 (x8_1 + 1)), eqd, H', ⟨by have := HK1.out; omega⟩, ⟨atR HO_3⟩, ⟨atB HB⟩⟩
     ·rw [if_neg c4] at H
      exact absurd H (by simp)
    ·rw [if_neg c3] at H
     exact absurd H (by simp)
   ·rw [if_neg c2] at H
    have c2b0 : decide (x8_1 < (l0.length : Int)) = false := decide_eq_false c2
    clear c2
    obtain rfl := Option.some.inj H
    go_wp2
    go_ret
    exact ⟨_, eqr, atR HO_3, atB HB⟩

noncomputable def impl_holes.L0 (x3 : List Int) (x6 : List Int) (x7 : Int) (x8 : Int) : Option (List Int) := lim fun k => impl_holes.l0 k x3 x6 x7 x8
theorem impl_holes.L0_lim (x3 : List Int) (x6 : List Int) (x7 : Int) (x8 : Int) : Lim (fun k => impl_holes.l0 k x3 x6 x7 x8) (impl_holes.L0 x3 x6 x7 x8) := Lim.of fun k => (impl_holes.mono_l k) x3 x6 x7 x8
noncomputable def impl_holes.F (l0 : List Int) : Option (List Int) := lim fun k => impl_holes.f k l0
theorem impl_holes.F_lim (l0 : List Int) : Lim (fun k => impl_holes.f k l0) (impl_holes.F l0) := Lim.of fun k => impl_holes.mono l0 k
theorem impl_holes.L0_eq (x3 : List Int) (x6 : List Int) (x7 : Int) (x8 : Int) : impl_holes.L0 x3 x6 x7 x8 = (if x8 < x7 then (if 0 ≤ x8 then (if x8 < (x6.length : Int) then (if (rd x6 x8) = 0 then (if x3.length < 17592186044416 then (impl_holes.L0 (x3 ++ [x8]) x6 x7 (wrap64 (x8 + 1))) else (none)) else (impl_holes.L0 x3 x6 x7 (wrap64 (x8 + 1)))) else (none)) else (none)) else (some x3)) :=
 Lim.step (f := fun k => impl_holes.l0 (k + 1) x3 x6 x7 x8) (impl_holes.L0_lim x3 x6 x7 x8) (fun _ => rfl) (by
  simp only [impl_holes.l0]
  repeat' (first | (with_reducible first | exact Lim.const _ | exact impl_holes.L0_lim _ _ _ _ | refine Lim.ite ?_ ?_ | refine Lim.bind ?_ (fun _ => ?_))))
theorem impl_holes.F_eq (l0 : List Int) : impl_holes.F l0 = (impl_holes.L0 ([] : List Int) l0 (l0.length : Int) 0) :=
 Lim.unique (impl_holes.F_lim l0) (by
  unfold impl_holes.f
  repeat' (first | (with_reducible first | exact Lim.const _ | exact impl_holes.L0_lim _ _ _ _ | refine Lim.ite ?_ ?_ | refine Lim.bind ?_ (fun _ => ?_))))

end Go.Proofs.Ytaohgllnoomaeaa.Fn
namespace Go.Proofs.Ytaohgllnoomaeaa.Fn
open Go.RowKit Go.Proofs.YtaohgllnoomaeaaW.PrintWords Go.Proofs.YtaohgllnoomaeaaW.PrintLast Go.Proofs.YtaohgllnoomaeaaW.PrintMore
attribute [local go_sem] max2_int min2_int max_two min_two max_three min_three max_four min_four   -- for this text's walks alone
set_option linter.unusedVariables false
set_option linter.unusedSimpArgs false

/-! ### slices_Contains_int_int: function 186 -/
def slices_Contains_int_int.f (k : Nat) (l0 : List Int) (a1 : Int) : Option (Bool) := (slices_Index_int_int.f k l0 a1).bind fun t146 => (some (decide (t146 ≥ 0)))
theorem slices_Contains_int_int.mono : ∀ a0 a1 k, LeO (slices_Contains_int_int.f k a0 a1) (slices_Contains_int_int.f (k + 1) a0 a1) := by
 intro a0 a1 k
 unfold slices_Contains_int_int.f
 repeat' (first | (with_reducible first | exact slices_Index_int_int.mono _ _ _ | exact LeO.refl _ | exact LeO.none _ | refine LeO.ite ?_ ?_ | refine LeO.bind ?_ (fun _ => ?_)) | exact slices_Index_int_int.mono _ _ _ | exact LeO.none _ | refine LeO.ite ?_ ?_ | refine LeO.bind ?_ (fun _ => ?_))
set_option maxHeartbeats 8000000 in
set_option maxRecDepth 100000 in
theorem slices_Contains_int_int.calls (k : Nat) (A0 : Option Addr) (c0 : Nat) (l0 : List Int) (a1 : Int) (r : Bool) (w : World) (hr0 : Kd.C (Kd.int .i64) w A0 l0.length l0) (hc0 : l0.length ≤ c0) (h : slices_Contains_int_int.f k l0 a1 = some r) :
  Calls Try.prog 186 #[.slice A0 l0.length c0, .int .i64 a1] w fun e w' => e = .returned (.bool r) ∧ Drawn0 w w' := by
 have HR0 := Aside0.mk hr0
 have HC0 := Aside0.mk hc0
 clear hr0 hc0
 have H := h
 unfold slices_Contains_int_int.f at H
 clear h
 replace H := Option.bind_eq_some_iff.mp H
 obtain ⟨t146, A30, H⟩ := H
 replace H : (some (decide (t146 ≥ 0))) = some r := H
 have A3 := Aside0.mk A30
 clear A30
 obtain rfl := Option.some.inj H
 go_enter Try.func186, Try.ntmps186
 go_wp2_with (first | ((with_reducible refine gate_callee (f := 248) rfl ?_); refine goesA (some 7) Try.func248 #[.slice A0 l0.length c0, .int .i64 a1] ?_; (with_reducible refine (slices_Index_int_int.calls k _ _ l0 a1 t146 _ ?side1 ?side2 A3.out).mono ?_); (case side1 => repeat (first | exact HR0.out | (with_reducible refine Kd.C_alloc ?_ _) | (with_reducible refine Kd.C_drewN ?_ _) | (with_reducible refine Kd.C_drew ?_))); (case side2 => exact HC0.out); rintro e w' ⟨rfl, ⟨nd, rfl⟩⟩; refine ⟨_, rfl, ?_⟩))
 go_ret
 exact ⟨by first | rfl | (simp; done) | (simp [*]; done), by repeat (first | exact Drawn0.refl _ | apply Drawn0.step)⟩

noncomputable def slices_Contains_int_int.F (l0 : List Int) (a1 : Int) : Option (Bool) := lim fun k => slices_Contains_int_int.f k l0 a1
theorem slices_Contains_int_int.F_lim (l0 : List Int) (a1 : Int) : Lim (fun k => slices_Contains_int_int.f k l0 a1) (slices_Contains_int_int.F l0 a1) := Lim.of fun k => slices_Contains_int_int.mono l0 a1 k
theorem slices_Contains_int_int.F_eq (l0 : List Int) (a1 : Int) : slices_Contains_int_int.F l0 a1 = ((slices_Index_int_int.F l0 a1).bind fun t146 => (some (decide (t146 ≥ 0)))) :=
 Lim.unique (slices_Contains_int_int.F_lim l0 a1) (by
  unfold slices_Contains_int_int.f
  repeat' (first | (with_reducible first | exact Lim.const _ | exact slices_Index_int_int.F_lim _ _ | refine Lim.ite ?_ ?_ | refine Lim.bind ?_ (fun _ => ?_))))

end Go.Proofs.Ytaohgllnoomaeaa.Fn
namespace Go.Proofs.Ytaohgllnoomaeaa.Fn
open Go.RowKit Go.Proofs.YtaohgllnoomaeaaW.PrintWords Go.Proofs.YtaohgllnoomaeaaW.PrintLast Go.Proofs.YtaohgllnoomaeaaW.PrintMore
attribute [local go_sem] max2_int min2_int max_two min_two max_three min_three max_four min_four   -- for this text's walks alone
set_option linter.unusedVariables false
set_option linter.unusedSimpArgs false

/-! ### impl_numbers: function 176 -/
def impl_numbers.l0 : Nat → List Int → List Int → Int → Option (List Int)
 | 0, _, _, _ => none
 | k + 1, x0, x3, x4 => if x4 ≤ 20 then ((slices_Contains_int_int.f k x0 x4).bind fun t147 => (if t147 = true then (if x3.length < 17592186044416 then (impl_numbers.l0 k x0 (x3 ++ [x4]) (wrap64 (x4 + 1))) else (none)) else (impl_numbers.l0 k x0 x3 (wrap64 (x4 + 1))))) else (some x3)
def impl_numbers.f (k : Nat) (l0 : List Int) : Option (List Int) := impl_numbers.l0 k l0 ([] : List Int) 1
theorem impl_numbers.mono_l : ∀ k, (∀ y0 y1 y2, LeO (impl_numbers.l0 k y0 y1 y2) (impl_numbers.l0 (k + 1) y0 y1 y2))
 | 0 => fun _ _ _ r h => by simp [impl_numbers.l0] at h
 | k + 1 => by
  have ih0 := impl_numbers.mono_l k
  ·intro y0 y1 y2
   unfold impl_numbers.l0
   repeat' (first | (with_reducible first | exact ih0 _ _ _ | exact slices_Contains_int_int.mono _ _ _ | exact LeO.refl _ | exact LeO.none _ | refine LeO.ite ?_ ?_ | refine LeO.bind ?_ (fun _ => ?_)) | exact ih0 _ _ _ | exact slices_Contains_int_int.mono _ _ _ | exact LeO.none _ | refine LeO.ite ?_ ?_ | refine LeO.bind ?_ (fun _ => ?_))
theorem impl_numbers.mono : ∀ a0 k, LeO (impl_numbers.f k a0) (impl_numbers.f (k + 1) a0) := by
 intro a0 k
 have ih0 := impl_numbers.mono_l k
 unfold impl_numbers.f
 repeat' (first | (with_reducible first | exact ih0 _ _ _ | exact LeO.refl _ | exact LeO.none _ | refine LeO.ite ?_ ?_ | refine LeO.bind ?_ (fun _ => ?_)) | exact ih0 _ _ _ | exact LeO.none _ | refine LeO.ite ?_ ?_ | refine LeO.bind ?_ (fun _ => ?_))
set_option maxHeartbeats 8000000 in
set_option maxRecDepth 100000 in
theorem impl_numbers.calls (k : Nat) (A0 : Option Addr) (c0 : Nat) (l0 : List Int) (r : List Int) (w : World) (hr0 : Kd.C (Kd.int .i64) w A0 l0.length l0) (hc0 : l0.length ≤ c0) (h : impl_numbers.f k l0 = some r) :
  Calls Try.prog 176 #[.slice A0 l0.length c0] w fun e w' => ∃ v0_ : Value, e = .returned (v0_) ∧ Kd.R (Kd.int .i64) 3 w' w.heap.size (fun _ => True) v0_ r ∧ Below w.heap.size w w' := by
 have HR0 := Aside0.mk hr0
 have HC0 := Aside0.mk hc0
 clear hr0 hc0
 have HB := Aside0.mk (Below.refl w.heap.size w)
 have H := h
 unfold impl_numbers.f at H
 clear h
 have H' := Aside0.mk H
 clear H
 go_enter Try.func176, Try.ntmps176
 go_wp2
 go_loopg [3, 4] k (fun kq v3 v4 w' => ∃ (x3_1 : List Int) (x4_1 : Int), v4 = .int .i64 x4_1 ∧ Aside0 (impl_numbers.l0 kq l0 x3_1 x4_1 = some r) ∧ Aside0 (kq ≤ k) ∧ Aside0 (Kd.R (Kd.int .i64) 3 w' w.heap.size (fun _ => True) v3 x3_1) ∧ Aside0 (Below w.heap.size w w'))
 case atStart => exact ⟨(([] : List Int)), (1), eqd, H', ⟨Nat.le_refl _⟩, ⟨by first | exact Kd.R_nil _ _ _ _ _ | exact Kd.N_nil _ _ _ _ _ | exact Kd.V_nil _ _ _ _ _ | exact Kd.Q_nil _ _ _ _ _ | exact Kd.S_nil _ _ _ _ _⟩, ⟨atB HB⟩⟩
 case round =>
  clear H'
  try clear c1
  obtain ⟨x3_1, x4_1, rfl, HA, HK1, HO_3, HB⟩ := hrel
  cases gk with
  | zero => exact absurd HA.out (by simp [impl_numbers.l0])
  | succ k1 =>
   have H := HA.out
   clear HA
   simp only [impl_numbers.l0] at H
   by_cases c2 : x4_1 ≤ 20
   ·rw [if_pos c2] at H
    have c2b0 : decide (x4_1 ≤ 20) = true := decide_eq_true c2
    clear c2
    replace H := Option.bind_eq_some_iff.mp H
    obtain ⟨t147, A30, H⟩ := H
    replace H : (if t147 = true then (if x3_1.length < 17592186044416 then (impl_numbers.l0 k1 l0 (x3_1 ++ [x4_1]) (wrap64 (x4_1 + 1))) else (none)) else (impl_numbers.l0 k1 l0 x3_1 (wrap64 (x4_1 + 1)))) = some r := H
    have A3 := Aside0.mk A30
    clear A30
    by_cases c4 : t147 = true
    ·subst c4
     have H1 : (if x3_1.length < 17592186044416 then (impl_numbers.l0 k1 l0 (x3_1 ++ [x4_1]) (wrap64 (x4_1 + 1))) else (none)) = some r := by rw [if_pos rfl] at H; exact H
     clear H
     have H := H1
     clear H1
     by_cases c5 : x3_1.length < 17592186044416
     ·rw [if_pos c5] at H
      have LMc5 := Aside0.mk c5
      clear c5
      obtain ⟨y148, hy148⟩ : ∃ y_ : List Int, y_ = (x3_1 ++ [x4_1]) := ⟨_, rfl⟩
      replace H : (impl_numbers.l0 k1 l0 y148 (wrap64 (x4_1 + 1))) = some r := by first | (rw [hy148]; with_reducible exact H) | (have H2_ := (Option.bind_some _ _).symm.trans H; rw [hy148]; with_reducible exact H2_) | (have H2_ := (Option.bind_some _ _).symm.trans H; with_reducible exact H2_) | with_reducible exact H | (rw [hy148]; exact H) | exact H
      have Ny148 := Aside0.mk hy148
      clear hy148
      have H' := Aside0.mk H
      clear H
      go_wp2_with (first | ((with_reducible refine gate_callee (f := 186) rfl ?_); refine goesA (some 11) Try.func186 #[.slice A0 l0.length c0, .int .i64 x4_1] ?_; (with_reducible refine (slices_Contains_int_int.calls k1 _ _ l0 x4_1 true _ ?side1 ?side2 A3.out).mono ?_); (case side1 => repeat (first | exact (Kd.C_below HR0.out HB.out) | (with_reducible refine Kd.C_alloc ?_ _) | (with_reducible refine Kd.C_drewN ?_ _) | (with_reducible refine Kd.C_drew ?_))); (case side2 => exact HC0.out); rintro e w' ⟨rfl, ⟨nd, rfl⟩⟩; refine ⟨_, rfl, ?_⟩) | ((with_reducible refine gate_builtin (b := .append) (xs := #[.tmp 12, .tmp 14]) rfl ?_); at_builtin; refine Kd.R_append (Kd.int .i64) (w0 := w) w.heap.size rfl (.tmp 12) (.tmp 14) 31 3 (.int .i64 0) 8 rfl Try.underlying31 info3 rfl (by decide) (by omega) u3 x3_1 x4_1 [.int .i64 x4_1] (fun _ => True) (fun _ => False) rfl rfl ?aP (fun _ hk => hk.elim) ?aF ?aO ?aB ?aS ?aL ?_; (case aP => exact rfl); (case aB => exact (atB HB)); (case aF => exact (fun _ _ => trivial)); (case aO => exact (atR HO_3)); (case aS => exact (szB HB)); (case aL => have := LMc5.out; omega); intro v149 w6 ho hb hg hat; rw [← Ny148.out] at ho; have HO150 := Aside0.mk (ho); replace HB := Aside0.mk (hb); clear HO_3; clear ho hb hg hat))
      go_roundg k1
      case measure => have := HK1.out; omega
      case rel => exact ⟨(y148), (wrap64 (x4_1 + 1)), eqd, H', ⟨by have := HK1.out; omega⟩, ⟨atR HO150⟩, ⟨atB HB⟩⟩
     ·rw [if_neg c5] at H
      exact absurd H (by simp)
    ·replace c4 := Bool.eq_false_iff.mpr c4
     subst c4
     have H1 : (impl_numbers.l0 k1 l0 x3_1 (wrap64 (x4_1 + 1))) = some r := by rw [if_neg (show ¬ (false = true) by decide)] at H; exact H
     clear H
     have H := H1
     clear H1
     have H' := Aside0.mk H
     clear H
     go_wp2_with (first | ((with_reducible refine gate_callee (f := 186) rfl ?_); refine goesA (some 11) Try.func186 #[.slice A0 l0.length c0, .int .i64 x4_1] ?_; (with_reducible refine (slices_Contains_int_int.calls k1 _ _ l0 x4_1 false _ ?side1 ?side2 A3.out).mono ?_); (case side1 => repeat (first | exact (Kd.C_below HR0.out HB.out) | (with_reducible refine Kd.C_alloc ?_ _) | (with_reducible refine Kd.C_drewN ?_ _) | (with_reducible refine Kd.C_drew ?_))); (case side2 => exact HC0.out); rintro e w' ⟨rfl, ⟨nd, rfl⟩⟩; refine ⟨_, rfl, ?_⟩))
     go_roundg k1
     case measure => have := HK1.out; omega
     case rel => exact ⟨(x3_1), (wrap64 (x4_1 + 1)), eqd, H', ⟨by have := HK1.out; omega⟩, ⟨atR HO_3⟩, ⟨atB HB⟩⟩
   ·rw [if_neg c2] at H
    have c2b0 : decide (x4_1 ≤ 20) = false := decide_eq_false c2
    clear c2
    obtain rfl := Option.some.inj H
    go_wp2
    go_ret
    exact ⟨_, eqr, atR HO_3, atB HB⟩

noncomputable def impl_numbers.L0 (x0 : List Int) (x3 : List Int) (x4 : Int) : Option (List Int) := lim fun k => impl_numbers.l0 k x0 x3 x4
theorem impl_numbers.L0_lim (x0 : List Int) (x3 : List Int) (x4 : Int) : Lim (fun k => impl_numbers.l0 k x0 x3 x4) (impl_numbers.L0 x0 x3 x4) := Lim.of fun k => (impl_numbers.mono_l k) x0 x3 x4
noncomputable def impl_numbers.F (l0 : List Int) : Option (List Int) := lim fun k => impl_numbers.f k l0
theorem impl_numbers.F_lim (l0 : List Int) : Lim (fun k => impl_numbers.f k l0) (impl_numbers.F l0) := Lim.of fun k => impl_numbers.mono l0 k
theorem impl_numbers.L0_eq (x0 : List Int) (x3 : List Int) (x4 : Int) : impl_numbers.L0 x0 x3 x4 = (if x4 ≤ 20 then ((slices_Contains_int_int.F x0 x4).bind fun t147 => (if t147 = true then (if x3.length < 17592186044416 then (impl_numbers.L0 x0 (x3 ++ [x4]) (wrap64 (x4 + 1))) else (none)) else (impl_numbers.L0 x0 x3 (wrap64 (x4 + 1))))) else (some x3)) :=
 Lim.step (f := fun k => impl_numbers.l0 (k + 1) x0 x3 x4) (impl_numbers.L0_lim x0 x3 x4) (fun _ => rfl) (by
  simp only [impl_numbers.l0]
  repeat' (first | (with_reducible first | exact Lim.const _ | exact impl_numbers.L0_lim _ _ _ | exact slices_Contains_int_int.F_lim _ _ | refine Lim.ite ?_ ?_ | refine Lim.bind ?_ (fun _ => ?_))))
theorem impl_numbers.F_eq (l0 : List Int) : impl_numbers.F l0 = (impl_numbers.L0 l0 ([] : List Int) 1) :=
 Lim.unique (impl_numbers.F_lim l0) (by
  unfold impl_numbers.f
  repeat' (first | (with_reducible first | exact Lim.const _ | exact impl_numbers.L0_lim _ _ _ | refine Lim.ite ?_ ?_ | refine Lim.bind ?_ (fun _ => ?_))))

end Go.Proofs.Ytaohgllnoomaeaa.Fn
namespace Go.Proofs.Ytaohgllnoomaeaa.Fn
open Go.RowKit Go.Proofs.YtaohgllnoomaeaaW.PrintWords Go.Proofs.YtaohgllnoomaeaaW.PrintLast Go.Proofs.YtaohgllnoomaeaaW.PrintMore
attribute [local go_sem] max2_int min2_int max_two min_two max_three min_three max_four min_four   -- for this text's walks alone
set_option linter.unusedVariables false
set_option linter.unusedSimpArgs false

/-! ### impl_isFrom: function 241 -/
def impl_isFrom.l0 : Nat → Int → List Int → List Int → Int → Int → Option (Int × Bool)
 | 0, _, _, _, _, _ => none
 | k + 1, x1, x6, x11, x12, x13 => if x13 < x12 then (if 0 ≤ x13 then (if x13 < (x11.length : Int) then (if (rd x11 x13) = (wrap64 (x1 + x13)) then (impl_isFrom.l0 k x1 x6 x11 x12 (wrap64 (x13 + 1))) else (some (0, false))) else (none)) else (none)) else (some ((x6.length : Int), decide ((x6.length : Int) > 0)))
def impl_isFrom.f (k : Nat) (l0 : List Int) (a1 : Int) : Option (Int × Bool) := (impl_numbers.f k l0).bind fun t155 => (impl_isFrom.l0 k a1 t155 t155 (t155.length : Int) 0)
theorem impl_isFrom.mono_l : ∀ k, (∀ y0 y1 y2 y3 y4, LeO (impl_isFrom.l0 k y0 y1 y2 y3 y4) (impl_isFrom.l0 (k + 1) y0 y1 y2 y3 y4))
 | 0 => fun _ _ _ _ _ r h => by simp [impl_isFrom.l0] at h
 | k + 1 => by
  have ih0 := impl_isFrom.mono_l k
  ·intro y0 y1 y2 y3 y4
   unfold impl_isFrom.l0
   repeat' (first | (with_reducible first | exact ih0 _ _ _ _ _ | exact LeO.refl _ | exact LeO.none _ | refine LeO.ite ?_ ?_ | refine LeO.bind ?_ (fun _ => ?_)) | exact ih0 _ _ _ _ _ | exact LeO.none _ | refine LeO.ite ?_ ?_ | refine LeO.bind ?_ (fun _ => ?_))
theorem impl_isFrom.mono : ∀ a0 a1 k, LeO (impl_isFrom.f k a0 a1) (impl_isFrom.f (k + 1) a0 a1) := by
 intro a0 a1 k
 have ih0 := impl_isFrom.mono_l k
 unfold impl_isFrom.f
 repeat' (first | (with_reducible first | exact ih0 _ _ _ _ _ | exact impl_numbers.mono _ _ | exact LeO.refl _ | exact LeO.none _ | refine LeO.ite ?_ ?_ | refine LeO.bind ?_ (fun _ => ?_)) | exact ih0 _ _ _ _ _ | exact impl_numbers.mono _ _ | exact LeO.none _ | refine LeO.ite ?_ ?_ | refine LeO.bind ?_ (fun _ => ?_))
set_option maxHeartbeats 8000000 in
set_option maxRecDepth 100000 in
theorem impl_isFrom.calls (k : Nat) (A0 : Option Addr) (c0 : Nat) (l0 : List Int) (a1 : Int) (r1 : Int) (r2 : Bool) (w : World) (hr0 : Kd.C (Kd.int .i64) w A0 l0.length l0) (hc0 : l0.length ≤ c0) (h : impl_isFrom.f k l0 a1 = some (r1, r2)) :
  Calls Try.prog 241 #[.slice A0 l0.length c0, .int .i64 a1] w fun e w' => e = .returned (.tuple #[.int .i64 r1, .bool r2]) ∧ Below w.heap.size w w' := by
 have HR0 := Aside0.mk hr0
 have HC0 := Aside0.mk hc0
 clear hr0 hc0
 have HB := Aside0.mk (Below.refl w.heap.size w)
 have H := h
 unfold impl_isFrom.f at H
 clear h
 replace H := Option.bind_eq_some_iff.mp H
 obtain ⟨t155, A30, H⟩ := H
 replace H : (impl_isFrom.l0 k a1 t155 t155 (t155.length : Int) 0) = some (r1, r2) := H
 have A3 := Aside0.mk A30
 clear A30
 have H' := Aside0.mk H
 clear H
 go_enter Try.func241, Try.ntmps241
 go_wp2_with (first | ((with_reducible refine gate_callee (f := 176) rfl ?_); refine goesA (some 10) Try.func176 #[.slice A0 l0.length c0] ?_; (with_reducible refine (impl_numbers.calls k _ _ l0 t155 _ ?side1 ?side2 A3.out).mono ?_); (case side1 => repeat (first | exact HR0.out | (with_reducible refine Kd.C_alloc ?_ _) | (with_reducible refine Kd.C_drewN ?_ _) | (with_reducible refine Kd.C_drew ?_))); (case side2 => exact HC0.out); rintro e w4 ⟨v156, rfl, ho0, hb⟩; refine ⟨_, rfl, ?_⟩; have HO157 := lowR ho0 HB; replace HB := upB HB hb; (try clear hb); (try clear hb2); (try clear hk); (try clear hi); (try clear ho0); obtain ⟨Ao5, co5, eo5⟩ := Kd.R_slice HO157.out; subst eo5))
 go_loopg [13] k (fun kq v13 w' => ∃ (x13_1 : Int), v13 = .int .i64 x13_1 ∧ Aside0 (impl_isFrom.l0 kq a1 t155 t155 (t155.length : Int) x13_1 = some (r1, r2)) ∧ Aside0 (kq ≤ k) ∧ Aside0 (Kd.R (Kd.int .i64) 3 w' w.heap.size (fun _ => True) (.slice Ao5 t155.length co5) t155) ∧ Aside0 (Kd.R (Kd.int .i64) 3 w' w.heap.size (fun _ => True) (.slice Ao5 t155.length co5) t155) ∧ Aside0 (Below w.heap.size w w'))
 case atStart => exact ⟨(0), eqd, H', ⟨Nat.le_refl _⟩, ⟨atR HO157⟩, ⟨atR HO157⟩, ⟨atB HB⟩⟩
 case round =>
  clear H'
  try clear c1
  try clear c2
  try clear p2
  obtain ⟨x13_1, rfl, HA, HK1, HO_6, HO_11, HB⟩ := hrel
  cases gk with
  | zero => exact absurd HA.out (by simp [impl_isFrom.l0])
  | succ k1 =>
   have H := HA.out
   clear HA
   simp only [impl_isFrom.l0] at H
   by_cases c6 : x13_1 < (t155.length : Int)
   ·rw [if_pos c6] at H
    have c6b0 : decide (x13_1 < (t155.length : Int)) = true := decide_eq_true c6
    clear c6
    by_cases c7 : 0 ≤ x13_1
    ·rw [if_pos c7] at H
     have c7b0 : decide (0 ≤ x13_1) = true := decide_eq_true c7
     clear c7
     by_cases c8 : x13_1 < (t155.length : Int)
     ·rw [if_pos c8] at H
      have c8b0 : decide (x13_1 < (t155.length : Int)) = true := decide_eq_true c8
      clear c8
      by_cases c9 : (rd t155 x13_1) = (wrap64 (a1 + x13_1))
      ·rw [if_pos c9] at H
       have c9b0 : ((rd t155 x13_1) == (wrap64 (a1 + x13_1))) = true := beq_iff_eq.mpr c9
       have c9b1 : ((rd t155 x13_1) != (wrap64 (a1 + x13_1))) = false := bne_eq_false_iff_eq.mpr c9
       clear c9
       have H' := Aside0.mk H
       clear H
       have p158 : 0 ≤ (x13_1 : Int) := ofd
       have q158 : x13_1 < (t155.length : Int) := ofd
       obtain ⟨ad158, e158, hx158_0⟩ := Kd.at_int (Kd.R_reads' HO_11.out).2.2 x13_1 p158 q158
       cases e158
       replace p158 := eq_true p158
       replace q158 := eq_true q158
       go_wp2
       go_roundg k1
       case measure => have := HK1.out; omega
       case rel => exact ⟨(wrap64 (x13_1 + 1)), eqd, H', ⟨by have := HK1.out; omega⟩, ⟨atR HO_6⟩, ⟨atR HO_11⟩, ⟨atB HB⟩⟩
      ·rw [if_neg c9] at H
       have c9b0 : ((rd t155 x13_1) == (wrap64 (a1 + x13_1))) = false := beq_eq_false_iff_ne.mpr c9
       have c9b1 : ((rd t155 x13_1) != (wrap64 (a1 + x13_1))) = true := bne_iff_ne.mpr c9
       simp only [Option.some.injEq, Prod.mk.injEq] at H
       obtain ⟨rfl, rfl⟩ := H
       have p158 : 0 ≤ (x13_1 : Int) := ofd
       have q158 : x13_1 < (t155.length : Int) := ofd
       obtain ⟨ad158, e158, hx158_0⟩ := Kd.at_int (Kd.R_reads' HO_11.out).2.2 x13_1 p158 q158
       cases e158
       replace p158 := eq_true p158
       replace q158 := eq_true q158
       go_wp2
       go_ret2
       exact ⟨eqr, atB HB⟩
     ·rw [if_neg c8] at H
      exact absurd H (by simp)
    ·rw [if_neg c7] at H
     exact absurd H (by simp)
   ·rw [if_neg c6] at H
    have c6b0 : decide (x13_1 < (t155.length : Int)) = false := decide_eq_false c6
    clear c6
    simp only [Option.some.injEq, Prod.mk.injEq] at H
    obtain ⟨rfl, rfl⟩ := H
    go_wp2
    go_ret2
    exact ⟨eqr, atB HB⟩

noncomputable def impl_isFrom.L0 (x1 : Int) (x6 : List Int) (x11 : List Int) (x12 : Int) (x13 : Int) : Option (Int × Bool) := lim fun k => impl_isFrom.l0 k x1 x6 x11 x12 x13
theorem impl_isFrom.L0_lim (x1 : Int) (x6 : List Int) (x11 : List Int) (x12 : Int) (x13 : Int) : Lim (fun k => impl_isFrom.l0 k x1 x6 x11 x12 x13) (impl_isFrom.L0 x1 x6 x11 x12 x13) := Lim.of fun k => (impl_isFrom.mono_l k) x1 x6 x11 x12 x13
noncomputable def impl_isFrom.F (l0 : List Int) (a1 : Int) : Option (Int × Bool) := lim fun k => impl_isFrom.f k l0 a1
theorem impl_isFrom.F_lim (l0 : List Int) (a1 : Int) : Lim (fun k => impl_isFrom.f k l0 a1) (impl_isFrom.F l0 a1) := Lim.of fun k => impl_isFrom.mono l0 a1 k
theorem impl_isFrom.L0_eq (x1 : Int) (x6 : List Int) (x11 : List Int) (x12 : Int) (x13 : Int) : impl_isFrom.L0 x1 x6 x11 x12 x13 = (if x13 < x12 then (if 0 ≤ x13 then (if x13 < (x11.length : Int) then (if (rd x11 x13) = (wrap64 (x1 + x13)) then (impl_isFrom.L0 x1 x6 x11 x12 (wrap64 (x13 + 1))) else (some (0, false))) else (none)) else (none)) else (some ((x6.length : Int), decide ((x6.length : Int) > 0)))) :=
 Lim.step (f := fun k => impl_isFrom.l0 (k + 1) x1 x6 x11 x12 x13) (impl_isFrom.L0_lim x1 x6 x11 x12 x13) (fun _ => rfl) (by
  simp only [impl_isFrom.l0]
  repeat' (first | (with_reducible first | exact Lim.const _ | exact impl_isFrom.L0_lim _ _ _ _ _ | refine Lim.ite ?_ ?_ | refine Lim.bind ?_ (fun _ => ?_))))
theorem impl_isFrom.F_eq (l0 : List Int) (a1 : Int) : impl_isFrom.F l0 a1 = ((impl_numbers.F l0).bind fun t155 => (impl_isFrom.L0 a1 t155 t155 (t155.length : Int) 0)) :=
 Lim.unique (impl_isFrom.F_lim l0 a1) (by
  unfold impl_isFrom.f
  repeat' (first | (with_reducible first | exact Lim.const _ | exact impl_isFrom.L0_lim _ _ _ _ _ | exact impl_numbers.F_lim _ | refine Lim.ite ?_ ?_ | refine Lim.bind ?_ (fun _ => ?_))))

end Go.Proofs.Ytaohgllnoomaeaa.Fn
namespace Go.Proofs.Ytaohgllnoomaeaa.Fn
open Go.RowKit Go.Proofs.YtaohgllnoomaeaaW.PrintWords Go.Proofs.YtaohgllnoomaeaaW.PrintLast Go.Proofs.YtaohgllnoomaeaaW.PrintMore
attribute [local go_sem] max2_int min2_int max_two min_two max_three min_three max_four min_four   -- for this text's walks alone
set_option linter.unusedVariables false
set_option linter.unusedSimpArgs false

/-! ### impl_extended: function 222 -/
def impl_extended.j0 : Nat → List Int → Bool → Option (Int × Int)
 | 0, _, _ => none
 | k + 1, x0, x14 => if x14 = true then (some (0, 0)) else ((impl_isFrom.f k x0 1).bind fun bt281 => ((impl_holes.f k x0).bind fun t283 => (if 0 < (t283.length : Int) then (some (bt281.1, rd t283 0)) else (none))))
def impl_extended.f (k : Nat) (l0 : List Int) : Option (Int × Int) := (impl_fits.f k l0 0).bind fun t277 => (if t277 = true then ((impl_holes.f k l0).bind fun t278 => (impl_extended.j0 k l0 ((t278.length : Int) != 1))) else (impl_extended.j0 k l0 true))
theorem impl_extended.mono_l : ∀ k, (∀ y0 y1, LeO (impl_extended.j0 k y0 y1) (impl_extended.j0 (k + 1) y0 y1))
 | 0 => fun _ _ r h => by simp [impl_extended.j0] at h
 | k + 1 => by
  have ih0 := impl_extended.mono_l k
  ·intro y0 y1
   unfold impl_extended.j0
   repeat' (first | (with_reducible first | exact impl_holes.mono _ _ | exact impl_isFrom.mono _ _ _ | exact LeO.refl _ | exact LeO.none _ | refine LeO.ite ?_ ?_ | refine LeO.bind ?_ (fun _ => ?_)) | exact impl_holes.mono _ _ | exact impl_isFrom.mono _ _ _ | exact LeO.none _ | refine LeO.ite ?_ ?_ | refine LeO.bind ?_ (fun _ => ?_))
theorem impl_extended.mono : ∀ a0 k, LeO (impl_extended.f k a0) (impl_extended.f (k + 1) a0) := by
 intro a0 k
 have ih0 := impl_extended.mono_l k
 unfold impl_extended.f
 repeat' (first | (with_reducible first | exact ih0 _ _ | exact impl_fits.mono _ _ _ | exact impl_holes.mono _ _ | exact LeO.refl _ | exact LeO.none _ | refine LeO.ite ?_ ?_ | refine LeO.bind ?_ (fun _ => ?_)) | exact ih0 _ _ | exact impl_fits.mono _ _ _ | exact impl_holes.mono _ _ | exact LeO.none _ | refine LeO.ite ?_ ?_ | refine LeO.bind ?_ (fun _ => ?_))
set_option maxHeartbeats 8000000 in
set_option maxRecDepth 100000 in
theorem impl_extended.calls (k : Nat) (A0 : Option Addr) (c0 : Nat) (l0 : List Int) (r1 : Int) (r2 : Int) (w : World) (hr0 : Kd.C (Kd.int .i64) w A0 l0.length l0) (hc0 : l0.length ≤ c0) (h : impl_extended.f k l0 = some (r1, r2)) :
  Calls Try.prog 222 #[.slice A0 l0.length c0] w fun e w' => e = .returned (.tuple #[.int .i64 r1, .int .i64 r2]) ∧ Below w.heap.size w w' := by
 have HR0 := Aside0.mk hr0
 have HC0 := Aside0.mk hc0
 clear hr0 hc0
 have HB := Aside0.mk (Below.refl w.heap.size w)
 have H := h
 unfold impl_extended.f at H
 clear h
 have HC2 := Aside0.mk H
 clear H
 go_enter Try.func222, Try.ntmps222
 go_upto_region 1 with (fail)
 go_cut [14] (fun v14 wc => ∃ (kq : Nat) (x14_1 : Bool), v14 = .bool x14_1 ∧ Aside0 (impl_extended.j0 kq l0 x14_1 = some (r1, r2)) ∧ Aside0 (kq ≤ k) ∧ Aside0 (Below w.heap.size w wc))
 case first =>
  have H := HC2.out
  clear HC2
  replace H := Option.bind_eq_some_iff.mp H
  obtain ⟨t277, A30, H⟩ := H
  replace H : (if t277 = true then ((impl_holes.f k l0).bind fun t278 => (impl_extended.j0 k l0 ((t278.length : Int) != 1))) else (impl_extended.j0 k l0 true)) = some (r1, r2) := H
  have A3 := Aside0.mk A30
  clear A30
  by_cases c4 : t277 = true
  ·subst c4
   have H1 : ((impl_holes.f k l0).bind fun t278 => (impl_extended.j0 k l0 ((t278.length : Int) != 1))) = some (r1, r2) := by rw [if_pos rfl] at H; exact H
   clear H
   have H := H1
   clear H1
   replace H := Option.bind_eq_some_iff.mp H
   obtain ⟨t278, A50, H⟩ := H
   replace H : (impl_extended.j0 k l0 ((t278.length : Int) != 1)) = some (r1, r2) := H
   have A5 := Aside0.mk A50
   clear A50
   have H' := Aside0.mk H
   clear H
   go_wp2_with (first | ((with_reducible refine gate_callee (f := 158) rfl ?_); refine goesA (some 7) Try.func158 #[.slice A0 l0.length c0, .int .i64 0] ?_; (with_reducible refine (impl_fits.calls k _ _ l0 0 true _ ?side1 ?side2 A3.out).mono ?_); (case side1 => repeat (first | exact (Kd.C_below HR0.out HB.out) | (with_reducible refine Kd.C_alloc ?_ _) | (with_reducible refine Kd.C_drewN ?_ _) | (with_reducible refine Kd.C_drew ?_))); (case side2 => exact HC0.out); rintro e w6 ⟨rfl, hb⟩; refine ⟨_, rfl, ?_⟩; replace HB := upB HB hb; (try clear hb); (try clear hb2); (try clear hk); (try clear hi)) | (go_at_call 182; (with_reducible refine (impl_holes.calls k _ _ l0 t278 _ ?side1 ?side2 A5.out).mono ?_); (case side1 => repeat (first | exact (Kd.C_below HR0.out HB.out) | (with_reducible refine Kd.C_alloc ?_ _) | (with_reducible refine Kd.C_drewN ?_ _) | (with_reducible refine Kd.C_drew ?_))); (case side2 => exact HC0.out); rintro e w7 ⟨v279, rfl, ho0, hb⟩; have HO280 := lowR ho0 HB; replace HB := upB HB hb; (try clear hb); (try clear hb2); (try clear hk); (try clear hi); (try clear ho0); obtain ⟨Ao8, co8, eo8⟩ := Kd.R_slice HO280.out; subst eo8))
   go_meet
   case rel => exact ⟨_, (((t278.length : Int) != 1)), eqd, H', ⟨leD⟩, ⟨atB HB⟩⟩
  ·replace c4 := Bool.eq_false_iff.mpr c4
   subst c4
   have H1 : (impl_extended.j0 k l0 true) = some (r1, r2) := by rw [if_neg (show ¬ (false = true) by decide)] at H; exact H
   clear H
   have H := H1
   clear H1
   have H' := Aside0.mk H
   clear H
   go_wp2_with (first | ((with_reducible refine gate_callee (f := 158) rfl ?_); refine goesA (some 7) Try.func158 #[.slice A0 l0.length c0, .int .i64 0] ?_; (with_reducible refine (impl_fits.calls k _ _ l0 0 false _ ?side1 ?side2 A3.out).mono ?_); (case side1 => repeat (first | exact (Kd.C_below HR0.out HB.out) | (with_reducible refine Kd.C_alloc ?_ _) | (with_reducible refine Kd.C_drewN ?_ _) | (with_reducible refine Kd.C_drew ?_))); (case side2 => exact HC0.out); rintro e w9 ⟨rfl, hb⟩; refine ⟨_, rfl, ?_⟩; replace HB := upB HB hb; (try clear hb); (try clear hb2); (try clear hk); (try clear hi)))
   go_meet
   case rel => exact ⟨_, (true), eqd, H', ⟨leD⟩, ⟨atB HB⟩⟩
 case rest =>
  clear HC2
  try clear c1
  try clear c2
  try clear p2
  try clear c4
  obtain ⟨kq, x14_1, rfl, HA, HJ1, HB⟩ := hcut
  cases kq with
  | zero => exact absurd HA.out (by simp [impl_extended.j0])
  | succ kj1 =>
   have H := HA.out
   clear HA
   simp only [impl_extended.j0] at H
   by_cases c10 : x14_1 = true
   ·subst c10
    have H1 : (some (0, 0)) = some (r1, r2) := by rw [if_pos rfl] at H; exact H
    clear H
    have H := H1
    clear H1
    simp only [Option.some.injEq, Prod.mk.injEq] at H
    obtain ⟨rfl, rfl⟩ := H
    go_wp2
    go_ret2
    exact ⟨eqr, atB HB⟩
   ·replace c10 := Bool.eq_false_iff.mpr c10
    subst c10
    have H1 : ((impl_isFrom.f kj1 l0 1).bind fun bt281 => ((impl_holes.f kj1 l0).bind fun t283 => (if 0 < (t283.length : Int) then (some (bt281.1, rd t283 0)) else (none)))) = some (r1, r2) := by rw [if_neg (show ¬ (false = true) by decide)] at H; exact H
    clear H
    have H := H1
    clear H1
    replace H := Option.bind_eq_some_iff.mp H
    obtain ⟨⟨t281, t282⟩, A110, H⟩ := H
    replace H : ((impl_holes.f kj1 l0).bind fun t283 => (if 0 < (t283.length : Int) then (some (t281, rd t283 0)) else (none))) = some (r1, r2) := H
    have A11 := Aside0.mk A110
    clear A110
    replace H := Option.bind_eq_some_iff.mp H
    obtain ⟨t283, A120, H⟩ := H
    replace H : (if 0 < (t283.length : Int) then (some (t281, rd t283 0)) else (none)) = some (r1, r2) := H
    have A12 := Aside0.mk A120
    clear A120
    by_cases c13 : 0 < (t283.length : Int)
    ·rw [if_pos c13] at H
     have c13b0 : decide (0 < (t283.length : Int)) = true := decide_eq_true c13
     have c13b1 : decide (0 < t283.length) = true := decide_eq_true (by omega)
     clear c13
     simp only [Option.some.injEq, Prod.mk.injEq] at H
     obtain ⟨rfl, rfl⟩ := H
     try go_wp2_with (first | ((with_reducible refine gate_callee (f := 241) rfl ?_); refine goesA (some 17) Try.func241 #[.slice A0 l0.length c0, .int .i64 1] ?_; (with_reducible refine (impl_isFrom.calls kj1 _ _ l0 1 t281 t282 _ ?side1 ?side2 A11.out).mono ?_); (case side1 => repeat (first | exact (Kd.C_below HR0.out HB.out) | (with_reducible refine Kd.C_alloc ?_ _) | (with_reducible refine Kd.C_drewN ?_ _) | (with_reducible refine Kd.C_drew ?_))); (case side2 => exact HC0.out); rintro e w14 ⟨rfl, hb⟩; refine ⟨_, rfl, ?_⟩; replace HB := upB HB hb; (try clear hb); (try clear hb2); (try clear hk); (try clear hi)))
     have n0_ := Aside0.mk (below_drew1 HB.out)
     clear HB
     have HB := n0_
     clear n0_
     refine start_ (n := 7) (S := fun _ => True) (ds := []) #[false, false, false, false, false, false, false] (by kernel_rfl) rfl rfl (trivial) (fun hHeld => ?_)
     generalize w14.drew = w15 at HB hHeld ⊢
     refine pure_ (i := 0) (N := some 20) (v := ?_) (a' := ?_) #[true, false, false, false, false, false, false] rfl rfl (by kernel_rfl) (fun _ _ _ h => h) (Or.inl ⟨by rfl, ?_⟩) ?_ ?_
     rotate_left
     ·intro w'
      go_simp
      with_reducible rfl
     rotate_left
     ·simp only [Act.put, List.setIfInBounds_toArray, List.set_cons_zero, List.set_cons_succ, i64_w, i32_w]
      rfl
     refine pure_ (i := 1) (N := some 21) (v := ?_) (a' := ?_) #[true, true, false, false, false, false, false] rfl rfl (by kernel_rfl) (fun _ _ _ h => h) (Or.inl ⟨by rfl, ?_⟩) ?_ ?_
     rotate_left
     ·intro w'
      go_simp
      with_reducible rfl
     rotate_left
     ·simp only [Act.put, List.setIfInBounds_toArray, List.set_cons_zero, List.set_cons_succ, i64_w, i32_w]
      rfl
     refine one_ (i := 2) (N := some 22) #[true, true, true, false, false, false, false] rfl rfl (by kernel_rfl) (by decide) (fun K hK => ?_)
     refine goes_ Try.func182 (by kernel_rfl) rfl #[.slice A0 l0.length c0] (by rfl) rfl rfl (by (try simp only [List.map_toArray, List.map_cons, List.map_nil]); first | done | rfl | (simp only [List.length_drop, List.length_take]; rfl)) ?_
     with_reducible refine (impl_holes.calls kj1 _ _ l0 t283 _ ?side1 ?side2 A12.out).mono ?_
     (case side1 => repeat (first | exact (Kd.C_below HR0.out HB.out) | (with_reducible refine Kd.C_alloc ?_ _) | (with_reducible refine Kd.C_drewN ?_ _) | (with_reducible refine Kd.C_drew ?_)))
     (case side2 => exact HC0.out)
     rintro e w16 ⟨v284, rfl, ho0, hb⟩
     have HS0_ : True := trivial
     refine ⟨_, rfl, ?_⟩
     have n0_ := lowR ho0 HB
     have n1_ := upB HB hb
     clear HB
     have HO285 := n0_
     have HB := n1_
     clear n0_ n1_
     (try clear hb)
     (try clear hb2)
     (try clear hk)
     (try clear hi)
     (try clear ho0)
     obtain ⟨Ao17, co17, eo17⟩ := Kd.R_slice HO285.out
     (first | subst eo17 | (injection eo17 with f1_ f2_ f3_; have f4_ := f1_.symm; have f5_ := f3_.symm; clear f1_ f2_ f3_; subst f4_; subst f5_))
     have p286 : 0 ≤ (0 : Int) := (by omega)
     have q286 : 0 < (t283.length : Int) := ofd
     obtain ⟨ad286, e286, hx286_0⟩ := Kd.at_int (Kd.R_reads' HO285.out).2.2 0 p286 q286
     cases e286
     have qi286 : (0 < t283.length) = True := eq_true (by omega)
     (try rw [show ((0 : Int)).toNat = 0 from rfl] at hx286_0)
     (try rw [Addr.add_zero'] at hx286_0)
     replace p286 := eq_true p286
     replace q286 := eq_true q286
     refine hK.out _ _ (HS0_) (fun hHeld => ?_)
     clear hK K
     refine weak_ (S' := fun w' => w'.cell? ad286 = some (.int .i64 (rd t283 0))) ?_
     clear hHeld
     have hHeld := hx286_0
     refine norm_ (a' := ?_) ?_ ?_
     rotate_left
     ·show Act.put _ (some 22) _ = _
      simp only [Act.put, List.setIfInBounds_toArray, List.set_cons_zero, List.set_cons_succ, i64_w, i32_w]
      rfl
     refine pure_ (i := 3) (N := some 23) (v := ?_) (a' := ?_) #[true, true, true, true, false, false, false] rfl rfl (by kernel_rfl) (fun _ _ _ h => h) (Or.inl ⟨by rfl, ?_⟩) ?_ ?_
     rotate_left
     ·intro w'
      go_simp
      with_reducible rfl
     rotate_left
     ·simp only [Act.put, List.setIfInBounds_toArray, List.set_cons_zero, List.set_cons_succ, i64_w, i32_w]
      rfl
     refine pure_ (i := 5) (N := some 2) (v := ?_) (a' := ?_) #[true, true, true, true, false, true, false] rfl rfl (by kernel_rfl) (fun _ _ _ h => h) (Or.inl ⟨by rfl, ?_⟩) ?_ ?_
     rotate_left
     ·intro w'
      go_simp
      with_reducible rfl
     rotate_left
     ·simp only [Act.put, List.setIfInBounds_toArray, List.set_cons_zero, List.set_cons_succ, i64_w, i32_w]
      rfl
     refine take_ (i := 4) (N := some 24) (v := ?_) (a' := ?_) #[true, true, true, true, true, true, false] rfl rfl (by kernel_rfl) (fun _ _ _ h => h) (Or.inl ⟨by rfl, ?_⟩) hHeld ?_ ?_
     rotate_left
     ·intro w' s0
      go_simp
      with_reducible rfl
     rotate_left
     ·simp only [Act.put, List.setIfInBounds_toArray, List.set_cons_zero, List.set_cons_succ, i64_w, i32_w]
      rfl
     refine pure_ (i := 6) (N := some 3) (v := ?_) (a' := ?_) #[true, true, true, true, true, true, true] rfl rfl (by kernel_rfl) (fun _ _ _ h => h) (Or.inl ⟨by rfl, ?_⟩) ?_ ?_
     rotate_left
     ·intro w'
      go_simp
      with_reducible rfl
     rotate_left
     ·simp only [Act.put, List.setIfInBounds_toArray, List.set_cons_zero, List.set_cons_succ, i64_w, i32_w]
      rfl
     refine done_ (by kernel_rfl) ?_
     try go_wp2
     go_ret2
     exact ⟨eqr, atB HB⟩
    ·rw [if_neg c13] at H
     exact absurd H (by simp)

noncomputable def impl_extended.J0 (x0 : List Int) (x14 : Bool) : Option (Int × Int) := lim fun k => impl_extended.j0 k x0 x14
theorem impl_extended.J0_lim (x0 : List Int) (x14 : Bool) : Lim (fun k => impl_extended.j0 k x0 x14) (impl_extended.J0 x0 x14) := Lim.of fun k => (impl_extended.mono_l k) x0 x14
noncomputable def impl_extended.F (l0 : List Int) : Option (Int × Int) := lim fun k => impl_extended.f k l0
theorem impl_extended.F_lim (l0 : List Int) : Lim (fun k => impl_extended.f k l0) (impl_extended.F l0) := Lim.of fun k => impl_extended.mono l0 k
theorem impl_extended.J0_eq (x0 : List Int) (x14 : Bool) : impl_extended.J0 x0 x14 = (if x14 = true then (some (0, 0)) else ((impl_isFrom.F x0 1).bind fun bt281 => ((impl_holes.F x0).bind fun t283 => (if 0 < (t283.length : Int) then (some (bt281.1, rd t283 0)) else (none))))) :=
 Lim.step (f := fun k => impl_extended.j0 (k + 1) x0 x14) (impl_extended.J0_lim x0 x14) (fun _ => rfl) (by
  simp only [impl_extended.j0]
  repeat' (first | (with_reducible first | exact Lim.const _ | exact impl_holes.F_lim _ | exact impl_isFrom.F_lim _ _ | refine Lim.ite ?_ ?_ | refine Lim.bind ?_ (fun _ => ?_))))
theorem impl_extended.F_eq (l0 : List Int) : impl_extended.F l0 = ((impl_fits.F l0 0).bind fun t277 => (if t277 = true then ((impl_holes.F l0).bind fun t278 => (impl_extended.J0 l0 ((t278.length : Int) != 1))) else (impl_extended.J0 l0 true))) :=
 Lim.unique (impl_extended.F_lim l0) (by
  unfold impl_extended.f
  repeat' (first | (with_reducible first | exact Lim.const _ | exact impl_extended.J0_lim _ _ | exact impl_fits.F_lim _ _ | exact impl_holes.F_lim _ | refine Lim.ite ?_ ?_ | refine Lim.bind ?_ (fun _ => ?_))))

end Go.Proofs.Ytaohgllnoomaeaa.Fn
namespace Go.Proofs.Ytaohgllnoomaeaa.Fn
open Go.RowKit Go.Proofs.YtaohgllnoomaeaaW.PrintWords Go.Proofs.YtaohgllnoomaeaaW.PrintLast Go.Proofs.YtaohgllnoomaeaaW.PrintMore
attribute [local go_sem] max2_int min2_int max_two min_two max_three min_three max_four min_four   -- for this text's walks alone
set_option linter.unusedVariables false
set_option linter.unusedSimpArgs false

/-! ### impl_hooked: function 168 -/
def impl_hooked.f (k : Nat) (l0 : List Int) : Option (Int) := (impl_extended.f k l0).bind fun bt287 => (if bt287.2 = (wrap64 ((l0.length : Int) - 2)) then (some bt287.1) else (some 0))
theorem impl_hooked.mono : ∀ a0 k, LeO (impl_hooked.f k a0) (impl_hooked.f (k + 1) a0) := by
 intro a0 k
 unfold impl_hooked.f
 repeat' (first | (with_reducible first | exact impl_extended.mono _ _ | exact LeO.refl _ | exact LeO.none _ | refine LeO.ite ?_ ?_ | refine LeO.bind ?_ (fun _ => ?_)) | exact impl_extended.mono _ _ | exact LeO.none _ | refine LeO.ite ?_ ?_ | refine LeO.bind ?_ (fun _ => ?_))
set_option maxHeartbeats 8000000 in
set_option maxRecDepth 100000 in
theorem impl_hooked.calls (k : Nat) (A0 : Option Addr) (c0 : Nat) (l0 : List Int) (r : Int) (w : World) (hr0 : Kd.C (Kd.int .i64) w A0 l0.length l0) (hc0 : l0.length ≤ c0) (h : impl_hooked.f k l0 = some r) :
  Calls Try.prog 168 #[.slice A0 l0.length c0] w fun e w' => e = .returned (.int .i64 r) ∧ Below w.heap.size w w' := by
 have HR0 := Aside0.mk hr0
 have HC0 := Aside0.mk hc0
 clear hr0 hc0
 have HB := Aside0.mk (Below.refl w.heap.size w)
 have H := h
 unfold impl_hooked.f at H
 clear h
 replace H := Option.bind_eq_some_iff.mp H
 obtain ⟨⟨t287, t288⟩, A20, H⟩ := H
 replace H : (if t288 = (wrap64 ((l0.length : Int) - 2)) then (some t287) else (some 0)) = some r := H
 have A2 := Aside0.mk A20
 clear A20
 by_cases c3 : t288 = (wrap64 ((l0.length : Int) - 2))
 ·rw [if_pos c3] at H
  have c3b0 : (t288 == (wrap64 ((l0.length : Int) - 2))) = true := beq_iff_eq.mpr c3
  have c3b1 : (t288 != (wrap64 ((l0.length : Int) - 2))) = false := bne_eq_false_iff_eq.mpr c3
  clear c3
  obtain rfl := Option.some.inj H
  go_enter Try.func168, Try.ntmps168
  go_wp2_with (first | ((with_reducible refine gate_callee (f := 222) rfl ?_); refine goesA (some 7) Try.func222 #[.slice A0 l0.length c0] ?_; (with_reducible refine (impl_extended.calls k _ _ l0 t287 t288 _ ?side1 ?side2 A2.out).mono ?_); (case side1 => repeat (first | exact HR0.out | (with_reducible refine Kd.C_alloc ?_ _) | (with_reducible refine Kd.C_drewN ?_ _) | (with_reducible refine Kd.C_drew ?_))); (case side2 => exact HC0.out); rintro e w4 ⟨rfl, hb⟩; refine ⟨_, rfl, ?_⟩; replace HB := upB HB hb; (try clear hb); (try clear hb2); (try clear hk); (try clear hi)))
  go_ret
  exact ⟨eqr, atB HB⟩
 ·rw [if_neg c3] at H
  have c3b0 : (t288 == (wrap64 ((l0.length : Int) - 2))) = false := beq_eq_false_iff_ne.mpr c3
  have c3b1 : (t288 != (wrap64 ((l0.length : Int) - 2))) = true := bne_iff_ne.mpr c3
  obtain rfl := Option.some.inj H
  go_enter Try.func168, Try.ntmps168
  go_wp2_with (first | ((with_reducible refine gate_callee (f := 222) rfl ?_); refine goesA (some 7) Try.func222 #[.slice A0 l0.length c0] ?_; (with_reducible refine (impl_extended.calls k _ _ l0 t287 t288 _ ?side1 ?side2 A2.out).mono ?_); (case side1 => repeat (first | exact HR0.out | (with_reducible refine Kd.C_alloc ?_ _) | (with_reducible refine Kd.C_drewN ?_ _) | (with_reducible refine Kd.C_drew ?_))); (case side2 => exact HC0.out); rintro e w5 ⟨rfl, hb⟩; refine ⟨_, rfl, ?_⟩; replace HB := upB HB hb; (try clear hb); (try clear hb2); (try clear hk); (try clear hi)))
  go_ret
  exact ⟨eqr, atB HB⟩

noncomputable def impl_hooked.F (l0 : List Int) : Option (Int) := lim fun k => impl_hooked.f k l0
theorem impl_hooked.F_lim (l0 : List Int) : Lim (fun k => impl_hooked.f k l0) (impl_hooked.F l0) := Lim.of fun k => impl_hooked.mono l0 k
theorem impl_hooked.F_eq (l0 : List Int) : impl_hooked.F l0 = ((impl_extended.F l0).bind fun bt287 => (if bt287.2 = (wrap64 ((l0.length : Int) - 2)) then (some bt287.1) else (some 0))) :=
 Lim.unique (impl_hooked.F_lim l0) (by
  unfold impl_hooked.f
  repeat' (first | (with_reducible first | exact Lim.const _ | exact impl_extended.F_lim _ | refine Lim.ite ?_ ?_ | refine Lim.bind ?_ (fun _ => ?_))))

end Go.Proofs.Ytaohgllnoomaeaa.Fn
namespace Go.Proofs.Ytaohgllnoomaeaa.Fn
open Go.RowKit Go.Proofs.YtaohgllnoomaeaaW.PrintWords Go.Proofs.YtaohgllnoomaeaaW.PrintLast Go.Proofs.YtaohgllnoomaeaaW.PrintMore
attribute [local go_sem] max2_int min2_int max_two min_two max_three min_three max_four min_four   -- for this text's walks alone
set_option linter.unusedVariables false
set_option linter.unusedSimpArgs false

/-! ### impl_isNumber: function 153 -/
def impl_isNumber.f (a0 : Int) : Option (Bool) := if a0 ≥ 1 then (some (decide (a0 ≤ 20))) else (some false)
set_option maxHeartbeats 8000000 in
set_option maxRecDepth 100000 in
theorem impl_isNumber.calls (a0 : Int) (r : Bool) (w : World) (h : impl_isNumber.f a0 = some r) :
  Calls Try.prog 153 #[.int .i64 a0] w fun e w' => e = .returned (.bool r) ∧ Drawn0 w w' := by
 have H := h
 unfold impl_isNumber.f at H
 clear h
 by_cases c2 : a0 ≥ 1
 ·rw [if_pos c2] at H
  have c2b0 : decide (1 ≤ a0) = true := decide_eq_true c2
  clear c2
  obtain rfl := Option.some.inj H
  go_enter Try.func153, Try.ntmps153
  go_wp2
  go_ret
  exact ⟨by first | rfl | (simp; done) | (simp [*]; done), by repeat (first | exact Drawn0.refl _ | apply Drawn0.step)⟩
 ·rw [if_neg c2] at H
  have c2b0 : decide (1 ≤ a0) = false := decide_eq_false c2
  clear c2
  obtain rfl := Option.some.inj H
  go_enter Try.func153, Try.ntmps153
  go_wp2
  go_ret
  exact ⟨by first | rfl | (simp; done) | (simp [*]; done), by repeat (first | exact Drawn0.refl _ | apply Drawn0.step)⟩


end Go.Proofs.Ytaohgllnoomaeaa.Fn
namespace Go.Proofs.Ytaohgllnoomaeaa.Fn
open Go.RowKit Go.Proofs.YtaohgllnoomaeaaW.PrintWords Go.Proofs.YtaohgllnoomaeaaW.PrintLast Go.Proofs.YtaohgllnoomaeaaW.PrintMore
attribute [local go_sem] max2_int min2_int max_two min_two max_three min_three max_four min_four   -- for this text's walks alone
set_option linter.unusedVariables false
set_option linter.unusedSimpArgs false

/-! ### impl_IsExtendedThere: function 113 -/
def impl_IsExtendedThere.f (a0 : Int) (a1 : Int) : Option (Bool × Bool) := (impl_isNumber.f a0).bind fun t1139 => (if t1139 = true then (if a1 < 0 then (some (false, false)) else (if a1 > (wrap64 (2 * a0)) then (some (false, false)) else (some ((((Int.tmod a1 2) == 0) == (decide ((Int.tmod a0 4) ≤ 1))), true)))) else (some (false, false)))
set_option maxHeartbeats 8000000 in
set_option maxRecDepth 100000 in
theorem impl_IsExtendedThere.calls (a0 : Int) (a1 : Int) (r1 : Bool) (r2 : Bool) (w : World) (h : impl_IsExtendedThere.f a0 a1 = some (r1, r2)) :
  Calls Try.prog 113 #[.int .i64 a0, .int .i64 a1] w fun e w' => e = .returned (.tuple #[.bool r1, .bool r2]) ∧ Drawn0 w w' := by
 have H := h
 unfold impl_IsExtendedThere.f at H
 clear h
 replace H := Option.bind_eq_some_iff.mp H
 obtain ⟨t1139, A30, H⟩ := H
 replace H : (if t1139 = true then (if a1 < 0 then (some (false, false)) else (if a1 > (wrap64 (2 * a0)) then (some (false, false)) else (some ((((Int.tmod a1 2) == 0) == (decide ((Int.tmod a0 4) ≤ 1))), true)))) else (some (false, false))) = some (r1, r2) := H
 have A3 := Aside0.mk A30
 clear A30
 by_cases c4 : t1139 = true
 ·subst c4
  have H1 : (if a1 < 0 then (some (false, false)) else (if a1 > (wrap64 (2 * a0)) then (some (false, false)) else (some ((((Int.tmod a1 2) == 0) == (decide ((Int.tmod a0 4) ≤ 1))), true)))) = some (r1, r2) := by rw [if_pos rfl] at H; exact H
  clear H
  have H := H1
  clear H1
  by_cases c5 : a1 < 0
  ·rw [if_pos c5] at H
   have c5b0 : decide (a1 < 0) = true := decide_eq_true c5
   clear c5
   simp only [Option.some.injEq, Prod.mk.injEq] at H
   obtain ⟨rfl, rfl⟩ := H
   go_enter Try.func113, Try.ntmps113
   go_wp2_with (first | ((with_reducible refine gate_callee (f := 153) rfl ?_); refine goesA (some 7) Try.func153 #[.int .i64 a0] ?_; (with_reducible refine (impl_isNumber.calls a0 true _ A3.out).mono ?_); rintro e w' ⟨rfl, ⟨nd, rfl⟩⟩; refine ⟨_, rfl, ?_⟩))
   go_ret2
   exact ⟨by first | rfl | (simp; done) | (simp [*]; done), by repeat (first | exact Drawn0.refl _ | apply Drawn0.step)⟩
  ·rw [if_neg c5] at H
   have c5b0 : decide (a1 < 0) = false := decide_eq_false c5
   clear c5
   by_cases c6 : a1 > (wrap64 (2 * a0))
   ·rw [if_pos c6] at H
    have c6b0 : decide ((wrap64 (2 * a0)) < a1) = true := decide_eq_true c6
    clear c6
    simp only [Option.some.injEq, Prod.mk.injEq] at H
    obtain ⟨rfl, rfl⟩ := H
    go_enter Try.func113, Try.ntmps113
    go_wp2_with (first | ((with_reducible refine gate_callee (f := 153) rfl ?_); refine goesA (some 7) Try.func153 #[.int .i64 a0] ?_; (with_reducible refine (impl_isNumber.calls a0 true _ A3.out).mono ?_); rintro e w' ⟨rfl, ⟨nd, rfl⟩⟩; refine ⟨_, rfl, ?_⟩))
    go_ret2
    exact ⟨by first | rfl | (simp; done) | (simp [*]; done), by repeat (first | exact Drawn0.refl _ | apply Drawn0.step)⟩
   ·rw [if_neg c6] at H
    have c6b0 : decide ((wrap64 (2 * a0)) < a1) = false := decide_eq_false c6
    clear c6
    simp only [Option.some.injEq, Prod.mk.injEq] at H
    obtain ⟨rfl, rfl⟩ := H
    go_enter Try.func113, Try.ntmps113
    go_wp2_with (first | ((with_reducible refine gate_callee (f := 153) rfl ?_); refine goesA (some 7) Try.func153 #[.int .i64 a0] ?_; (with_reducible refine (impl_isNumber.calls a0 true _ A3.out).mono ?_); rintro e w' ⟨rfl, ⟨nd, rfl⟩⟩; refine ⟨_, rfl, ?_⟩))
    go_ret2
    exact ⟨by first | rfl | (simp; done) | (simp [*]; done), by repeat (first | exact Drawn0.refl _ | apply Drawn0.step)⟩
 ·replace c4 := Bool.eq_false_iff.mpr c4
  subst c4
  have H1 : (some (false, false)) = some (r1, r2) := by rw [if_neg (show ¬ (false = true) by decide)] at H; exact H
  clear H
  have H := H1
  clear H1
  simp only [Option.some.injEq, Prod.mk.injEq] at H
  obtain ⟨rfl, rfl⟩ := H
  go_enter Try.func113, Try.ntmps113
  go_wp2_with (first | ((with_reducible refine gate_callee (f := 153) rfl ?_); refine goesA (some 7) Try.func153 #[.int .i64 a0] ?_; (with_reducible refine (impl_isNumber.calls a0 false _ A3.out).mono ?_); rintro e w' ⟨rfl, ⟨nd, rfl⟩⟩; refine ⟨_, rfl, ?_⟩))
  go_ret2
  exact ⟨by first | rfl | (simp; done) | (simp [*]; done), by repeat (first | exact Drawn0.refl _ | apply Drawn0.step)⟩


end Go.Proofs.Ytaohgllnoomaeaa.Fn
namespace Go.Proofs.Ytaohgllnoomaeaa.Fn
open Go.RowKit Go.Proofs.YtaohgllnoomaeaaW.PrintWords Go.Proofs.YtaohgllnoomaeaaW.PrintLast Go.Proofs.YtaohgllnoomaeaaW.PrintMore
attribute [local go_sem] max2_int min2_int max_two min_two max_three min_three max_four min_four   -- for this text's walks alone
set_option linter.unusedVariables false
set_option linter.unusedSimpArgs false

/-! ### impl_IsSkolemThere: function 29 -/
def impl_IsSkolemThere.f (a0 : Int) : Option (Bool × Bool) := (impl_isNumber.f a0).bind fun t259 => (if t259 = true then (some (decide ((Int.tmod a0 4) ≤ 1), true)) else (some (false, false)))
set_option maxHeartbeats 8000000 in
set_option maxRecDepth 100000 in
theorem impl_IsSkolemThere.calls (a0 : Int) (r1 : Bool) (r2 : Bool) (w : World) (h : impl_IsSkolemThere.f a0 = some (r1, r2)) :
  Calls Try.prog 29 #[.int .i64 a0] w fun e w' => e = .returned (.tuple #[.bool r1, .bool r2]) ∧ Drawn0 w w' := by
 have H := h
 unfold impl_IsSkolemThere.f at H
 clear h
 replace H := Option.bind_eq_some_iff.mp H
 obtain ⟨t259, A20, H⟩ := H
 replace H : (if t259 = true then (some (decide ((Int.tmod a0 4) ≤ 1), true)) else (some (false, false))) = some (r1, r2) := H
 have A2 := Aside0.mk A20
 clear A20
 by_cases c3 : t259 = true
 ·subst c3
  have H1 : (some (decide ((Int.tmod a0 4) ≤ 1), true)) = some (r1, r2) := by rw [if_pos rfl] at H; exact H
  clear H
  have H := H1
  clear H1
  simp only [Option.some.injEq, Prod.mk.injEq] at H
  obtain ⟨rfl, rfl⟩ := H
  go_enter Try.func29, Try.ntmps29
  go_wp2_with (first | ((with_reducible refine gate_callee (f := 153) rfl ?_); refine goesA (some 5) Try.func153 #[.int .i64 a0] ?_; (with_reducible refine (impl_isNumber.calls a0 true _ A2.out).mono ?_); rintro e w' ⟨rfl, ⟨nd, rfl⟩⟩; refine ⟨_, rfl, ?_⟩))
  go_ret2
  exact ⟨by first | rfl | (simp; done) | (simp [*]; done), by repeat (first | exact Drawn0.refl _ | apply Drawn0.step)⟩
 ·replace c3 := Bool.eq_false_iff.mpr c3
  subst c3
  have H1 : (some (false, false)) = some (r1, r2) := by rw [if_neg (show ¬ (false = true) by decide)] at H; exact H
  clear H
  have H := H1
  clear H1
  simp only [Option.some.injEq, Prod.mk.injEq] at H
  obtain ⟨rfl, rfl⟩ := H
  go_enter Try.func29, Try.ntmps29
  go_wp2_with (first | ((with_reducible refine gate_callee (f := 153) rfl ?_); refine goesA (some 5) Try.func153 #[.int .i64 a0] ?_; (with_reducible refine (impl_isNumber.calls a0 false _ A2.out).mono ?_); rintro e w' ⟨rfl, ⟨nd, rfl⟩⟩; refine ⟨_, rfl, ?_⟩))
  go_ret2
  exact ⟨by first | rfl | (simp; done) | (simp [*]; done), by repeat (first | exact Drawn0.refl _ | apply Drawn0.step)⟩


end Go.Proofs.Ytaohgllnoomaeaa.Fn
namespace Go.Proofs.Ytaohgllnoomaeaa.Fn
open Go.RowKit Go.Proofs.YtaohgllnoomaeaaW.PrintWords Go.Proofs.YtaohgllnoomaeaaW.PrintLast Go.Proofs.YtaohgllnoomaeaaW.PrintMore
attribute [local go_sem] max2_int min2_int max_two min_two max_three min_three max_four min_four   -- for this text's walks alone
set_option linter.unusedVariables false
set_option linter.unusedSimpArgs false

/-! ### impl_skolem: function 164 -/
def impl_skolem.f (k : Nat) (l0 : List Int) : Option (Int) := (impl_fits.f k l0 0).bind fun t260 => (if t260 = true then ((impl_holes.f k l0).bind fun t261 => (if (t261.length : Int) > 0 then (some 0) else ((impl_isFrom.f k l0 1).bind fun bt264 => (some bt264.1)))) else (some 0))
theorem impl_skolem.mono : ∀ a0 k, LeO (impl_skolem.f k a0) (impl_skolem.f (k + 1) a0) := by
 intro a0 k
 unfold impl_skolem.f
 repeat' (first | (with_reducible first | exact impl_fits.mono _ _ _ | exact impl_holes.mono _ _ | exact impl_isFrom.mono _ _ _ | exact LeO.refl _ | exact LeO.none _ | refine LeO.ite ?_ ?_ | refine LeO.bind ?_ (fun _ => ?_)) | exact impl_fits.mono _ _ _ | exact impl_holes.mono _ _ | exact impl_isFrom.mono _ _ _ | exact LeO.none _ | refine LeO.ite ?_ ?_ | refine LeO.bind ?_ (fun _ => ?_))
set_option maxHeartbeats 8000000 in
set_option maxRecDepth 100000 in
theorem impl_skolem.calls (k : Nat) (A0 : Option Addr) (c0 : Nat) (l0 : List Int) (r : Int) (w : World) (hr0 : Kd.C (Kd.int .i64) w A0 l0.length l0) (hc0 : l0.length ≤ c0) (h : impl_skolem.f k l0 = some r) :
  Calls Try.prog 164 #[.slice A0 l0.length c0] w fun e w' => e = .returned (.int .i64 r) ∧ Below w.heap.size w w' := by
 have HR0 := Aside0.mk hr0
 have HC0 := Aside0.mk hc0
 clear hr0 hc0
 have HB := Aside0.mk (Below.refl w.heap.size w)
 have H := h
 unfold impl_skolem.f at H
 clear h
 replace H := Option.bind_eq_some_iff.mp H
 obtain ⟨t260, A20, H⟩ := H
 replace H : (if t260 = true then ((impl_holes.f k l0).bind fun t261 => (if (t261.length : Int) > 0 then (some 0) else ((impl_isFrom.f k l0 1).bind fun bt264 => (some bt264.1)))) else (some 0)) = some r := H
 have A2 := Aside0.mk A20
 clear A20
 by_cases c3 : t260 = true
 ·subst c3
  have H1 : ((impl_holes.f k l0).bind fun t261 => (if (t261.length : Int) > 0 then (some 0) else ((impl_isFrom.f k l0 1).bind fun bt264 => (some bt264.1)))) = some r := by rw [if_pos rfl] at H; exact H
  clear H
  have H := H1
  clear H1
  replace H := Option.bind_eq_some_iff.mp H
  obtain ⟨t261, A40, H⟩ := H
  replace H : (if (t261.length : Int) > 0 then (some 0) else ((impl_isFrom.f k l0 1).bind fun bt264 => (some bt264.1))) = some r := H
  have A4 := Aside0.mk A40
  clear A40
  by_cases c5 : (t261.length : Int) > 0
  ·rw [if_pos c5] at H
   have c5b0 : decide (0 < (t261.length : Int)) = true := decide_eq_true c5
   have c5b1 : decide (0 < t261.length) = true := decide_eq_true (by omega)
   clear c5
   obtain rfl := Option.some.inj H
   go_enter Try.func164, Try.ntmps164
   go_wp2_with (first | ((with_reducible refine gate_callee (f := 158) rfl ?_); refine goesA (some 6) Try.func158 #[.slice A0 l0.length c0, .int .i64 0] ?_; (with_reducible refine (impl_fits.calls k _ _ l0 0 true _ ?side1 ?side2 A2.out).mono ?_); (case side1 => repeat (first | exact HR0.out | (with_reducible refine Kd.C_alloc ?_ _) | (with_reducible refine Kd.C_drewN ?_ _) | (with_reducible refine Kd.C_drew ?_))); (case side2 => exact HC0.out); rintro e w6 ⟨rfl, hb⟩; refine ⟨_, rfl, ?_⟩; replace HB := upB HB hb; (try clear hb); (try clear hb2); (try clear hk); (try clear hi)) | (go_at_call 182; (with_reducible refine (impl_holes.calls k _ _ l0 t261 _ ?side1 ?side2 A4.out).mono ?_); (case side1 => repeat (first | exact (Kd.C_below HR0.out HB.out) | (with_reducible refine Kd.C_alloc ?_ _) | (with_reducible refine Kd.C_drewN ?_ _) | (with_reducible refine Kd.C_drew ?_))); (case side2 => exact HC0.out); rintro e w7 ⟨v262, rfl, ho0, hb⟩; have HO263 := lowR ho0 HB; replace HB := upB HB hb; (try clear hb); (try clear hb2); (try clear hk); (try clear hi); (try clear ho0); obtain ⟨Ao8, co8, eo8⟩ := Kd.R_slice HO263.out; subst eo8))
   go_ret
   exact ⟨eqr, atB HB⟩
  ·rw [if_neg c5] at H
   have c5b0 : decide (0 < (t261.length : Int)) = false := decide_eq_false c5
   have c5b1 : decide (0 < t261.length) = false := decide_eq_false (by omega)
   clear c5
   replace H := Option.bind_eq_some_iff.mp H
   obtain ⟨⟨t264, t265⟩, A90, H⟩ := H
   replace H : (some t264) = some r := H
   have A9 := Aside0.mk A90
   clear A90
   obtain rfl := Option.some.inj H
   go_enter Try.func164, Try.ntmps164
   go_wp2_with (first | ((with_reducible refine gate_callee (f := 158) rfl ?_); refine goesA (some 6) Try.func158 #[.slice A0 l0.length c0, .int .i64 0] ?_; (with_reducible refine (impl_fits.calls k _ _ l0 0 true _ ?side1 ?side2 A2.out).mono ?_); (case side1 => repeat (first | exact HR0.out | (with_reducible refine Kd.C_alloc ?_ _) | (with_reducible refine Kd.C_drewN ?_ _) | (with_reducible refine Kd.C_drew ?_))); (case side2 => exact HC0.out); rintro e w10 ⟨rfl, hb⟩; refine ⟨_, rfl, ?_⟩; replace HB := upB HB hb; (try clear hb); (try clear hb2); (try clear hk); (try clear hi)) | (go_at_call 182; (with_reducible refine (impl_holes.calls k _ _ l0 t261 _ ?side1 ?side2 A4.out).mono ?_); (case side1 => repeat (first | exact (Kd.C_below HR0.out HB.out) | (with_reducible refine Kd.C_alloc ?_ _) | (with_reducible refine Kd.C_drewN ?_ _) | (with_reducible refine Kd.C_drew ?_))); (case side2 => exact HC0.out); rintro e w11 ⟨v262, rfl, ho0, hb⟩; have HO263 := lowR ho0 HB; replace HB := upB HB hb; (try clear hb); (try clear hb2); (try clear hk); (try clear hi); (try clear ho0); obtain ⟨Ao12, co12, eo12⟩ := Kd.R_slice HO263.out; subst eo12) | ((with_reducible refine gate_callee (f := 241) rfl ?_); refine goesA (some 16) Try.func241 #[.slice A0 l0.length c0, .int .i64 1] ?_; (with_reducible refine (impl_isFrom.calls k _ _ l0 1 t264 t265 _ ?side1 ?side2 A9.out).mono ?_); (case side1 => repeat (first | exact (Kd.C_below HR0.out HB.out) | (with_reducible refine Kd.C_alloc ?_ _) | (with_reducible refine Kd.C_drewN ?_ _) | (with_reducible refine Kd.C_drew ?_))); (case side2 => exact HC0.out); rintro e w13 ⟨rfl, hb⟩; refine ⟨_, rfl, ?_⟩; replace HO263 := upR HO263 hb; replace HB := upB HB hb; (try clear hb); (try clear hb2); (try clear hk); (try clear hi)))
   go_ret
   exact ⟨eqr, atB HB⟩
 ·replace c3 := Bool.eq_false_iff.mpr c3
  subst c3
  have H1 : (some 0) = some r := by rw [if_neg (show ¬ (false = true) by decide)] at H; exact H
  clear H
  have H := H1
  clear H1
  obtain rfl := Option.some.inj H
  go_enter Try.func164, Try.ntmps164
  go_wp2_with (first | ((with_reducible refine gate_callee (f := 158) rfl ?_); refine goesA (some 6) Try.func158 #[.slice A0 l0.length c0, .int .i64 0] ?_; (with_reducible refine (impl_fits.calls k _ _ l0 0 false _ ?side1 ?side2 A2.out).mono ?_); (case side1 => repeat (first | exact HR0.out | (with_reducible refine Kd.C_alloc ?_ _) | (with_reducible refine Kd.C_drewN ?_ _) | (with_reducible refine Kd.C_drew ?_))); (case side2 => exact HC0.out); rintro e w14 ⟨rfl, hb⟩; refine ⟨_, rfl, ?_⟩; replace HB := upB HB hb; (try clear hb); (try clear hb2); (try clear hk); (try clear hi)))
  go_ret
  exact ⟨eqr, atB HB⟩

noncomputable def impl_skolem.F (l0 : List Int) : Option (Int) := lim fun k => impl_skolem.f k l0
theorem impl_skolem.F_lim (l0 : List Int) : Lim (fun k => impl_skolem.f k l0) (impl_skolem.F l0) := Lim.of fun k => impl_skolem.mono l0 k
theorem impl_skolem.F_eq (l0 : List Int) : impl_skolem.F l0 = ((impl_fits.F l0 0).bind fun t260 => (if t260 = true then ((impl_holes.F l0).bind fun t261 => (if (t261.length : Int) > 0 then (some 0) else ((impl_isFrom.F l0 1).bind fun bt264 => (some bt264.1)))) else (some 0))) :=
 Lim.unique (impl_skolem.F_lim l0) (by
  unfold impl_skolem.f
  repeat' (first | (with_reducible first | exact Lim.const _ | exact impl_fits.F_lim _ _ | exact impl_holes.F_lim _ | exact impl_isFrom.F_lim _ _ | refine Lim.ite ?_ ?_ | refine Lim.bind ?_ (fun _ => ?_))))

end Go.Proofs.Ytaohgllnoomaeaa.Fn
namespace Go.Proofs.Ytaohgllnoomaeaa.Fn
open Go.RowKit Go.Proofs.YtaohgllnoomaeaaW.PrintWords Go.Proofs.YtaohgllnoomaeaaW.PrintLast Go.Proofs.YtaohgllnoomaeaaW.PrintMore
attribute [local go_sem] max2_int min2_int max_two min_two max_three min_three max_four min_four   -- for this text's walks alone
set_option linter.unusedVariables false
set_option linter.unusedSimpArgs false

/-! ### impl_IsSkolem: function 36 -/
def impl_IsSkolem.f (k : Nat) (l0 : List Int) : Option (Bool × Bool) := (impl_isPairs.f k l0).bind fun t266 => (if t266 = true then ((impl_skolem.f k l0).bind fun t267 => (some (decide (t267 > 0), true))) else (some (false, false)))
theorem impl_IsSkolem.mono : ∀ a0 k, LeO (impl_IsSkolem.f k a0) (impl_IsSkolem.f (k + 1) a0) := by
 intro a0 k
 unfold impl_IsSkolem.f
 repeat' (first | (with_reducible first | exact impl_isPairs.mono _ _ | exact impl_skolem.mono _ _ | exact LeO.refl _ | exact LeO.none _ | refine LeO.ite ?_ ?_ | refine LeO.bind ?_ (fun _ => ?_)) | exact impl_isPairs.mono _ _ | exact impl_skolem.mono _ _ | exact LeO.none _ | refine LeO.ite ?_ ?_ | refine LeO.bind ?_ (fun _ => ?_))
set_option maxHeartbeats 8000000 in
set_option maxRecDepth 100000 in
theorem impl_IsSkolem.calls (k : Nat) (A0 : Option Addr) (c0 : Nat) (l0 : List Int) (r1 : Bool) (r2 : Bool) (w : World) (hr0 : Kd.C (Kd.int .i64) w A0 l0.length l0) (hc0 : l0.length ≤ c0) (h : impl_IsSkolem.f k l0 = some (r1, r2)) :
  Calls Try.prog 36 #[.slice A0 l0.length c0] w fun e w' => e = .returned (.tuple #[.bool r1, .bool r2]) ∧ Below w.heap.size w w' := by
 have HR0 := Aside0.mk hr0
 have HC0 := Aside0.mk hc0
 clear hr0 hc0
 have HB := Aside0.mk (Below.refl w.heap.size w)
 have H := h
 unfold impl_IsSkolem.f at H
 clear h
 replace H := Option.bind_eq_some_iff.mp H
 obtain ⟨t266, A20, H⟩ := H
 replace H : (if t266 = true then ((impl_skolem.f k l0).bind fun t267 => (some (decide (t267 > 0), true))) else (some (false, false))) = some (r1, r2) := H
 have A2 := Aside0.mk A20
 clear A20
 by_cases c3 : t266 = true
 ·subst c3
  have H1 : ((impl_skolem.f k l0).bind fun t267 => (some (decide (t267 > 0), true))) = some (r1, r2) := by rw [if_pos rfl] at H; exact H
  clear H
  have H := H1
  clear H1
  replace H := Option.bind_eq_some_iff.mp H
  obtain ⟨t267, A40, H⟩ := H
  replace H : (some (decide (t267 > 0), true)) = some (r1, r2) := H
  have A4 := Aside0.mk A40
  clear A40
  simp only [Option.some.injEq, Prod.mk.injEq] at H
  obtain ⟨rfl, rfl⟩ := H
  go_enter Try.func36, Try.ntmps36
  go_wp2_with (first | ((with_reducible refine gate_callee (f := 154) rfl ?_); refine goesA (some 5) Try.func154 #[.slice A0 l0.length c0] ?_; (with_reducible refine (impl_isPairs.calls k _ _ l0 true _ ?side1 ?side2 A2.out).mono ?_); (case side1 => repeat (first | exact HR0.out | (with_reducible refine Kd.C_alloc ?_ _) | (with_reducible refine Kd.C_drewN ?_ _) | (with_reducible refine Kd.C_drew ?_))); (case side2 => exact HC0.out); rintro e w5 ⟨rfl, hb⟩; refine ⟨_, rfl, ?_⟩; replace HB := upB HB hb; (try clear hb); (try clear hb2); (try clear hk); (try clear hi)) | ((with_reducible refine gate_callee (f := 164) rfl ?_); refine goesA (some 8) Try.func164 #[.slice A0 l0.length c0] ?_; (with_reducible refine (impl_skolem.calls k _ _ l0 t267 _ ?side1 ?side2 A4.out).mono ?_); (case side1 => repeat (first | exact (Kd.C_below HR0.out HB.out) | (with_reducible refine Kd.C_alloc ?_ _) | (with_reducible refine Kd.C_drewN ?_ _) | (with_reducible refine Kd.C_drew ?_))); (case side2 => exact HC0.out); rintro e w6 ⟨rfl, hb⟩; refine ⟨_, rfl, ?_⟩; replace HB := upB HB hb; (try clear hb); (try clear hb2); (try clear hk); (try clear hi)))
  go_ret2
  exact ⟨eqr, atB HB⟩
 ·replace c3 := Bool.eq_false_iff.mpr c3
  subst c3
  have H1 : (some (false, false)) = some (r1, r2) := by rw [if_neg (show ¬ (false = true) by decide)] at H; exact H
  clear H
  have H := H1
  clear H1
  simp only [Option.some.injEq, Prod.mk.injEq] at H
  obtain ⟨rfl, rfl⟩ := H
  go_enter Try.func36, Try.ntmps36
  go_wp2_with (first | ((with_reducible refine gate_callee (f := 154) rfl ?_); refine goesA (some 5) Try.func154 #[.slice A0 l0.length c0] ?_; (with_reducible refine (impl_isPairs.calls k _ _ l0 false _ ?side1 ?side2 A2.out).mono ?_); (case side1 => repeat (first | exact HR0.out | (with_reducible refine Kd.C_alloc ?_ _) | (with_reducible refine Kd.C_drewN ?_ _) | (with_reducible refine Kd.C_drew ?_))); (case side2 => exact HC0.out); rintro e w7 ⟨rfl, hb⟩; refine ⟨_, rfl, ?_⟩; replace HB := upB HB hb; (try clear hb); (try clear hb2); (try clear hk); (try clear hi)))
  go_ret2
  exact ⟨eqr, atB HB⟩

noncomputable def impl_IsSkolem.F (l0 : List Int) : Option (Bool × Bool) := lim fun k => impl_IsSkolem.f k l0
theorem impl_IsSkolem.F_lim (l0 : List Int) : Lim (fun k => impl_IsSkolem.f k l0) (impl_IsSkolem.F l0) := Lim.of fun k => impl_IsSkolem.mono l0 k
theorem impl_IsSkolem.F_eq (l0 : List Int) : impl_IsSkolem.F l0 = ((impl_isPairs.F l0).bind fun t266 => (if t266 = true then ((impl_skolem.F l0).bind fun t267 => (some (decide (t267 > 0), true))) else (some (false, false)))) :=
 Lim.unique (impl_IsSkolem.F_lim l0) (by
  unfold impl_IsSkolem.f
  repeat' (first | (with_reducible first | exact Lim.const _ | exact impl_isPairs.F_lim _ | exact impl_skolem.F_lim _ | refine Lim.ite ?_ ?_ | refine Lim.bind ?_ (fun _ => ?_))))

end Go.Proofs.Ytaohgllnoomaeaa.Fn
namespace Go.Proofs.Ytaohgllnoomaeaa.Fn
open Go.RowKit Go.Proofs.YtaohgllnoomaeaaW.PrintWords Go.Proofs.YtaohgllnoomaeaaW.PrintLast Go.Proofs.YtaohgllnoomaeaaW.PrintMore
attribute [local go_sem] max2_int min2_int max_two min_two max_three min_three max_four min_four   -- for this text's walks alone
set_option linter.unusedVariables false
set_option linter.unusedSimpArgs false

/-! ### impl_HoleOf: function 115 -/
def impl_HoleOf.f (k : Nat) (l0 : List Int) : Option (Int × Bool) := (impl_extended.f k l0).bind fun bt1143 => (if bt1143.1 = 0 then (some (0, false)) else (some (bt1143.2, true)))
theorem impl_HoleOf.mono : ∀ a0 k, LeO (impl_HoleOf.f k a0) (impl_HoleOf.f (k + 1) a0) := by
 intro a0 k
 unfold impl_HoleOf.f
 repeat' (first | (with_reducible first | exact impl_extended.mono _ _ | exact LeO.refl _ | exact LeO.none _ | refine LeO.ite ?_ ?_ | refine LeO.bind ?_ (fun _ => ?_)) | exact impl_extended.mono _ _ | exact LeO.none _ | refine LeO.ite ?_ ?_ | refine LeO.bind ?_ (fun _ => ?_))
set_option maxHeartbeats 8000000 in
set_option maxRecDepth 100000 in
theorem impl_HoleOf.calls (k : Nat) (A0 : Option Addr) (c0 : Nat) (l0 : List Int) (r1 : Int) (r2 : Bool) (w : World) (hr0 : Kd.C (Kd.int .i64) w A0 l0.length l0) (hc0 : l0.length ≤ c0) (h : impl_HoleOf.f k l0 = some (r1, r2)) :
  Calls Try.prog 115 #[.slice A0 l0.length c0] w fun e w' => e = .returned (.tuple #[.int .i64 r1, .bool r2]) ∧ Below w.heap.size w w' := by
 have HR0 := Aside0.mk hr0
 have HC0 := Aside0.mk hc0
 clear hr0 hc0
 have HB := Aside0.mk (Below.refl w.heap.size w)
 have H := h
 unfold impl_HoleOf.f at H
 clear h
 replace H := Option.bind_eq_some_iff.mp H
 obtain ⟨⟨t1143, t1144⟩, A20, H⟩ := H
 replace H : (if t1143 = 0 then (some (0, false)) else (some (t1144, true))) = some (r1, r2) := H
 have A2 := Aside0.mk A20
 clear A20
 by_cases c3 : t1143 = 0
 ·rw [if_pos c3] at H
  have c3b0 : (t1143 == 0) = true := beq_iff_eq.mpr c3
  have c3b1 : (t1143 != 0) = false := bne_eq_false_iff_eq.mpr c3
  clear c3
  simp only [Option.some.injEq, Prod.mk.injEq] at H
  obtain ⟨rfl, rfl⟩ := H
  go_enter Try.func115, Try.ntmps115
  go_wp2_with (first | ((with_reducible refine gate_callee (f := 222) rfl ?_); refine goesA (some 8) Try.func222 #[.slice A0 l0.length c0] ?_; (with_reducible refine (impl_extended.calls k _ _ l0 t1143 t1144 _ ?side1 ?side2 A2.out).mono ?_); (case side1 => repeat (first | exact HR0.out | (with_reducible refine Kd.C_alloc ?_ _) | (with_reducible refine Kd.C_drewN ?_ _) | (with_reducible refine Kd.C_drew ?_))); (case side2 => exact HC0.out); rintro e w4 ⟨rfl, hb⟩; refine ⟨_, rfl, ?_⟩; replace HB := upB HB hb; (try clear hb); (try clear hb2); (try clear hk); (try clear hi)))
  go_ret2
  exact ⟨eqr, atB HB⟩
 ·rw [if_neg c3] at H
  have c3b0 : (t1143 == 0) = false := beq_eq_false_iff_ne.mpr c3
  have c3b1 : (t1143 != 0) = true := bne_iff_ne.mpr c3
  simp only [Option.some.injEq, Prod.mk.injEq] at H
  obtain ⟨rfl, rfl⟩ := H
  go_enter Try.func115, Try.ntmps115
  go_wp2_with (first | ((with_reducible refine gate_callee (f := 222) rfl ?_); refine goesA (some 8) Try.func222 #[.slice A0 l0.length c0] ?_; (with_reducible refine (impl_extended.calls k _ _ l0 t1143 t1144 _ ?side1 ?side2 A2.out).mono ?_); (case side1 => repeat (first | exact HR0.out | (with_reducible refine Kd.C_alloc ?_ _) | (with_reducible refine Kd.C_drewN ?_ _) | (with_reducible refine Kd.C_drew ?_))); (case side2 => exact HC0.out); rintro e w5 ⟨rfl, hb⟩; refine ⟨_, rfl, ?_⟩; replace HB := upB HB hb; (try clear hb); (try clear hb2); (try clear hk); (try clear hi)))
  go_ret2
  exact ⟨eqr, atB HB⟩

noncomputable def impl_HoleOf.F (l0 : List Int) : Option (Int × Bool) := lim fun k => impl_HoleOf.f k l0
theorem impl_HoleOf.F_lim (l0 : List Int) : Lim (fun k => impl_HoleOf.f k l0) (impl_HoleOf.F l0) := Lim.of fun k => impl_HoleOf.mono l0 k
theorem impl_HoleOf.F_eq (l0 : List Int) : impl_HoleOf.F l0 = ((impl_extended.F l0).bind fun bt1143 => (if bt1143.1 = 0 then (some (0, false)) else (some (bt1143.2, true)))) :=
 Lim.unique (impl_HoleOf.F_lim l0) (by
  unfold impl_HoleOf.f
  repeat' (first | (with_reducible first | exact Lim.const _ | exact impl_extended.F_lim _ | refine Lim.ite ?_ ?_ | refine Lim.bind ?_ (fun _ => ?_))))

end Go.Proofs.Ytaohgllnoomaeaa.Fn
namespace Go.Proofs.Ytaohgllnoomaeaa.Fn
open Go.RowKit Go.Proofs.YtaohgllnoomaeaaW.PrintWords Go.Proofs.YtaohgllnoomaeaaW.PrintLast Go.Proofs.YtaohgllnoomaeaaW.PrintMore
attribute [local go_sem] max2_int min2_int max_two min_two max_three min_three max_four min_four   -- for this text's walks alone
set_option linter.unusedVariables false
set_option linter.unusedSimpArgs false

/-! ### slices_Reverse_int_int: function 249 -/
def slices_Reverse_int_int.l0 : Nat → List Int → Int → Int → Option (List Int)
 | 0, _, _, _ => none
 | k + 1, x0, x2, x3 => if x2 < x3 then (if 0 ≤ x3 then (if x3 < (x0.length : Int) then (if 0 ≤ x2 then (if x2 < (x0.length : Int) then (slices_Reverse_int_int.l0 k ((x0.set (x2 : Int).toNat (rd x0 x3)).set (x3 : Int).toNat (rd x0 x2)) (wrap64 (x2 + 1)) (wrap64 (x3 - 1))) else (none)) else (none)) else (none)) else (none)) else (some x0)
def slices_Reverse_int_int.f (k : Nat) (l0 : List Int) : Option (List Int) := slices_Reverse_int_int.l0 k l0 0 (wrap64 ((l0.length : Int) - 1))
theorem slices_Reverse_int_int.mono_l : ∀ k, (∀ y0 y1 y2, LeO (slices_Reverse_int_int.l0 k y0 y1 y2) (slices_Reverse_int_int.l0 (k + 1) y0 y1 y2))
 | 0 => fun _ _ _ r h => by simp [slices_Reverse_int_int.l0] at h
 | k + 1 => by
  have ih0 := slices_Reverse_int_int.mono_l k
  ·intro y0 y1 y2
   unfold slices_Reverse_int_int.l0
   repeat' (first | (with_reducible first | exact ih0 _ _ _ | exact LeO.refl _ | exact LeO.none _ | refine LeO.ite ?_ ?_ | refine LeO.bind ?_ (fun _ => ?_)) | exact ih0 _ _ _ | exact LeO.none _ | refine LeO.ite ?_ ?_ | refine LeO.bind ?_ (fun _ => ?_))
theorem slices_Reverse_int_int.mono : ∀ a0 k, LeO (slices_Reverse_int_int.f k a0) (slices_Reverse_int_int.f (k + 1) a0) := by
 intro a0 k
 have ih0 := slices_Reverse_int_int.mono_l k
 unfold slices_Reverse_int_int.f
 repeat' (first | (with_reducible first | exact ih0 _ _ _ | exact LeO.refl _ | exact LeO.none _ | refine LeO.ite ?_ ?_ | refine LeO.bind ?_ (fun _ => ?_)) | exact ih0 _ _ _ | exact LeO.none _ | refine LeO.ite ?_ ?_ | refine LeO.bind ?_ (fun _ => ?_))
def slices_Reverse_int_int.T3 : Bool × List (List Nat × List Nat) := (true, [([], []), ([], []), ([], []), ([], []), ([], []), ([], []), ([4, 5], [4, 5]), ([6], [6]), ([], []), ([], []), ([8, 9], [8, 9]), ([10], [10]), ([0, 1, 0, 1, 4, 5, 6, 7, 11], [0, 1]), ([12, 7, 0, 1, 4, 5, 6, 7, 11], [7, 12]), ([2, 3, 0, 1, 2, 3, 4, 5, 6, 7, 8, 9, 10, 11, 12, 13], [2, 3]), ([14, 11, 13, 0, 1, 2, 3, 4, 5, 6, 7, 8, 9, 10, 11, 12, 13], [11, 14])])
def slices_Reverse_int_int.B3 : List Nat := [0, 0, 0, 0, 0, 0, 48, 112, 0, 0, 768, 1792, 4083, 8179, 16383, 32767]
theorem slices_Reverse_int_int.tab3 : rtab .any (opsOf Try.f249 3) = slices_Reverse_int_int.T3 := by kernel_rfl
theorem slices_Reverse_int_int.bits3 : waitsOk slices_Reverse_int_int.T3.2 slices_Reverse_int_int.B3 = true := by kernel_rfl
set_option maxHeartbeats 8000000 in
set_option maxRecDepth 100000 in
theorem slices_Reverse_int_int.calls (k : Nat) (P0_ : Nat → Prop) (u9000_ : Value) (l0 : List Int) (r : List Int) (w0 w : World) (hB : Below w0.heap.size w0 w) (ho0 : Kd.R (Kd.int .i64) 3 w w0.heap.size P0_ u9000_ l0) (h : slices_Reverse_int_int.f k l0 = some r) :
  Calls Try.prog 249 #[u9000_] w fun e w' => e = .returned (.tuple #[]) ∧ Kd.R (Kd.int .i64) 3 w' w0.heap.size (fun k_ => (P0_ k_ ∨ w.heap.size ≤ k_)) u9000_ r ∧ Below w0.heap.size w0 w' ∧ Kept w w' (fun k_ => P0_ k_) := by
 have HO0 := Aside0.mk (show Kd.R (Kd.int .i64) 3 w w0.heap.size (fun k_ => (P0_ k_ ∨ w.heap.size ≤ k_)) u9000_ l0 from Kd.R_mono ho0 (fun k_ hk => (.inl hk)))
 have HK := Aside0.mk (Kept.refl w (fun k_ => P0_ k_))
 have HW0 := Aside0.mk hB.size
 have HB := Aside0.mk hB
 clear hB
 have H := h
 unfold slices_Reverse_int_int.f at H
 clear h
 have H' := Aside0.mk H
 clear H
 obtain ⟨Ao2, co2, eo2⟩ := Kd.R_slice HO0.out
 subst eo2
 go_enter Try.func249, Try.ntmps249
 go_wp2
 go_loopg [2, 3] k (fun kq v2 v3 w' => ∃ (x0_1 : List Int) (x2_1 : Int) (x3_1 : Int), v2 = .int .i64 x2_1 ∧ v3 = .int .i64 x3_1 ∧ Aside0 (slices_Reverse_int_int.l0 kq x0_1 x2_1 x3_1 = some r) ∧ Aside0 (kq ≤ k) ∧ Aside0 (Kd.R (Kd.int .i64) 3 w' w0.heap.size (fun k_ => (P0_ k_ ∨ w.heap.size ≤ k_)) (.slice Ao2 l0.length co2) x0_1) ∧ Aside0 (Kept w w' (fun k_ => P0_ k_)) ∧ Aside0 (Below w0.heap.size w0 w'))
 case atStart => exact ⟨(l0), (0), (wrap64 ((l0.length : Int) - 1)), eqd, eqd, H', ⟨Nat.le_refl _⟩, ⟨atR HO0⟩, ⟨by repeat (first | (with_reducible first | exact HK.out | apply Kept.alloc | apply Kept.drewN | apply Kept.drew) | exact HK.out)⟩, ⟨atB HB⟩⟩
 case round =>
  clear H'
  try clear c2
  try clear p2
  obtain ⟨x0_1, x2_1, x3_1, rfl, rfl, HA, HK1, HO_0, HK, HB⟩ := hrel
  have hl0_1 := (Kd.R_reads' HO_0.out).1
  rw [hl0_1] at HO_0
  (try simp only [hl0_1])
  cases gk with
  | zero => exact absurd HA.out (by simp [slices_Reverse_int_int.l0])
  | succ k1 =>
   have H := HA.out
   clear HA
   simp only [slices_Reverse_int_int.l0] at H
   by_cases c3 : x2_1 < x3_1
   ·rw [if_pos c3] at H
    have c3b0 : decide (x2_1 < x3_1) = true := decide_eq_true c3
    clear c3
    by_cases c4 : 0 ≤ x3_1
    ·rw [if_pos c4] at H
     have c4b0 : decide (0 ≤ x3_1) = true := decide_eq_true c4
     clear c4
     by_cases c5 : x3_1 < (x0_1.length : Int)
     ·rw [if_pos c5] at H
      have c5b0 : decide (x3_1 < (x0_1.length : Int)) = true := decide_eq_true c5
      clear c5
      by_cases c6 : 0 ≤ x2_1
      ·rw [if_pos c6] at H
       have c6b0 : decide (0 ≤ x2_1) = true := decide_eq_true c6
       clear c6
       by_cases c7 : x2_1 < (x0_1.length : Int)
       ·rw [if_pos c7] at H
        have c7b0 : decide (x2_1 < (x0_1.length : Int)) = true := decide_eq_true c7
        clear c7
        obtain ⟨y665, hy665⟩ : ∃ y_ : List Int, y_ = (x0_1.set (x2_1 : Int).toNat (rd x0_1 x3_1)) := ⟨_, rfl⟩
        replace H : (slices_Reverse_int_int.l0 k1 (y665.set (x3_1 : Int).toNat (rd x0_1 x2_1)) (wrap64 (x2_1 + 1)) (wrap64 (x3_1 - 1))) = some r := by first | (rw [hy665]; with_reducible exact H) | (have H2_ := (Option.bind_some _ _).symm.trans H; rw [hy665]; with_reducible exact H2_) | (have H2_ := (Option.bind_some _ _).symm.trans H; with_reducible exact H2_) | with_reducible exact H | (rw [hy665]; exact H) | exact H
        have Ny665 := Aside0.mk hy665
        clear hy665
        obtain ⟨y666, hy666⟩ : ∃ y_ : List Int, y_ = (y665.set (x3_1 : Int).toNat (rd x0_1 x2_1)) := ⟨_, rfl⟩
        replace H : (slices_Reverse_int_int.l0 k1 y666 (wrap64 (x2_1 + 1)) (wrap64 (x3_1 - 1))) = some r := by first | (rw [hy666]; with_reducible exact H) | (have H2_ := (Option.bind_some _ _).symm.trans H; rw [hy666]; with_reducible exact H2_) | (have H2_ := (Option.bind_some _ _).symm.trans H; with_reducible exact H2_) | with_reducible exact H | (rw [hy666]; exact H) | exact H
        have Ny666 := Aside0.mk hy666
        clear hy666
        have H' := Aside0.mk H
        clear H
        try go_wp2
        have n0_ := Aside0.mk (Kd.R_drew HO_0.out)
        have n1_ := Aside0.mk (Kept.drew HK.out)
        have n2_ := Aside0.mk (below_drew1 HB.out)
        clear HO_0
        clear HK
        clear HB
        have HO_0 := n0_
        have HK := n1_
        have HB := n2_
        clear n0_ n1_ n2_
        have p663 : 0 ≤ (x3_1 : Int) := ofd
        have q663 : x3_1 < (x0_1.length : Int) := ofd
        obtain ⟨ad663, e663, hx663_0⟩ := Kd.at_int (Kd.R_reads' HO_0.out).2.2 x3_1 p663 q663
        cases e663
        replace p663 := eq_true p663
        replace q663 := eq_true q663
        have p664 : 0 ≤ (x2_1 : Int) := ofd
        have q664 : x2_1 < (x0_1.length : Int) := ofd
        obtain ⟨ad664, e664, hx664_0⟩ := Kd.at_int (Kd.R_reads' HO_0.out).2.2 x2_1 p664 q664
        obtain rfl : ad663 = ad664 := (by injection e664)
        replace p664 := eq_true p664
        replace q664 := eq_true q664
        have p8 : 0 ≤ (x2_1 : Int) := ofd
        have q8 : (x2_1 : Int) < ((x0_1.length : Int) : Int) := ofd
        obtain ⟨go8, co8, eo8, gb8, gl8, cl8, HG8⟩ := Kd.R_form HO_0.out (by omega)
        (first | cases eo8 | (injection eo8 with ea_ en_ ec_; (first | subst ea_ | (injection ea_ with ea_; subst ea_)); subst ec_; clear en_))
        have GB8 := Aside0.mk gb8
        have GG8 := Aside0.mk HG8
        clear gb8 gl8 HG8
        have HMgo8 := Aside0.mk (show (P0_ go8 ∨ w.heap.size ≤ go8) from (HO_0.out.1 _ rfl))
        (first | simp only [add_plain] at hx663_0 | skip)
        (first | simp only [add_plain] at hx664_0 | skip)
        obtain ⟨hx8_0, hf8_0⟩ := Kd.R_celln 0 HO_0.out (x2_1 : Int) p8 q8
        replace p8 := eq_true p8
        replace q8 := eq_true q8
        have HP11 := Kd.R_putn HO_0.out (x2_1 : Int) (rd x0_1 x3_1)
        rw [← Ny665.out] at HP11
        have HQ11 := Aside0.mk HP11
        clear HP11
        have p9 : 0 ≤ (x3_1 : Int) := ofd
        have q9 : (x3_1 : Int) < ((x0_1.length : Int) : Int) := ofd
        obtain ⟨hx9_0, hf9_0⟩ := Kd.R_celln 0 HQ11.out (x3_1 : Int) p9 q9
        replace p9 := eq_true p9
        replace q9 := eq_true q9
        have HP12 := Kd.R_putn HQ11.out (x3_1 : Int) (rd x0_1 x2_1)
        rw [← Ny666.out] at HP12
        have HQ12 := Aside0.mk HP12
        clear HP12
        refine start_ (n := 16) (S := fun w' => w'.cell? ⟨go8, (x3_1).toNat, none⟩ = some (.int .i64 (rd x0_1 x3_1)) ∧ w'.cell? ⟨go8, (x2_1).toNat, none⟩ = some (.int .i64 (rd x0_1 x2_1))) (ds := [13, 15]) #[false, false, false, false, false, false, false, false, false, false, false, false, false, false, false, false] (by kernel_rfl) rfl rfl ⟨hx663_0, hx664_0⟩ (fun hHeld => ?_); refine with_tabW slices_Reverse_int_int.tab3 slices_Reverse_int_int.bits3 (fun HT_ HW_ => ?_)
        generalize wr.drew = w10 at HO_0 HK HB GG8 HQ11 HQ12 hf8_0 hf9_0 hx663_0 hx664_0 hx8_0 hx9_0 hHeld ⊢
        refine pure_ (i := 0) (N := some 14) (v := ?_) (a' := ?_) #[true, false, false, false, false, false, false, false, false, false, false, false, false, false, false, false] rfl rfl (any_of HT_.out (by kernel_rfl)) (fun _ _ _ h => h) (Or.inl ⟨by rfl, ?_⟩) ?_ ?_
        rotate_left
        ·intro w'
         go_simp
         with_reducible rfl
        rotate_left
        ·simp only [Act.put, List.setIfInBounds_toArray, List.set_cons_zero, List.set_cons_succ, i64_w, i32_w]
         rfl
        refine pure_ (i := 1) (N := some 15) (v := ?_) (a' := ?_) #[true, true, false, false, false, false, false, false, false, false, false, false, false, false, false, false] rfl rfl (any_of HT_.out (by kernel_rfl)) (fun _ _ _ h => h) (Or.inl ⟨by rfl, ?_⟩) ?_ ?_
        rotate_left
        ·intro w'
         go_simp
         with_reducible rfl
        rotate_left
        ·simp only [Act.put, List.setIfInBounds_toArray, List.set_cons_zero, List.set_cons_succ, i64_w, i32_w]
         rfl
        refine pure_ (i := 2) (N := some 16) (v := ?_) (a' := ?_) #[true, true, true, false, false, false, false, false, false, false, false, false, false, false, false, false] rfl rfl (any_of HT_.out (by kernel_rfl)) (fun _ _ _ h => h) (Or.inl ⟨by rfl, ?_⟩) ?_ ?_
        rotate_left
        ·intro w'
         go_simp
         with_reducible rfl
        rotate_left
        ·simp only [Act.put, List.setIfInBounds_toArray, List.set_cons_zero, List.set_cons_succ, i64_w, i32_w]
         rfl
        refine pure_ (i := 3) (N := some 17) (v := ?_) (a' := ?_) #[true, true, true, true, false, false, false, false, false, false, false, false, false, false, false, false] rfl rfl (any_of HT_.out (by kernel_rfl)) (fun _ _ _ h => h) (Or.inl ⟨by rfl, ?_⟩) ?_ ?_
        rotate_left
        ·intro w'
         go_simp
         with_reducible rfl
        rotate_left
        ·simp only [Act.put, List.setIfInBounds_toArray, List.set_cons_zero, List.set_cons_succ, i64_w, i32_w]
         rfl
        refine pure_ (i := 4) (N := some 18) (v := ?_) (a' := ?_) #[true, true, true, true, true, false, false, false, false, false, false, false, false, false, false, false] rfl rfl (any_of HT_.out (by kernel_rfl)) (fun _ _ _ h => h) (Or.inl ⟨by rfl, ?_⟩) ?_ ?_
        rotate_left
        ·intro w'
         go_simp
         with_reducible rfl
        rotate_left
        ·simp only [Act.put, List.setIfInBounds_toArray, List.set_cons_zero, List.set_cons_succ, i64_w, i32_w]
         rfl
        refine pure_ (i := 5) (N := some 19) (v := ?_) (a' := ?_) #[true, true, true, true, true, true, false, false, false, false, false, false, false, false, false, false] rfl rfl (any_of HT_.out (by kernel_rfl)) (fun _ _ _ h => h) (Or.inl ⟨by rfl, ?_⟩) ?_ ?_
        rotate_left
        ·intro w'
         go_simp
         with_reducible rfl
        rotate_left
        ·simp only [Act.put, List.setIfInBounds_toArray, List.set_cons_zero, List.set_cons_succ, i64_w, i32_w]
         rfl
        refine pure_ (i := 6) (N := some 20) (v := ?_) (a' := ?_) #[true, true, true, true, true, true, true, false, false, false, false, false, false, false, false, false] rfl rfl (any_of HT_.out (by kernel_rfl)) (fun _ _ _ h => h) (Or.inl ⟨by rfl, ?_⟩) ?_ ?_
        rotate_left
        ·intro w'
         go_simp
         with_reducible rfl
        rotate_left
        ·simp only [Act.put, List.setIfInBounds_toArray, List.set_cons_zero, List.set_cons_succ, i64_w, i32_w]
         rfl
        refine pure_ (i := 8) (N := some 22) (v := ?_) (a' := ?_) #[true, true, true, true, true, true, true, false, true, false, false, false, false, false, false, false] rfl rfl (any_of HT_.out (by kernel_rfl)) (fun _ _ _ h => h) (Or.inl ⟨by rfl, ?_⟩) ?_ ?_
        rotate_left
        ·intro w'
         go_simp
         with_reducible rfl
        rotate_left
        ·simp only [Act.put, List.setIfInBounds_toArray, List.set_cons_zero, List.set_cons_succ, i64_w, i32_w]
         rfl
        refine pure_ (i := 9) (N := some 23) (v := ?_) (a' := ?_) #[true, true, true, true, true, true, true, false, true, true, false, false, false, false, false, false] rfl rfl (any_of HT_.out (by kernel_rfl)) (fun _ _ _ h => h) (Or.inl ⟨by rfl, ?_⟩) ?_ ?_
        rotate_left
        ·intro w'
         go_simp
         with_reducible rfl
        rotate_left
        ·simp only [Act.put, List.setIfInBounds_toArray, List.set_cons_zero, List.set_cons_succ, i64_w, i32_w]
         rfl
        refine pure_ (i := 10) (N := some 24) (v := ?_) (a' := ?_) #[true, true, true, true, true, true, true, false, true, true, true, false, false, false, false, false] rfl rfl (any_of HT_.out (by kernel_rfl)) (fun _ _ _ h => h) (Or.inl ⟨by rfl, ?_⟩) ?_ ?_
        rotate_left
        ·intro w'
         go_simp
         with_reducible rfl
        rotate_left
        ·simp only [Act.put, List.setIfInBounds_toArray, List.set_cons_zero, List.set_cons_succ, i64_w, i32_w]
         rfl
        refine take_ (i := 7) (N := some 21) (v := ?_) (a' := ?_) #[true, true, true, true, true, true, true, true, true, true, true, false, false, false, false, false] rfl rfl (take_ofW HT_.out HW_.out (by kernel_rfl)) (fun _ _ _ h => h) (Or.inl ⟨by rfl, ?_⟩) hHeld ?_ ?_
        rotate_left
        ·rintro w' ⟨s0, s1⟩
         go_simp
         with_reducible rfl
        rotate_left
        ·simp only [Act.put, List.setIfInBounds_toArray, List.set_cons_zero, List.set_cons_succ, i64_w, i32_w]
         rfl
        refine take_ (i := 11) (N := some 25) (v := ?_) (a' := ?_) #[true, true, true, true, true, true, true, true, true, true, true, true, false, false, false, false] rfl rfl (take_ofW HT_.out HW_.out (by kernel_rfl)) (fun _ _ _ h => h) (Or.inl ⟨by rfl, ?_⟩) hHeld ?_ ?_
        rotate_left
        ·rintro w' ⟨s0, s1⟩
         go_simp
         with_reducible rfl
        rotate_left
        ·simp only [Act.put, List.setIfInBounds_toArray, List.set_cons_zero, List.set_cons_succ, i64_w, i32_w]
         rfl
        refine pure_ (i := 12) (N := some 26) (v := ?_) (a' := ?_) #[true, true, true, true, true, true, true, true, true, true, true, true, true, false, false, false] rfl rfl (any_of HT_.out (by kernel_rfl)) (fun _ _ _ h => h) (Or.inl ⟨by rfl, ?_⟩) ?_ ?_
        rotate_left
        ·intro w'
         go_simp
         with_reducible rfl
        rotate_left
        ·simp only [Act.put, List.setIfInBounds_toArray, List.set_cons_zero, List.set_cons_succ, i64_w, i32_w]
         rfl
        refine last_ (i := 13) (N := none) #[true, true, true, true, true, true, true, true, true, true, true, true, true, true, false, false] rfl rfl (one_of HT_.out (by kernel_rfl)) (by decide) (fun K hK => ?_)
        refine skip_ (w1 := ?_) (by rfl) rfl ?_ ?_
        rotate_left
        ·go_simp
         rfl
        refine hK.out _ _ ?_
        clear hK K
        refine pure_ (i := 14) (N := some 27) (v := ?_) (a' := ?_) #[true, true, true, true, true, true, true, true, true, true, true, true, true, true, true, false] rfl rfl (any_of HT_.out (by kernel_rfl)) (fun _ _ _ h => h) (Or.inl ⟨by rfl, ?_⟩) ?_ ?_
        rotate_left
        ·intro w'
         go_simp
         with_reducible rfl
        rotate_left
        ·simp only [Act.put, List.setIfInBounds_toArray, List.set_cons_zero, List.set_cons_succ, i64_w, i32_w]
         rfl
        refine last_ (i := 15) (N := none) #[true, true, true, true, true, true, true, true, true, true, true, true, true, true, true, true] rfl rfl (one_of HT_.out (by kernel_rfl)) (by decide) (fun K hK => ?_)
        refine skip_ (w1 := ?_) (by rfl) rfl ?_ ?_
        rotate_left
        ·go_simp
         rfl
        refine hK.out _ _ ?_
        clear hK K
        refine done_ (done_of HT_.out (by kernel_rfl)) ?_
        try go_wp2
        (try simp only [← hl0_1])
        go_roundg k1
        case measure => have := HK1.out; omega
        case rel => exact ⟨(y666), (wrap64 (x2_1 + 1)), (wrap64 (x3_1 - 1)), eqd, eqd, H', ⟨by have := HK1.out; omega⟩, ⟨by (try simp only [hl0_1]); (with_reducible repeat (first | apply Kd.R_alloc | apply Kd.R_drewN | apply Kd.R_drew)); exact HQ12.out⟩, ⟨by repeat (first | (with_reducible first | exact HK.out | apply Kept.alloc | apply Kept.drewN | apply Kept.drew | refine Kept.setCell ?_ HMgo8.out _ | refine Kept.setCell ?_ HMgo8.out _) | exact HK.out)⟩, ⟨by repeat (first | (with_reducible first | exact HB.out | apply below_alloc | apply pw_below_drewN | apply below_drew1 | refine below_set ?_ GB8.out | refine below_set ?_ GB8.out) | exact HB.out)⟩⟩
       ·rw [if_neg c7] at H
        exact absurd H (by simp)
      ·rw [if_neg c6] at H
       exact absurd H (by simp)
     ·rw [if_neg c5] at H
      exact absurd H (by simp)
    ·rw [if_neg c4] at H
     exact absurd H (by simp)
   ·rw [if_neg c3] at H
    have c3b0 : decide (x2_1 < x3_1) = false := decide_eq_false c3
    clear c3
    obtain rfl := Option.some.inj H
    go_wp2
    first | go_end0 | ((try simp only [Exit.inBlock, Exit.then]); refine bodyPost_ret (results_none rfl _ _ _) rfl ?_)
    exact ⟨eqr, (by first | exact (atR HO_0) | (simp only [hl0_1]; exact (atR HO_0))), atB HB, by repeat (first | (with_reducible first | exact HK.out | apply Kept.alloc | apply Kept.drewN | apply Kept.drew) | exact HK.out)⟩

noncomputable def slices_Reverse_int_int.L0 (x0 : List Int) (x2 : Int) (x3 : Int) : Option (List Int) := lim fun k => slices_Reverse_int_int.l0 k x0 x2 x3
theorem slices_Reverse_int_int.L0_lim (x0 : List Int) (x2 : Int) (x3 : Int) : Lim (fun k => slices_Reverse_int_int.l0 k x0 x2 x3) (slices_Reverse_int_int.L0 x0 x2 x3) := Lim.of fun k => (slices_Reverse_int_int.mono_l k) x0 x2 x3
noncomputable def slices_Reverse_int_int.F (l0 : List Int) : Option (List Int) := lim fun k => slices_Reverse_int_int.f k l0
theorem slices_Reverse_int_int.F_lim (l0 : List Int) : Lim (fun k => slices_Reverse_int_int.f k l0) (slices_Reverse_int_int.F l0) := Lim.of fun k => slices_Reverse_int_int.mono l0 k
theorem slices_Reverse_int_int.L0_eq (x0 : List Int) (x2 : Int) (x3 : Int) : slices_Reverse_int_int.L0 x0 x2 x3 = (if x2 < x3 then (if 0 ≤ x3 then (if x3 < (x0.length : Int) then (if 0 ≤ x2 then (if x2 < (x0.length : Int) then (slices_Reverse_int_int.L0 ((x0.set (x2 : Int).toNat (rd x0 x3)).set (x3 : Int).toNat (rd x0 x2)) (wrap64 (x2 + 1)) (wrap64 (x3 - 1))) else (none)) else (none)) else (none)) else (none)) else (some x0)) :=
 Lim.step (f := fun k => slices_Reverse_int_int.l0 (k + 1) x0 x2 x3) (slices_Reverse_int_int.L0_lim x0 x2 x3) (fun _ => rfl) (by
  simp only [slices_Reverse_int_int.l0]
  repeat' (first | (with_reducible first | exact Lim.const _ | exact slices_Reverse_int_int.L0_lim _ _ _ | refine Lim.ite ?_ ?_ | refine Lim.bind ?_ (fun _ => ?_))))
theorem slices_Reverse_int_int.F_eq (l0 : List Int) : slices_Reverse_int_int.F l0 = (slices_Reverse_int_int.L0 l0 0 (wrap64 ((l0.length : Int) - 1))) :=
 Lim.unique (slices_Reverse_int_int.F_lim l0) (by
  unfold slices_Reverse_int_int.f
  repeat' (first | (with_reducible first | exact Lim.const _ | exact slices_Reverse_int_int.L0_lim _ _ _ | refine Lim.ite ?_ ?_ | refine Lim.bind ?_ (fun _ => ?_))))

end Go.Proofs.Ytaohgllnoomaeaa.Fn
namespace Go.Proofs.Ytaohgllnoomaeaa.Fn
open Go.RowKit Go.Proofs.YtaohgllnoomaeaaW.PrintWords Go.Proofs.YtaohgllnoomaeaaW.PrintLast Go.Proofs.YtaohgllnoomaeaaW.PrintMore
attribute [local go_sem] max2_int min2_int max_two min_two max_three min_three max_four min_four   -- for this text's walks alone
set_option linter.unusedVariables false
set_option linter.unusedSimpArgs false

/-! ### impl_back: function 187 -/
def impl_back.f (k : Nat) (l0 : List Int) : Option (List Int) := (slices_Clone_int_int.f l0).bind fun t667 => ((slices_Reverse_int_int.f k t667).bind fun t670 => (some t670))
theorem impl_back.mono : ∀ a0 k, LeO (impl_back.f k a0) (impl_back.f (k + 1) a0) := by
 intro a0 k
 unfold impl_back.f
 repeat' (first | (with_reducible first | exact slices_Reverse_int_int.mono _ _ | exact LeO.refl _ | exact LeO.none _ | refine LeO.ite ?_ ?_ | refine LeO.bind ?_ (fun _ => ?_)) | exact slices_Reverse_int_int.mono _ _ | exact LeO.none _ | refine LeO.ite ?_ ?_ | refine LeO.bind ?_ (fun _ => ?_))
set_option maxHeartbeats 8000000 in
set_option maxRecDepth 100000 in
theorem impl_back.calls (k : Nat) (A0 : Option Addr) (c0 : Nat) (l0 : List Int) (r : List Int) (w : World) (hr0 : Kd.C (Kd.int .i64) w A0 l0.length l0) (hc0 : l0.length ≤ c0) (h : impl_back.f k l0 = some r) :
  Calls Try.prog 187 #[.slice A0 l0.length c0] w fun e w' => ∃ v0_ : Value, e = .returned (v0_) ∧ Kd.R (Kd.int .i64) 3 w' w.heap.size (fun _ => True) v0_ r ∧ Below w.heap.size w w' := by
 have HR0 := Aside0.mk hr0
 have HC0 := Aside0.mk hc0
 clear hr0 hc0
 have HB := Aside0.mk (Below.refl w.heap.size w)
 have H := h
 unfold impl_back.f at H
 clear h
 replace H := Option.bind_eq_some_iff.mp H
 obtain ⟨t667, A20, H⟩ := H
 replace H : ((slices_Reverse_int_int.f k t667).bind fun t670 => (some t670)) = some r := H
 have A2 := Aside0.mk A20
 clear A20
 replace H := Option.bind_eq_some_iff.mp H
 obtain ⟨t670, A30, H⟩ := H
 replace H : (some t670) = some r := H
 have A3 := Aside0.mk A30
 clear A30
 obtain rfl := Option.some.inj H
 go_enter Try.func187, Try.ntmps187
 go_wp2_with (first | ((with_reducible refine gate_callee (f := 156) rfl ?_); refine goesA (some 5) Try.func156 #[.slice A0 l0.length c0] ?_; (with_reducible refine (slices_Clone_int_int.calls _ _ l0 t667 _ ?side1 ?side2 A2.out).mono ?_); (case side1 => repeat (first | exact HR0.out | (with_reducible refine Kd.C_alloc ?_ _) | (with_reducible refine Kd.C_drewN ?_ _) | (with_reducible refine Kd.C_drew ?_))); (case side2 => exact HC0.out); rintro e w4 ⟨v668, rfl, ho0, hb⟩; refine ⟨_, rfl, ?_⟩; have HO669 := lowR ho0 HB; replace HB := upB HB hb; (try clear hb); (try clear hb2); (try clear hk); (try clear hi); (try clear ho0); obtain ⟨Ao5, co5, eo5⟩ := Kd.R_slice HO669.out; subst eo5) | ((with_reducible refine gate_callee (f := 249) rfl ?_); refine goesA (some 7) Try.func249 #[.slice Ao5 t667.length co5] ?_; (with_reducible refine (slices_Reverse_int_int.calls k (fun k_ => some k_ = (.slice Ao5 t667.length co5 : Value).ownBlock) (.slice Ao5 t667.length co5) t667 t670 w _ ?side1 ?side2 A3.out).mono ?_); (case side1 => exact atB HB); (case side2 => exact Kd.R_tight rfl HO669.out); rintro e w6 ⟨rfl, hy0, hb, hkp⟩; refine ⟨_, rfl, ?_⟩; replace HO669 := Aside0.mk (Kd.R_reok rfl hy0 (fun k_ e_ => HO669.out.1 k_ e_)); replace HB := Aside0.mk (hb); (try clear hb); (try clear hkp); (try clear hy0)))
 go_ret
 exact ⟨_, eqr, atR HO669, atB HB⟩

noncomputable def impl_back.F (l0 : List Int) : Option (List Int) := lim fun k => impl_back.f k l0
theorem impl_back.F_lim (l0 : List Int) : Lim (fun k => impl_back.f k l0) (impl_back.F l0) := Lim.of fun k => impl_back.mono l0 k
theorem impl_back.F_eq (l0 : List Int) : impl_back.F l0 = ((slices_Clone_int_int.f l0).bind fun t667 => ((slices_Reverse_int_int.F t667).bind fun t670 => (some t670))) :=
 Lim.unique (impl_back.F_lim l0) (by
  unfold impl_back.f
  repeat' (first | (with_reducible first | exact Lim.const _ | exact slices_Reverse_int_int.F_lim _ | refine Lim.ite ?_ ?_ | refine Lim.bind ?_ (fun _ => ?_))))

end Go.Proofs.Ytaohgllnoomaeaa.Fn
namespace Go.Proofs.Ytaohgllnoomaeaa.Fn
open Go.RowKit Go.Proofs.YtaohgllnoomaeaaW.PrintWords Go.Proofs.YtaohgllnoomaeaaW.PrintLast Go.Proofs.YtaohgllnoomaeaaW.PrintMore
attribute [local go_sem] max2_int min2_int max_two min_two max_three min_three max_four min_four   -- for this text's walks alone
set_option linter.unusedVariables false
set_option linter.unusedSimpArgs false

/-! ### impl_BackRow: function 69 -/
def impl_BackRow.f (k : Nat) (l0 : List Int) : Option (List Int × Bool) := (impl_IsRow.f k l0).bind fun t671 => (if t671 = true then ((impl_back.f k l0).bind fun t672 => (some (t672, true))) else (some (([] : List Int), false)))
theorem impl_BackRow.mono : ∀ a0 k, LeO (impl_BackRow.f k a0) (impl_BackRow.f (k + 1) a0) := by
 intro a0 k
 unfold impl_BackRow.f
 repeat' (first | (with_reducible first | exact impl_IsRow.mono _ _ | exact impl_back.mono _ _ | exact LeO.refl _ | exact LeO.none _ | refine LeO.ite ?_ ?_ | refine LeO.bind ?_ (fun _ => ?_)) | exact impl_IsRow.mono _ _ | exact impl_back.mono _ _ | exact LeO.none _ | refine LeO.ite ?_ ?_ | refine LeO.bind ?_ (fun _ => ?_))
set_option maxHeartbeats 8000000 in
set_option maxRecDepth 100000 in
theorem impl_BackRow.calls (k : Nat) (A0 : Option Addr) (c0 : Nat) (l0 : List Int) (r1 : List Int) (r2 : Bool) (w : World) (hr0 : Kd.C (Kd.int .i64) w A0 l0.length l0) (hc0 : l0.length ≤ c0) (h : impl_BackRow.f k l0 = some (r1, r2)) :
  Calls Try.prog 69 #[.slice A0 l0.length c0] w fun e w' => ∃ v0_ : Value, e = .returned (.tuple #[v0_, .bool r2]) ∧ Kd.R (Kd.int .i64) 3 w' w.heap.size (fun _ => True) v0_ r1 ∧ Below w.heap.size w w' := by
 have HR0 := Aside0.mk hr0
 have HC0 := Aside0.mk hc0
 clear hr0 hc0
 have HB := Aside0.mk (Below.refl w.heap.size w)
 have H := h
 unfold impl_BackRow.f at H
 clear h
 replace H := Option.bind_eq_some_iff.mp H
 obtain ⟨t671, A20, H⟩ := H
 replace H : (if t671 = true then ((impl_back.f k l0).bind fun t672 => (some (t672, true))) else (some (([] : List Int), false))) = some (r1, r2) := H
 have A2 := Aside0.mk A20
 clear A20
 by_cases c3 : t671 = true
 ·subst c3
  have H1 : ((impl_back.f k l0).bind fun t672 => (some (t672, true))) = some (r1, r2) := by rw [if_pos rfl] at H; exact H
  clear H
  have H := H1
  clear H1
  replace H := Option.bind_eq_some_iff.mp H
  obtain ⟨t672, A40, H⟩ := H
  replace H : (some (t672, true)) = some (r1, r2) := H
  have A4 := Aside0.mk A40
  clear A40
  simp only [Option.some.injEq, Prod.mk.injEq] at H
  obtain ⟨rfl, rfl⟩ := H
  go_enter Try.func69, Try.ntmps69
  go_wp2_with (first | ((with_reducible refine gate_callee (f := 66) rfl ?_); refine goesA (some 5) Try.func66 #[.slice A0 l0.length c0] ?_; (with_reducible refine (impl_IsRow.calls k _ _ l0 true _ ?side1 ?side2 A2.out).mono ?_); (case side1 => repeat (first | exact HR0.out | (with_reducible refine Kd.C_alloc ?_ _) | (with_reducible refine Kd.C_drewN ?_ _) | (with_reducible refine Kd.C_drew ?_))); (case side2 => exact HC0.out); rintro e w' ⟨rfl, ⟨nd, rfl⟩⟩; refine ⟨_, rfl, ?_⟩) | ((with_reducible refine gate_callee (f := 187) rfl ?_); refine goesA (some 8) Try.func187 #[.slice A0 l0.length c0] ?_; (with_reducible refine (impl_back.calls k _ _ l0 t672 _ ?side1 ?side2 A4.out).mono ?_); (case side1 => repeat (first | exact HR0.out | (with_reducible refine Kd.C_alloc ?_ _) | (with_reducible refine Kd.C_drewN ?_ _) | (with_reducible refine Kd.C_drew ?_))); (case side2 => exact HC0.out); rintro e w5 ⟨v673, rfl, ho0, hb⟩; refine ⟨_, rfl, ?_⟩; have HO674 := lowR ho0 HB; replace HB := upB HB hb; (try clear hb); (try clear hb2); (try clear hk); (try clear hi); (try clear ho0)))
  go_ret2
  exact ⟨_, eqr, atR HO674, atB HB⟩
 ·replace c3 := Bool.eq_false_iff.mpr c3
  subst c3
  have H1 : (some (([] : List Int), false)) = some (r1, r2) := by rw [if_neg (show ¬ (false = true) by decide)] at H; exact H
  clear H
  have H := H1
  clear H1
  simp only [Option.some.injEq, Prod.mk.injEq] at H
  obtain ⟨rfl, rfl⟩ := H
  go_enter Try.func69, Try.ntmps69
  go_wp2_with (first | ((with_reducible refine gate_callee (f := 66) rfl ?_); refine goesA (some 5) Try.func66 #[.slice A0 l0.length c0] ?_; (with_reducible refine (impl_IsRow.calls k _ _ l0 false _ ?side1 ?side2 A2.out).mono ?_); (case side1 => repeat (first | exact HR0.out | (with_reducible refine Kd.C_alloc ?_ _) | (with_reducible refine Kd.C_drewN ?_ _) | (with_reducible refine Kd.C_drew ?_))); (case side2 => exact HC0.out); rintro e w' ⟨rfl, ⟨nd, rfl⟩⟩; refine ⟨_, rfl, ?_⟩))
  go_ret2
  exact ⟨_, eqr, by first | exact Kd.R_nil _ _ _ _ _ | exact Kd.N_nil _ _ _ _ _ | exact Kd.V_nil _ _ _ _ _ | exact Kd.Q_nil _ _ _ _ _ | exact Kd.S_nil _ _ _ _ _, atB HB⟩

noncomputable def impl_BackRow.F (l0 : List Int) : Option (List Int × Bool) := lim fun k => impl_BackRow.f k l0
theorem impl_BackRow.F_lim (l0 : List Int) : Lim (fun k => impl_BackRow.f k l0) (impl_BackRow.F l0) := Lim.of fun k => impl_BackRow.mono l0 k
theorem impl_BackRow.F_eq (l0 : List Int) : impl_BackRow.F l0 = ((impl_IsRow.F l0).bind fun t671 => (if t671 = true then ((impl_back.F l0).bind fun t672 => (some (t672, true))) else (some (([] : List Int), false)))) :=
 Lim.unique (impl_BackRow.F_lim l0) (by
  unfold impl_BackRow.f
  repeat' (first | (with_reducible first | exact Lim.const _ | exact impl_IsRow.F_lim _ | exact impl_back.F_lim _ | refine Lim.ite ?_ ?_ | refine Lim.bind ?_ (fun _ => ?_))))

end Go.Proofs.Ytaohgllnoomaeaa.Fn
namespace Go.Proofs.Ytaohgllnoomaeaa.Fn
open Go.RowKit Go.Proofs.YtaohgllnoomaeaaW.PrintWords Go.Proofs.YtaohgllnoomaeaaW.PrintLast Go.Proofs.YtaohgllnoomaeaaW.PrintMore
attribute [local go_sem] max2_int min2_int max_two min_two max_three min_three max_four min_four   -- for this text's walks alone
set_option linter.unusedVariables false
set_option linter.unusedSimpArgs false

/-! ### impl_hookeds: function 244 (given) -/
/-! ### hookeds: rows of one kind -/
def hookedRun (n : Nat) {σ : Type} (each : σ → List Int → Option (σ × Bool)) (s : σ) : Option (σ × Bool) := rowsRun (2 * n + 1) n 1 0 (2 * (n : Int) - 1) each s
set_option maxHeartbeats 8000000 in
set_option maxRecDepth 100000 in
theorem hookeds_call {σ : Type} {base : Nat} {fid : FuncId} {ecaps : Array Value} {each : σ → List Int → Option (σ × Bool)} {I : (Nat → Prop) → σ → World → Prop} (n : Nat) (s s' : σ) (b : Bool) (w : World) (hn : 1 ≤ n ∧ n ≤ 40) (hbase : base ≤ w.heap.size)
  (hE : ∀ X : Nat → Prop, (∀ k, X k → w.heap.size ≤ k) → EachOk base X fid ecaps each (I X)) (hI : ∀ (X : Nat → Prop) w', Below w.heap.size w w' → (∀ k, X k → w.heap.size ≤ k ∧ k < w'.heap.size) → I X s w')
  (h : hookedRun n each s = some (s', b)) :
  Calls Try.prog 244 #[.int .i64 (n : Int), .func (.func fid) #[] ecaps] w fun e w' => e = .returned (.tuple #[]) ∧ (∃ X : Nat → Prop, (∀ k, X k → w.heap.size ≤ k) ∧ I X s' w') ∧ Below base w w' := by
 have hw1 := wrap_in (n := 2 * (n : Int)) (by omega) (by omega)
 have hw2 := wrap_in (n := 2 * (n : Int) + 1) (by omega) (by omega)
 have hw3 := wrap_in (n := 2 * (n : Int) - 1) (by omega) (by omega)
 have HCALL := Aside0.mk (rows_call (2 * n + 1) n 1 0 (2 * (n : Int) - 1) s s' b w (by omega) (by omega) (by omega) (by omega) (by omega) hbase hE hI h)
 have hcast : ((2 * n + 1 : Nat) : Int) = 2 * (n : Int) + 1 := by omega
 rw [hcast] at HCALL
 clear hE hI hbase h hn hcast
 go_enter Try.func244, Try.ntmps244
 go_wp2_with (first | ((with_reducible refine gate_callee (f := 237) rfl ?_); refine goesA (some 12) Try.func237 #[.int .i64 (wrap64 (2 * (n : Int) + 1)), .int .i64 (n : Int), .int .i64 1, .int .i64 0, .int .i64 (wrap64 (2 * (n : Int) - 1)), .func (.func fid) #[] ecaps] ?_; rw [hw2, hw3]; refine HCALL.out.mono ?_; rintro e w5 ⟨rfl, hI5, hB5⟩; refine ⟨_, rfl, ?_⟩; have HI5 := Aside0.mk hI5; have HB5 := Aside0.mk hB5; clear hI5 hB5))
 first | go_end0 | ((try simp only [Exit.inBlock, Exit.then]); refine bodyPost_ret (results_none rfl _ _ _) rfl ?_)
 exact ⟨rfl, HI5.out, HB5.out⟩


end Go.Proofs.Ytaohgllnoomaeaa.Fn
namespace Go.Proofs.Ytaohgllnoomaeaa.Fn
open Go.RowKit Go.Proofs.YtaohgllnoomaeaaW.PrintWords Go.Proofs.YtaohgllnoomaeaaW.PrintLast Go.Proofs.YtaohgllnoomaeaaW.PrintMore
attribute [local go_sem] max2_int min2_int max_two min_two max_three min_three max_four min_four   -- for this text's walks alone
set_option linter.unusedVariables false
set_option linter.unusedSimpArgs false

/-! ### impl_sought: function 160 -/
def impl_sought.f (a0 : Int) : Option (Bool) := if a0 ≥ 1 then (some (decide (a0 ≤ 9))) else (some false)
set_option maxHeartbeats 8000000 in
set_option maxRecDepth 100000 in
theorem impl_sought.calls (a0 : Int) (r : Bool) (w : World) (h : impl_sought.f a0 = some r) :
  Calls Try.prog 160 #[.int .i64 a0] w fun e w' => e = .returned (.bool r) ∧ Drawn0 w w' := by
 have H := h
 unfold impl_sought.f at H
 clear h
 by_cases c2 : a0 ≥ 1
 ·rw [if_pos c2] at H
  have c2b0 : decide (1 ≤ a0) = true := decide_eq_true c2
  clear c2
  obtain rfl := Option.some.inj H
  go_enter Try.func160, Try.ntmps160
  go_wp2
  go_ret
  exact ⟨by first | rfl | (simp; done) | (simp [*]; done), by repeat (first | exact Drawn0.refl _ | apply Drawn0.step)⟩
 ·rw [if_neg c2] at H
  have c2b0 : decide (1 ≤ a0) = false := decide_eq_false c2
  clear c2
  obtain rfl := Option.some.inj H
  go_enter Try.func160, Try.ntmps160
  go_wp2
  go_ret
  exact ⟨by first | rfl | (simp; done) | (simp [*]; done), by repeat (first | exact Drawn0.refl _ | apply Drawn0.step)⟩


end Go.Proofs.Ytaohgllnoomaeaa.Fn
namespace Go.Proofs.Ytaohgllnoomaeaa.Fn
open Go.RowKit Go.Proofs.YtaohgllnoomaeaaW.PrintWords Go.Proofs.YtaohgllnoomaeaaW.PrintLast Go.Proofs.YtaohgllnoomaeaaW.PrintMore
attribute [local go_sem] max2_int min2_int max_two min_two max_three min_three max_four min_four   -- for this text's walks alone
set_option linter.unusedVariables false
set_option linter.unusedSimpArgs false

/-! ### impl_hookedKind: function 166 (given) -/
/-! ### hookedKind -/
set_option maxHeartbeats 8000000 in
set_option maxRecDepth 100000 in
theorem hookedKind1_ok (g1 n : Nat) (hn : 1 ≤ n ∧ n ≤ 40) : KindOk 243 #[.pointer (some ⟨g1, 0, none⟩)] (fun w => w.heap[g1]? = some (.cells #[.int .i64 (n : Int)] 3 (0, 0))) (fun {σ} each s => hookedRun n (σ := σ) each s) := by
 intro σ base fid ecaps each I s s' b w hPre hbase hE hI hr
 have hc2 := cell_of_one hPre
 have HCALL := Aside0.mk (hookeds_call n s s' b w hn hbase hE hI hr)
 clear hr hE hI hbase hPre hn
 show Calls Try.prog 243 #[.func (.func fid) #[] ecaps, .pointer (some ⟨g1, 0, none⟩)] w _
 go_enter Try.func243, Try.ntmps243
 go_wp2_with (first | ((with_reducible refine gate_callee (f := 244) rfl ?_); refine goesA (some 5) Try.func244 #[.int .i64 (n : Int), .func (.func fid) #[] ecaps] ?_; refine HCALL.out.mono ?_; rintro e w5 ⟨rfl, hI5, hB5⟩; refine ⟨_, rfl, ?_⟩; have HI5 := Aside0.mk hI5; have HB5 := Aside0.mk hB5; clear hI5 hB5))
 first | go_end0 | ((try simp only [Exit.inBlock, Exit.then]); refine bodyPost_ret (results_none rfl _ _ _) rfl ?_)
 exact ⟨rfl, HI5.out, HB5.out⟩
def hookedKindRet (n : Nat) (w : World) (e : Ending) (w' : World) : Prop := ∃ (kf : FuncId) (kcaps : Array Value) (Pre : World → Prop), e = .returned (.func (.func kf) #[] kcaps) ∧ KindFn kf ∧ (∀ w2, Below w'.heap.size w' w2 → Pre w2) ∧ KindOk kf kcaps Pre (fun {σ} each s => hookedRun n (σ := σ) each s) ∧ Below w.heap.size w w'
set_option maxHeartbeats 8000000 in
set_option maxRecDepth 100000 in
theorem hookedKind_call (n : Nat) (hn : 1 ≤ n ∧ n ≤ 40) (w : World) : Calls Try.prog 166 #[.int .i64 (n : Int)] w (hookedKindRet n w) := by
 have HN := Aside0.mk hn
 clear hn
 go_enter Try.func166, Try.ntmps166
 go_wp2_with (first | ((with_reducible refine gate_dst (N := 1) rfl ?_); refine box_event ?hg (N := 1) ?hd (cs := #[.int .i64 (n : Int)]) (t := 3) ?hr ?_; (case hd => rfl); (case hg => rfl); (case hr => first | (go_simp; done) | (go_simp; rfl)); intro g2 hg w1 hbox hb; have BK2 := Aside0.mk hbox; have HB := Aside0.mk hb; have hc2 := blk_cell BK2.out 0; simp only [List.getElem?_toArray, List.getElem?_cons_zero] at hc2; clear hb hbox hg))
 go_ret
 refine ⟨243, #[.pointer (some ⟨g2, 0, none⟩)], fun w => w.heap[g2]? = some (.cells #[.int .i64 (n : Int)] 3 (0, 0)), rfl, ⟨_, Try.func243, by kernel_rfl, rfl⟩, fun w3 hb => blk_below BK2.out hb, hookedKind1_ok g2 n HN.out, HB.out⟩


end Go.Proofs.Ytaohgllnoomaeaa.Fn
namespace Go.Proofs.Ytaohgllnoomaeaa.Fn
open Go.RowKit Go.Proofs.YtaohgllnoomaeaaW.PrintWords Go.Proofs.YtaohgllnoomaeaaW.PrintLast Go.Proofs.YtaohgllnoomaeaaW.PrintMore
attribute [local go_sem] max2_int min2_int max_two min_two max_three min_three max_four min_four   -- for this text's walks alone
set_option linter.unusedVariables false
set_option linter.unusedSimpArgs false

/-! ### impl_CountHooked: function 39 (given) -/
def impl_CountHooked.f (a0 : Int) : Option (Int × Bool) := if impl_sought.f a0 = some true then (hookedRun a0.toNat eachCount 0).bind fun p => some ((p.1 : Int), true) else some (0, false)
theorem CountHooked_sought {a0 : Int} (h : impl_sought.f a0 = some true) : 1 ≤ a0 ∧ a0 ≤ 9 := by
 unfold impl_sought.f at h
 by_cases h1 : a0 ≥ 1
 ·rw [if_pos h1] at h
  have := of_decide_eq_true (Option.some.inj h)
  omega
 ·simp [h1] at h
theorem CountHooked_some {a0 : Int} : impl_sought.f a0 = some true ∨ impl_sought.f a0 = some false := by
 unfold impl_sought.f
 by_cases h1 : a0 ≥ 1 <;> by_cases h2 : a0 ≤ 9 <;> simp [h1, h2]
set_option maxHeartbeats 8000000 in
set_option maxRecDepth 100000 in
theorem impl_CountHooked.calls (a0 : Int) (r1 : Int) (r2 : Bool) (w : World) (h : impl_CountHooked.f a0 = some (r1, r2)) :
  Calls Try.prog 39 #[.int .i64 a0] w fun e w' => e = .returned (.tuple #[.int .i64 r1, .bool r2]) ∧ Below w.heap.size w w' := by
 by_cases hs : impl_sought.f a0 = some true
 ·rw [impl_CountHooked.f, if_pos hs] at h
  obtain ⟨⟨xs, b⟩, hrun, h⟩ := Option.bind_eq_some_iff.1 h
  obtain ⟨rfl, rfl⟩ := Prod.mk.inj (Option.some.inj h)
  have hb := CountHooked_sought hs
  have HS := Aside0.mk hs
  have HRUN := Aside0.mk hrun
  have HNB := Aside0.mk (show 1 ≤ a0.toNat ∧ a0.toNat ≤ 40 from by omega)
  have HNI := Aside0.mk (show ((a0.toNat : Nat) : Int) = a0 from by omega)
  clear h hrun hs hb
  go_enter Try.func39, Try.ntmps39
  go_wp2_with (first | ((with_reducible refine gate_callee (f := 160) rfl ?_); refine goesA (some 5) Try.func160 #[.int .i64 a0] ?_; refine (impl_sought.calls a0 true _ HS.out).mono ?_; rintro e w0 ⟨rfl, hd⟩; refine ⟨_, rfl, ?_⟩; have HB0 := Aside0.mk hd.below; clear hd) | ((with_reducible refine gate_callee (f := 166) rfl ?_); refine goesA (some 8) Try.func166 #[.int .i64 a0] ?_; have hk_ := hookedKind_call a0.toNat HNB.out; rw [HNI.out] at hk_; refine (hk_ w0).mono ?_; rintro e w1 ⟨kf, kcaps, Pre, rfl, hF1, hP1, hK1, hB1⟩; refine ⟨_, rfl, ?_⟩; have HF1 := Aside0.mk hF1; have HP1 := Aside0.mk hP1; have HK1 := Aside0.mk @hK1; have HB1 := Aside0.mk hB1; clear hF1 hP1 hK1 hB1 hk_) | ((with_reducible refine gate_callee (f := 147) rfl ?_); refine goesA (some 9) Try.func147 #[.func (.func kf) #[] kcaps] ?_; refine (kind_count_call w1 HF1.out HP1.out HK1.out xs b HRUN.out).mono ?_; rintro e w2 ⟨rfl, hB2⟩; refine ⟨_, rfl, ?_⟩; have HB2 := Aside0.mk hB2; clear hB2))
  go_ret2
  exact ⟨rfl, HB0.out.trans ((HB1.out.trans (HB2.out.mono HB1.out.size)).mono HB0.out.size)⟩
 ·rw [impl_CountHooked.f, if_neg hs] at h
  obtain ⟨rfl, rfl⟩ := Prod.mk.inj (Option.some.inj h)
  have HS := Aside0.mk (CountHooked_some.resolve_left hs)
  clear h hs
  go_enter Try.func39, Try.ntmps39
  go_wp2_with (first | ((with_reducible refine gate_callee (f := 160) rfl ?_); refine goesA (some 5) Try.func160 #[.int .i64 a0] ?_; refine (impl_sought.calls a0 false _ HS.out).mono ?_; rintro e w0 ⟨rfl, hd⟩; refine ⟨_, rfl, ?_⟩; have HB0 := Aside0.mk hd.below; clear hd))
  go_ret2
  exact ⟨rfl, HB0.out⟩


end Go.Proofs.Ytaohgllnoomaeaa.Fn
namespace Go.Proofs.Ytaohgllnoomaeaa.Fn
open Go.RowKit Go.Proofs.YtaohgllnoomaeaaW.PrintWords Go.Proofs.YtaohgllnoomaeaaW.PrintLast Go.Proofs.YtaohgllnoomaeaaW.PrintMore
attribute [local go_sem] max2_int min2_int max_two min_two max_three min_three max_four min_four   -- for this text's walks alone
set_option linter.unusedVariables false
set_option linter.unusedSimpArgs false

/-! ### impl_skolems: function 197 (given) -/
/-! ### skolems: rows of one kind -/
def skolemRun (n : Nat) {σ : Type} (each : σ → List Int → Option (σ × Bool)) (s : σ) : Option (σ × Bool) := rowsRun (2 * n) n 1 0 (-1) each s
set_option maxHeartbeats 8000000 in
set_option maxRecDepth 100000 in
theorem skolems_call {σ : Type} {base : Nat} {fid : FuncId} {ecaps : Array Value} {each : σ → List Int → Option (σ × Bool)} {I : (Nat → Prop) → σ → World → Prop} (n : Nat) (s s' : σ) (b : Bool) (w : World) (hn : 1 ≤ n ∧ n ≤ 40) (hbase : base ≤ w.heap.size)
  (hE : ∀ X : Nat → Prop, (∀ k, X k → w.heap.size ≤ k) → EachOk base X fid ecaps each (I X)) (hI : ∀ (X : Nat → Prop) w', Below w.heap.size w w' → (∀ k, X k → w.heap.size ≤ k ∧ k < w'.heap.size) → I X s w')
  (h : skolemRun n each s = some (s', b)) :
  Calls Try.prog 197 #[.int .i64 (n : Int), .func (.func fid) #[] ecaps] w fun e w' => e = .returned (.tuple #[]) ∧ (∃ X : Nat → Prop, (∀ k, X k → w.heap.size ≤ k) ∧ I X s' w') ∧ Below base w w' := by
 have hw1 := wrap_in (n := 2 * (n : Int)) (by omega) (by omega)
 have hw2 := wrap_in (n := 2 * (n : Int) + 1) (by omega) (by omega)
 have hw3 := wrap_in (n := 2 * (n : Int) - 1) (by omega) (by omega)
 have HCALL := Aside0.mk (rows_call (2 * n) n 1 0 (-1) s s' b w (by omega) (by omega) (by omega) (by omega) (by omega) hbase hE hI h)
 have hcast : ((2 * n : Nat) : Int) = 2 * (n : Int) := by omega
 rw [hcast] at HCALL
 clear hE hI hbase h hn hcast
 go_enter Try.func197, Try.ntmps197
 go_wp2_with (first | ((with_reducible refine gate_callee (f := 237) rfl ?_); refine goesA (some 8) Try.func237 #[.int .i64 (wrap64 (2 * (n : Int))), .int .i64 (n : Int), .int .i64 1, .int .i64 0, .int .i64 (-1), .func (.func fid) #[] ecaps] ?_; rw [hw1]; refine HCALL.out.mono ?_; rintro e w5 ⟨rfl, hI5, hB5⟩; refine ⟨_, rfl, ?_⟩; have HI5 := Aside0.mk hI5; have HB5 := Aside0.mk hB5; clear hI5 hB5))
 first | go_end0 | ((try simp only [Exit.inBlock, Exit.then]); refine bodyPost_ret (results_none rfl _ _ _) rfl ?_)
 exact ⟨rfl, HI5.out, HB5.out⟩


end Go.Proofs.Ytaohgllnoomaeaa.Fn
namespace Go.Proofs.Ytaohgllnoomaeaa.Fn
open Go.RowKit Go.Proofs.YtaohgllnoomaeaaW.PrintWords Go.Proofs.YtaohgllnoomaeaaW.PrintLast Go.Proofs.YtaohgllnoomaeaaW.PrintMore
attribute [local go_sem] max2_int min2_int max_two min_two max_three min_three max_four min_four   -- for this text's walks alone
set_option linter.unusedVariables false
set_option linter.unusedSimpArgs false

/-! ### impl_skolemKind: function 161 (given) -/
/-! ### skolemKind -/
set_option maxHeartbeats 8000000 in
set_option maxRecDepth 100000 in
theorem skolemKind1_ok (g1 n : Nat) (hn : 1 ≤ n ∧ n ≤ 40) : KindOk 242 #[.pointer (some ⟨g1, 0, none⟩)] (fun w => w.heap[g1]? = some (.cells #[.int .i64 (n : Int)] 3 (0, 0))) (fun {σ} each s => skolemRun n (σ := σ) each s) := by
 intro σ base fid ecaps each I s s' b w hPre hbase hE hI hr
 have hc2 := cell_of_one hPre
 have HCALL := Aside0.mk (skolems_call n s s' b w hn hbase hE hI hr)
 clear hr hE hI hbase hPre hn
 show Calls Try.prog 242 #[.func (.func fid) #[] ecaps, .pointer (some ⟨g1, 0, none⟩)] w _
 go_enter Try.func242, Try.ntmps242
 go_wp2_with (first | ((with_reducible refine gate_callee (f := 197) rfl ?_); refine goesA (some 5) Try.func197 #[.int .i64 (n : Int), .func (.func fid) #[] ecaps] ?_; refine HCALL.out.mono ?_; rintro e w5 ⟨rfl, hI5, hB5⟩; refine ⟨_, rfl, ?_⟩; have HI5 := Aside0.mk hI5; have HB5 := Aside0.mk hB5; clear hI5 hB5))
 first | go_end0 | ((try simp only [Exit.inBlock, Exit.then]); refine bodyPost_ret (results_none rfl _ _ _) rfl ?_)
 exact ⟨rfl, HI5.out, HB5.out⟩
def skolemKindRet (n : Nat) (w : World) (e : Ending) (w' : World) : Prop := ∃ (kf : FuncId) (kcaps : Array Value) (Pre : World → Prop), e = .returned (.func (.func kf) #[] kcaps) ∧ KindFn kf ∧ (∀ w2, Below w'.heap.size w' w2 → Pre w2) ∧ KindOk kf kcaps Pre (fun {σ} each s => skolemRun n (σ := σ) each s) ∧ Below w.heap.size w w'
set_option maxHeartbeats 8000000 in
set_option maxRecDepth 100000 in
theorem skolemKind_call (n : Nat) (hn : 1 ≤ n ∧ n ≤ 40) (w : World) : Calls Try.prog 161 #[.int .i64 (n : Int)] w (skolemKindRet n w) := by
 have HN := Aside0.mk hn
 clear hn
 go_enter Try.func161, Try.ntmps161
 go_wp2_with (first | ((with_reducible refine gate_dst (N := 1) rfl ?_); refine box_event ?hg (N := 1) ?hd (cs := #[.int .i64 (n : Int)]) (t := 3) ?hr ?_; (case hd => rfl); (case hg => rfl); (case hr => first | (go_simp; done) | (go_simp; rfl)); intro g2 hg w1 hbox hb; have BK2 := Aside0.mk hbox; have HB := Aside0.mk hb; have hc2 := blk_cell BK2.out 0; simp only [List.getElem?_toArray, List.getElem?_cons_zero] at hc2; clear hb hbox hg))
 go_ret
 refine ⟨242, #[.pointer (some ⟨g2, 0, none⟩)], fun w => w.heap[g2]? = some (.cells #[.int .i64 (n : Int)] 3 (0, 0)), rfl, ⟨_, Try.func242, by kernel_rfl, rfl⟩, fun w3 hb => blk_below BK2.out hb, skolemKind1_ok g2 n HN.out, HB.out⟩


end Go.Proofs.Ytaohgllnoomaeaa.Fn
namespace Go.Proofs.Ytaohgllnoomaeaa.Fn
open Go.RowKit Go.Proofs.YtaohgllnoomaeaaW.PrintWords Go.Proofs.YtaohgllnoomaeaaW.PrintLast Go.Proofs.YtaohgllnoomaeaaW.PrintMore
attribute [local go_sem] max2_int min2_int max_two min_two max_three min_three max_four min_four   -- for this text's walks alone
set_option linter.unusedVariables false
set_option linter.unusedSimpArgs false

/-! ### impl_CountSkolem: function 30 (given) -/
def impl_CountSkolem.f (a0 : Int) : Option (Int × Bool) := if impl_sought.f a0 = some true then (skolemRun a0.toNat eachCount 0).bind fun p => some ((p.1 : Int), true) else some (0, false)
theorem CountSkolem_sought {a0 : Int} (h : impl_sought.f a0 = some true) : 1 ≤ a0 ∧ a0 ≤ 9 := by
 unfold impl_sought.f at h
 by_cases h1 : a0 ≥ 1
 ·rw [if_pos h1] at h
  have := of_decide_eq_true (Option.some.inj h)
  omega
 ·simp [h1] at h
theorem CountSkolem_some {a0 : Int} : impl_sought.f a0 = some true ∨ impl_sought.f a0 = some false := by
 unfold impl_sought.f
 by_cases h1 : a0 ≥ 1 <;> by_cases h2 : a0 ≤ 9 <;> simp [h1, h2]
set_option maxHeartbeats 8000000 in
set_option maxRecDepth 100000 in
theorem impl_CountSkolem.calls (a0 : Int) (r1 : Int) (r2 : Bool) (w : World) (h : impl_CountSkolem.f a0 = some (r1, r2)) :
  Calls Try.prog 30 #[.int .i64 a0] w fun e w' => e = .returned (.tuple #[.int .i64 r1, .bool r2]) ∧ Below w.heap.size w w' := by
 by_cases hs : impl_sought.f a0 = some true
 ·rw [impl_CountSkolem.f, if_pos hs] at h
  obtain ⟨⟨xs, b⟩, hrun, h⟩ := Option.bind_eq_some_iff.1 h
  obtain ⟨rfl, rfl⟩ := Prod.mk.inj (Option.some.inj h)
  have hb := CountSkolem_sought hs
  have HS := Aside0.mk hs
  have HRUN := Aside0.mk hrun
  have HNB := Aside0.mk (show 1 ≤ a0.toNat ∧ a0.toNat ≤ 40 from by omega)
  have HNI := Aside0.mk (show ((a0.toNat : Nat) : Int) = a0 from by omega)
  clear h hrun hs hb
  go_enter Try.func30, Try.ntmps30
  go_wp2_with (first | ((with_reducible refine gate_callee (f := 160) rfl ?_); refine goesA (some 5) Try.func160 #[.int .i64 a0] ?_; refine (impl_sought.calls a0 true _ HS.out).mono ?_; rintro e w0 ⟨rfl, hd⟩; refine ⟨_, rfl, ?_⟩; have HB0 := Aside0.mk hd.below; clear hd) | ((with_reducible refine gate_callee (f := 161) rfl ?_); refine goesA (some 8) Try.func161 #[.int .i64 a0] ?_; have hk_ := skolemKind_call a0.toNat HNB.out; rw [HNI.out] at hk_; refine (hk_ w0).mono ?_; rintro e w1 ⟨kf, kcaps, Pre, rfl, hF1, hP1, hK1, hB1⟩; refine ⟨_, rfl, ?_⟩; have HF1 := Aside0.mk hF1; have HP1 := Aside0.mk hP1; have HK1 := Aside0.mk @hK1; have HB1 := Aside0.mk hB1; clear hF1 hP1 hK1 hB1 hk_) | ((with_reducible refine gate_callee (f := 147) rfl ?_); refine goesA (some 9) Try.func147 #[.func (.func kf) #[] kcaps] ?_; refine (kind_count_call w1 HF1.out HP1.out HK1.out xs b HRUN.out).mono ?_; rintro e w2 ⟨rfl, hB2⟩; refine ⟨_, rfl, ?_⟩; have HB2 := Aside0.mk hB2; clear hB2))
  go_ret2
  exact ⟨rfl, HB0.out.trans ((HB1.out.trans (HB2.out.mono HB1.out.size)).mono HB0.out.size)⟩
 ·rw [impl_CountSkolem.f, if_neg hs] at h
  obtain ⟨rfl, rfl⟩ := Prod.mk.inj (Option.some.inj h)
  have HS := Aside0.mk (CountSkolem_some.resolve_left hs)
  clear h hs
  go_enter Try.func30, Try.ntmps30
  go_wp2_with (first | ((with_reducible refine gate_callee (f := 160) rfl ?_); refine goesA (some 5) Try.func160 #[.int .i64 a0] ?_; refine (impl_sought.calls a0 false _ HS.out).mono ?_; rintro e w0 ⟨rfl, hd⟩; refine ⟨_, rfl, ?_⟩; have HB0 := Aside0.mk hd.below; clear hd))
  go_ret2
  exact ⟨rfl, HB0.out⟩


end Go.Proofs.Ytaohgllnoomaeaa.Fn
namespace Go.Proofs.Ytaohgllnoomaeaa.Fn
open Go.RowKit Go.Proofs.YtaohgllnoomaeaaW.PrintWords Go.Proofs.YtaohgllnoomaeaaW.PrintLast Go.Proofs.YtaohgllnoomaeaaW.PrintMore
attribute [local go_sem] max2_int min2_int max_two min_two max_three min_three max_four min_four   -- for this text's walks alone
set_option linter.unusedVariables false
set_option linter.unusedSimpArgs false

/-! ### impl_kind_first: function 151 (given) -/
/-! ### kind.first -/
structure FirstI (base bo : Nat) (X : Nat → Prop) (xs : List Int) (w : World) : Prop where
 out : ∃ v, w.heap[bo]? = some (.cells #[v] 31 (0, 0)) ∧ Kd.R (Kd.int .i64) 3 w base (fun k => ¬ X k) v xs
 bo : base ≤ bo
 lt : ∀ k, X k → k < w.heap.size
def eachFirst (_xs : List Int) (row : List Int) : Option (List Int × Bool) := some (row, true)
set_option maxHeartbeats 8000000 in
set_option maxRecDepth 100000 in
theorem first1_call {base bo : Nat} {X : Nat → Prop} (hXo : ¬ X bo) (xs row : List Int) (A : Option Addr) (c : Nat) (w : World) (hI : FirstI base bo X xs w) (hr : Kd.C (Kd.int .i64) w A row.length row) (hc : row.length ≤ c) (hl : row.length ≤ 1000) :
  Calls Try.prog 240 #[.slice A row.length c, .pointer (some ⟨bo, 0, none⟩)] w fun e w' => e = .returned (.bool true) ∧ FirstI base bo X row w' ∧ Below base w w' ∧ (∀ k, X k → w'.heap[k]? = w.heap[k]?) := by
 obtain ⟨⟨v, h1, h2⟩, h4, h6⟩ := hI
 have HO := Aside0.mk h1
 have H4 := Aside0.mk h4
 have H6 := Aside0.mk h6
 have HXO := Aside0.mk hXo
 have HR := Aside0.mk hr
 have HC := Aside0.mk hc
 have hcl : slices_Clone_int_int.f row = some row := if_pos (by omega)
 have HCL := Aside0.mk hcl
 clear h1 h2 h4 h6 hXo hr hc hl hcl
 go_enter Try.func240, Try.ntmps240
 go_wp2_with (first | ((with_reducible refine gate_callee (f := 156) rfl ?_); refine goesA (some 5) Try.func156 #[.slice A row.length c] ?_; refine (slices_Clone_int_int.calls A c row row w HR.out HC.out HCL.out).mono ?_; rintro e w2 ⟨v2, rfl, hv2, hb2⟩; refine ⟨_, rfl, ?_⟩; have HV2 := Aside0.mk hv2; have HB2 := Aside0.mk hb2; have HO2 := Aside0.mk (blk_below HO.out hb2); have hc2 := cell_of_one HO2.out; have hf2 := free_of_one HO2.out; obtain ⟨A2, c2, e2⟩ := Kd.R_slice hv2; subst e2; clear hv2 hb2))
 go_ret
 have hsz : base ≤ w.heap.size := by have := blk_lt HO.out; have := H4.out; omega
 refine ⟨rfl, ⟨⟨_, one_setCell HO2.out, ?_⟩, H4.out, fun k hk => ?_⟩, (HB2.out.mono hsz).setCell (show base ≤ (⟨bo, 0, none⟩ : Addr).block from H4.out) _, fun k hk => (Below.heap_setCell w2 _ _ k (fun e => HXO.out (by rw [show k = bo from e] at hk; exact hk))).trans (HB2.out.block k (H6.out k hk))⟩
 ·refine Kd.R_mono (Kd.R_far (p := ⟨bo, 0, none⟩) (Kd.R_types (Kd.R_tight rfl (Kd.R_lower HV2.out hsz)) HO2.out (by decide)) (fun _ hk => hk.2) _) (fun k hk hx => ?_)
  have h1 := Kd.R_base HV2.out k hk.1.symm
  have h2 := H6.out k hx
  omega
 ·rw [size_setCell]; exact Nat.lt_of_lt_of_le (H6.out k hk) HB2.out.size
theorem first1_ok {base bo N : Nat} {X : Nat → Prop} (hX : ∀ k, X k → N ≤ k) (hbo : bo < N) : EachOk base X 240 #[.pointer (some ⟨bo, 0, none⟩)] eachFirst (FirstI base bo X) := by
 have hXo : ¬ X bo := fun h => by have := hX bo h; omega
 refine ⟨⟨_, Try.func240, by kernel_rfl, rfl⟩, fun s w w' h hs hk => ?_, fun s row A c w s' b hI hr hc hl h => ?_⟩
 ·obtain ⟨⟨v, h1, h2⟩, h4, h6⟩ := h
  exact ⟨⟨v, (hk bo (blk_lt h1) hXo).trans h1, Kd.R_step h2 (fun k ho hl => hk k hl ho)⟩, h4, fun k hx => Nat.lt_of_lt_of_le (h6 k hx) hs⟩
 ·unfold eachFirst at h
  obtain ⟨rfl, rfl⟩ := Prod.mk.inj (Option.some.inj h)
  exact first1_call hXo s row A c w hI hr hc hl
set_option maxHeartbeats 8000000 in
set_option maxRecDepth 100000 in
theorem kind_first_call {kf : FuncId} {kcaps : Array Value} {Pre : World → Prop} {run : {σ : Type} → (σ → List Int → Option (σ × Bool)) → σ → Option (σ × Bool)} (w : World) (hf : KindFn kf) (hP : ∀ w', Below w.heap.size w w' → Pre w') (h : KindOk kf kcaps Pre run) (xs : List Int) (b : Bool) (hr : run eachFirst [] = some (xs, b)) :
  Calls Try.prog 151 #[.func (.func kf) #[] kcaps] w fun e w' => ∃ v0_ : Value, e = .returned (.tuple #[v0_, .bool (decide ((0 : Int) < (xs.length : Int)))]) ∧ Kd.R (Kd.int .i64) 3 w' w.heap.size (fun _ => True) v0_ xs ∧ Below w.heap.size w w' := by
 have HF := Aside0.mk hf
 have HP := Aside0.mk hP
 have H := Aside0.mk @h
 have HR := Aside0.mk hr
 clear hf hP h hr
 go_enter Try.func151, Try.ntmps151
 go_wp2_with (first | ((with_reducible refine gate_dst (N := 4) rfl ?_); refine box_event ?hg (N := 4) ?hd (cs := #[.slice none 0 0]) (t := 31) ?hr ?_; (case hd => rfl); (case hg => rfl); (case hr => first | (go_simp; done) | (go_simp; rfl)); intro g4 hg w1 hbox hb; have BK := Aside0.mk hbox; have HB := Aside0.mk (show Below w.heap.size w w1 from hb); have G4 := Aside0.mk (show w.heap.size ≤ g4 by omega); clear hb hbox hg) | ((with_reducible refine gate_value (p := 5) rfl ?_); have HCALL := Aside0.mk (H.out (base := w.heap.size) (fid := 240) (ecaps := #[.pointer (some ⟨g4, 0, none⟩)]) (each := eachFirst) (I := fun X => FirstI w.heap.size g4 X) [] xs b w1 (HP.out w1 HB.out) HB.out.size (fun X hX => first1_ok hX (blk_lt BK.out)) (fun X w' hb hX => ⟨⟨_, blk_below BK.out hb, Kd.R_nil _ _ _ _ _⟩, G4.out, fun k hk => (hX k hk).2⟩) HR.out); refine goesX_ (some 7) rfl rfl HF.out.fn #[.func (.func 240) #[] #[.pointer (some ⟨g4, 0, none⟩)]] rfl (by first | rfl | (simp [Act.eval]; done)) (by (try simp only [List.map_toArray, List.map_cons, List.map_nil]); first | done | rfl) ?_; refine HCALL.out.mono ?_; rintro e w3 ⟨rfl, ⟨X, hX3, hI3⟩, hB3⟩; refine ⟨_, rfl, ?_⟩; obtain ⟨v3, ho3, hr3⟩ := hI3.out; obtain ⟨A3, c3, e3⟩ := Kd.R_slice hr3; subst e3; have HR3 := Aside0.mk hr3; have HB3 := Aside0.mk hB3; have hc3 := cell_of_one ho3; clear hX3 hI3 hB3 HCALL ho3 hr3))
 go_quiet (fail)
 go_wp2_with fail
 go_ret2
 exact ⟨_, by first | rfl | simp, Kd.R_mono (Kd.R_drewN HR3.out _) (fun _ _ => trivial), HB.out.trans (HB3.out.trans (pw_below_drewN (Below.refl _ _) _))⟩


end Go.Proofs.Ytaohgllnoomaeaa.Fn
namespace Go.Proofs.Ytaohgllnoomaeaa.Fn
open Go.RowKit Go.Proofs.YtaohgllnoomaeaaW.PrintWords Go.Proofs.YtaohgllnoomaeaaW.PrintLast Go.Proofs.YtaohgllnoomaeaaW.PrintMore
attribute [local go_sem] max2_int min2_int max_two min_two max_three min_three max_four min_four   -- for this text's walks alone
set_option linter.unusedVariables false
set_option linter.unusedSimpArgs false

/-! ### impl_FirstExtended: function 111 (given) -/
def impl_FirstExtended.f (a0 : Int) (a1 : Int) : Option (List Int × Bool) := (extRun a0 a1 eachFirst []).bind fun p => some (p.1, decide ((0 : Int) < (p.1.length : Int)))
set_option maxHeartbeats 8000000 in
set_option maxRecDepth 100000 in
theorem impl_FirstExtended.calls (a0 : Int) (a1 : Int) (r1 : List Int) (r2 : Bool) (w : World) (h : impl_FirstExtended.f a0 a1 = some (r1, r2)) :
  Calls Try.prog 111 #[.int .i64 a0, .int .i64 a1] w fun e w' => ∃ v0_ : Value, e = .returned (.tuple #[v0_, .bool r2]) ∧ Kd.R (Kd.int .i64) 3 w' w.heap.size (fun _ => True) v0_ r1 ∧ Below w.heap.size w w' := by
 obtain ⟨⟨xs, b⟩, hrun, h⟩ := Option.bind_eq_some_iff.1 h
 obtain ⟨rfl, rfl⟩ := Prod.mk.inj (Option.some.inj h)
 have HRUN := Aside0.mk hrun
 clear h hrun
 go_enter Try.func111, Try.ntmps111
 go_wp2_with (first | ((with_reducible refine gate_callee (f := 219) rfl ?_); refine goesA (some 11) Try.func219 #[.int .i64 a0, .int .i64 a1] ?_; refine (impl_extendedKind_call a0 a1 w).mono ?_; rintro e w1 ⟨kf, kcaps, Pre, rfl, hF1, hP1, hK1, hB1⟩; refine ⟨_, rfl, ?_⟩; have HF1 := Aside0.mk hF1; have HP1 := Aside0.mk hP1; have HK1 := Aside0.mk @hK1; have HB1 := Aside0.mk hB1; clear hF1 hP1 hK1 hB1) | ((with_reducible refine gate_callee (f := 151) rfl ?_); refine goesA (some 15) Try.func151 #[.func (.func kf) #[] kcaps] ?_; refine (kind_first_call w1 HF1.out HP1.out HK1.out xs b HRUN.out).mono ?_; rintro e w2 ⟨v2, rfl, hR2, hB2⟩; refine ⟨_, rfl, ?_⟩; have HR2 := Aside0.mk hR2; have HB2 := Aside0.mk hB2; clear hR2 hB2))
 go_ret2
 exact ⟨_, rfl, Kd.R_lower HR2.out HB1.out.size, HB1.out.trans (HB2.out.mono HB1.out.size)⟩


end Go.Proofs.Ytaohgllnoomaeaa.Fn
namespace Go.Proofs.Ytaohgllnoomaeaa.Fn
open Go.RowKit Go.Proofs.YtaohgllnoomaeaaW.PrintWords Go.Proofs.YtaohgllnoomaeaaW.PrintLast Go.Proofs.YtaohgllnoomaeaaW.PrintMore
attribute [local go_sem] max2_int min2_int max_two min_two max_three min_three max_four min_four   -- for this text's walks alone
set_option linter.unusedVariables false
set_option linter.unusedSimpArgs false

/-! ### impl_IsExtended: function 114 -/
def impl_IsExtended.f (k : Nat) (l0 : List Int) : Option (Bool × Bool) := (impl_isPairs.f k l0).bind fun t1140 => (if t1140 = true then ((impl_extended.f k l0).bind fun bt1141 => (some (decide (bt1141.1 > 0), true))) else (some (false, false)))
theorem impl_IsExtended.mono : ∀ a0 k, LeO (impl_IsExtended.f k a0) (impl_IsExtended.f (k + 1) a0) := by
 intro a0 k
 unfold impl_IsExtended.f
 repeat' (first | (with_reducible first | exact impl_extended.mono _ _ | exact impl_isPairs.mono _ _ | exact LeO.refl _ | exact LeO.none _ | refine LeO.ite ?_ ?_ | refine LeO.bind ?_ (fun _ => ?_)) | exact impl_extended.mono _ _ | exact impl_isPairs.mono _ _ | exact LeO.none _ | refine LeO.ite ?_ ?_ | refine LeO.bind ?_ (fun _ => ?_))
set_option maxHeartbeats 8000000 in
set_option maxRecDepth 100000 in
theorem impl_IsExtended.calls (k : Nat) (A0 : Option Addr) (c0 : Nat) (l0 : List Int) (r1 : Bool) (r2 : Bool) (w : World) (hr0 : Kd.C (Kd.int .i64) w A0 l0.length l0) (hc0 : l0.length ≤ c0) (h : impl_IsExtended.f k l0 = some (r1, r2)) :
  Calls Try.prog 114 #[.slice A0 l0.length c0] w fun e w' => e = .returned (.tuple #[.bool r1, .bool r2]) ∧ Below w.heap.size w w' := by
 have HR0 := Aside0.mk hr0
 have HC0 := Aside0.mk hc0
 clear hr0 hc0
 have HB := Aside0.mk (Below.refl w.heap.size w)
 have H := h
 unfold impl_IsExtended.f at H
 clear h
 replace H := Option.bind_eq_some_iff.mp H
 obtain ⟨t1140, A20, H⟩ := H
 replace H : (if t1140 = true then ((impl_extended.f k l0).bind fun bt1141 => (some (decide (bt1141.1 > 0), true))) else (some (false, false))) = some (r1, r2) := H
 have A2 := Aside0.mk A20
 clear A20
 by_cases c3 : t1140 = true
 ·subst c3
  have H1 : ((impl_extended.f k l0).bind fun bt1141 => (some (decide (bt1141.1 > 0), true))) = some (r1, r2) := by rw [if_pos rfl] at H; exact H
  clear H
  have H := H1
  clear H1
  replace H := Option.bind_eq_some_iff.mp H
  obtain ⟨⟨t1141, t1142⟩, A40, H⟩ := H
  replace H : (some (decide (t1141 > 0), true)) = some (r1, r2) := H
  have A4 := Aside0.mk A40
  clear A40
  simp only [Option.some.injEq, Prod.mk.injEq] at H
  obtain ⟨rfl, rfl⟩ := H
  go_enter Try.func114, Try.ntmps114
  go_wp2_with (first | ((with_reducible refine gate_callee (f := 154) rfl ?_); refine goesA (some 7) Try.func154 #[.slice A0 l0.length c0] ?_; (with_reducible refine (impl_isPairs.calls k _ _ l0 true _ ?side1 ?side2 A2.out).mono ?_); (case side1 => repeat (first | exact HR0.out | (with_reducible refine Kd.C_alloc ?_ _) | (with_reducible refine Kd.C_drewN ?_ _) | (with_reducible refine Kd.C_drew ?_))); (case side2 => exact HC0.out); rintro e w5 ⟨rfl, hb⟩; refine ⟨_, rfl, ?_⟩; replace HB := upB HB hb; (try clear hb); (try clear hb2); (try clear hk); (try clear hi)) | ((with_reducible refine gate_callee (f := 222) rfl ?_); refine goesA (some 11) Try.func222 #[.slice A0 l0.length c0] ?_; (with_reducible refine (impl_extended.calls k _ _ l0 t1141 t1142 _ ?side1 ?side2 A4.out).mono ?_); (case side1 => repeat (first | exact (Kd.C_below HR0.out HB.out) | (with_reducible refine Kd.C_alloc ?_ _) | (with_reducible refine Kd.C_drewN ?_ _) | (with_reducible refine Kd.C_drew ?_))); (case side2 => exact HC0.out); rintro e w6 ⟨rfl, hb⟩; refine ⟨_, rfl, ?_⟩; replace HB := upB HB hb; (try clear hb); (try clear hb2); (try clear hk); (try clear hi)))
  go_ret2
  exact ⟨eqr, atB HB⟩
 ·replace c3 := Bool.eq_false_iff.mpr c3
  subst c3
  have H1 : (some (false, false)) = some (r1, r2) := by rw [if_neg (show ¬ (false = true) by decide)] at H; exact H
  clear H
  have H := H1
  clear H1
  simp only [Option.some.injEq, Prod.mk.injEq] at H
  obtain ⟨rfl, rfl⟩ := H
  go_enter Try.func114, Try.ntmps114
  go_wp2_with (first | ((with_reducible refine gate_callee (f := 154) rfl ?_); refine goesA (some 7) Try.func154 #[.slice A0 l0.length c0] ?_; (with_reducible refine (impl_isPairs.calls k _ _ l0 false _ ?side1 ?side2 A2.out).mono ?_); (case side1 => repeat (first | exact HR0.out | (with_reducible refine Kd.C_alloc ?_ _) | (with_reducible refine Kd.C_drewN ?_ _) | (with_reducible refine Kd.C_drew ?_))); (case side2 => exact HC0.out); rintro e w7 ⟨rfl, hb⟩; refine ⟨_, rfl, ?_⟩; replace HB := upB HB hb; (try clear hb); (try clear hb2); (try clear hk); (try clear hi)))
  go_ret2
  exact ⟨eqr, atB HB⟩

noncomputable def impl_IsExtended.F (l0 : List Int) : Option (Bool × Bool) := lim fun k => impl_IsExtended.f k l0
theorem impl_IsExtended.F_lim (l0 : List Int) : Lim (fun k => impl_IsExtended.f k l0) (impl_IsExtended.F l0) := Lim.of fun k => impl_IsExtended.mono l0 k
theorem impl_IsExtended.F_eq (l0 : List Int) : impl_IsExtended.F l0 = ((impl_isPairs.F l0).bind fun t1140 => (if t1140 = true then ((impl_extended.F l0).bind fun bt1141 => (some (decide (bt1141.1 > 0), true))) else (some (false, false)))) :=
 Lim.unique (impl_IsExtended.F_lim l0) (by
  unfold impl_IsExtended.f
  repeat' (first | (with_reducible first | exact Lim.const _ | exact impl_extended.F_lim _ | exact impl_isPairs.F_lim _ | refine Lim.ite ?_ ?_ | refine Lim.bind ?_ (fun _ => ?_))))

end Go.Proofs.Ytaohgllnoomaeaa.Fn
namespace Go.Proofs.Ytaohgllnoomaeaa.Fn
open Go.RowKit Go.Proofs.YtaohgllnoomaeaaW.PrintWords Go.Proofs.YtaohgllnoomaeaaW.PrintLast Go.Proofs.YtaohgllnoomaeaaW.PrintMore
attribute [local go_sem] max2_int min2_int max_two min_two max_three min_three max_four min_four   -- for this text's walks alone
set_option linter.unusedVariables false
set_option linter.unusedSimpArgs false

/-! ### slices_Delete_int_int: function 224 (given) -/
open Go.Lib Go.Sort
/-- What Delete leaves of a list, where at least one element goes. -/
def slices_Delete_int_int.f (l0 : List Int) (a1 a2 : Int) : Option (List Int) := if 0 ≤ a1 ∧ a1 < a2 ∧ a2 ≤ (l0.length : Int) then some (l0.take a1.toNat ++ l0.drop a2.toNat) else none
theorem slices_Delete_int_int.below {w : World} {B g q : Nat} (d : Array Int) (h : B ≤ g) : Below B w (putRow (Value.int .i64) (Sort.ahead w q) g 0 d) := by
 refine ⟨rfl, rfl, rfl, by simp [putRow, mapBlock, Sort.ahead], fun k hk => ?_⟩
 have : g ≠ k := by omega
 simp [putRow, mapBlock, Sort.ahead, Array.getElem?_modify, this]
theorem slices_Delete_int_int.heap {w : World} {g q : Nat} {cur : Array Value} {e : TypeId} {fr : Nat × Nat} (d : Array Int) (hb : w.heap[g]? = some (.cells cur e fr)) : (putRow (Value.int .i64) (Sort.ahead w q) g 0 d).heap[g]? = some (.cells (putCells (Value.int .i64) 0 d cur) e fr) := by
 simp [putRow, mapBlock, Sort.ahead, Array.getElem?_modify, hb, onCells]
theorem slices_Delete_int_int.kept {w : World} {g q : Nat} (d : Array Int) (P : Nat → Prop) (h : P g) : Kept w (putRow (Value.int .i64) (Sort.ahead w q) g 0 d) P := by
 refine ⟨by simp [putRow, mapBlock, Sort.ahead], fun k hk hn => ?_⟩
 have : g ≠ k := fun e => hn (e ▸ h)
 simp [putRow, mapBlock, Sort.ahead, Array.getElem?_modify, this]
theorem slices_Delete_int_int.calls (P0_ : Nat → Prop) (u9000_ : Value) (l0 : List Int) (a1 a2 : Int) (r : List Int) (w0 w : World) (hB : Below w0.heap.size w0 w) (ho0 : Kd.R (Kd.int .i64) 3 w w0.heap.size P0_ u9000_ l0) (h : slices_Delete_int_int.f l0 a1 a2 = some r) :
  Calls Try.prog 224 #[u9000_, .int .i64 a1, .int .i64 a2] w fun e w' => ∃ v0_ : Value, e = .returned (v0_) ∧ Kd.R (Kd.int .i64) 3 w' w0.heap.size (fun k_ => (P0_ k_ ∨ w.heap.size ≤ k_)) v0_ r ∧ Below w0.heap.size w0 w' ∧ Kept w w' (fun k_ => P0_ k_) := by
 unfold slices_Delete_int_int.f at h
 split at h
 case isFalse => cases h
 rename_i hc
 obtain rfl := Option.some.inj h
 obtain ⟨i, rfl⟩ : ∃ i : Nat, a1 = i := ⟨a1.toNat, by omega⟩
 obtain ⟨j, rfl⟩ : ∃ j : Nat, a2 = j := ⟨a2.toNat, by omega⟩
 obtain ⟨A, c, rfl⟩ := Kd.R_slice ho0
 obtain ⟨hok, inner, ho, hr⟩ := ho0
 have hin : inner = l0.map (Value.int .i64) := Kd.reps_encs hr
 subst hin
 rcases ho.2 with ⟨h0, h1⟩ | ⟨g, cap, cur, hv, hg, hb, hn, hcap, hsz, htk⟩
 ·simp at h0
  have := h0.2
  omega
 ·cases hv
  have ht : cur.toList.take l0.length = l0.map (Value.int .i64) := by simpa [Kd.int, Kd.scalar] using htk
  have hsz' : cur.size = c := by simpa [Kd.int, Kd.scalar] using hsz
  refine (Try.slices_Delete_int g 0 c i j l0 w (holds_of_blockI hb ht) hn (by simp only [maxLen] at hcap; omega) (by omega) (by omega)).mono ?_
  rintro e w' ⟨rfl, q, rfl⟩
  simp only [Int.toNat_natCast]
  have hlen : (l0.take i ++ l0.drop j).length = l0.length - (j - i) := by simp; omega
  have hPg : P0_ g := hok g rfl
  refine ⟨_, rfl, ⟨fun k hk => .inl (hok k hk), _, ⟨?_, .inr ⟨g, c, _, by rw [hlen], hg, slices_Delete_int_int.heap _ hb, by omega, hcap, ?_, ?_⟩⟩, Kd.reps_scalar _⟩, hB.trans (slices_Delete_int_int.below _ hg), slices_Delete_int_int.kept _ _ hPg⟩
  ·show (List.map _ _).length = _ * 1
   rw [List.length_map, Nat.mul_one]
  ·show _ = c * 1
   rw [Nat.mul_one]
   simpa [putCells] using hsz'
  ·show List.take (_ * 1) _ = List.map _ _
   have e1 := take_putCellsI cur (l0.take i ++ l0.drop j ++ List.replicate (j - i) 0) (by simp; omega)
   have e2 := congrArg (List.take (l0.take i ++ l0.drop j).length) e1
   rw [List.take_take, Nat.min_eq_left (by simp)] at e2
   rw [Nat.mul_one, e2, List.map_append, List.take_append_of_le_length (by simp)]
   exact List.take_of_length_le (by simp)


end Go.Proofs.Ytaohgllnoomaeaa.Fn
namespace Go.Proofs.Ytaohgllnoomaeaa.Fn
open Go.RowKit Go.Proofs.YtaohgllnoomaeaaW.PrintWords Go.Proofs.YtaohgllnoomaeaaW.PrintLast Go.Proofs.YtaohgllnoomaeaaW.PrintMore
attribute [local go_sem] max2_int min2_int max_two min_two max_three min_three max_four min_four   -- for this text's walks alone
set_option linter.unusedVariables false
set_option linter.unusedSimpArgs false

/-! ### impl_SkolemOfExtended: function 117 -/
def impl_SkolemOfExtended.j0 : Nat → List Int → Int → Bool → Option (List Int × Bool)
 | 0, _, _, _ => none
 | k + 1, x0, x5, x23 => if x23 = true then (some (([] : List Int), false)) else ((slices_Clone_int_int.f x0).bind fun t1205 => ((slices_Delete_int_int.f t1205 x5 (wrap64 (x5 + 1))).bind fun t1208 => (some (t1208, true))))
def impl_SkolemOfExtended.f (k : Nat) (l0 : List Int) : Option (List Int × Bool) := (impl_extended.f k l0).bind fun bt1203 => (if bt1203.1 = 0 then (impl_SkolemOfExtended.j0 k l0 bt1203.2 true) else (if bt1203.2 = 0 then (impl_SkolemOfExtended.j0 k l0 bt1203.2 false) else (impl_SkolemOfExtended.j0 k l0 bt1203.2 (bt1203.2 != (wrap64 ((l0.length : Int) - 1))))))
theorem impl_SkolemOfExtended.mono_l : ∀ k, (∀ y0 y1 y2, LeO (impl_SkolemOfExtended.j0 k y0 y1 y2) (impl_SkolemOfExtended.j0 (k + 1) y0 y1 y2))
 | 0 => fun _ _ _ r h => by simp [impl_SkolemOfExtended.j0] at h
 | k + 1 => by
  have ih0 := impl_SkolemOfExtended.mono_l k
  ·intro y0 y1 y2
   unfold impl_SkolemOfExtended.j0
   repeat' (first | (with_reducible first | exact LeO.refl _ | exact LeO.none _ | refine LeO.ite ?_ ?_ | refine LeO.bind ?_ (fun _ => ?_)) | exact LeO.none _ | refine LeO.ite ?_ ?_ | refine LeO.bind ?_ (fun _ => ?_))
theorem impl_SkolemOfExtended.mono : ∀ a0 k, LeO (impl_SkolemOfExtended.f k a0) (impl_SkolemOfExtended.f (k + 1) a0) := by
 intro a0 k
 have ih0 := impl_SkolemOfExtended.mono_l k
 unfold impl_SkolemOfExtended.f
 repeat' (first | (with_reducible first | exact ih0 _ _ _ | exact impl_extended.mono _ _ | exact LeO.refl _ | exact LeO.none _ | refine LeO.ite ?_ ?_ | refine LeO.bind ?_ (fun _ => ?_)) | exact ih0 _ _ _ | exact impl_extended.mono _ _ | exact LeO.none _ | refine LeO.ite ?_ ?_ | refine LeO.bind ?_ (fun _ => ?_))
set_option maxHeartbeats 8000000 in
set_option maxRecDepth 100000 in
theorem impl_SkolemOfExtended.calls (k : Nat) (A0 : Option Addr) (c0 : Nat) (l0 : List Int) (r1 : List Int) (r2 : Bool) (w : World) (hr0 : Kd.C (Kd.int .i64) w A0 l0.length l0) (hc0 : l0.length ≤ c0) (h : impl_SkolemOfExtended.f k l0 = some (r1, r2)) :
  Calls Try.prog 117 #[.slice A0 l0.length c0] w fun e w' => ∃ v0_ : Value, e = .returned (.tuple #[v0_, .bool r2]) ∧ Kd.R (Kd.int .i64) 3 w' w.heap.size (fun _ => True) v0_ r1 ∧ Below w.heap.size w w' := by
 have HR0 := Aside0.mk hr0
 have HC0 := Aside0.mk hc0
 clear hr0 hc0
 have HB := Aside0.mk (Below.refl w.heap.size w)
 have H := h
 unfold impl_SkolemOfExtended.f at H
 clear h
 replace H := Option.bind_eq_some_iff.mp H
 obtain ⟨⟨t1203, t1204⟩, A20, H⟩ := H
 replace H : (if t1203 = 0 then (impl_SkolemOfExtended.j0 k l0 t1204 true) else (if t1204 = 0 then (impl_SkolemOfExtended.j0 k l0 t1204 false) else (impl_SkolemOfExtended.j0 k l0 t1204 (t1204 != (wrap64 ((l0.length : Int) - 1)))))) = some (r1, r2) := H
 have A2 := Aside0.mk A20
 clear A20
 have HC3 := Aside0.mk H
 clear H
 go_enter Try.func117, Try.ntmps117
 go_upto_region 2 with (first | ((with_reducible refine gate_callee (f := 222) rfl ?_); refine goesA (some 8) Try.func222 #[.slice A0 l0.length c0] ?_; (with_reducible refine (impl_extended.calls k _ _ l0 t1203 t1204 _ ?side1 ?side2 A2.out).mono ?_); (case side1 => repeat (first | exact HR0.out | (with_reducible refine Kd.C_alloc ?_ _) | (with_reducible refine Kd.C_drewN ?_ _) | (with_reducible refine Kd.C_drew ?_))); (case side2 => exact HC0.out); rintro e w4 ⟨rfl, hb⟩; refine ⟨_, rfl, ?_⟩; replace HB := upB HB hb; (try clear hb); (try clear hb2); (try clear hk); (try clear hi)))
 (try simp only [Act.put, List.setIfInBounds_toArray, List.set_cons_zero, List.set_cons_succ])
 go_cut [23] (fun v23 wc => ∃ (kq : Nat) (x23_2 : Bool), v23 = .bool x23_2 ∧ Aside0 (impl_SkolemOfExtended.j0 kq l0 t1204 x23_2 = some (r1, r2)) ∧ Aside0 (kq ≤ k) ∧ Aside0 (Below w.heap.size w wc))
 case first =>
  have H := HC3.out
  clear HC3
  by_cases c5 : t1203 = 0
  ·rw [if_pos c5] at H
   have c5b0 : (t1203 == 0) = true := beq_iff_eq.mpr c5
   have c5b1 : (t1203 != 0) = false := bne_eq_false_iff_eq.mpr c5
   clear c5
   (first | rw [c5b0] | (simp only [i64_w, i32_w]; rw [c5b0]) | skip)
   have H' := Aside0.mk H
   clear H
   go_wp2
   go_meet
   case rel => exact ⟨_, (true), eqd, H', ⟨leD⟩, ⟨atB HB⟩⟩
  ·rw [if_neg c5] at H
   have c5b0 : (t1203 == 0) = false := beq_eq_false_iff_ne.mpr c5
   have c5b1 : (t1203 != 0) = true := bne_iff_ne.mpr c5
   (first | rw [c5b0] | (simp only [i64_w, i32_w]; rw [c5b0]) | skip)
   by_cases c6 : t1204 = 0
   ·rw [if_pos c6] at H
    have c6b0 : (t1204 == 0) = true := beq_iff_eq.mpr c6
    have c6b1 : (t1204 != 0) = false := bne_eq_false_iff_eq.mpr c6
    clear c6
    have H' := Aside0.mk H
    clear H
    go_wp2
    go_meet
    case rel => exact ⟨_, (false), eqd, H', ⟨leD⟩, ⟨atB HB⟩⟩
   ·rw [if_neg c6] at H
    have c6b0 : (t1204 == 0) = false := beq_eq_false_iff_ne.mpr c6
    have c6b1 : (t1204 != 0) = true := bne_iff_ne.mpr c6
    have H' := Aside0.mk H
    clear H
    go_wp2
    go_meet
    case rel => exact ⟨_, ((t1204 != (wrap64 ((l0.length : Int) - 1)))), eqd, H', ⟨leD⟩, ⟨atB HB⟩⟩
 case rest =>
  clear HC3
  try clear c1
  try clear c2
  try clear p2
  try clear c5
  try clear c5b0
  try clear c5b1
  try clear c6
  try clear c6b0
  try clear c6b1
  try clear p6
  obtain ⟨kq, x23_2, rfl, HA, HJ2, HB⟩ := hcut
  cases kq with
  | zero => exact absurd HA.out (by simp [impl_SkolemOfExtended.j0])
  | succ kj2 =>
   have H := HA.out
   clear HA
   simp only [impl_SkolemOfExtended.j0] at H
   by_cases c7 : x23_2 = true
   ·subst c7
    have H1 : (some (([] : List Int), false)) = some (r1, r2) := by rw [if_pos rfl] at H; exact H
    clear H
    have H := H1
    clear H1
    simp only [Option.some.injEq, Prod.mk.injEq] at H
    obtain ⟨rfl, rfl⟩ := H
    go_wp2
    go_ret2
    exact ⟨_, eqr, by first | exact Kd.R_nil _ _ _ _ _ | exact Kd.N_nil _ _ _ _ _ | exact Kd.V_nil _ _ _ _ _ | exact Kd.Q_nil _ _ _ _ _ | exact Kd.S_nil _ _ _ _ _, atB HB⟩
   ·replace c7 := Bool.eq_false_iff.mpr c7
    subst c7
    have H1 : ((slices_Clone_int_int.f l0).bind fun t1205 => ((slices_Delete_int_int.f t1205 t1204 (wrap64 (t1204 + 1))).bind fun t1208 => (some (t1208, true)))) = some (r1, r2) := by rw [if_neg (show ¬ (false = true) by decide)] at H; exact H
    clear H
    have H := H1
    clear H1
    replace H := Option.bind_eq_some_iff.mp H
    obtain ⟨t1205, A80, H⟩ := H
    replace H : ((slices_Delete_int_int.f t1205 t1204 (wrap64 (t1204 + 1))).bind fun t1208 => (some (t1208, true))) = some (r1, r2) := H
    have A8 := Aside0.mk A80
    clear A80
    replace H := Option.bind_eq_some_iff.mp H
    obtain ⟨t1208, A90, H⟩ := H
    replace H : (some (t1208, true)) = some (r1, r2) := H
    have A9 := Aside0.mk A90
    clear A90
    simp only [Option.some.injEq, Prod.mk.injEq] at H
    obtain ⟨rfl, rfl⟩ := H
    go_wp2_with (first | ((with_reducible refine gate_callee (f := 156) rfl ?_); refine goesA (some 25) Try.func156 #[.slice A0 l0.length c0] ?_; (with_reducible refine (slices_Clone_int_int.calls _ _ l0 t1205 _ ?side1 ?side2 A8.out).mono ?_); (case side1 => repeat (first | exact (Kd.C_below HR0.out HB.out) | (with_reducible refine Kd.C_alloc ?_ _) | (with_reducible refine Kd.C_drewN ?_ _) | (with_reducible refine Kd.C_drew ?_))); (case side2 => exact HC0.out); rintro e w10 ⟨v1206, rfl, ho0, hb⟩; refine ⟨_, rfl, ?_⟩; have HO1207 := lowR ho0 HB; replace HB := upB HB hb; (try clear hb); (try clear hb2); (try clear hk); (try clear hi); (try clear ho0); obtain ⟨Ao11, co11, eo11⟩ := Kd.R_slice HO1207.out; subst eo11) | ((with_reducible refine gate_callee (f := 224) rfl ?_); refine goesA (some 29) Try.func224 #[.slice Ao11 t1205.length co11, .int .i64 t1204, .int .i64 (wrap64 (t1204 + 1))] ?_; (with_reducible refine (slices_Delete_int_int.calls (fun k_ => some k_ = (.slice Ao11 t1205.length co11 : Value).ownBlock) (.slice Ao11 t1205.length co11) t1205 t1204 (wrap64 (t1204 + 1)) t1208 w _ ?side1 ?side2 A9.out).mono ?_); (case side1 => exact atB HB); (case side2 => exact Kd.R_tight rfl HO1207.out); rintro e w12 ⟨v1209, rfl, ho0, hb, hkp⟩; refine ⟨_, rfl, ?_⟩; have HO1210 := Aside0.mk (Kd.R_mono (ok' := fun k_ => True) ho0 (fun k_ hk_ => trivial)); replace HB := Aside0.mk (hb); clear HO1207; (try clear hb); (try clear hkp); (try clear ho0)))
    go_ret2
    exact ⟨_, eqr, atR HO1210, atB HB⟩

noncomputable def impl_SkolemOfExtended.J0 (x0 : List Int) (x5 : Int) (x23 : Bool) : Option (List Int × Bool) := lim fun k => impl_SkolemOfExtended.j0 k x0 x5 x23
theorem impl_SkolemOfExtended.J0_lim (x0 : List Int) (x5 : Int) (x23 : Bool) : Lim (fun k => impl_SkolemOfExtended.j0 k x0 x5 x23) (impl_SkolemOfExtended.J0 x0 x5 x23) := Lim.of fun k => (impl_SkolemOfExtended.mono_l k) x0 x5 x23
noncomputable def impl_SkolemOfExtended.F (l0 : List Int) : Option (List Int × Bool) := lim fun k => impl_SkolemOfExtended.f k l0
theorem impl_SkolemOfExtended.F_lim (l0 : List Int) : Lim (fun k => impl_SkolemOfExtended.f k l0) (impl_SkolemOfExtended.F l0) := Lim.of fun k => impl_SkolemOfExtended.mono l0 k
theorem impl_SkolemOfExtended.J0_eq (x0 : List Int) (x5 : Int) (x23 : Bool) : impl_SkolemOfExtended.J0 x0 x5 x23 = (if x23 = true then (some (([] : List Int), false)) else ((slices_Clone_int_int.f x0).bind fun t1205 => ((slices_Delete_int_int.f t1205 x5 (wrap64 (x5 + 1))).bind fun t1208 => (some (t1208, true))))) :=
 Lim.step (f := fun k => impl_SkolemOfExtended.j0 (k + 1) x0 x5 x23) (impl_SkolemOfExtended.J0_lim x0 x5 x23) (fun _ => rfl) (by
  simp only [impl_SkolemOfExtended.j0]
  repeat' (first | (with_reducible first | exact Lim.const _ | refine Lim.ite ?_ ?_ | refine Lim.bind ?_ (fun _ => ?_))))
theorem impl_SkolemOfExtended.F_eq (l0 : List Int) : impl_SkolemOfExtended.F l0 = ((impl_extended.F l0).bind fun bt1203 => (if bt1203.1 = 0 then (impl_SkolemOfExtended.J0 l0 bt1203.2 true) else (if bt1203.2 = 0 then (impl_SkolemOfExtended.J0 l0 bt1203.2 false) else (impl_SkolemOfExtended.J0 l0 bt1203.2 (bt1203.2 != (wrap64 ((l0.length : Int) - 1))))))) :=
 Lim.unique (impl_SkolemOfExtended.F_lim l0) (by
  unfold impl_SkolemOfExtended.f
  repeat' (first | (with_reducible first | exact Lim.const _ | exact impl_SkolemOfExtended.J0_lim _ _ _ | exact impl_extended.F_lim _ | refine Lim.ite ?_ ?_ | refine Lim.bind ?_ (fun _ => ?_))))

end Go.Proofs.Ytaohgllnoomaeaa.Fn
namespace Go.Proofs.Ytaohgllnoomaeaa.Fn
open Go.RowKit Go.Proofs.YtaohgllnoomaeaaW.PrintWords Go.Proofs.YtaohgllnoomaeaaW.PrintLast Go.Proofs.YtaohgllnoomaeaaW.PrintMore
attribute [local go_sem] max2_int min2_int max_two min_two max_three min_three max_four min_four   -- for this text's walks alone
set_option linter.unusedVariables false
set_option linter.unusedSimpArgs false

/-! ### impl_TrimRow: function 123 -/
mutual
def impl_TrimRow.j1 : Nat → List Int → Int → Int → Option (List Int × Bool)
 | 0, _, _, _ => none
 | k + 1, x0, x4, x5 => impl_TrimRow.l1 k x0 x4 x5
def impl_TrimRow.l1 : Nat → List Int → Int → Int → Option (List Int × Bool)
 | 0, _, _, _ => none
 | k + 1, x0, x4, x5 => if x4 < x5 then (if 0 ≤ (wrap64 (x5 - 1)) then (if (wrap64 (x5 - 1)) < (x0.length : Int) then (if (rd x0 (wrap64 (x5 - 1))) = 0 then (impl_TrimRow.l1 k x0 x4 (wrap64 (x5 - 1))) else (if 0 ≤ x4 then (if x4 ≤ x5 then (if x5 ≤ (x0.length : Int) then ((slices_Clone_int_int.f ((x0.take (x5 : Int).toNat).drop (x4 : Int).toNat)).bind fun t1247 => (some (t1247, true))) else (none)) else (none)) else (none))) else (none)) else (none)) else (if 0 ≤ x4 then (if x4 ≤ x5 then (if x5 ≤ (x0.length : Int) then ((slices_Clone_int_int.f ((x0.take (x5 : Int).toNat).drop (x4 : Int).toNat)).bind fun t1251 => (some (t1251, true))) else (none)) else (none)) else (none))
def impl_TrimRow.l0 : Nat → List Int → Int → Int → Option (List Int × Bool)
 | 0, _, _, _ => none
 | k + 1, x0, x4, x5 => if x4 < x5 then (if 0 ≤ x4 then (if x4 < (x0.length : Int) then (if (rd x0 x4) = 0 then (impl_TrimRow.l0 k x0 (wrap64 (x4 + 1)) x5) else (impl_TrimRow.j1 k x0 x4 x5)) else (none)) else (none)) else (impl_TrimRow.j1 k x0 x4 x5)
end
def impl_TrimRow.f (k : Nat) (l0 : List Int) : Option (List Int × Bool) := (impl_IsRow.f k l0).bind fun t1243 => (if t1243 = true then (impl_TrimRow.l0 k l0 0 (l0.length : Int)) else (some (([] : List Int), false)))
theorem impl_TrimRow.mono_l : ∀ k, (∀ y0 y1 y2, LeO (impl_TrimRow.j1 k y0 y1 y2) (impl_TrimRow.j1 (k + 1) y0 y1 y2)) ∧ (∀ y0 y1 y2, LeO (impl_TrimRow.l1 k y0 y1 y2) (impl_TrimRow.l1 (k + 1) y0 y1 y2)) ∧ (∀ y0 y1 y2, LeO (impl_TrimRow.l0 k y0 y1 y2) (impl_TrimRow.l0 (k + 1) y0 y1 y2))
 | 0 => ⟨fun _ _ _ r h => by simp [impl_TrimRow.j1] at h, fun _ _ _ r h => by simp [impl_TrimRow.l1] at h, fun _ _ _ r h => by simp [impl_TrimRow.l0] at h⟩
 | k + 1 => by
  obtain ⟨ih0, ih1, ih2⟩ := impl_TrimRow.mono_l k
  refine ⟨?_, ?_, ?_⟩
  ·intro y0 y1 y2
   unfold impl_TrimRow.j1
   repeat' (first | (with_reducible first | exact ih1 _ _ _ | exact LeO.refl _ | exact LeO.none _ | refine LeO.ite ?_ ?_ | refine LeO.bind ?_ (fun _ => ?_)) | exact ih1 _ _ _ | exact LeO.none _ | refine LeO.ite ?_ ?_ | refine LeO.bind ?_ (fun _ => ?_))
  ·intro y0 y1 y2
   unfold impl_TrimRow.l1
   repeat' (first | (with_reducible first | exact ih1 _ _ _ | exact LeO.refl _ | exact LeO.none _ | refine LeO.ite ?_ ?_ | refine LeO.bind ?_ (fun _ => ?_)) | exact ih1 _ _ _ | exact LeO.none _ | refine LeO.ite ?_ ?_ | refine LeO.bind ?_ (fun _ => ?_))
  ·intro y0 y1 y2
   unfold impl_TrimRow.l0
   repeat' (first | (with_reducible first | exact ih0 _ _ _ | exact ih2 _ _ _ | exact LeO.refl _ | exact LeO.none _ | refine LeO.ite ?_ ?_ | refine LeO.bind ?_ (fun _ => ?_)) | exact ih0 _ _ _ | exact ih2 _ _ _ | exact LeO.none _ | refine LeO.ite ?_ ?_ | refine LeO.bind ?_ (fun _ => ?_))
theorem impl_TrimRow.mono : ∀ a0 k, LeO (impl_TrimRow.f k a0) (impl_TrimRow.f (k + 1) a0) := by
 intro a0 k
 obtain ⟨ih0, ih1, ih2⟩ := impl_TrimRow.mono_l k
 unfold impl_TrimRow.f
 repeat' (first | (with_reducible first | exact ih2 _ _ _ | exact impl_IsRow.mono _ _ | exact LeO.refl _ | exact LeO.none _ | refine LeO.ite ?_ ?_ | refine LeO.bind ?_ (fun _ => ?_)) | exact ih2 _ _ _ | exact impl_IsRow.mono _ _ | exact LeO.none _ | refine LeO.ite ?_ ?_ | refine LeO.bind ?_ (fun _ => ?_))
set_option maxHeartbeats 8000000 in
set_option maxRecDepth 100000 in
theorem impl_TrimRow.calls (k : Nat) (A0 : Option Addr) (c0 : Nat) (l0 : List Int) (r1 : List Int) (r2 : Bool) (w : World) (hr0 : Kd.C (Kd.int .i64) w A0 l0.length l0) (hc0 : l0.length ≤ c0) (h : impl_TrimRow.f k l0 = some (r1, r2)) :
  Calls Try.prog 123 #[.slice A0 l0.length c0] w fun e w' => ∃ v0_ : Value, e = .returned (.tuple #[v0_, .bool r2]) ∧ Kd.R (Kd.int .i64) 3 w' w.heap.size (fun _ => True) v0_ r1 ∧ Below w.heap.size w w' := by
 have HR0 := Aside0.mk hr0
 have HC0 := Aside0.mk hc0
 clear hr0 hc0
 have HB := Aside0.mk (Below.refl w.heap.size w)
 have H := h
 unfold impl_TrimRow.f at H
 clear h
 replace H := Option.bind_eq_some_iff.mp H
 obtain ⟨t1243, A20, H⟩ := H
 replace H : (if t1243 = true then (impl_TrimRow.l0 k l0 0 (l0.length : Int)) else (some (([] : List Int), false))) = some (r1, r2) := H
 have A2 := Aside0.mk A20
 clear A20
 by_cases c3 : t1243 = true
 ·subst c3
  have H1 : (impl_TrimRow.l0 k l0 0 (l0.length : Int)) = some (r1, r2) := by rw [if_pos rfl] at H; exact H
  clear H
  have H := H1
  clear H1
  have HC4 := Aside0.mk H
  clear H
  go_enter Try.func123, Try.ntmps123
  go_upto_block 0 with (first | ((with_reducible refine gate_callee (f := 66) rfl ?_); refine goesA (some 7) Try.func66 #[.slice A0 l0.length c0] ?_; (with_reducible refine (impl_IsRow.calls k _ _ l0 true _ ?side1 ?side2 A2.out).mono ?_); (case side1 => repeat (first | exact HR0.out | (with_reducible refine Kd.C_alloc ?_ _) | (with_reducible refine Kd.C_drewN ?_ _) | (with_reducible refine Kd.C_drew ?_))); (case side2 => exact HC0.out); rintro e w' ⟨rfl, ⟨nd, rfl⟩⟩; refine ⟨_, rfl, ?_⟩))
  (try simp only [Act.put, List.setIfInBounds_toArray, List.set_cons_zero, List.set_cons_succ])
  go_cut [4] (fun v4 wc => ∃ (kq : Nat) (x4_3 : Int), v4 = .int .i64 x4_3 ∧ Aside0 (impl_TrimRow.j1 kq l0 x4_3 (l0.length : Int) = some (r1, r2)) ∧ Aside0 (kq ≤ k) ∧ Aside0 (Below w.heap.size w wc))
  case first =>
   have H := HC4.out
   clear HC4
   have H' := Aside0.mk H
   clear H
   go_wp2
   go_loopg [4] k (fun kq v4 w' => ∃ (x4_1 : Int), v4 = .int .i64 x4_1 ∧ Aside0 (impl_TrimRow.l0 kq l0 x4_1 (l0.length : Int) = some (r1, r2)) ∧ Aside0 (kq ≤ k) ∧ Aside0 (Below w.heap.size w w'))
   case atStart => exact ⟨(0), eqd, H', ⟨Nat.le_refl _⟩, ⟨atB HB⟩⟩
   case round =>
    clear H'
    try clear c1
    try clear p2
    try clear c3
    obtain ⟨x4_1, rfl, HA, HK1, HB⟩ := hrel
    cases gk with
    | zero => exact absurd HA.out (by simp [impl_TrimRow.l0])
    | succ k1 =>
     have H := HA.out
     clear HA
     simp only [impl_TrimRow.l0] at H
     by_cases c5 : x4_1 < (l0.length : Int)
     ·rw [if_pos c5] at H
      have c5b0 : decide (x4_1 < (l0.length : Int)) = true := decide_eq_true c5
      clear c5
      (first | rw [c5b0] | (simp only [i64_w, i32_w]; rw [c5b0]) | skip)
      by_cases c6 : 0 ≤ x4_1
      ·rw [if_pos c6] at H
       have c6b0 : decide (0 ≤ x4_1) = true := decide_eq_true c6
       clear c6
       by_cases c7 : x4_1 < (l0.length : Int)
       ·rw [if_pos c7] at H
        have c7b0 : decide (x4_1 < (l0.length : Int)) = true := decide_eq_true c7
        clear c7
        by_cases c8 : (rd l0 x4_1) = 0
        ·rw [if_pos c8] at H
         have c8b0 : ((rd l0 x4_1) == 0) = true := beq_iff_eq.mpr c8
         have c8b1 : ((rd l0 x4_1) != 0) = false := bne_eq_false_iff_eq.mpr c8
         clear c8
         have H' := Aside0.mk H
         clear H
         have p1244 : 0 ≤ (x4_1 : Int) := ofd
         have q1244 : x4_1 < (l0.length : Int) := ofd
         obtain ⟨ad1244, e1244, hx1244_0⟩ := Kd.at_int HR0.out x4_1 p1244 q1244
         cases e1244
         replace hx1244_0 := (HB.out.cell (World.block_lt_of_cell? w _ hx1244_0)).trans hx1244_0
         replace p1244 := eq_true p1244
         replace q1244 := eq_true q1244
         go_wp2
         go_roundg k1
         case measure => have := HK1.out; omega
         case rel => exact ⟨(wrap64 (x4_1 + 1)), eqd, H', ⟨by have := HK1.out; omega⟩, ⟨atB HB⟩⟩
        ·rw [if_neg c8] at H
         have c8b0 : ((rd l0 x4_1) == 0) = false := beq_eq_false_iff_ne.mpr c8
         have c8b1 : ((rd l0 x4_1) != 0) = true := bne_iff_ne.mpr c8
         have H' := Aside0.mk H
         clear H
         have p1244 : 0 ≤ (x4_1 : Int) := ofd
         have q1244 : x4_1 < (l0.length : Int) := ofd
         obtain ⟨ad1244, e1244, hx1244_0⟩ := Kd.at_int HR0.out x4_1 p1244 q1244
         cases e1244
         replace hx1244_0 := (HB.out.cell (World.block_lt_of_cell? w _ hx1244_0)).trans hx1244_0
         replace p1244 := eq_true p1244
         replace q1244 := eq_true q1244
         go_wp2
         go_meet
         case rel => exact ⟨_, (x4_1), eqd, H', ⟨by have := HK1.out; first | omega | exact Nat.le_refl _⟩, ⟨atB HB⟩⟩
       ·rw [if_neg c7] at H
        exact absurd H (by simp)
      ·rw [if_neg c6] at H
       exact absurd H (by simp)
     ·rw [if_neg c5] at H
      have c5b0 : decide (x4_1 < (l0.length : Int)) = false := decide_eq_false c5
      clear c5
      (first | rw [c5b0] | (simp only [i64_w, i32_w]; rw [c5b0]) | skip)
      have H' := Aside0.mk H
      clear H
      go_wp2
      go_meet
      case rel => exact ⟨_, (x4_1), eqd, H', ⟨by have := HK1.out; first | omega | exact Nat.le_refl _⟩, ⟨atB HB⟩⟩
  case rest =>
   clear HC4
   try clear c1
   try clear p1
   try clear q1
   try clear hx1
   try clear p2
   try clear c3
   try clear c5
   try clear c5b0
   try clear c6
   try clear c6b0
   try clear p6
   try clear c7
   try clear c7b0
   try clear c8
   try clear c8b0
   try clear c8b1
   try clear hx1244_0
   try clear p1244
   try clear p2
   try clear q1244
   obtain ⟨kq, x4_3, rfl, HA, HJ3, HB⟩ := hcut
   cases kq with
   | zero => exact absurd HA.out (by simp [impl_TrimRow.j1])
   | succ kj3 =>
    have H := HA.out
    clear HA
    simp only [impl_TrimRow.j1] at H
    have H' := Aside0.mk H
    clear H
    go_wp2
    go_loopg [5] kj3 (fun kq v5 w' => ∃ (x5_2 : Int), v5 = .int .i64 x5_2 ∧ Aside0 (impl_TrimRow.l1 kq l0 x4_3 x5_2 = some (r1, r2)) ∧ Aside0 (kq ≤ kj3) ∧ Aside0 (Below w.heap.size w w'))
    case atStart => exact ⟨((l0.length : Int)), eqd, H', ⟨Nat.le_refl _⟩, ⟨atB HB⟩⟩
    case round =>
     clear H'
     try clear c1
     try clear p1
     try clear q1
     try clear hx1
     try clear p2
     try clear c3
     try clear c5
     try clear c5b0
     try clear c6
     try clear c6b0
     try clear p6
     try clear c7
     try clear c7b0
     try clear c8
     try clear c8b0
     try clear c8b1
     try clear hx1244_0
     try clear p1
     try clear p1244
     try clear p2
     try clear p6
     try clear q1
     try clear q1244
     obtain ⟨x5_2, rfl, HA, HK2, HB⟩ := hrel
     cases gk with
     | zero => exact absurd HA.out (by simp [impl_TrimRow.l1])
     | succ k2 =>
      have H := HA.out
      clear HA
      simp only [impl_TrimRow.l1] at H
      by_cases c9 : x4_3 < x5_2
      ·rw [if_pos c9] at H
       have c9b0 : decide (x4_3 < x5_2) = true := decide_eq_true c9
       clear c9
       obtain ⟨ji10, hji10⟩ : ∃ j_ : Int, (wrap64 (x5_2 - 1)) = j_ := ⟨_, rfl⟩
       replace H : (if 0 ≤ (ji10) then (if (ji10) < (l0.length : Int) then (if (rd l0 (ji10)) = 0 then (impl_TrimRow.l1 k2 l0 x4_3 ji10) else (if 0 ≤ x4_3 then (if x4_3 ≤ x5_2 then (if x5_2 ≤ (l0.length : Int) then ((slices_Clone_int_int.f ((l0.take (x5_2 : Int).toNat).drop (x4_3 : Int).toNat)).bind fun t1247 => (some (t1247, true))) else (none)) else (none)) else (none))) else (none)) else (none)) = some (r1, r2) := by first | (rw [hji10] at H; exact H) | (simp only [hji10] at H ⊢; exact H)
       have hji10w : (IntKind.i64.wrap (x5_2 - 1)) = ji10 := (i64_w _).trans hji10
       by_cases c11 : 0 ≤ (ji10)
       ·rw [if_pos c11] at H
        have c11b0 : decide (0 ≤ (ji10)) = true := decide_eq_true c11
        clear c11
        by_cases c12 : (ji10) < (l0.length : Int)
        ·rw [if_pos c12] at H
         have c12b0 : decide ((ji10) < (l0.length : Int)) = true := decide_eq_true c12
         clear c12
         by_cases c13 : (rd l0 (ji10)) = 0
         ·rw [if_pos c13] at H
          have c13b0 : ((rd l0 (ji10)) == 0) = true := beq_iff_eq.mpr c13
          have c13b1 : ((rd l0 (ji10)) != 0) = false := bne_eq_false_iff_eq.mpr c13
          clear c13
          have H' := Aside0.mk H
          clear H
          have p1245 : 0 ≤ ((ji10) : Int) := ofd
          have q1245 : (ji10) < (l0.length : Int) := ofd
          obtain ⟨ad1245, e1245, hx1245_0⟩ := Kd.at_int HR0.out (ji10) p1245 q1245
          cases e1245
          replace hx1245_0 := (HB.out.cell (World.block_lt_of_cell? w _ hx1245_0)).trans hx1245_0
          replace p1245 := eq_true p1245
          replace q1245 := eq_true q1245
          go_wp2
          go_roundg k2
          case measure => have := HJ3.out; have := HK2.out; omega
          case rel => exact ⟨(ji10), (by first | rfl | (simp; done) | (simp only [← hji10] <;> (first | rfl | simp)) | (simp [*]; done)), H', ⟨by have := HJ3.out; have := HK2.out; omega⟩, ⟨atB HB⟩⟩
         ·rw [if_neg c13] at H
          have c13b0 : ((rd l0 (ji10)) == 0) = false := beq_eq_false_iff_ne.mpr c13
          have c13b1 : ((rd l0 (ji10)) != 0) = true := bne_iff_ne.mpr c13
          by_cases c14 : 0 ≤ x4_3
          ·rw [if_pos c14] at H
           have c14b0 := eq_true c14
           have c14b1 : decide (0 ≤ x4_3) = true := decide_eq_true c14
           clear c14
           by_cases c15 : x4_3 ≤ x5_2
           ·rw [if_pos c15] at H
            have c15b0 := eq_true c15
            have c15b1 : decide (x4_3 ≤ x5_2) = true := decide_eq_true c15
            clear c15
            by_cases c16 : x5_2 ≤ (l0.length : Int)
            ·rw [if_pos c16] at H
             have c16b0 := eq_true c16
             have c16b1 : decide (x5_2 ≤ (l0.length : Int)) = true := decide_eq_true c16
             clear c16
             replace H := Option.bind_eq_some_iff.mp H
             obtain ⟨t1247, A170, H⟩ := H
             replace H : (some (t1247, true)) = some (r1, r2) := H
             have A17 := Aside0.mk A170
             clear A170
             simp only [Option.some.injEq, Prod.mk.injEq] at H
             obtain ⟨rfl, rfl⟩ := H
             have p1245 : 0 ≤ ((ji10) : Int) := ofd
             have q1245 : (ji10) < (l0.length : Int) := ofd
             obtain ⟨ad1245, e1245, hx1245_0⟩ := Kd.at_int HR0.out (ji10) p1245 q1245
             cases e1245
             replace hx1245_0 := (HB.out.cell (World.block_lt_of_cell? w _ hx1245_0)).trans hx1245_0
             replace p1245 := eq_true p1245
             replace q1245 := eq_true q1245
             obtain ⟨i018, hi018, _, hsz18, _⟩ := info_parts info3
             obtain ⟨A18, hcut18, hA18, hC18⟩ := print_mid_of (P := Try.prog) (Value.int .i64) 0 31 3 .i64 .i64 Try.underlying31 hi018 hsz18 (some ad1245) c0 l0 x4_3 x5_2 (of_decide_eq_true (by first | (with_reducible assumption) | assumption)) (by first | omega | exact of_decide_eq_true (by first | (with_reducible assumption) | assumption)) (of_decide_eq_true (by first | (with_reducible assumption) | assumption)) HC0.out
             have HR1246 := Aside0.mk (Kd.C_of_reads (h1 := fun _ => rfl) (hA18 _ (Kd.reads_of_C HR0.out)))
             have HC1246 := Aside0.mk hC18
             clear hA18 hC18 hi018 hsz18
             go_wp2_with (first | ((with_reducible refine gate_callee (f := 156) rfl ?_); refine goesL_ (some 40) rfl rfl Try.func156 (by kernel_rfl) rfl #[.slice A18 ((l0.take (x5_2 : Int).toNat).drop (x4_3 : Int).toNat).length (c0 - x4_3.toNat)] rfl (by (try simp only [List.map_toArray, List.map_cons, List.map_nil]); first | done | (rw [show ((l0.take (x5_2 : Int).toNat).drop (x4_3 : Int).toNat).length = (x5_2.toNat - x4_3.toNat) from (by rw [List.length_drop, List.length_take]; have h_ : (x5_2 : Int) ≤ (l0.length : Int) := ofd; omega)] <;> rfl) | rfl | (simp only [List.length_drop, List.length_take]; rfl)) ?_; (with_reducible refine (slices_Clone_int_int.calls _ _ ((l0.take (x5_2 : Int).toNat).drop (x4_3 : Int).toNat) t1247 _ ?side1 ?side2 A17.out).mono ?_); (case side1 => repeat (first | exact (Kd.C_below HR1246.out HB.out) | (with_reducible refine Kd.C_alloc ?_ _) | (with_reducible refine Kd.C_drewN ?_ _) | (with_reducible refine Kd.C_drew ?_))); (case side2 => exact HC1246.out); rintro e w19 ⟨v1248, rfl, ho0, hb⟩; refine ⟨_, rfl, ?_⟩; have HO1249 := lowR ho0 HB; replace HB := upB HB hb; (try clear hb); (try clear hb2); (try clear hk); (try clear hi); (try clear ho0)))
             go_ret2
             exact ⟨_, by first | rfl | (simp [errW_none, errW_some] <;> rfl) | (simp only [← hji10]; first | rfl | (simp [errW_none, errW_some] <;> rfl)) | (simp [*, errW_none, errW_some] <;> rfl), atR HO1249, atB HB⟩
            ·rw [if_neg c16] at H
             exact absurd H (by simp)
           ·rw [if_neg c15] at H
            exact absurd H (by simp)
          ·rw [if_neg c14] at H
           exact absurd H (by simp)
        ·rw [if_neg c12] at H
         exact absurd H (by simp)
       ·rw [if_neg c11] at H
        exact absurd H (by simp)
      ·rw [if_neg c9] at H
       have c9b0 : decide (x4_3 < x5_2) = false := decide_eq_false c9
       clear c9
       by_cases c20 : 0 ≤ x4_3
       ·rw [if_pos c20] at H
        have c20b0 := eq_true c20
        have c20b1 : decide (0 ≤ x4_3) = true := decide_eq_true c20
        clear c20
        by_cases c21 : x4_3 ≤ x5_2
        ·rw [if_pos c21] at H
         have c21b0 := eq_true c21
         have c21b1 : decide (x4_3 ≤ x5_2) = true := decide_eq_true c21
         clear c21
         by_cases c22 : x5_2 ≤ (l0.length : Int)
         ·rw [if_pos c22] at H
          have c22b0 := eq_true c22
          have c22b1 : decide (x5_2 ≤ (l0.length : Int)) = true := decide_eq_true c22
          clear c22
          replace H := Option.bind_eq_some_iff.mp H
          obtain ⟨t1251, A230, H⟩ := H
          replace H : (some (t1251, true)) = some (r1, r2) := H
          have A23 := Aside0.mk A230
          clear A230
          simp only [Option.some.injEq, Prod.mk.injEq] at H
          obtain ⟨rfl, rfl⟩ := H
          obtain ⟨i024, hi024, _, hsz24, _⟩ := info_parts info3
          obtain ⟨A24, hcut24, hA24, hC24⟩ := print_mid_of (P := Try.prog) (Value.int .i64) 0 31 3 .i64 .i64 Try.underlying31 hi024 hsz24 A0 c0 l0 x4_3 x5_2 (of_decide_eq_true (by first | (with_reducible assumption) | assumption)) (by first | omega | exact of_decide_eq_true (by first | (with_reducible assumption) | assumption)) (of_decide_eq_true (by first | (with_reducible assumption) | assumption)) HC0.out
          have HR1250 := Aside0.mk (Kd.C_of_reads (h1 := fun _ => rfl) (hA24 _ (Kd.reads_of_C HR0.out)))
          have HC1250 := Aside0.mk hC24
          clear hA24 hC24 hi024 hsz24
          go_wp2_with (first | ((with_reducible refine gate_callee (f := 156) rfl ?_); refine goesL_ (some 40) rfl rfl Try.func156 (by kernel_rfl) rfl #[.slice A24 ((l0.take (x5_2 : Int).toNat).drop (x4_3 : Int).toNat).length (c0 - x4_3.toNat)] rfl (by (try simp only [List.map_toArray, List.map_cons, List.map_nil]); first | done | (rw [show ((l0.take (x5_2 : Int).toNat).drop (x4_3 : Int).toNat).length = (x5_2.toNat - x4_3.toNat) from (by rw [List.length_drop, List.length_take]; have h_ : (x5_2 : Int) ≤ (l0.length : Int) := ofd; omega)] <;> rfl) | rfl | (simp only [List.length_drop, List.length_take]; rfl)) ?_; (with_reducible refine (slices_Clone_int_int.calls _ _ ((l0.take (x5_2 : Int).toNat).drop (x4_3 : Int).toNat) t1251 _ ?side1 ?side2 A23.out).mono ?_); (case side1 => repeat (first | exact (Kd.C_below HR1250.out HB.out) | (with_reducible refine Kd.C_alloc ?_ _) | (with_reducible refine Kd.C_drewN ?_ _) | (with_reducible refine Kd.C_drew ?_))); (case side2 => exact HC1250.out); rintro e w25 ⟨v1252, rfl, ho0, hb⟩; refine ⟨_, rfl, ?_⟩; have HO1253 := lowR ho0 HB; replace HB := upB HB hb; (try clear hb); (try clear hb2); (try clear hk); (try clear hi); (try clear ho0)))
          go_ret2
          exact ⟨_, eqr, atR HO1253, atB HB⟩
         ·rw [if_neg c22] at H
          exact absurd H (by simp)
        ·rw [if_neg c21] at H
         exact absurd H (by simp)
       ·rw [if_neg c20] at H
        exact absurd H (by simp)
 ·replace c3 := Bool.eq_false_iff.mpr c3
  subst c3
  have H1 : (some (([] : List Int), false)) = some (r1, r2) := by rw [if_neg (show ¬ (false = true) by decide)] at H; exact H
  clear H
  have H := H1
  clear H1
  simp only [Option.some.injEq, Prod.mk.injEq] at H
  obtain ⟨rfl, rfl⟩ := H
  go_enter Try.func123, Try.ntmps123
  go_wp2_with (first | ((with_reducible refine gate_callee (f := 66) rfl ?_); refine goesA (some 7) Try.func66 #[.slice A0 l0.length c0] ?_; (with_reducible refine (impl_IsRow.calls k _ _ l0 false _ ?side1 ?side2 A2.out).mono ?_); (case side1 => repeat (first | exact HR0.out | (with_reducible refine Kd.C_alloc ?_ _) | (with_reducible refine Kd.C_drewN ?_ _) | (with_reducible refine Kd.C_drew ?_))); (case side2 => exact HC0.out); rintro e w' ⟨rfl, ⟨nd, rfl⟩⟩; refine ⟨_, rfl, ?_⟩))
  go_ret2
  exact ⟨_, eqr, by first | exact Kd.R_nil _ _ _ _ _ | exact Kd.N_nil _ _ _ _ _ | exact Kd.V_nil _ _ _ _ _ | exact Kd.Q_nil _ _ _ _ _ | exact Kd.S_nil _ _ _ _ _, atB HB⟩

noncomputable def impl_TrimRow.J1 (x0 : List Int) (x4 : Int) (x5 : Int) : Option (List Int × Bool) := lim fun k => impl_TrimRow.j1 k x0 x4 x5
theorem impl_TrimRow.J1_lim (x0 : List Int) (x4 : Int) (x5 : Int) : Lim (fun k => impl_TrimRow.j1 k x0 x4 x5) (impl_TrimRow.J1 x0 x4 x5) := Lim.of fun k => (impl_TrimRow.mono_l k).1 x0 x4 x5
noncomputable def impl_TrimRow.L1 (x0 : List Int) (x4 : Int) (x5 : Int) : Option (List Int × Bool) := lim fun k => impl_TrimRow.l1 k x0 x4 x5
theorem impl_TrimRow.L1_lim (x0 : List Int) (x4 : Int) (x5 : Int) : Lim (fun k => impl_TrimRow.l1 k x0 x4 x5) (impl_TrimRow.L1 x0 x4 x5) := Lim.of fun k => (impl_TrimRow.mono_l k).2.1 x0 x4 x5
noncomputable def impl_TrimRow.L0 (x0 : List Int) (x4 : Int) (x5 : Int) : Option (List Int × Bool) := lim fun k => impl_TrimRow.l0 k x0 x4 x5
theorem impl_TrimRow.L0_lim (x0 : List Int) (x4 : Int) (x5 : Int) : Lim (fun k => impl_TrimRow.l0 k x0 x4 x5) (impl_TrimRow.L0 x0 x4 x5) := Lim.of fun k => (impl_TrimRow.mono_l k).2.2 x0 x4 x5
noncomputable def impl_TrimRow.F (l0 : List Int) : Option (List Int × Bool) := lim fun k => impl_TrimRow.f k l0
theorem impl_TrimRow.F_lim (l0 : List Int) : Lim (fun k => impl_TrimRow.f k l0) (impl_TrimRow.F l0) := Lim.of fun k => impl_TrimRow.mono l0 k
theorem impl_TrimRow.J1_eq (x0 : List Int) (x4 : Int) (x5 : Int) : impl_TrimRow.J1 x0 x4 x5 = (impl_TrimRow.L1 x0 x4 x5) :=
 Lim.step (f := fun k => impl_TrimRow.j1 (k + 1) x0 x4 x5) (impl_TrimRow.J1_lim x0 x4 x5) (fun _ => rfl) (by
  simp only [impl_TrimRow.j1]
  repeat' (first | (with_reducible first | exact Lim.const _ | exact impl_TrimRow.L1_lim _ _ _ | refine Lim.ite ?_ ?_ | refine Lim.bind ?_ (fun _ => ?_))))
theorem impl_TrimRow.L1_eq (x0 : List Int) (x4 : Int) (x5 : Int) : impl_TrimRow.L1 x0 x4 x5 = (if x4 < x5 then (if 0 ≤ (wrap64 (x5 - 1)) then (if (wrap64 (x5 - 1)) < (x0.length : Int) then (if (rd x0 (wrap64 (x5 - 1))) = 0 then (impl_TrimRow.L1 x0 x4 (wrap64 (x5 - 1))) else (if 0 ≤ x4 then (if x4 ≤ x5 then (if x5 ≤ (x0.length : Int) then ((slices_Clone_int_int.f ((x0.take (x5 : Int).toNat).drop (x4 : Int).toNat)).bind fun t1247 => (some (t1247, true))) else (none)) else (none)) else (none))) else (none)) else (none)) else (if 0 ≤ x4 then (if x4 ≤ x5 then (if x5 ≤ (x0.length : Int) then ((slices_Clone_int_int.f ((x0.take (x5 : Int).toNat).drop (x4 : Int).toNat)).bind fun t1251 => (some (t1251, true))) else (none)) else (none)) else (none))) :=
 Lim.step (f := fun k => impl_TrimRow.l1 (k + 1) x0 x4 x5) (impl_TrimRow.L1_lim x0 x4 x5) (fun _ => rfl) (by
  simp only [impl_TrimRow.l1]
  repeat' (first | (with_reducible first | exact Lim.const _ | exact impl_TrimRow.L1_lim _ _ _ | refine Lim.ite ?_ ?_ | refine Lim.bind ?_ (fun _ => ?_))))
theorem impl_TrimRow.L0_eq (x0 : List Int) (x4 : Int) (x5 : Int) : impl_TrimRow.L0 x0 x4 x5 = (if x4 < x5 then (if 0 ≤ x4 then (if x4 < (x0.length : Int) then (if (rd x0 x4) = 0 then (impl_TrimRow.L0 x0 (wrap64 (x4 + 1)) x5) else (impl_TrimRow.J1 x0 x4 x5)) else (none)) else (none)) else (impl_TrimRow.J1 x0 x4 x5)) :=
 Lim.step (f := fun k => impl_TrimRow.l0 (k + 1) x0 x4 x5) (impl_TrimRow.L0_lim x0 x4 x5) (fun _ => rfl) (by
  simp only [impl_TrimRow.l0]
  repeat' (first | (with_reducible first | exact Lim.const _ | exact impl_TrimRow.J1_lim _ _ _ | exact impl_TrimRow.L0_lim _ _ _ | refine Lim.ite ?_ ?_ | refine Lim.bind ?_ (fun _ => ?_))))
theorem impl_TrimRow.F_eq (l0 : List Int) : impl_TrimRow.F l0 = ((impl_IsRow.F l0).bind fun t1243 => (if t1243 = true then (impl_TrimRow.L0 l0 0 (l0.length : Int)) else (some (([] : List Int), false)))) :=
 Lim.unique (impl_TrimRow.F_lim l0) (by
  unfold impl_TrimRow.f
  repeat' (first | (with_reducible first | exact Lim.const _ | exact impl_IsRow.F_lim _ | exact impl_TrimRow.L0_lim _ _ _ | refine Lim.ite ?_ ?_ | refine Lim.bind ?_ (fun _ => ?_))))

end Go.Proofs.Ytaohgllnoomaeaa.Fn
namespace Go.Proofs.Ytaohgllnoomaeaa.Fn
open Go.RowKit Go.Proofs.YtaohgllnoomaeaaW.PrintWords Go.Proofs.YtaohgllnoomaeaaW.PrintLast Go.Proofs.YtaohgllnoomaeaaW.PrintMore
attribute [local go_sem] max2_int min2_int max_two min_two max_three min_three max_four min_four   -- for this text's walks alone
set_option linter.unusedVariables false
set_option linter.unusedSimpArgs false

/-! ### spec_l1Cur_among: function 191 -/
def spec_l1Cur_among.f (s0_0 : List Int) (s0_1 : Int) (s0_2 : Int) (l1 : List Int) : Option (Int × Int × Int) := (spec_l1Cur_pick.f s0_0 s0_1 s0_2 (l1.length : Int)).bind fun bt108 => (if 0 ≤ bt108.1 then (if bt108.1 < (l1.length : Int) then (some (rd l1 bt108.1, bt108.2.1, bt108.2.2)) else (none)) else (none))
set_option maxHeartbeats 8000000 in
set_option maxRecDepth 100000 in
theorem spec_l1Cur_among.calls (g : Nat) (s0_0 : List Int) (s0_1 : Int) (s0_2 : Int) (A1 : Option Addr) (c1 : Nat) (l1 : List Int) (r1 : Int) (r2 : Int) (r3 : Int) (w0 w : World) (hI : IsS108 w0 w g s0_0 s0_1 s0_2) (hB : Below w0.heap.size w0 w) (hr1 : Kd.C (Kd.int .i64) w A1 l1.length l1) (hc1 : l1.length ≤ c1) (hf1 : ∀ ad, A1 = some ad → 0 < l1.length → ad.block ≠ g) (h : spec_l1Cur_among.f s0_0 s0_1 s0_2 l1 = some (r1, r2, r3)) :
  Calls Try.prog 191 #[.pointer (some ⟨g, 0, none⟩), .slice A1 l1.length c1] w fun e w' => e = .returned (.int .i64 r1) ∧ IsS108 w0 w' g s0_0 r2 r3 ∧ Below w0.heap.size w0 w' ∧ KeepBut w w' g none := by
 have HR1 := Aside0.mk hr1
 have HC1 := Aside0.mk hc1
 clear hr1 hc1
 have HI0 := Aside0.mk hI
 have HK := Aside0.mk (KeepBut.refl w g none)
 have HL := Aside0.mk hB.size
 clear hI
 have HW0 := Aside0.mk hB.size
 have HB := Aside0.mk hB
 clear hB
 have H := h
 unfold spec_l1Cur_among.f at H
 clear h
 replace H := Option.bind_eq_some_iff.mp H
 obtain ⟨⟨t108, t109, t110⟩, A30, H⟩ := H
 replace H : (if 0 ≤ t108 then (if t108 < (l1.length : Int) then (some (rd l1 t108, t109, t110)) else (none)) else (none)) = some (r1, r2, r3) := H
 have A3 := Aside0.mk A30
 clear A30
 by_cases c4 : 0 ≤ t108
 ·rw [if_pos c4] at H
  have c4b0 : decide (0 ≤ t108) = true := decide_eq_true c4
  clear c4
  by_cases c5 : t108 < (l1.length : Int)
  ·rw [if_pos c5] at H
   have c5b0 : decide (t108 < (l1.length : Int)) = true := decide_eq_true c5
   clear c5
   simp only [Option.some.injEq, Prod.mk.injEq] at H
   obtain ⟨rfl, rfl, rfl⟩ := H
   go_enter Try.func191, Try.ntmps191
   go_wp2_with (first | ((with_reducible refine gate_callee (f := 171) rfl ?_); refine goesA (some 9) Try.func171 #[.pointer (some ⟨g, 0, none⟩), .int .i64 (l1.length : Int)] ?_; (with_reducible refine (spec_l1Cur_pick.calls g s0_0 s0_1 s0_2 (l1.length : Int) t108 t109 t110 w0 _ ?side1 ?side2 A3.out).mono ?_); (case side1 => exact IsS108.at HI0); (case side2 => exact atB HB); rintro e w6 ⟨rfl, hi, hb, hk⟩; refine ⟨_, rfl, ?_⟩; replace HK := upK HK hk; replace HB := Aside0.mk (hb); replace HI0 := Aside0.mk (hi); (try clear hb); (try clear hb2); (try clear hk); (try clear hi); have p111 : 0 ≤ (t108 : Int) := ofd; have q111 : t108 < (l1.length : Int) := ofd; obtain ⟨ad111, e111, hx111_0⟩ := Kd.at_int HR1.out t108 p111 q111; cases e111; replace hx111_0 := keep_cell HK.out hx111_0 (by first | (rw [add_block]; exact hf1 _ rfl (by omega)) | exact hf1 _ rfl (by omega) | exact hf1 ad111 rfl (by omega)); replace p111 := eq_true p111; replace q111 := eq_true q111))
   go_ret
   exact ⟨eqr, IsS108.at HI0, atB HB, atK HK⟩
  ·rw [if_neg c5] at H
   exact absurd H (by simp)
 ·rw [if_neg c4] at H
  exact absurd H (by simp)


end Go.Proofs.Ytaohgllnoomaeaa.Fn
