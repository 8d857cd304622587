/- The machine's side and plain lemmas for FnLangfordThere: texts of this session, merged by its program (part 2). -/
import Derived.Laws.Rows
import Derived.Test.YtaohgllnoomaeaaMFnLangfordThere0
import Derived.Test.YtaohgllnoomaeaaMFnLangfordThere1
namespace Go.Proofs.Ytaohgllnoomaeaa.Fn
open Go.RowKit Go.Proofs.YtaohgllnoomaeaaW.PrintWords Go.Proofs.YtaohgllnoomaeaaW.PrintLast Go.Proofs.YtaohgllnoomaeaaW.PrintMore
attribute [local go_sem] max2_int min2_int max_two min_two max_three min_three max_four min_four   -- for this text's walks alone
set_option linter.unusedVariables false
set_option linter.unusedSimpArgs false

/-! ### spec_seAll: function 221 (given) -/
/-! ### the reference's search from its beginning -/
def SeRet (from_ to_ shift hole most : Int) (p : Nat) (s' : SeSt) (w : World) (e : Ending) (w' : World) : Prop := ∃ (gS gr : Nat), e = .returned (.pointer (some ⟨gS, 0, none⟩)) ∧ w.heap.size ≤ gS ∧ w.heap.size ≤ gr ∧ gS ≠ gr ∧ SeI w.heap.size gS gr from_ to_ shift hole most (List.replicate p 0) 0 s' w' ∧ Below w.heap.size w w'
set_option maxHeartbeats 8000000 in
set_option maxRecDepth 100000 in
theorem seAll_hole (from_ to_ shift hole most : Int) (p : Nat) (s' : SeSt) (w : World) (hfr : 1 ≤ from_ ∧ from_ ≤ 20) (hto : 0 ≤ to_ ∧ to_ ≤ 40) (hs : 0 ≤ shift ∧ shift ≤ 1) (hft : from_ ≤ to_) (hh : 0 ≤ hole) (hp : (p : Int) = 2 * (to_ - from_ + 1) + 1) (h : seF from_ to_ shift hole most (p + 1) (0, []) (List.replicate p 0) 0 = some s') :
    Calls Try.prog 221 #[.int .i64 from_, .int .i64 to_, .int .i64 shift, .int .i64 hole, .int .i64 most] w (SeRet from_ to_ shift hole most p s' w) := by
  have HPL := Aside0.mk (show p ≤ 100 by omega)
  have HP := Aside0.mk (show p ≤ 1000 by omega)
  have HF := Aside0.mk (show (1 ≤ from_ ∧ from_ ≤ 20) ∧ (0 ≤ to_ ∧ to_ ≤ 40) ∧ (0 ≤ shift ∧ shift ≤ 1) ∧ 0 < p from ⟨hfr, hto, hs, by omega⟩)
  have H := Aside0.mk h
  have HW := Aside0.mk (show wrap64 (wrap64 (2 * wrap64 (wrap64 (to_ - from_) + 1)) + 1) = (p : Int) by rw [wrap_in (n := to_ - from_) (by omega) (by omega), wrap_in (n := to_ - from_ + 1) (by omega) (by omega), wrap_in (n := 2 * (to_ - from_ + 1)) (by omega) (by omega), wrap_in (by omega) (by omega)]; omega)
  have b1 : decide (0 ≤ hole) = true := decide_eq_true hh
  clear h hs hft hp hh hfr hto
  go_enter Try.func221, Try.ntmps221
  go_wp2_with (first | ((with_reducible refine gate_dst (N := 23) rfl ?_); refine IB_make_event (N := 23) (x := .tmp 22) (y := .tmp 22) (n := p) ?hg ?hd ?ho ?hx ?hy HP.out ?_; (case hg => rfl); (case hd => rfl); (case ho => rfl); (case hx => exact congrArg (Value.int .i64) HW.out); (case hy => exact congrArg (Value.int .i64) HW.out); intro gr hgr w1 hI1 hB1; have HGR := Aside0.mk hgr; have HI1 := Aside0.mk hI1; have HB1 := Aside0.mk hB1; clear hgr hI1 hB1) | ((with_reducible refine gate_dst (N := 30) rfl ?_); refine box_event ?hg (N := 30) ?hd (cs := #[.slice (some ⟨gr, 0, none⟩) p p, .int .i64 from_, .int .i64 to_, .int .i64 shift, .int .i64 hole, .int .i64 0, .int .i64 most, .int .i64 0, .slice none 0 0]) (t := 96) ?hr ?_; (case hd => rfl); (case hg => rfl); (case hr => first | (go_simp; done) | (go_simp; rfl)); intro gS hg w2 hbox hb; have BK := Aside0.mk hbox; have HB2 := Aside0.mk hb; have GS := Aside0.mk hg; clear hg hbox hb) | ((with_reducible refine gate_callee (f := 254) rfl ?_); have HSI := Aside0.mk (show SeI w.heap.size gS gr from_ to_ shift hole most (List.replicate p 0) 0 (0, []) w2 from ⟨⟨_, by rw [List.length_replicate]; exact BK.out, Kd.S_nil _ _ _ _ _⟩, IB_below HI1.out HB2.out⟩); have HBB := Aside0.mk (show Below w.heap.size w w2 from HB1.out.trans (HB2.out.mono HB1.out.size)); have HNE := Aside0.mk (show gS ≠ gr from fun e => by have h1 := blk_lt HI1.out; have h2 := GS.out; omega); have HG1 := Aside0.mk (show w.heap.size ≤ gS by have h1 := HB1.out.size; have h2 := GS.out; omega); have HG2 := Aside0.mk (show w.heap.size ≤ gr by have h2 := HGR.out; omega); have HCALL := Aside0.mk (look_call HF.out.1 HF.out.2.1 HF.out.2.2.1 HNE.out HG1.out HG2.out (p + 1) (0, []) s' (List.replicate p 0) 0 w2 HBB.out.size (by rw [List.length_replicate]; exact HF.out.2.2.2) (by rw [List.length_replicate]; have := HPL.out; omega) (by decide) HSI.out H.out); refine goesL_ (some 32) rfl rfl Try.func254 (by kernel_rfl) rfl #[.pointer (some ⟨gS, 0, none⟩)] rfl (by (try simp only [List.map_toArray, List.map_cons, List.map_nil]); first | done | rfl) ?_; refine HCALL.out.mono ?_; rintro e w3 ⟨rfl, hI3, hB3⟩; refine ⟨_, rfl, ?_⟩; have HI3 := Aside0.mk hI3; have HB3 := Aside0.mk hB3; clear hI3 hB3 HCALL))
  go_ret
  exact ⟨gS, gr, rfl, HG1.out, HG2.out, HNE.out, HI3.out, HBB.out.trans HB3.out⟩
set_option maxHeartbeats 8000000 in
set_option maxRecDepth 100000 in
theorem seAll_none (from_ to_ shift hole most : Int) (p : Nat) (s' : SeSt) (w : World) (hfr : 1 ≤ from_ ∧ from_ ≤ 20) (hto : 0 ≤ to_ ∧ to_ ≤ 40) (hs : 0 ≤ shift ∧ shift ≤ 1) (hft : from_ ≤ to_) (hh : hole < 0) (hp : (p : Int) = 2 * (to_ - from_ + 1)) (h : seF from_ to_ shift hole most (p + 1) (0, []) (List.replicate p 0) 0 = some s') :
    Calls Try.prog 221 #[.int .i64 from_, .int .i64 to_, .int .i64 shift, .int .i64 hole, .int .i64 most] w (SeRet from_ to_ shift hole most p s' w) := by
  have HPL := Aside0.mk (show p ≤ 100 by omega)
  have HP := Aside0.mk (show p ≤ 1000 by omega)
  have HF := Aside0.mk (show (1 ≤ from_ ∧ from_ ≤ 20) ∧ (0 ≤ to_ ∧ to_ ≤ 40) ∧ (0 ≤ shift ∧ shift ≤ 1) ∧ 0 < p from ⟨hfr, hto, hs, by omega⟩)
  have H := Aside0.mk h
  have HW := Aside0.mk (show wrap64 (2 * wrap64 (wrap64 (to_ - from_) + 1)) = (p : Int) by rw [wrap_in (n := to_ - from_) (by omega) (by omega), wrap_in (n := to_ - from_ + 1) (by omega) (by omega), wrap_in (by omega) (by omega)]; omega)
  have b1 : decide (0 ≤ hole) = false := decide_eq_false (by omega)
  clear h hs hft hp hh hfr hto
  go_enter Try.func221, Try.ntmps221
  go_wp2_with (first | ((with_reducible refine gate_dst (N := 23) rfl ?_); refine IB_make_event (N := 23) (x := .tmp 22) (y := .tmp 22) (n := p) ?hg ?hd ?ho ?hx ?hy HP.out ?_; (case hg => rfl); (case hd => rfl); (case ho => rfl); (case hx => exact congrArg (Value.int .i64) HW.out); (case hy => exact congrArg (Value.int .i64) HW.out); intro gr hgr w1 hI1 hB1; have HGR := Aside0.mk hgr; have HI1 := Aside0.mk hI1; have HB1 := Aside0.mk hB1; clear hgr hI1 hB1) | ((with_reducible refine gate_dst (N := 30) rfl ?_); refine box_event ?hg (N := 30) ?hd (cs := #[.slice (some ⟨gr, 0, none⟩) p p, .int .i64 from_, .int .i64 to_, .int .i64 shift, .int .i64 hole, .int .i64 0, .int .i64 most, .int .i64 0, .slice none 0 0]) (t := 96) ?hr ?_; (case hd => rfl); (case hg => rfl); (case hr => first | (go_simp; done) | (go_simp; rfl)); intro gS hg w2 hbox hb; have BK := Aside0.mk hbox; have HB2 := Aside0.mk hb; have GS := Aside0.mk hg; clear hg hbox hb) | ((with_reducible refine gate_callee (f := 254) rfl ?_); have HSI := Aside0.mk (show SeI w.heap.size gS gr from_ to_ shift hole most (List.replicate p 0) 0 (0, []) w2 from ⟨⟨_, by rw [List.length_replicate]; exact BK.out, Kd.S_nil _ _ _ _ _⟩, IB_below HI1.out HB2.out⟩); have HBB := Aside0.mk (show Below w.heap.size w w2 from HB1.out.trans (HB2.out.mono HB1.out.size)); have HNE := Aside0.mk (show gS ≠ gr from fun e => by have h1 := blk_lt HI1.out; have h2 := GS.out; omega); have HG1 := Aside0.mk (show w.heap.size ≤ gS by have h1 := HB1.out.size; have h2 := GS.out; omega); have HG2 := Aside0.mk (show w.heap.size ≤ gr by have h2 := HGR.out; omega); have HCALL := Aside0.mk (look_call HF.out.1 HF.out.2.1 HF.out.2.2.1 HNE.out HG1.out HG2.out (p + 1) (0, []) s' (List.replicate p 0) 0 w2 HBB.out.size (by rw [List.length_replicate]; exact HF.out.2.2.2) (by rw [List.length_replicate]; have := HPL.out; omega) (by decide) HSI.out H.out); refine goesL_ (some 32) rfl rfl Try.func254 (by kernel_rfl) rfl #[.pointer (some ⟨gS, 0, none⟩)] rfl (by (try simp only [List.map_toArray, List.map_cons, List.map_nil]); first | done | rfl) ?_; refine HCALL.out.mono ?_; rintro e w3 ⟨rfl, hI3, hB3⟩; refine ⟨_, rfl, ?_⟩; have HI3 := Aside0.mk hI3; have HB3 := Aside0.mk hB3; clear hI3 hB3 HCALL))
  go_ret
  exact ⟨gS, gr, rfl, HG1.out, HG2.out, HNE.out, HI3.out, HBB.out.trans HB3.out⟩
/-- The list that a search keeps. -/
def spec_seAll.f (a0 a1 a2 a3 a4 : Int) : Option (List (List Int)) := if (1 ≤ a0 ∧ a0 ≤ 20) ∧ (0 ≤ a1 ∧ a1 ≤ 40) ∧ (0 ≤ a2 ∧ a2 ≤ 1) ∧ a0 ≤ a1 then (if 0 ≤ a3 then (seF a0 a1 a2 a3 a4 (2 * (a1 - a0 + 1).toNat + 1 + 1) (0, []) (List.replicate (2 * (a1 - a0 + 1).toNat + 1) 0) 0).map (·.2) else (seF a0 a1 a2 a3 a4 (2 * (a1 - a0 + 1).toNat + 1) (0, []) (List.replicate (2 * (a1 - a0 + 1).toNat) 0) 0).map (·.2)) else none
theorem spec_seAll.calls (a0 a1 a2 a3 a4 : Int) (r1 : List (List Int)) (w : World) (h : spec_seAll.f a0 a1 a2 a3 a4 = some r1) :
    Calls Try.prog 221 #[.int .i64 a0, .int .i64 a1, .int .i64 a2, .int .i64 a3, .int .i64 a4] w fun e w' => ∃ v0_ : Value, (∃ gS, e = .returned (.pointer (some ⟨gS, 0, none⟩)) ∧ w'.cell? ⟨gS, 8, none⟩ = some v0_) ∧ Kd.S (Kd.slice 3 (Kd.int .i64)) 31 w' w.heap.size (fun _ => True) v0_ r1 ∧ Below w.heap.size w w' := by
  unfold spec_seAll.f at h
  split at h
  case isFalse => cases h
  rename_i hn
  have key : ∃ p s', r1 = s'.2 ∧ Calls Try.prog 221 #[.int .i64 a0, .int .i64 a1, .int .i64 a2, .int .i64 a3, .int .i64 a4] w (SeRet a0 a1 a2 a3 a4 p s' w) := by
    split at h
    · obtain ⟨s', hrun, rfl⟩ := Option.map_eq_some_iff.1 h
      exact ⟨_, s', rfl, seAll_hole a0 a1 a2 a3 a4 _ s' w hn.1 hn.2.1 hn.2.2.1 hn.2.2.2 (by omega) (by omega) hrun⟩
    · obtain ⟨s', hrun, rfl⟩ := Option.map_eq_some_iff.1 h
      exact ⟨_, s', rfl, seAll_none a0 a1 a2 a3 a4 _ s' w hn.1 hn.2.1 hn.2.2.1 hn.2.2.2 (by omega) (by omega) hrun⟩
  obtain ⟨p, s', rfl, hc⟩ := key
  refine hc.mono ?_
  rintro e w' ⟨gS, gr, rfl, hgS, hgr, hne, hI, hB⟩
  obtain ⟨⟨v, ho, hS⟩, hrow⟩ := hI
  have hc8 := blk_cell ho 8
  simp only [List.getElem?_toArray, List.getElem?_cons_zero, List.getElem?_cons_succ] at hc8
  exact ⟨v, ⟨gS, rfl, hc8⟩, Kd.S_mono hS (fun _ _ => trivial), hB⟩


end Go.Proofs.Ytaohgllnoomaeaa.Fn
namespace Go.Proofs.Ytaohgllnoomaeaa.Fn
open Go.RowKit Go.Proofs.YtaohgllnoomaeaaW.PrintWords Go.Proofs.YtaohgllnoomaeaaW.PrintLast Go.Proofs.YtaohgllnoomaeaaW.PrintMore
attribute [local go_sem] max2_int min2_int max_two min_two max_three min_three max_four min_four   -- for this text's walks alone
set_option linter.unusedVariables false
set_option linter.unusedSimpArgs false

/-! ### spec_seLangford: function 148 (given) -/
/-- What the search of seLangford comes to. -/
def seLangfordRun (n : Nat) (d most : Int) : Option SeSt := seF d (d + n - 1) 1 (-1) most (2 * n + 1) (0, []) (List.replicate (2 * n) 0) 0
def seLangOk (a0 a1 : Int) : Bool := decide (1 ≤ a0 ∧ a0 ≤ 9 ∧ 1 ≤ a1 ∧ a1 ≤ 20 ∧ a1 + a0 ≤ 20)
theorem seSought_val (a0 : Int) : spec_seSought.f a0 = some (decide (1 ≤ a0 ∧ a0 ≤ 9)) := by
  unfold spec_seSought.f spec_l1In.f
  by_cases h1 : a0 ≥ 1 <;> by_cases h2 : a0 ≤ 9 <;> simp [h1, h2] <;> omega
theorem seN_val (a0 : Int) : spec_seN.f a0 = some (decide (1 ≤ a0 ∧ a0 ≤ 20)) := by
  unfold spec_seN.f spec_l1In.f
  by_cases h1 : a0 ≥ 1 <;> by_cases h2 : a0 ≤ 20 <;> simp [h1, h2] <;> omega
set_option maxHeartbeats 8000000 in
set_option maxRecDepth 100000 in
theorem seLangford_no (a0 a1 most : Int) (w : World) (h : seLangOk a0 a1 = false) :
    Calls Try.prog 148 #[.int .i64 a0, .int .i64 a1, .int .i64 most] w fun e w' => e = .returned (.tuple #[.pointer none, .bool false]) ∧ Below w.heap.size w w' := by
  have h := of_decide_eq_false h
  by_cases h1 : 1 ≤ a0 ∧ a0 ≤ 9
  · have HS := Aside0.mk (show spec_seSought.f a0 = some true from by rw [seSought_val, decide_eq_true h1])
    by_cases h2 : 1 ≤ a1 ∧ a1 ≤ 20
    · have HN := Aside0.mk (show spec_seN.f a1 = some true from by rw [seN_val, decide_eq_true h2])
      have hw := wrap_in (n := a1 + a0) (by omega) (by omega)
      have b1 : decide (20 < a1 + a0) = true := decide_eq_true (by omega)
      clear h h1 h2
      go_enter Try.func148, Try.ntmps148
      go_wp2_with (first | ((with_reducible refine gate_callee (f := 162) rfl ?_); refine goesL_ (some 9) rfl rfl Try.func162 (by kernel_rfl) rfl #[.int .i64 a0] rfl (by (try simp only [List.map_toArray, List.map_cons, List.map_nil]); first | done | rfl) ?_; refine (spec_seSought.calls a0 true _ HS.out).mono ?_; rintro e w0 ⟨rfl, hd⟩; refine ⟨_, rfl, ?_⟩; have HB0 := Aside0.mk hd.below; clear hd) | (go_at_call 172; refine (spec_seN.calls a1 true _ HN.out).mono ?_; rintro e w1 ⟨rfl, hd⟩; have HB1 := Aside0.mk (HB0.out.trans (hd.below.mono HB0.out.size)); clear hd))
      go_ret2
      exact ⟨rfl, HB1.out⟩
    · have HN := Aside0.mk (show spec_seN.f a1 = some false from by rw [seN_val, decide_eq_false h2])
      clear h h1 h2
      go_enter Try.func148, Try.ntmps148
      go_wp2_with (first | ((with_reducible refine gate_callee (f := 162) rfl ?_); refine goesL_ (some 9) rfl rfl Try.func162 (by kernel_rfl) rfl #[.int .i64 a0] rfl (by (try simp only [List.map_toArray, List.map_cons, List.map_nil]); first | done | rfl) ?_; refine (spec_seSought.calls a0 true _ HS.out).mono ?_; rintro e w0 ⟨rfl, hd⟩; refine ⟨_, rfl, ?_⟩; have HB0 := Aside0.mk hd.below; clear hd) | (go_at_call 172; refine (spec_seN.calls a1 false _ HN.out).mono ?_; rintro e w1 ⟨rfl, hd⟩; have HB1 := Aside0.mk (HB0.out.trans (hd.below.mono HB0.out.size)); clear hd))
      go_ret2
      exact ⟨rfl, HB1.out⟩
  · have HS := Aside0.mk (show spec_seSought.f a0 = some false from by rw [seSought_val, decide_eq_false h1])
    clear h h1
    go_enter Try.func148, Try.ntmps148
    go_wp2_with (first | ((with_reducible refine gate_callee (f := 162) rfl ?_); refine goesL_ (some 9) rfl rfl Try.func162 (by kernel_rfl) rfl #[.int .i64 a0] rfl (by (try simp only [List.map_toArray, List.map_cons, List.map_nil]); first | done | rfl) ?_; refine (spec_seSought.calls a0 false _ HS.out).mono ?_; rintro e w0 ⟨rfl, hd⟩; refine ⟨_, rfl, ?_⟩; have HB0 := Aside0.mk hd.below; clear hd))
    go_ret2
    exact ⟨rfl, HB0.out⟩
set_option maxHeartbeats 8000000 in
set_option maxRecDepth 100000 in
theorem seLangford_yes (a0 a1 most : Int) (s' : SeSt) (w : World) (hok : seLangOk a0 a1 = true) (h : seLangfordRun a0.toNat a1 most = some s') :
    Calls Try.prog 148 #[.int .i64 a0, .int .i64 a1, .int .i64 most] w fun e w' => ∃ (gS gr : Nat), e = .returned (.tuple #[.pointer (some ⟨gS, 0, none⟩), .bool true]) ∧ ∃ w0 : World, w.heap.size ≤ w0.heap.size ∧ SeI w0.heap.size gS gr a1 (a1 + a0 - 1) 1 (-1) most (List.replicate (2 * a0.toNat) 0) 0 s' w' ∧ Below w.heap.size w w' := by
  have hb := of_decide_eq_true hok
  have HS := Aside0.mk (show spec_seSought.f a0 = some true from by rw [seSought_val, decide_eq_true ⟨hb.1, hb.2.1⟩])
  have HN := Aside0.mk (show spec_seN.f a1 = some true from by rw [seN_val, decide_eq_true ⟨hb.2.2.1, hb.2.2.2.1⟩])
  have hw := wrap_in (n := a1 + a0) (by omega) (by omega)
  have hw2 := wrap_in (n := a1 + a0 - 1) (by omega) (by omega)
  have b1 : decide (20 < a1 + a0) = false := decide_eq_false (by omega)
  have hrun : seF a1 (a1 + a0 - 1) 1 (-1) most (2 * a0.toNat + 1) (0, []) (List.replicate (2 * a0.toNat) 0) 0 = some s' := by
    have e : a1 + ((a0.toNat : Nat) : Int) - 1 = a1 + a0 - 1 := by omega
    rw [← e]
    exact h
  have HALL := Aside0.mk (fun w1 : World => seAll_none a1 (a1 + a0 - 1) 1 (-1) most (2 * a0.toNat) s' w1 (by omega) (by omega) (by omega) (by omega) (by omega) (by omega) hrun)
  clear h hok hb hrun
  go_enter Try.func148, Try.ntmps148
  go_wp2_with (first | ((with_reducible refine gate_callee (f := 162) rfl ?_); refine goesL_ (some 9) rfl rfl Try.func162 (by kernel_rfl) rfl #[.int .i64 a0] rfl (by (try simp only [List.map_toArray, List.map_cons, List.map_nil]); first | done | rfl) ?_; refine (spec_seSought.calls a0 true _ HS.out).mono ?_; rintro e w0 ⟨rfl, hd⟩; refine ⟨_, rfl, ?_⟩; have HB0 := Aside0.mk hd.below; clear hd) | (go_at_call 172; refine (spec_seN.calls a1 true _ HN.out).mono ?_; rintro e w1 ⟨rfl, hd⟩; have HB1 := Aside0.mk (HB0.out.trans (hd.below.mono HB0.out.size)); clear hd) | ((with_reducible refine gate_callee (f := 221) rfl ?_); refine goesL_ (some 28) rfl rfl Try.func221 (by kernel_rfl) rfl #[.int .i64 a1, .int .i64 (wrap64 (a1 + a0 - 1)), .int .i64 1, .int .i64 (-1), .int .i64 most] rfl (by (try simp only [List.map_toArray, List.map_cons, List.map_nil]); first | done | rfl) ?_; rw [hw2]; refine (HALL.out w1).mono ?_; rintro e w2 ⟨gS, gr, rfl, hgS, hgr, hne, hI2, hB2⟩; refine ⟨_, rfl, ?_⟩; have HGS := Aside0.mk hgS; have HGR := Aside0.mk hgr; have HNE := Aside0.mk hne; have HI2 := Aside0.mk hI2; have HB2 := Aside0.mk hB2; clear hgS hgr hne hI2 hB2))
  go_ret2
  exact ⟨gS, gr, rfl, w1, HB1.out.size, HI2.out, HB1.out.trans (HB2.out.mono HB1.out.size)⟩


end Go.Proofs.Ytaohgllnoomaeaa.Fn
namespace Go.Proofs.Ytaohgllnoomaeaa.Fn
open Go.RowKit Go.Proofs.YtaohgllnoomaeaaW.PrintWords Go.Proofs.YtaohgllnoomaeaaW.PrintLast Go.Proofs.YtaohgllnoomaeaaW.PrintMore
attribute [local go_sem] max2_int min2_int max_two min_two max_three min_three max_four min_four   -- for this text's walks alone
set_option linter.unusedVariables false
set_option linter.unusedSimpArgs false

/-! ### spec_CountLangford: function 13 (given) -/
def spec_CountLangford.f (a0 : Int) (a1 : Int) : Option (Int × Bool) := if seLangOk a0 a1 = true then (seLangfordRun a0.toNat a1 0).bind fun s => some ((s.1 : Int), true) else some (0, false)
set_option maxHeartbeats 8000000 in
set_option maxRecDepth 100000 in
theorem spec_CountLangford.calls (a0 : Int) (a1 : Int) (r1 : Int) (r2 : Bool) (w : World) (h : spec_CountLangford.f a0 a1 = some (r1, r2)) :
    Calls Try.prog 13 #[.int .i64 a0, .int .i64 a1] w fun e w' => e = .returned (.tuple #[.int .i64 r1, .bool r2]) ∧ Below w.heap.size w w' := by
  by_cases hs : seLangOk a0 a1 = true
  · rw [spec_CountLangford.f, if_pos hs] at h
    obtain ⟨s', hrun, h⟩ := Option.bind_eq_some_iff.1 h
    obtain ⟨rfl, rfl⟩ := Prod.mk.inj (Option.some.inj h)
    have HALL := Aside0.mk (fun w1 : World => seLangford_yes a0 a1 0 s' w1 hs hrun)
    clear h hrun hs
    go_enter Try.func13, Try.ntmps13
    go_wp2_with (first | ((with_reducible refine gate_callee (f := 148) rfl ?_); refine goesL_ (some 11) rfl rfl Try.func148 (by kernel_rfl) rfl #[.int .i64 a0, .int .i64 a1, .int .i64 0] rfl (by (try simp only [List.map_toArray, List.map_cons, List.map_nil]); first | done | rfl) ?_; refine (HALL.out w).mono ?_; rintro e w2 ⟨gS, gr, rfl, wb, hle, hI2, hB2⟩; refine ⟨_, rfl, ?_⟩; have HLE := Aside0.mk hle; have HI2 := Aside0.mk hI2; have HB2 := Aside0.mk hB2; clear hle hI2 hB2; obtain ⟨v8, ho8, hs8⟩ := HI2.out.out; have hc7 := blk_cell ho8 7; simp only [List.getElem?_toArray, List.getElem?_cons_zero, List.getElem?_cons_succ] at hc7; clear ho8 hs8))
    go_ret2
    exact ⟨rfl, HB2.out⟩
  · rw [spec_CountLangford.f, if_neg hs] at h
    obtain ⟨rfl, rfl⟩ := Prod.mk.inj (Option.some.inj h)
    have HS := Aside0.mk (Bool.eq_false_iff.2 hs)
    clear h hs
    go_enter Try.func13, Try.ntmps13
    go_wp2_with (first | ((with_reducible refine gate_callee (f := 148) rfl ?_); refine goesL_ (some 11) rfl rfl Try.func148 (by kernel_rfl) rfl #[.int .i64 a0, .int .i64 a1, .int .i64 0] rfl (by (try simp only [List.map_toArray, List.map_cons, List.map_nil]); first | done | rfl) ?_; refine (seLangford_no a0 a1 0 w HS.out).mono ?_; rintro e w0 ⟨rfl, hb⟩; refine ⟨_, rfl, ?_⟩; have HB0 := Aside0.mk hb; clear hb))
    go_ret2
    exact ⟨rfl, HB0.out⟩


end Go.Proofs.Ytaohgllnoomaeaa.Fn
namespace Go.Proofs.Ytaohgllnoomaeaa.Fn
open Go.RowKit Go.Proofs.YtaohgllnoomaeaaW.PrintWords Go.Proofs.YtaohgllnoomaeaaW.PrintLast Go.Proofs.YtaohgllnoomaeaaW.PrintMore
attribute [local go_sem] max2_int min2_int max_two min_two max_three min_three max_four min_four   -- for this text's walks alone
set_option linter.unusedVariables false
set_option linter.unusedSimpArgs false

/-! ### spec_seListed: function 150 (given) -/
def seListedOf (s : SeSt) : List (List Int) × Bool := if (600 : Int) < (s.1 : Int) then ([], false) else (s.2, true)
set_option maxHeartbeats 8000000 in
set_option maxRecDepth 100000 in
theorem seListed_call {base gS gr : Nat} {from_ to_ shift hole most : Int} (row : List Int) (used : Nat) (s : SeSt) (w : World) (hI : SeI base gS gr from_ to_ shift hole most row used s w) :
    Calls Try.prog 150 #[.pointer (some ⟨gS, 0, none⟩)] w fun e w' => ∃ v0_ : Value, e = .returned (.tuple #[v0_, .bool (seListedOf s).2]) ∧ Kd.S (Kd.slice 3 (Kd.int .i64)) 31 w' base (fun _ => True) v0_ (seListedOf s).1 ∧ w' = w := by
  obtain ⟨⟨v, ho, hS⟩, hrow⟩ := hI
  obtain ⟨A8, c8, e8⟩ := Kd.S_slice hS
  subst e8
  have hc7 := blk_cell ho 7
  have hc8 := blk_cell ho 8
  simp only [List.getElem?_toArray, List.getElem?_cons_zero, List.getElem?_cons_succ] at hc7 hc8
  have HS := Aside0.mk hS
  unfold seListedOf
  by_cases h0 : (600 : Int) < (s.1 : Int)
  · have b0 : decide ((600 : Int) < (s.1 : Int)) = true := decide_eq_true h0
    rw [if_pos h0]
    clear ho hS hrow h0
    go_enter Try.func150, Try.ntmps150
    go_wp2
    go_ret2
    exact ⟨_, rfl, Kd.S_nil _ _ _ _ _, rfl⟩
  · have b0 : decide ((600 : Int) < (s.1 : Int)) = false := decide_eq_false h0
    rw [if_neg h0]
    clear ho hS hrow h0
    go_enter Try.func150, Try.ntmps150
    go_wp2
    go_ret2
    exact ⟨_, rfl, Kd.S_mono HS.out (fun _ _ => trivial), rfl⟩


end Go.Proofs.Ytaohgllnoomaeaa.Fn
namespace Go.Proofs.Ytaohgllnoomaeaa.Fn
open Go.RowKit Go.Proofs.YtaohgllnoomaeaaW.PrintWords Go.Proofs.YtaohgllnoomaeaaW.PrintLast Go.Proofs.YtaohgllnoomaeaaW.PrintMore
attribute [local go_sem] max2_int min2_int max_two min_two max_three min_three max_four min_four   -- for this text's walks alone
set_option linter.unusedVariables false
set_option linter.unusedSimpArgs false

/-! ### spec_AllLangford: function 15 (given) -/
def spec_AllLangford.f (a0 : Int) (a1 : Int) : Option (List (List Int) × Bool) := if seLangOk a0 a1 = true then (seLangfordRun a0.toNat a1 600).bind fun s => some (seListedOf s) else some ([], false)
set_option maxHeartbeats 8000000 in
set_option maxRecDepth 100000 in
theorem spec_AllLangford.calls (a0 : Int) (a1 : Int) (r1 : List (List Int)) (r2 : Bool) (w : World) (h : spec_AllLangford.f a0 a1 = some (r1, r2)) :
    Calls Try.prog 15 #[.int .i64 a0, .int .i64 a1] w fun e w' => ∃ v0_ : Value, e = .returned (.tuple #[v0_, .bool r2]) ∧ Kd.S (Kd.slice 3 (Kd.int .i64)) 31 w' w.heap.size (fun _ => True) v0_ r1 ∧ Below w.heap.size w w' := by
  by_cases hs : seLangOk a0 a1 = true
  · rw [spec_AllLangford.f, if_pos hs] at h
    obtain ⟨s', hrun, h⟩ := Option.bind_eq_some_iff.1 h
    have hl := Option.some.inj h
    obtain ⟨rfl, rfl⟩ : (seListedOf s').1 = r1 ∧ (seListedOf s').2 = r2 := by rw [hl]; exact ⟨rfl, rfl⟩
    clear hl
    have HALL := Aside0.mk (fun w1 : World => seLangford_yes a0 a1 600 s' w1 hs hrun)
    clear h hrun hs
    go_enter Try.func15, Try.ntmps15
    go_wp2_with (first | ((with_reducible refine gate_callee (f := 148) rfl ?_); refine goesL_ (some 11) rfl rfl Try.func148 (by kernel_rfl) rfl #[.int .i64 a0, .int .i64 a1, .int .i64 600] rfl (by (try simp only [List.map_toArray, List.map_cons, List.map_nil]); first | done | rfl) ?_; refine (HALL.out w).mono ?_; rintro e w2 ⟨gS, gr, rfl, wb, hle, hI2, hB2⟩; refine ⟨_, rfl, ?_⟩; have HLE := Aside0.mk hle; have HI2 := Aside0.mk hI2; have HB2 := Aside0.mk hB2; clear hle hI2 hB2) | ((with_reducible refine gate_callee (f := 150) rfl ?_); refine goesL_ (some 17) rfl rfl Try.func150 (by kernel_rfl) rfl #[.pointer (some ⟨gS, 0, none⟩)] rfl (by (try simp only [List.map_toArray, List.map_cons, List.map_nil]); first | done | rfl) ?_; refine (seListed_call _ 0 s' w2 HI2.out).mono ?_; rintro e w3 ⟨v3, rfl, hR3, hw3⟩; refine ⟨_, rfl, ?_⟩; subst hw3; have HR3 := Aside0.mk hR3; clear hR3))
    go_ret2
    exact ⟨_, rfl, Kd.S_lower HR3.out HLE.out, HB2.out⟩
  · rw [spec_AllLangford.f, if_neg hs] at h
    obtain ⟨rfl, rfl⟩ := Prod.mk.inj (Option.some.inj h)
    have HS := Aside0.mk (Bool.eq_false_iff.2 hs)
    clear h hs
    go_enter Try.func15, Try.ntmps15
    go_wp2_with (first | ((with_reducible refine gate_callee (f := 148) rfl ?_); refine goesL_ (some 11) rfl rfl Try.func148 (by kernel_rfl) rfl #[.int .i64 a0, .int .i64 a1, .int .i64 600] rfl (by (try simp only [List.map_toArray, List.map_cons, List.map_nil]); first | done | rfl) ?_; refine (seLangford_no a0 a1 600 w HS.out).mono ?_; rintro e w0 ⟨rfl, hb⟩; refine ⟨_, rfl, ?_⟩; have HB0 := Aside0.mk hb; clear hb))
    go_ret2
    exact ⟨_, rfl, Kd.S_nil _ _ _ _ _, HB0.out⟩


end Go.Proofs.Ytaohgllnoomaeaa.Fn
namespace Go.Proofs.Ytaohgllnoomaeaa.Fn
open Go.RowKit Go.Proofs.YtaohgllnoomaeaaW.PrintWords Go.Proofs.YtaohgllnoomaeaaW.PrintLast Go.Proofs.YtaohgllnoomaeaaW.PrintMore
attribute [local go_sem] max2_int min2_int max_two min_two max_three min_three max_four min_four   -- for this text's walks alone
set_option linter.unusedVariables false
set_option linter.unusedSimpArgs false

/-! ### spec_seFirst: function 152 (given) -/
/-- The first of rows that lie apart. -/
theorem S_row_first {w : World} {base : Nat} {ok : Nat → Prop} {v : Value} {row : List Int} {xs : List (List Int)} (h : Kd.S (Kd.slice 3 (Kd.int .i64)) 31 w base ok v (row :: xs)) : ∃ (P : Nat → Prop) (u : Value) (ad : Addr) (n c : Nat), Kd.R (Kd.int .i64) 3 w base P u row ∧ v = .slice (some ad) n c ∧ w.cell? ad = some u := by
  obtain ⟨f, h0, inner, ho, hr⟩ := h
  have hS : Kd.S (Kd.slice 3 (Kd.int .i64)) 31 w base ok v (row :: xs) := ⟨f, h0, inner, ho, hr⟩
  obtain ⟨u, hu, hR⟩ := hr.2 0 (row, 0) (Kd.zip_at rfl)
  rcases ho.2 with ⟨h1, _⟩ | ⟨g, cap, cur, hv, hg, hb, hnc, hcap, hsz, htk⟩
  · exfalso
    obtain ⟨g0, cap0, hv0, _⟩ := Kd.S_form hS (by simp)
    rw [h1] at hv0
    injection hv0 with e1 _ _
    cases e1
  · subst hv
    refine ⟨_, u, ⟨g, 0, none⟩, _, _, hR, rfl, ?_⟩
    rw [cell_of_row w g 0 cur _ _ hb]
    have h1 : cur.toList.take ((row :: xs).zipIdx.length * 1) = inner := htk
    have h2 : (inner.drop (0 * 1)).take 1 = [u] := hu
    rw [List.length_zipIdx, Nat.mul_one] at h1
    have h3 : inner[0]? = some u := by
      have h4 := congrArg (·[0]?) h2
      simpa [List.getElem?_take, List.getElem?_drop] using h4
    rw [← h1, List.getElem?_take, if_pos (by simp)] at h3
    simpa using h3
def seFirstOf (s : SeSt) : Option (List Int × Bool) := if s.1 = 0 then some ([], false) else match s.2 with
  | [] => none
  | x :: _ => if s.2.length < 1000000000000 then some (x, true) else none
set_option maxHeartbeats 8000000 in
set_option maxRecDepth 100000 in
theorem seFirst_call {base gS gr : Nat} {from_ to_ shift hole most : Int} (row : List Int) (used : Nat) (s : SeSt) (w : World) (hI : SeI base gS gr from_ to_ shift hole most row used s w) (r1 : List Int) (r2 : Bool) (h : seFirstOf s = some (r1, r2)) :
    Calls Try.prog 152 #[.pointer (some ⟨gS, 0, none⟩)] w fun e w' => ∃ v0_ : Value, e = .returned (.tuple #[v0_, .bool r2]) ∧ Kd.R (Kd.int .i64) 3 w' base (fun _ => True) v0_ r1 ∧ w' = w := by
  obtain ⟨⟨v, ho, hS⟩, hrow⟩ := hI
  have hc7 := blk_cell ho 7
  have hc8 := blk_cell ho 8
  simp only [List.getElem?_toArray, List.getElem?_cons_zero, List.getElem?_cons_succ] at hc7 hc8
  obtain ⟨c, xs⟩ := s
  unfold seFirstOf at h
  by_cases h0 : c = 0
  · subst h0
    rw [if_pos rfl] at h
    obtain ⟨rfl, rfl⟩ := Prod.mk.inj (Option.some.inj h)
    clear h ho hS hrow hc8
    go_enter Try.func152, Try.ntmps152
    go_wp2
    go_ret2
    exact ⟨_, rfl, Kd.R_nil _ _ _ _ _, rfl⟩
  · have b0 : ((c : Int) == 0) = false := beq_eq_false_iff_ne.mpr (by omega)
    rw [if_neg h0] at h
    cases xs with
    | nil => cases h
    | cons x xs =>
      simp only at h
      split at h
      case isFalse => cases h
      rename_i hlen
      obtain ⟨rfl, rfl⟩ := Prod.mk.inj (Option.some.inj h)
      obtain ⟨P, u, ad, n, c, hR, hv, hcu⟩ := S_row_first hS
      obtain ⟨A8, c8, e8⟩ := Kd.S_slice hS
      rw [hv] at e8
      injection e8 with e1 e2 e3
      subst hv
      subst e2
      have HR := Aside0.mk hR
      have q0 : ((0 : Int) < ((x :: xs).length : Int)) = True := eq_true (by simp)
      clear h ho hS hrow hR e1 e3 hlen h0
      obtain ⟨Au, cu, eu⟩ := Kd.R_slice HR.out
      subst eu
      have hlc : (x :: xs).length = xs.length + 1 := rfl
      go_enter Try.func152, Try.ntmps152
      go_wp2
      go_ret2
      exact ⟨_, rfl, Kd.R_mono HR.out (fun _ _ => trivial), rfl⟩


end Go.Proofs.Ytaohgllnoomaeaa.Fn
namespace Go.Proofs.Ytaohgllnoomaeaa.Fn
open Go.RowKit Go.Proofs.YtaohgllnoomaeaaW.PrintWords Go.Proofs.YtaohgllnoomaeaaW.PrintLast Go.Proofs.YtaohgllnoomaeaaW.PrintMore
attribute [local go_sem] max2_int min2_int max_two min_two max_three min_three max_four min_four   -- for this text's walks alone
set_option linter.unusedVariables false
set_option linter.unusedSimpArgs false

/-! ### spec_FirstLangford: function 17 (given) -/
def spec_FirstLangford.f (a0 : Int) (a1 : Int) : Option (List Int × Bool) := if seLangOk a0 a1 = true then (seLangfordRun a0.toNat a1 1).bind seFirstOf else some ([], false)
set_option maxHeartbeats 8000000 in
set_option maxRecDepth 100000 in
theorem spec_FirstLangford.calls (a0 : Int) (a1 : Int) (r1 : List Int) (r2 : Bool) (w : World) (h : spec_FirstLangford.f a0 a1 = some (r1, r2)) :
    Calls Try.prog 17 #[.int .i64 a0, .int .i64 a1] w fun e w' => ∃ v0_ : Value, e = .returned (.tuple #[v0_, .bool r2]) ∧ Kd.R (Kd.int .i64) 3 w' w.heap.size (fun _ => True) v0_ r1 ∧ Below w.heap.size w w' := by
  by_cases hs : seLangOk a0 a1 = true
  · rw [spec_FirstLangford.f, if_pos hs] at h
    obtain ⟨s', hrun, h⟩ := Option.bind_eq_some_iff.1 h
    have H := Aside0.mk h
    have HALL := Aside0.mk (fun w1 : World => seLangford_yes a0 a1 1 s' w1 hs hrun)
    clear h hrun hs
    go_enter Try.func17, Try.ntmps17
    go_wp2_with (first | ((with_reducible refine gate_callee (f := 148) rfl ?_); refine goesL_ (some 11) rfl rfl Try.func148 (by kernel_rfl) rfl #[.int .i64 a0, .int .i64 a1, .int .i64 1] rfl (by (try simp only [List.map_toArray, List.map_cons, List.map_nil]); first | done | rfl) ?_; refine (HALL.out w).mono ?_; rintro e w2 ⟨gS, gr, rfl, wb, hle, hI2, hB2⟩; refine ⟨_, rfl, ?_⟩; have HLE := Aside0.mk hle; have HI2 := Aside0.mk hI2; have HB2 := Aside0.mk hB2; clear hle hI2 hB2) | ((with_reducible refine gate_callee (f := 152) rfl ?_); refine goesL_ (some 17) rfl rfl Try.func152 (by kernel_rfl) rfl #[.pointer (some ⟨gS, 0, none⟩)] rfl (by (try simp only [List.map_toArray, List.map_cons, List.map_nil]); first | done | rfl) ?_; refine (seFirst_call _ 0 s' w2 HI2.out r1 r2 H.out).mono ?_; rintro e w3 ⟨v3, rfl, hR3, hw3⟩; refine ⟨_, rfl, ?_⟩; subst hw3; have HR3 := Aside0.mk hR3; clear hR3))
    go_ret2
    exact ⟨_, rfl, Kd.R_lower HR3.out HLE.out, HB2.out⟩
  · rw [spec_FirstLangford.f, if_neg hs] at h
    obtain ⟨rfl, rfl⟩ := Prod.mk.inj (Option.some.inj h)
    have HS := Aside0.mk (Bool.eq_false_iff.2 hs)
    clear h hs
    go_enter Try.func17, Try.ntmps17
    go_wp2_with (first | ((with_reducible refine gate_callee (f := 148) rfl ?_); refine goesL_ (some 11) rfl rfl Try.func148 (by kernel_rfl) rfl #[.int .i64 a0, .int .i64 a1, .int .i64 1] rfl (by (try simp only [List.map_toArray, List.map_cons, List.map_nil]); first | done | rfl) ?_; refine (seLangford_no a0 a1 1 w HS.out).mono ?_; rintro e w0 ⟨rfl, hb⟩; refine ⟨_, rfl, ?_⟩; have HB0 := Aside0.mk hb; clear hb))
    go_ret2
    exact ⟨_, rfl, Kd.R_nil _ _ _ _ _, HB0.out⟩


end Go.Proofs.Ytaohgllnoomaeaa.Fn
namespace Go.Proofs.Ytaohgllnoomaeaa.Fn
open Go.RowKit Go.Proofs.YtaohgllnoomaeaaW.PrintWords Go.Proofs.YtaohgllnoomaeaaW.PrintLast Go.Proofs.YtaohgllnoomaeaaW.PrintMore
attribute [local go_sem] max2_int min2_int max_two min_two max_three min_three max_four min_four   -- for this text's walks alone
set_option linter.unusedVariables false
set_option linter.unusedSimpArgs false

/-! ### laws_jSame: function 20 -/
def laws_jSame.l0 : Nat → List Int → List Int → Int → Int → Option (Bool)
 | 0, _, _, _, _ => none
 | k + 1, x0, x1, x12, x13 => if x13 < x12 then (if 0 ≤ x13 then (if x13 < (x0.length : Int) then (if x13 < (x1.length : Int) then (if (rd x0 x13) = (rd x1 x13) then (laws_jSame.l0 k x0 x1 x12 (wrap64 (x13 + 1))) else (some false)) else (none)) else (none)) else (none)) else (some true)
def laws_jSame.f (k : Nat) (l0 : List Int) (l1 : List Int) : Option (Bool) := if (l0.length : Int) = (l1.length : Int) then (laws_jSame.l0 k l0 l1 (l0.length : Int) 0) else (some false)
theorem laws_jSame.mono_l : ∀ k, (∀ y0 y1 y2 y3, LeO (laws_jSame.l0 k y0 y1 y2 y3) (laws_jSame.l0 (k + 1) y0 y1 y2 y3))
 | 0 => fun _ _ _ _ r h => by simp [laws_jSame.l0] at h
 | k + 1 => by
  have ih0 := laws_jSame.mono_l k
  ·intro y0 y1 y2 y3
   unfold laws_jSame.l0
   repeat' (first | (with_reducible first | exact ih0 _ _ _ _ | exact LeO.refl _ | exact LeO.none _ | refine LeO.ite ?_ ?_ | refine LeO.bind ?_ (fun _ => ?_)) | exact ih0 _ _ _ _ | exact LeO.none _ | refine LeO.ite ?_ ?_ | refine LeO.bind ?_ (fun _ => ?_))
theorem laws_jSame.mono : ∀ a0 a1 k, LeO (laws_jSame.f k a0 a1) (laws_jSame.f (k + 1) a0 a1) := by
 intro a0 a1 k
 have ih0 := laws_jSame.mono_l k
 unfold laws_jSame.f
 repeat' (first | (with_reducible first | exact ih0 _ _ _ _ | exact LeO.refl _ | exact LeO.none _ | refine LeO.ite ?_ ?_ | refine LeO.bind ?_ (fun _ => ?_)) | exact ih0 _ _ _ _ | exact LeO.none _ | refine LeO.ite ?_ ?_ | refine LeO.bind ?_ (fun _ => ?_))
set_option maxHeartbeats 8000000 in
set_option maxRecDepth 100000 in
theorem laws_jSame.calls (k : Nat) (A0 : Option Addr) (c0 : Nat) (l0 : List Int) (A1 : Option Addr) (c1 : Nat) (l1 : List Int) (r : Bool) (w : World) (hr0 : Kd.C (Kd.int .i64) w A0 l0.length l0) (hc0 : l0.length ≤ c0) (hr1 : Kd.C (Kd.int .i64) w A1 l1.length l1) (hc1 : l1.length ≤ c1) (h : laws_jSame.f k l0 l1 = some r) :
  Calls Try.prog 20 #[.slice A0 l0.length c0, .slice A1 l1.length c1] w fun e w' => e = .returned (.bool r) ∧ Drawn0 w w' := by
 have HR0 := Aside0.mk hr0
 have HC0 := Aside0.mk hc0
 clear hr0 hc0
 have HR1 := Aside0.mk hr1
 have HC1 := Aside0.mk hc1
 clear hr1 hc1
 have H : (if (l0.length : Int) = (l1.length : Int) then (laws_jSame.l0 k l0 l1 (l0.length : Int) 0) else (some false)) = some r := h
 clear h
 by_cases c3 : (l0.length : Int) = (l1.length : Int)
 ·rw [if_pos c3] at H
  have c3b0 : ((l0.length : Int) == (l1.length : Int)) = true := beq_iff_eq.mpr c3
  have c3b1 : ((l0.length : Int) != (l1.length : Int)) = false := bne_eq_false_iff_eq.mpr c3
  have c3b2 : (l0.length == l1.length) = true := by first | simpa using c3 | (simp at c3 ⊢; omega)
  clear c3
  have H' := Aside0.mk H
  clear H
  go_enter Try.func20, Try.ntmps20
  go_wp2
  repeat (go_quiet (fail); try go_wp2)
  go_loopg [13] k (fun kq v13 w' => ∃ (x13_1 : Int), v13 = .int .i64 x13_1 ∧ Aside0 (laws_jSame.l0 kq l0 l1 (l0.length : Int) x13_1 = some r) ∧ Aside0 (kq ≤ k) ∧ Drawn0 w w')
  case atStart => exact ⟨(0), (by first | rfl | (simp; done) | (simp [*]; done)), H', ⟨Nat.le_refl _⟩, by repeat (first | exact Drawn0.refl _ | apply Drawn0.step)⟩
  case round =>
   clear H'
   try clear c1
   try clear c2
   try clear p2
   try clear c3
   try clear c3b0
   try clear c3b1
   try clear c3b2
   obtain ⟨x13_1, rfl, HA, HK1, ⟨m1, rfl⟩⟩ := hrel
   cases gk with
   | zero => exact absurd HA.out (by simp [laws_jSame.l0])
   | succ k1 =>
    have H := HA.out
    clear HA
    simp only [laws_jSame.l0] at H
    by_cases c4 : x13_1 < (l0.length : Int)
    ·rw [if_pos c4] at H
     have c4b0 : decide (x13_1 < (l0.length : Int)) = true := decide_eq_true c4
     clear c4
     by_cases c5 : 0 ≤ x13_1
     ·rw [if_pos c5] at H
      have c5b0 : decide (0 ≤ x13_1) = true := decide_eq_true c5
      clear c5
      by_cases c6 : x13_1 < (l0.length : Int)
      ·rw [if_pos c6] at H
       have c6b0 : decide (x13_1 < (l0.length : Int)) = true := decide_eq_true c6
       clear c6
       by_cases c7 : x13_1 < (l1.length : Int)
       ·rw [if_pos c7] at H
        have c7b0 : decide (x13_1 < (l1.length : Int)) = true := decide_eq_true c7
        clear c7
        by_cases c8 : (rd l0 x13_1) = (rd l1 x13_1)
        ·rw [if_pos c8] at H
         have c8b0 : ((rd l0 x13_1) == (rd l1 x13_1)) = true := beq_iff_eq.mpr c8
         have c8b1 : ((rd l0 x13_1) != (rd l1 x13_1)) = false := bne_eq_false_iff_eq.mpr c8
         clear c8
         have H' := Aside0.mk H
         clear H
         have p140 : 0 ≤ (x13_1 : Int) := ofd
         have q140 : x13_1 < (l0.length : Int) := ofd
         obtain ⟨ad140, e140, hx140_0⟩ := Kd.at_int HR0.out x13_1 p140 q140
         cases e140
         replace p140 := eq_true p140
         replace q140 := eq_true q140
         have p141 : 0 ≤ (x13_1 : Int) := ofd
         have q141 : x13_1 < (l1.length : Int) := ofd
         obtain ⟨ad141, e141, hx141_0⟩ := Kd.at_int HR1.out x13_1 p141 q141
         cases e141
         replace p141 := eq_true p141
         replace q141 := eq_true q141
         go_wp2
         repeat (go_quiet (fail); try go_wp2)
         go_roundg k1
         case measure => have := HK1.out; omega
         case rel => exact ⟨(wrap64 (x13_1 + 1)), (by first | rfl | (simp; done) | (simp [*]; done)), H', ⟨by have := HK1.out; omega⟩, by repeat (first | exact Drawn0.refl _ | apply Drawn0.step)⟩
        ·rw [if_neg c8] at H
         have c8b0 : ((rd l0 x13_1) == (rd l1 x13_1)) = false := beq_eq_false_iff_ne.mpr c8
         have c8b1 : ((rd l0 x13_1) != (rd l1 x13_1)) = true := bne_iff_ne.mpr c8
         obtain rfl := Option.some.inj H
         have p140 : 0 ≤ (x13_1 : Int) := ofd
         have q140 : x13_1 < (l0.length : Int) := ofd
         obtain ⟨ad140, e140, hx140_0⟩ := Kd.at_int HR0.out x13_1 p140 q140
         cases e140
         replace p140 := eq_true p140
         replace q140 := eq_true q140
         have p141 : 0 ≤ (x13_1 : Int) := ofd
         have q141 : x13_1 < (l1.length : Int) := ofd
         obtain ⟨ad141, e141, hx141_0⟩ := Kd.at_int HR1.out x13_1 p141 q141
         cases e141
         replace p141 := eq_true p141
         replace q141 := eq_true q141
         go_wp2
         repeat (go_quiet (fail); try go_wp2)
         go_ret
         exact ⟨by first | rfl | (simp; done) | (simp [*]; done), by repeat (first | exact Drawn0.refl _ | apply Drawn0.step)⟩
       ·rw [if_neg c7] at H
        exact absurd H (by simp)
      ·rw [if_neg c6] at H
       exact absurd H (by simp)
     ·rw [if_neg c5] at H
      exact absurd H (by simp)
    ·rw [if_neg c4] at H
     have c4b0 : decide (x13_1 < (l0.length : Int)) = false := decide_eq_false c4
     clear c4
     obtain rfl := Option.some.inj H
     go_wp2
     repeat (go_quiet (fail); try go_wp2)
     go_ret
     exact ⟨by first | rfl | (simp; done) | (simp [*]; done), by repeat (first | exact Drawn0.refl _ | apply Drawn0.step)⟩
 ·rw [if_neg c3] at H
  have c3b0 : ((l0.length : Int) == (l1.length : Int)) = false := beq_eq_false_iff_ne.mpr c3
  have c3b1 : ((l0.length : Int) != (l1.length : Int)) = true := bne_iff_ne.mpr c3
  have c3b2 : (l0.length == l1.length) = false := by first | simpa using c3 | (simp at c3 ⊢; omega)
  obtain rfl := Option.some.inj H
  go_enter Try.func20, Try.ntmps20
  go_wp2
  repeat (go_quiet (fail); try go_wp2)
  go_ret
  exact ⟨by first | rfl | (simp; done) | (simp [*]; done), by repeat (first | exact Drawn0.refl _ | apply Drawn0.step)⟩

noncomputable def laws_jSame.L0 (x0 : List Int) (x1 : List Int) (x12 : Int) (x13 : Int) : Option (Bool) := lim fun k => laws_jSame.l0 k x0 x1 x12 x13
theorem laws_jSame.L0_lim (x0 : List Int) (x1 : List Int) (x12 : Int) (x13 : Int) : Lim (fun k => laws_jSame.l0 k x0 x1 x12 x13) (laws_jSame.L0 x0 x1 x12 x13) := Lim.of fun k => (laws_jSame.mono_l k) x0 x1 x12 x13
noncomputable def laws_jSame.F (l0 : List Int) (l1 : List Int) : Option (Bool) := lim fun k => laws_jSame.f k l0 l1
theorem laws_jSame.F_lim (l0 : List Int) (l1 : List Int) : Lim (fun k => laws_jSame.f k l0 l1) (laws_jSame.F l0 l1) := Lim.of fun k => laws_jSame.mono l0 l1 k
theorem laws_jSame.L0_eq (x0 : List Int) (x1 : List Int) (x12 : Int) (x13 : Int) : laws_jSame.L0 x0 x1 x12 x13 = (if x13 < x12 then (if 0 ≤ x13 then (if x13 < (x0.length : Int) then (if x13 < (x1.length : Int) then (if (rd x0 x13) = (rd x1 x13) then (laws_jSame.L0 x0 x1 x12 (wrap64 (x13 + 1))) else (some false)) else (none)) else (none)) else (none)) else (some true)) :=
 Lim.step (f := fun k => laws_jSame.l0 (k + 1) x0 x1 x12 x13) (laws_jSame.L0_lim x0 x1 x12 x13) (fun _ => rfl) (by
  simp only [laws_jSame.l0]
  repeat' (first | (with_reducible first | exact Lim.const _ | exact laws_jSame.L0_lim _ _ _ _ | refine Lim.ite ?_ ?_ | refine Lim.bind ?_ (fun _ => ?_))))
theorem laws_jSame.F_eq (l0 : List Int) (l1 : List Int) : laws_jSame.F l0 l1 = (if (l0.length : Int) = (l1.length : Int) then (laws_jSame.L0 l0 l1 (l0.length : Int) 0) else (some false)) :=
 Lim.unique (laws_jSame.F_lim l0 l1) (by
  unfold laws_jSame.f
  repeat' (first | (with_reducible first | exact Lim.const _ | exact laws_jSame.L0_lim _ _ _ _ | refine Lim.ite ?_ ?_ | refine Lim.bind ?_ (fun _ => ?_))))

end Go.Proofs.Ytaohgllnoomaeaa.Fn
namespace Go.Proofs.Ytaohgllnoomaeaa.Fn
open Go.RowKit Go.Proofs.YtaohgllnoomaeaaW.PrintWords Go.Proofs.YtaohgllnoomaeaaW.PrintLast Go.Proofs.YtaohgllnoomaeaaW.PrintMore
attribute [local go_sem] max2_int min2_int max_two min_two max_three min_three max_four min_four   -- for this text's walks alone
set_option linter.unusedVariables false
set_option linter.unusedSimpArgs false

/-! ### laws_jRows: function 19 -/
def laws_jRows.l0 : Nat → List (List Int) → List (List Int) → Int → Int → Option (Bool)
 | 0, _, _, _, _ => none
 | k + 1, x0, x1, x12, x13 => if x13 < x12 then (if 0 ≤ x13 then (if x13 < (x0.length : Int) then (if x13 < (x1.length : Int) then ((laws_jSame.f k (rd_L2 x0 x13) (rd_L2 x1 x13)).bind fun t144 => (if t144 = true then (laws_jRows.l0 k x0 x1 x12 (wrap64 (x13 + 1))) else (some false))) else (none)) else (none)) else (none)) else (some true)
def laws_jRows.f (k : Nat) (l0 : List (List Int)) (l1 : List (List Int)) : Option (Bool) := if (l0.length : Int) = (l1.length : Int) then (laws_jRows.l0 k l0 l1 (l0.length : Int) 0) else (some false)
theorem laws_jRows.mono_l : ∀ k, (∀ y0 y1 y2 y3, LeO (laws_jRows.l0 k y0 y1 y2 y3) (laws_jRows.l0 (k + 1) y0 y1 y2 y3))
 | 0 => fun _ _ _ _ r h => by simp [laws_jRows.l0] at h
 | k + 1 => by
  have ih0 := laws_jRows.mono_l k
  ·intro y0 y1 y2 y3
   unfold laws_jRows.l0
   repeat' (first | (with_reducible first | exact ih0 _ _ _ _ | exact laws_jSame.mono _ _ _ | exact LeO.refl _ | exact LeO.none _ | refine LeO.ite ?_ ?_ | refine LeO.bind ?_ (fun _ => ?_)) | exact ih0 _ _ _ _ | exact laws_jSame.mono _ _ _ | exact LeO.none _ | refine LeO.ite ?_ ?_ | refine LeO.bind ?_ (fun _ => ?_))
theorem laws_jRows.mono : ∀ a0 a1 k, LeO (laws_jRows.f k a0 a1) (laws_jRows.f (k + 1) a0 a1) := by
 intro a0 a1 k
 have ih0 := laws_jRows.mono_l k
 unfold laws_jRows.f
 repeat' (first | (with_reducible first | exact ih0 _ _ _ _ | exact LeO.refl _ | exact LeO.none _ | refine LeO.ite ?_ ?_ | refine LeO.bind ?_ (fun _ => ?_)) | exact ih0 _ _ _ _ | exact LeO.none _ | refine LeO.ite ?_ ?_ | refine LeO.bind ?_ (fun _ => ?_))
set_option maxHeartbeats 8000000 in
set_option maxRecDepth 100000 in
theorem laws_jRows.calls (k : Nat) (A0 : Option Addr) (c0 : Nat) (l0 : List (List Int)) (A1 : Option Addr) (c1 : Nat) (l1 : List (List Int)) (r : Bool) (w : World) (hr0 : Kd.C (Kd.slice 3 (Kd.int .i64)) w A0 l0.length l0) (hc0 : l0.length ≤ c0) (hr1 : Kd.C (Kd.slice 3 (Kd.int .i64)) w A1 l1.length l1) (hc1 : l1.length ≤ c1) (h : laws_jRows.f k l0 l1 = some r) :
  Calls Try.prog 19 #[.slice A0 l0.length c0, .slice A1 l1.length c1] w fun e w' => e = .returned (.bool r) ∧ Drawn0 w w' := by
 have HR0 := Aside0.mk hr0
 have HC0 := Aside0.mk hc0
 clear hr0 hc0
 have HR1 := Aside0.mk hr1
 have HC1 := Aside0.mk hc1
 clear hr1 hc1
 have H : (if (l0.length : Int) = (l1.length : Int) then (laws_jRows.l0 k l0 l1 (l0.length : Int) 0) else (some false)) = some r := h
 clear h
 by_cases c3 : (l0.length : Int) = (l1.length : Int)
 ·rw [if_pos c3] at H
  have c3b0 : ((l0.length : Int) == (l1.length : Int)) = true := beq_iff_eq.mpr c3
  have c3b1 : ((l0.length : Int) != (l1.length : Int)) = false := bne_eq_false_iff_eq.mpr c3
  have c3b2 : (l0.length == l1.length) = true := by first | simpa using c3 | (simp at c3 ⊢; omega)
  clear c3
  have H' := Aside0.mk H
  clear H
  go_enter Try.func19, Try.ntmps19
  go_wp2
  repeat (go_quiet (fail); try go_wp2)
  go_loopg [13] k (fun kq v13 w' => ∃ (x13_1 : Int), v13 = .int .i64 x13_1 ∧ Aside0 (laws_jRows.l0 kq l0 l1 (l0.length : Int) x13_1 = some r) ∧ Aside0 (kq ≤ k) ∧ Drawn0 w w')
  case atStart => exact ⟨(0), (by first | rfl | (simp; done) | (simp [*]; done)), H', ⟨Nat.le_refl _⟩, by repeat (first | exact Drawn0.refl _ | apply Drawn0.step)⟩
  case round =>
   clear H'
   try clear c1
   try clear p2
   try clear c3
   try clear c3b0
   try clear c3b1
   try clear c3b2
   obtain ⟨x13_1, rfl, HA, HK1, ⟨m1, rfl⟩⟩ := hrel
   cases gk with
   | zero => exact absurd HA.out (by simp [laws_jRows.l0])
   | succ k1 =>
    have H := HA.out
    clear HA
    simp only [laws_jRows.l0] at H
    by_cases c4 : x13_1 < (l0.length : Int)
    ·rw [if_pos c4] at H
     have c4b0 : decide (x13_1 < (l0.length : Int)) = true := decide_eq_true c4
     clear c4
     by_cases c5 : 0 ≤ x13_1
     ·rw [if_pos c5] at H
      have c5b0 : decide (0 ≤ x13_1) = true := decide_eq_true c5
      clear c5
      by_cases c6 : x13_1 < (l0.length : Int)
      ·rw [if_pos c6] at H
       have c6b0 : decide (x13_1 < (l0.length : Int)) = true := decide_eq_true c6
       clear c6
       by_cases c7 : x13_1 < (l1.length : Int)
       ·rw [if_pos c7] at H
        have c7b0 : decide (x13_1 < (l1.length : Int)) = true := decide_eq_true c7
        clear c7
        replace H := Option.bind_eq_some_iff.mp H
        obtain ⟨t144, A80, H⟩ := H
        replace H : (if t144 = true then (laws_jRows.l0 k1 l0 l1 (l0.length : Int) (wrap64 (x13_1 + 1))) else (some false)) = some r := H
        have A8 := Aside0.mk A80
        clear A80
        by_cases c9 : t144 = true
        ·subst c9
         have H1 : (laws_jRows.l0 k1 l0 l1 (l0.length : Int) (wrap64 (x13_1 + 1))) = some r := by rw [if_pos rfl] at H; exact H
         clear H
         have H := H1
         clear H1
         have H' := Aside0.mk H
         clear H
         have p142 : 0 ≤ (x13_1 : Int) := ofd
         have q142 : x13_1 < (l0.length : Int) := ofd
         obtain ⟨ad142, A142_0, c142_0, e142, hx142_0, hl142_0, hi142_0⟩ := at_L2 HR0.out x13_1 p142 q142
         cases e142
         have HR142_0 := Aside0.mk hi142_0
         have HC142_0 := Aside0.mk hl142_0
         clear hi142_0 hl142_0
         replace p142 := eq_true p142
         replace q142 := eq_true q142
         have p143 : 0 ≤ (x13_1 : Int) := ofd
         have q143 : x13_1 < (l1.length : Int) := ofd
         obtain ⟨ad143, A143_0, c143_0, e143, hx143_0, hl143_0, hi143_0⟩ := at_L2 HR1.out x13_1 p143 q143
         cases e143
         have HR143_0 := Aside0.mk hi143_0
         have HC143_0 := Aside0.mk hl143_0
         clear hi143_0 hl143_0
         replace p143 := eq_true p143
         replace q143 := eq_true q143
         go_wp2_with (first | (go_at_call 20; (with_reducible refine (laws_jSame.calls k1 _ _ (rd_L2 l0 x13_1) _ _ (rd_L2 l1 x13_1) true _ ?side1 ?side2 ?side3 ?side4 A8.out).mono ?_); (case side1 => repeat (first | exact HR142_0.out | (with_reducible refine Kd.C_alloc ?_ _) | (with_reducible refine Kd.C_drewN ?_ _) | (with_reducible refine Kd.C_drew ?_))); (case side2 => exact HC142_0.out); (case side3 => repeat (first | exact HR143_0.out | (with_reducible refine Kd.C_alloc ?_ _) | (with_reducible refine Kd.C_drewN ?_ _) | (with_reducible refine Kd.C_drew ?_))); (case side4 => exact HC143_0.out); rintro e w' ⟨rfl, ⟨nd, rfl⟩⟩; (try first | exact ⟨rfl, _, World.drewN_drewN _ _ _⟩ | exact ⟨rfl, _, Eq.trans (World.drewN_drewN _ _ _) (congrArg (World.drewN _) (Nat.add_assoc _ _ _))⟩)))
         repeat (go_quiet (first | (go_at_call 20; (with_reducible refine (laws_jSame.calls k1 _ _ (rd_L2 l0 x13_1) _ _ (rd_L2 l1 x13_1) true _ ?side1 ?side2 ?side3 ?side4 A8.out).mono ?_); (case side1 => repeat (first | exact HR142_0.out | (with_reducible refine Kd.C_alloc ?_ _) | (with_reducible refine Kd.C_drewN ?_ _) | (with_reducible refine Kd.C_drew ?_))); (case side2 => exact HC142_0.out); (case side3 => repeat (first | exact HR143_0.out | (with_reducible refine Kd.C_alloc ?_ _) | (with_reducible refine Kd.C_drewN ?_ _) | (with_reducible refine Kd.C_drew ?_))); (case side4 => exact HC143_0.out); rintro e w' ⟨rfl, ⟨nd, rfl⟩⟩; (try first | exact ⟨rfl, _, World.drewN_drewN _ _ _⟩ | exact ⟨rfl, _, Eq.trans (World.drewN_drewN _ _ _) (congrArg (World.drewN _) (Nat.add_assoc _ _ _))⟩))); try go_wp2_with (first | (go_at_call 20; (with_reducible refine (laws_jSame.calls k1 _ _ (rd_L2 l0 x13_1) _ _ (rd_L2 l1 x13_1) true _ ?side1 ?side2 ?side3 ?side4 A8.out).mono ?_); (case side1 => repeat (first | exact HR142_0.out | (with_reducible refine Kd.C_alloc ?_ _) | (with_reducible refine Kd.C_drewN ?_ _) | (with_reducible refine Kd.C_drew ?_))); (case side2 => exact HC142_0.out); (case side3 => repeat (first | exact HR143_0.out | (with_reducible refine Kd.C_alloc ?_ _) | (with_reducible refine Kd.C_drewN ?_ _) | (with_reducible refine Kd.C_drew ?_))); (case side4 => exact HC143_0.out); rintro e w' ⟨rfl, ⟨nd, rfl⟩⟩; (try first | exact ⟨rfl, _, World.drewN_drewN _ _ _⟩ | exact ⟨rfl, _, Eq.trans (World.drewN_drewN _ _ _) (congrArg (World.drewN _) (Nat.add_assoc _ _ _))⟩))))
         go_roundg k1
         case measure => have := HK1.out; omega
         case rel => exact ⟨(wrap64 (x13_1 + 1)), (by first | rfl | (simp; done) | (simp [*]; done)), H', ⟨by have := HK1.out; omega⟩, by repeat (first | exact Drawn0.refl _ | apply Drawn0.step)⟩
        ·replace c9 := Bool.eq_false_iff.mpr c9
         subst c9
         have H1 : (some false) = some r := by rw [if_neg (show ¬ (false = true) by decide)] at H; exact H
         clear H
         have H := H1
         clear H1
         obtain rfl := Option.some.inj H
         have p142 : 0 ≤ (x13_1 : Int) := ofd
         have q142 : x13_1 < (l0.length : Int) := ofd
         obtain ⟨ad142, A142_0, c142_0, e142, hx142_0, hl142_0, hi142_0⟩ := at_L2 HR0.out x13_1 p142 q142
         cases e142
         have HR142_0 := Aside0.mk hi142_0
         have HC142_0 := Aside0.mk hl142_0
         clear hi142_0 hl142_0
         replace p142 := eq_true p142
         replace q142 := eq_true q142
         have p143 : 0 ≤ (x13_1 : Int) := ofd
         have q143 : x13_1 < (l1.length : Int) := ofd
         obtain ⟨ad143, A143_0, c143_0, e143, hx143_0, hl143_0, hi143_0⟩ := at_L2 HR1.out x13_1 p143 q143
         cases e143
         have HR143_0 := Aside0.mk hi143_0
         have HC143_0 := Aside0.mk hl143_0
         clear hi143_0 hl143_0
         replace p143 := eq_true p143
         replace q143 := eq_true q143
         go_wp2_with (first | (go_at_call 20; (with_reducible refine (laws_jSame.calls k1 _ _ (rd_L2 l0 x13_1) _ _ (rd_L2 l1 x13_1) false _ ?side1 ?side2 ?side3 ?side4 A8.out).mono ?_); (case side1 => repeat (first | exact HR142_0.out | (with_reducible refine Kd.C_alloc ?_ _) | (with_reducible refine Kd.C_drewN ?_ _) | (with_reducible refine Kd.C_drew ?_))); (case side2 => exact HC142_0.out); (case side3 => repeat (first | exact HR143_0.out | (with_reducible refine Kd.C_alloc ?_ _) | (with_reducible refine Kd.C_drewN ?_ _) | (with_reducible refine Kd.C_drew ?_))); (case side4 => exact HC143_0.out); rintro e w' ⟨rfl, ⟨nd, rfl⟩⟩; (try first | exact ⟨rfl, _, World.drewN_drewN _ _ _⟩ | exact ⟨rfl, _, Eq.trans (World.drewN_drewN _ _ _) (congrArg (World.drewN _) (Nat.add_assoc _ _ _))⟩)))
         repeat (go_quiet (first | (go_at_call 20; (with_reducible refine (laws_jSame.calls k1 _ _ (rd_L2 l0 x13_1) _ _ (rd_L2 l1 x13_1) false _ ?side1 ?side2 ?side3 ?side4 A8.out).mono ?_); (case side1 => repeat (first | exact HR142_0.out | (with_reducible refine Kd.C_alloc ?_ _) | (with_reducible refine Kd.C_drewN ?_ _) | (with_reducible refine Kd.C_drew ?_))); (case side2 => exact HC142_0.out); (case side3 => repeat (first | exact HR143_0.out | (with_reducible refine Kd.C_alloc ?_ _) | (with_reducible refine Kd.C_drewN ?_ _) | (with_reducible refine Kd.C_drew ?_))); (case side4 => exact HC143_0.out); rintro e w' ⟨rfl, ⟨nd, rfl⟩⟩; (try first | exact ⟨rfl, _, World.drewN_drewN _ _ _⟩ | exact ⟨rfl, _, Eq.trans (World.drewN_drewN _ _ _) (congrArg (World.drewN _) (Nat.add_assoc _ _ _))⟩))); try go_wp2_with (first | (go_at_call 20; (with_reducible refine (laws_jSame.calls k1 _ _ (rd_L2 l0 x13_1) _ _ (rd_L2 l1 x13_1) false _ ?side1 ?side2 ?side3 ?side4 A8.out).mono ?_); (case side1 => repeat (first | exact HR142_0.out | (with_reducible refine Kd.C_alloc ?_ _) | (with_reducible refine Kd.C_drewN ?_ _) | (with_reducible refine Kd.C_drew ?_))); (case side2 => exact HC142_0.out); (case side3 => repeat (first | exact HR143_0.out | (with_reducible refine Kd.C_alloc ?_ _) | (with_reducible refine Kd.C_drewN ?_ _) | (with_reducible refine Kd.C_drew ?_))); (case side4 => exact HC143_0.out); rintro e w' ⟨rfl, ⟨nd, rfl⟩⟩; (try first | exact ⟨rfl, _, World.drewN_drewN _ _ _⟩ | exact ⟨rfl, _, Eq.trans (World.drewN_drewN _ _ _) (congrArg (World.drewN _) (Nat.add_assoc _ _ _))⟩))))
         go_ret
         exact ⟨by first | rfl | (simp; done) | (simp [*]; done), by repeat (first | exact Drawn0.refl _ | apply Drawn0.step)⟩
       ·rw [if_neg c7] at H
        exact absurd H (by simp)
      ·rw [if_neg c6] at H
       exact absurd H (by simp)
     ·rw [if_neg c5] at H
      exact absurd H (by simp)
    ·rw [if_neg c4] at H
     have c4b0 : decide (x13_1 < (l0.length : Int)) = false := decide_eq_false c4
     clear c4
     obtain rfl := Option.some.inj H
     go_wp2
     repeat (go_quiet (fail); try go_wp2)
     go_ret
     exact ⟨by first | rfl | (simp; done) | (simp [*]; done), by repeat (first | exact Drawn0.refl _ | apply Drawn0.step)⟩
 ·rw [if_neg c3] at H
  have c3b0 : ((l0.length : Int) == (l1.length : Int)) = false := beq_eq_false_iff_ne.mpr c3
  have c3b1 : ((l0.length : Int) != (l1.length : Int)) = true := bne_iff_ne.mpr c3
  have c3b2 : (l0.length == l1.length) = false := by first | simpa using c3 | (simp at c3 ⊢; omega)
  obtain rfl := Option.some.inj H
  go_enter Try.func19, Try.ntmps19
  go_wp2
  repeat (go_quiet (fail); try go_wp2)
  go_ret
  exact ⟨by first | rfl | (simp; done) | (simp [*]; done), by repeat (first | exact Drawn0.refl _ | apply Drawn0.step)⟩

noncomputable def laws_jRows.L0 (x0 : List (List Int)) (x1 : List (List Int)) (x12 : Int) (x13 : Int) : Option (Bool) := lim fun k => laws_jRows.l0 k x0 x1 x12 x13
theorem laws_jRows.L0_lim (x0 : List (List Int)) (x1 : List (List Int)) (x12 : Int) (x13 : Int) : Lim (fun k => laws_jRows.l0 k x0 x1 x12 x13) (laws_jRows.L0 x0 x1 x12 x13) := Lim.of fun k => (laws_jRows.mono_l k) x0 x1 x12 x13
noncomputable def laws_jRows.F (l0 : List (List Int)) (l1 : List (List Int)) : Option (Bool) := lim fun k => laws_jRows.f k l0 l1
theorem laws_jRows.F_lim (l0 : List (List Int)) (l1 : List (List Int)) : Lim (fun k => laws_jRows.f k l0 l1) (laws_jRows.F l0 l1) := Lim.of fun k => laws_jRows.mono l0 l1 k
theorem laws_jRows.L0_eq (x0 : List (List Int)) (x1 : List (List Int)) (x12 : Int) (x13 : Int) : laws_jRows.L0 x0 x1 x12 x13 = (if x13 < x12 then (if 0 ≤ x13 then (if x13 < (x0.length : Int) then (if x13 < (x1.length : Int) then ((laws_jSame.F (rd_L2 x0 x13) (rd_L2 x1 x13)).bind fun t144 => (if t144 = true then (laws_jRows.L0 x0 x1 x12 (wrap64 (x13 + 1))) else (some false))) else (none)) else (none)) else (none)) else (some true)) :=
 Lim.step (f := fun k => laws_jRows.l0 (k + 1) x0 x1 x12 x13) (laws_jRows.L0_lim x0 x1 x12 x13) (fun _ => rfl) (by
  simp only [laws_jRows.l0]
  repeat' (first | (with_reducible first | exact Lim.const _ | exact laws_jRows.L0_lim _ _ _ _ | exact laws_jSame.F_lim _ _ | refine Lim.ite ?_ ?_ | refine Lim.bind ?_ (fun _ => ?_))))
theorem laws_jRows.F_eq (l0 : List (List Int)) (l1 : List (List Int)) : laws_jRows.F l0 l1 = (if (l0.length : Int) = (l1.length : Int) then (laws_jRows.L0 l0 l1 (l0.length : Int) 0) else (some false)) :=
 Lim.unique (laws_jRows.F_lim l0 l1) (by
  unfold laws_jRows.f
  repeat' (first | (with_reducible first | exact Lim.const _ | exact laws_jRows.L0_lim _ _ _ _ | refine Lim.ite ?_ ?_ | refine Lim.bind ?_ (fun _ => ?_))))

end Go.Proofs.Ytaohgllnoomaeaa.Fn
namespace Go.Proofs.Ytaohgllnoomaeaa.Fn
open Go.RowKit Go.Proofs.YtaohgllnoomaeaaW.PrintWords Go.Proofs.YtaohgllnoomaeaaW.PrintLast Go.Proofs.YtaohgllnoomaeaaW.PrintMore
attribute [local go_sem] max2_int min2_int max_two min_two max_three min_three max_four min_four   -- for this text's walks alone
set_option linter.unusedVariables false
set_option linter.unusedSimpArgs false

/-! ### laws_jLess: function 23 -/
mutual
def laws_jLess.l0 : Nat → List Int → List Int → Int → Option (Bool)
 | 0, _, _, _ => none
 | k + 1, x0, x1, x5 => if x5 < (x0.length : Int) then (laws_jLess.j1 k x0 x1 x5 (decide (x5 < (x1.length : Int)))) else (laws_jLess.j1 k x0 x1 x5 false)
def laws_jLess.j1 : Nat → List Int → List Int → Int → Bool → Option (Bool)
 | 0, _, _, _, _ => none
 | k + 1, x0, x1, x5, x15 => if x15 = true then (if 0 ≤ x5 then (if x5 < (x0.length : Int) then (if x5 < (x1.length : Int) then (if (rd x0 x5) = (rd x1 x5) then (laws_jLess.l0 k x0 x1 (wrap64 (x5 + 1))) else (some (decide ((rd x0 x5) < (rd x1 x5))))) else (none)) else (none)) else (none)) else (some (decide ((x0.length : Int) < (x1.length : Int))))
end
def laws_jLess.f (k : Nat) (l0 : List Int) (l1 : List Int) : Option (Bool) := laws_jLess.l0 k l0 l1 0
theorem laws_jLess.mono_l : ∀ k, (∀ y0 y1 y2, LeO (laws_jLess.l0 k y0 y1 y2) (laws_jLess.l0 (k + 1) y0 y1 y2)) ∧ (∀ y0 y1 y2 y3, LeO (laws_jLess.j1 k y0 y1 y2 y3) (laws_jLess.j1 (k + 1) y0 y1 y2 y3))
 | 0 => ⟨fun _ _ _ r h => by simp [laws_jLess.l0] at h, fun _ _ _ _ r h => by simp [laws_jLess.j1] at h⟩
 | k + 1 => by
  obtain ⟨ih0, ih1⟩ := laws_jLess.mono_l k
  refine ⟨?_, ?_⟩
  ·intro y0 y1 y2
   unfold laws_jLess.l0
   repeat' (first | (with_reducible first | exact ih1 _ _ _ _ | exact LeO.refl _ | exact LeO.none _ | refine LeO.ite ?_ ?_ | refine LeO.bind ?_ (fun _ => ?_)) | exact ih1 _ _ _ _ | exact LeO.none _ | refine LeO.ite ?_ ?_ | refine LeO.bind ?_ (fun _ => ?_))
  ·intro y0 y1 y2 y3
   unfold laws_jLess.j1
   repeat' (first | (with_reducible first | exact ih0 _ _ _ | exact LeO.refl _ | exact LeO.none _ | refine LeO.ite ?_ ?_ | refine LeO.bind ?_ (fun _ => ?_)) | exact ih0 _ _ _ | exact LeO.none _ | refine LeO.ite ?_ ?_ | refine LeO.bind ?_ (fun _ => ?_))
theorem laws_jLess.mono : ∀ a0 a1 k, LeO (laws_jLess.f k a0 a1) (laws_jLess.f (k + 1) a0 a1) := by
 intro a0 a1 k
 obtain ⟨ih0, ih1⟩ := laws_jLess.mono_l k
 unfold laws_jLess.f
 repeat' (first | (with_reducible first | exact ih0 _ _ _ | exact LeO.refl _ | exact LeO.none _ | refine LeO.ite ?_ ?_ | refine LeO.bind ?_ (fun _ => ?_)) | exact ih0 _ _ _ | exact LeO.none _ | refine LeO.ite ?_ ?_ | refine LeO.bind ?_ (fun _ => ?_))
set_option maxHeartbeats 8000000 in
set_option maxRecDepth 100000 in
theorem laws_jLess.calls (k : Nat) (A0 : Option Addr) (c0 : Nat) (l0 : List Int) (A1 : Option Addr) (c1 : Nat) (l1 : List Int) (r : Bool) (w : World) (hr0 : Kd.C (Kd.int .i64) w A0 l0.length l0) (hc0 : l0.length ≤ c0) (hr1 : Kd.C (Kd.int .i64) w A1 l1.length l1) (hc1 : l1.length ≤ c1) (h : laws_jLess.f k l0 l1 = some r) :
  Calls Try.prog 23 #[.slice A0 l0.length c0, .slice A1 l1.length c1] w fun e w' => e = .returned (.bool r) ∧ Drawn0 w w' := by
 have HR0 := Aside0.mk hr0
 have HC0 := Aside0.mk hc0
 clear hr0 hc0
 have HR1 := Aside0.mk hr1
 have HC1 := Aside0.mk hc1
 clear hr1 hc1
 have H : (laws_jLess.l0 k l0 l1 0) = some r := h
 clear h
 have H' := Aside0.mk H
 clear H
 go_enter Try.func23, Try.ntmps23
 go_wp2
 repeat (go_quiet (fail); try go_wp2)
 go_loopg [5] k (fun kq v5 w' => ∃ (x5_1 : Int), v5 = .int .i64 x5_1 ∧ Aside0 (laws_jLess.l0 kq l0 l1 x5_1 = some r) ∧ Aside0 (kq ≤ k) ∧ Drawn0 w w')
 case atStart => exact ⟨(0), (by first | rfl | (simp; done) | (simp [*]; done)), H', ⟨Nat.le_refl _⟩, by repeat (first | exact Drawn0.refl _ | apply Drawn0.step)⟩
 case round =>
  clear H'
  try clear c1
  try clear c2
  try clear p2
  obtain ⟨x5_1, rfl, HA, HK1, ⟨m1, rfl⟩⟩ := hrel
  cases gk with
  | zero => exact absurd HA.out (by simp [laws_jLess.l0])
  | succ k1 =>
   have H := HA.out
   clear HA
   simp only [laws_jLess.l0] at H
   have HC3 := Aside0.mk H
   clear H
   go_upto_region 2 with (fail)
   repeat (go_quiet (fail); go_upto_region 2 with (fail))
   go_cut [15] (fun v15 wc => ∃ (kq : Nat) (x15_2 : Bool), v15 = .bool x15_2 ∧ Aside0 (laws_jLess.j1 kq l0 l1 x5_1 x15_2 = some r) ∧ Aside0 (kq ≤ k1) ∧ Drawn0 w wc)
   case first =>
    have H := HC3.out
    clear HC3
    by_cases c4 : x5_1 < (l0.length : Int)
    ·rw [if_pos c4] at H
     have c4b0 : decide (x5_1 < (l0.length : Int)) = true := decide_eq_true c4
     clear c4
     (first | rw [c4b0] | (simp only [i64_w, i32_w]; rw [c4b0]) | skip)
     have H' := Aside0.mk H
     clear H
     go_wp2
     repeat (go_quiet (fail); try go_wp2)
     go_meet
     case rel => exact ⟨_, (decide (x5_1 < (l1.length : Int))), (by first | rfl | (simp; done) | (simp [*]; done)), H', ⟨by have := HK1.out; first | omega | exact Nat.le_refl _⟩, by repeat (first | exact Drawn0.refl _ | apply Drawn0.step)⟩
    ·rw [if_neg c4] at H
     have c4b0 : decide (x5_1 < (l0.length : Int)) = false := decide_eq_false c4
     clear c4
     (first | rw [c4b0] | (simp only [i64_w, i32_w]; rw [c4b0]) | skip)
     have H' := Aside0.mk H
     clear H
     go_wp2
     repeat (go_quiet (fail); try go_wp2)
     go_meet
     case rel => exact ⟨_, (false), (by first | rfl | (simp; done) | (simp [*]; done)), H', ⟨by have := HK1.out; first | omega | exact Nat.le_refl _⟩, by repeat (first | exact Drawn0.refl _ | apply Drawn0.step)⟩
   case rest =>
    clear HC3
    try clear c1
    try clear c2
    try clear p2
    try clear c4
    try clear c4b0
    try clear p2
    obtain ⟨kq, x15_2, rfl, HA, HJ2, ⟨mc2, rfl⟩⟩ := hcut
    cases kq with
    | zero => exact absurd HA.out (by simp [laws_jLess.j1])
    | succ kj2 =>
     have H := HA.out
     clear HA
     simp only [laws_jLess.j1] at H
     by_cases c5 : x15_2 = true
     ·subst c5
      have H1 : (if 0 ≤ x5_1 then (if x5_1 < (l0.length : Int) then (if x5_1 < (l1.length : Int) then (if (rd l0 x5_1) = (rd l1 x5_1) then (laws_jLess.l0 kj2 l0 l1 (wrap64 (x5_1 + 1))) else (some (decide ((rd l0 x5_1) < (rd l1 x5_1))))) else (none)) else (none)) else (none)) = some r := by rw [if_pos rfl] at H; exact H
      clear H
      have H := H1
      clear H1
      by_cases c6 : 0 ≤ x5_1
      ·rw [if_pos c6] at H
       have c6b0 : decide (0 ≤ x5_1) = true := decide_eq_true c6
       clear c6
       by_cases c7 : x5_1 < (l0.length : Int)
       ·rw [if_pos c7] at H
        have c7b0 : decide (x5_1 < (l0.length : Int)) = true := decide_eq_true c7
        clear c7
        by_cases c8 : x5_1 < (l1.length : Int)
        ·rw [if_pos c8] at H
         have c8b0 : decide (x5_1 < (l1.length : Int)) = true := decide_eq_true c8
         clear c8
         by_cases c9 : (rd l0 x5_1) = (rd l1 x5_1)
         ·rw [if_pos c9] at H
          have c9b0 : ((rd l0 x5_1) == (rd l1 x5_1)) = true := beq_iff_eq.mpr c9
          have c9b1 : ((rd l0 x5_1) != (rd l1 x5_1)) = false := bne_eq_false_iff_eq.mpr c9
          clear c9
          have H' := Aside0.mk H
          clear H
          have p172 : 0 ≤ (x5_1 : Int) := ofd
          have q172 : x5_1 < (l0.length : Int) := ofd
          obtain ⟨ad172, e172, hx172_0⟩ := Kd.at_int HR0.out x5_1 p172 q172
          cases e172
          replace p172 := eq_true p172
          replace q172 := eq_true q172
          have p173 : 0 ≤ (x5_1 : Int) := ofd
          have q173 : x5_1 < (l1.length : Int) := ofd
          obtain ⟨ad173, e173, hx173_0⟩ := Kd.at_int HR1.out x5_1 p173 q173
          cases e173
          replace p173 := eq_true p173
          replace q173 := eq_true q173
          go_wp2
          repeat (go_quiet (fail); try go_wp2)
          go_roundg kj2
          case measure => have := HK1.out; have := HJ2.out; omega
          case rel => exact ⟨(wrap64 (x5_1 + 1)), (by first | rfl | (simp; done) | (simp [*]; done)), H', ⟨by have := HK1.out; have := HJ2.out; omega⟩, by repeat (first | exact Drawn0.refl _ | apply Drawn0.step)⟩
         ·rw [if_neg c9] at H
          have c9b0 : ((rd l0 x5_1) == (rd l1 x5_1)) = false := beq_eq_false_iff_ne.mpr c9
          have c9b1 : ((rd l0 x5_1) != (rd l1 x5_1)) = true := bne_iff_ne.mpr c9
          obtain rfl := Option.some.inj H
          have p172 : 0 ≤ (x5_1 : Int) := ofd
          have q172 : x5_1 < (l0.length : Int) := ofd
          obtain ⟨ad172, e172, hx172_0⟩ := Kd.at_int HR0.out x5_1 p172 q172
          cases e172
          replace p172 := eq_true p172
          replace q172 := eq_true q172
          have p173 : 0 ≤ (x5_1 : Int) := ofd
          have q173 : x5_1 < (l1.length : Int) := ofd
          obtain ⟨ad173, e173, hx173_0⟩ := Kd.at_int HR1.out x5_1 p173 q173
          cases e173
          replace p173 := eq_true p173
          replace q173 := eq_true q173
          have p174 : 0 ≤ (x5_1 : Int) := ofd
          have q174 : x5_1 < (l0.length : Int) := ofd
          obtain ⟨ad174, e174, hx174_0⟩ := Kd.at_int HR0.out x5_1 p174 q174
          obtain rfl : ad172 = ad174 := (by injection e174)
          replace p174 := eq_true p174
          replace q174 := eq_true q174
          have p175 : 0 ≤ (x5_1 : Int) := ofd
          have q175 : x5_1 < (l1.length : Int) := ofd
          obtain ⟨ad175, e175, hx175_0⟩ := Kd.at_int HR1.out x5_1 p175 q175
          obtain rfl : ad173 = ad175 := (by injection e175)
          replace p175 := eq_true p175
          replace q175 := eq_true q175
          go_wp2
          repeat (go_quiet (fail); try go_wp2)
          go_ret
          exact ⟨by first | rfl | (simp; done) | (simp [*]; done), by repeat (first | exact Drawn0.refl _ | apply Drawn0.step)⟩
        ·rw [if_neg c8] at H
         exact absurd H (by simp)
       ·rw [if_neg c7] at H
        exact absurd H (by simp)
      ·rw [if_neg c6] at H
       exact absurd H (by simp)
     ·replace c5 := Bool.eq_false_iff.mpr c5
      subst c5
      have H1 : (some (decide ((l0.length : Int) < (l1.length : Int)))) = some r := by rw [if_neg (show ¬ (false = true) by decide)] at H; exact H
      clear H
      have H := H1
      clear H1
      obtain rfl := Option.some.inj H
      go_wp2
      repeat (go_quiet (fail); try go_wp2)
      go_ret
      exact ⟨by first | rfl | (simp; done) | (simp [*]; done), by repeat (first | exact Drawn0.refl _ | apply Drawn0.step)⟩

noncomputable def laws_jLess.L0 (x0 : List Int) (x1 : List Int) (x5 : Int) : Option (Bool) := lim fun k => laws_jLess.l0 k x0 x1 x5
theorem laws_jLess.L0_lim (x0 : List Int) (x1 : List Int) (x5 : Int) : Lim (fun k => laws_jLess.l0 k x0 x1 x5) (laws_jLess.L0 x0 x1 x5) := Lim.of fun k => (laws_jLess.mono_l k).1 x0 x1 x5
noncomputable def laws_jLess.J1 (x0 : List Int) (x1 : List Int) (x5 : Int) (x15 : Bool) : Option (Bool) := lim fun k => laws_jLess.j1 k x0 x1 x5 x15
theorem laws_jLess.J1_lim (x0 : List Int) (x1 : List Int) (x5 : Int) (x15 : Bool) : Lim (fun k => laws_jLess.j1 k x0 x1 x5 x15) (laws_jLess.J1 x0 x1 x5 x15) := Lim.of fun k => (laws_jLess.mono_l k).2 x0 x1 x5 x15
noncomputable def laws_jLess.F (l0 : List Int) (l1 : List Int) : Option (Bool) := lim fun k => laws_jLess.f k l0 l1
theorem laws_jLess.F_lim (l0 : List Int) (l1 : List Int) : Lim (fun k => laws_jLess.f k l0 l1) (laws_jLess.F l0 l1) := Lim.of fun k => laws_jLess.mono l0 l1 k
theorem laws_jLess.L0_eq (x0 : List Int) (x1 : List Int) (x5 : Int) : laws_jLess.L0 x0 x1 x5 = (if x5 < (x0.length : Int) then (laws_jLess.J1 x0 x1 x5 (decide (x5 < (x1.length : Int)))) else (laws_jLess.J1 x0 x1 x5 false)) :=
 Lim.step (f := fun k => laws_jLess.l0 (k + 1) x0 x1 x5) (laws_jLess.L0_lim x0 x1 x5) (fun _ => rfl) (by
  simp only [laws_jLess.l0]
  repeat' (first | (with_reducible first | exact Lim.const _ | exact laws_jLess.J1_lim _ _ _ _ | refine Lim.ite ?_ ?_ | refine Lim.bind ?_ (fun _ => ?_))))
theorem laws_jLess.J1_eq (x0 : List Int) (x1 : List Int) (x5 : Int) (x15 : Bool) : laws_jLess.J1 x0 x1 x5 x15 = (if x15 = true then (if 0 ≤ x5 then (if x5 < (x0.length : Int) then (if x5 < (x1.length : Int) then (if (rd x0 x5) = (rd x1 x5) then (laws_jLess.L0 x0 x1 (wrap64 (x5 + 1))) else (some (decide ((rd x0 x5) < (rd x1 x5))))) else (none)) else (none)) else (none)) else (some (decide ((x0.length : Int) < (x1.length : Int))))) :=
 Lim.step (f := fun k => laws_jLess.j1 (k + 1) x0 x1 x5 x15) (laws_jLess.J1_lim x0 x1 x5 x15) (fun _ => rfl) (by
  simp only [laws_jLess.j1]
  repeat' (first | (with_reducible first | exact Lim.const _ | exact laws_jLess.L0_lim _ _ _ | refine Lim.ite ?_ ?_ | refine Lim.bind ?_ (fun _ => ?_))))
theorem laws_jLess.F_eq (l0 : List Int) (l1 : List Int) : laws_jLess.F l0 l1 = (laws_jLess.L0 l0 l1 0) :=
 Lim.unique (laws_jLess.F_lim l0 l1) (by
  unfold laws_jLess.f
  repeat' (first | (with_reducible first | exact Lim.const _ | exact laws_jLess.L0_lim _ _ _ | refine Lim.ite ?_ ?_ | refine Lim.bind ?_ (fun _ => ?_))))

end Go.Proofs.Ytaohgllnoomaeaa.Fn
namespace Go.Proofs.Ytaohgllnoomaeaa.Fn
open Go.RowKit Go.Proofs.YtaohgllnoomaeaaW.PrintWords Go.Proofs.YtaohgllnoomaeaaW.PrintLast Go.Proofs.YtaohgllnoomaeaaW.PrintMore
attribute [local go_sem] max2_int min2_int max_two min_two max_three min_three max_four min_four   -- for this text's walks alone
set_option linter.unusedVariables false
set_option linter.unusedSimpArgs false

/-! ### laws_jIn: function 24 -/
def laws_jIn.l0 : Nat → List Int → List (List Int) → Int → Int → Option (Bool)
 | 0, _, _, _, _ => none
 | k + 1, x1, x7, x8, x9 => if x9 < x8 then (if 0 ≤ x9 then (if x9 < (x7.length : Int) then ((laws_jSame.f k (rd_L2 x7 x9) x1).bind fun t177 => (if t177 = true then (some true) else (laws_jIn.l0 k x1 x7 x8 (wrap64 (x9 + 1))))) else (none)) else (none)) else (some false)
def laws_jIn.f (k : Nat) (l0 : List (List Int)) (l1 : List Int) : Option (Bool) := laws_jIn.l0 k l1 l0 (l0.length : Int) 0
theorem laws_jIn.mono_l : ∀ k, (∀ y0 y1 y2 y3, LeO (laws_jIn.l0 k y0 y1 y2 y3) (laws_jIn.l0 (k + 1) y0 y1 y2 y3))
 | 0 => fun _ _ _ _ r h => by simp [laws_jIn.l0] at h
 | k + 1 => by
  have ih0 := laws_jIn.mono_l k
  ·intro y0 y1 y2 y3
   unfold laws_jIn.l0
   repeat' (first | (with_reducible first | exact ih0 _ _ _ _ | exact laws_jSame.mono _ _ _ | exact LeO.refl _ | exact LeO.none _ | refine LeO.ite ?_ ?_ | refine LeO.bind ?_ (fun _ => ?_)) | exact ih0 _ _ _ _ | exact laws_jSame.mono _ _ _ | exact LeO.none _ | refine LeO.ite ?_ ?_ | refine LeO.bind ?_ (fun _ => ?_))
theorem laws_jIn.mono : ∀ a0 a1 k, LeO (laws_jIn.f k a0 a1) (laws_jIn.f (k + 1) a0 a1) := by
 intro a0 a1 k
 have ih0 := laws_jIn.mono_l k
 unfold laws_jIn.f
 repeat' (first | (with_reducible first | exact ih0 _ _ _ _ | exact LeO.refl _ | exact LeO.none _ | refine LeO.ite ?_ ?_ | refine LeO.bind ?_ (fun _ => ?_)) | exact ih0 _ _ _ _ | exact LeO.none _ | refine LeO.ite ?_ ?_ | refine LeO.bind ?_ (fun _ => ?_))
set_option maxHeartbeats 8000000 in
set_option maxRecDepth 100000 in
theorem laws_jIn.calls (k : Nat) (A0 : Option Addr) (c0 : Nat) (l0 : List (List Int)) (A1 : Option Addr) (c1 : Nat) (l1 : List Int) (r : Bool) (w : World) (hr0 : Kd.C (Kd.slice 3 (Kd.int .i64)) w A0 l0.length l0) (hc0 : l0.length ≤ c0) (hr1 : Kd.C (Kd.int .i64) w A1 l1.length l1) (hc1 : l1.length ≤ c1) (h : laws_jIn.f k l0 l1 = some r) :
  Calls Try.prog 24 #[.slice A0 l0.length c0, .slice A1 l1.length c1] w fun e w' => e = .returned (.bool r) ∧ Drawn0 w w' := by
 have HR0 := Aside0.mk hr0
 have HC0 := Aside0.mk hc0
 clear hr0 hc0
 have HR1 := Aside0.mk hr1
 have HC1 := Aside0.mk hc1
 clear hr1 hc1
 have H : (laws_jIn.l0 k l1 l0 (l0.length : Int) 0) = some r := h
 clear h
 have H' := Aside0.mk H
 clear H
 go_enter Try.func24, Try.ntmps24
 go_wp2
 go_loopg [9] k (fun kq v9 w' => ∃ (x9_1 : Int), v9 = .int .i64 x9_1 ∧ Aside0 (laws_jIn.l0 kq l1 l0 (l0.length : Int) x9_1 = some r) ∧ Aside0 (kq ≤ k) ∧ Drawn0 w w')
 case atStart => exact ⟨(0), (by first | rfl | (simp; done) | (simp [*]; done)), H', ⟨Nat.le_refl _⟩, by repeat (first | exact Drawn0.refl _ | apply Drawn0.step)⟩
 case round =>
  clear H'
  try clear c1
  try clear c2
  try clear p2
  obtain ⟨x9_1, rfl, HA, HK1, ⟨m1, rfl⟩⟩ := hrel
  cases gk with
  | zero => exact absurd HA.out (by simp [laws_jIn.l0])
  | succ k1 =>
   have H := HA.out
   clear HA
   simp only [laws_jIn.l0] at H
   by_cases c3 : x9_1 < (l0.length : Int)
   ·rw [if_pos c3] at H
    have c3b0 : decide (x9_1 < (l0.length : Int)) = true := decide_eq_true c3
    clear c3
    by_cases c4 : 0 ≤ x9_1
    ·rw [if_pos c4] at H
     have c4b0 : decide (0 ≤ x9_1) = true := decide_eq_true c4
     clear c4
     by_cases c5 : x9_1 < (l0.length : Int)
     ·rw [if_pos c5] at H
      have c5b0 : decide (x9_1 < (l0.length : Int)) = true := decide_eq_true c5
      clear c5
      replace H := Option.bind_eq_some_iff.mp H
      obtain ⟨t177, A60, H⟩ := H
      replace H : (if t177 = true then (some true) else (laws_jIn.l0 k1 l1 l0 (l0.length : Int) (wrap64 (x9_1 + 1)))) = some r := H
      have A6 := Aside0.mk A60
      clear A60
      by_cases c7 : t177 = true
      ·subst c7
       have H1 : (some true) = some r := by rw [if_pos rfl] at H; exact H
       clear H
       have H := H1
       clear H1
       obtain rfl := Option.some.inj H
       have p176 : 0 ≤ (x9_1 : Int) := ofd
       have q176 : x9_1 < (l0.length : Int) := ofd
       obtain ⟨ad176, A176_0, c176_0, e176, hx176_0, hl176_0, hi176_0⟩ := at_L2 HR0.out x9_1 p176 q176
       cases e176
       have HR176_0 := Aside0.mk hi176_0
       have HC176_0 := Aside0.mk hl176_0
       clear hi176_0 hl176_0
       replace p176 := eq_true p176
       replace q176 := eq_true q176
       go_wp2_with (first | ((with_reducible refine gate_callee (f := 20) rfl ?_); refine goesA (some 15) Try.func20 #[.slice A176_0 (rd_L2 l0 x9_1).length c176_0, .slice A1 l1.length c1] ?_; (with_reducible refine (laws_jSame.calls k1 _ _ (rd_L2 l0 x9_1) _ _ l1 true _ ?side1 ?side2 ?side3 ?side4 A6.out).mono ?_); (case side1 => repeat (first | exact HR176_0.out | (with_reducible refine Kd.C_alloc ?_ _) | (with_reducible refine Kd.C_drewN ?_ _) | (with_reducible refine Kd.C_drew ?_))); (case side2 => exact HC176_0.out); (case side3 => repeat (first | exact HR1.out | (with_reducible refine Kd.C_alloc ?_ _) | (with_reducible refine Kd.C_drewN ?_ _) | (with_reducible refine Kd.C_drew ?_))); (case side4 => exact HC1.out); rintro e w' ⟨rfl, ⟨nd, rfl⟩⟩; refine ⟨_, rfl, ?_⟩))
       go_ret
       exact ⟨by first | rfl | (simp; done) | (simp [*]; done), by repeat (first | exact Drawn0.refl _ | apply Drawn0.step)⟩
      ·replace c7 := Bool.eq_false_iff.mpr c7
       subst c7
       have H1 : (laws_jIn.l0 k1 l1 l0 (l0.length : Int) (wrap64 (x9_1 + 1))) = some r := by rw [if_neg (show ¬ (false = true) by decide)] at H; exact H
       clear H
       have H := H1
       clear H1
       have H' := Aside0.mk H
       clear H
       have p176 : 0 ≤ (x9_1 : Int) := ofd
       have q176 : x9_1 < (l0.length : Int) := ofd
       obtain ⟨ad176, A176_0, c176_0, e176, hx176_0, hl176_0, hi176_0⟩ := at_L2 HR0.out x9_1 p176 q176
       cases e176
       have HR176_0 := Aside0.mk hi176_0
       have HC176_0 := Aside0.mk hl176_0
       clear hi176_0 hl176_0
       replace p176 := eq_true p176
       replace q176 := eq_true q176
       go_wp2_with (first | ((with_reducible refine gate_callee (f := 20) rfl ?_); refine goesA (some 15) Try.func20 #[.slice A176_0 (rd_L2 l0 x9_1).length c176_0, .slice A1 l1.length c1] ?_; (with_reducible refine (laws_jSame.calls k1 _ _ (rd_L2 l0 x9_1) _ _ l1 false _ ?side1 ?side2 ?side3 ?side4 A6.out).mono ?_); (case side1 => repeat (first | exact HR176_0.out | (with_reducible refine Kd.C_alloc ?_ _) | (with_reducible refine Kd.C_drewN ?_ _) | (with_reducible refine Kd.C_drew ?_))); (case side2 => exact HC176_0.out); (case side3 => repeat (first | exact HR1.out | (with_reducible refine Kd.C_alloc ?_ _) | (with_reducible refine Kd.C_drewN ?_ _) | (with_reducible refine Kd.C_drew ?_))); (case side4 => exact HC1.out); rintro e w' ⟨rfl, ⟨nd, rfl⟩⟩; refine ⟨_, rfl, ?_⟩))
       go_roundg k1
       case measure => have := HK1.out; omega
       case rel => exact ⟨(wrap64 (x9_1 + 1)), (by first | rfl | (simp; done) | (simp [*]; done)), H', ⟨by have := HK1.out; omega⟩, by repeat (first | exact Drawn0.refl _ | apply Drawn0.step)⟩
     ·rw [if_neg c5] at H
      exact absurd H (by simp)
    ·rw [if_neg c4] at H
     exact absurd H (by simp)
   ·rw [if_neg c3] at H
    have c3b0 : decide (x9_1 < (l0.length : Int)) = false := decide_eq_false c3
    clear c3
    obtain rfl := Option.some.inj H
    go_wp2
    go_ret
    exact ⟨by first | rfl | (simp; done) | (simp [*]; done), by repeat (first | exact Drawn0.refl _ | apply Drawn0.step)⟩

noncomputable def laws_jIn.L0 (x1 : List Int) (x7 : List (List Int)) (x8 : Int) (x9 : Int) : Option (Bool) := lim fun k => laws_jIn.l0 k x1 x7 x8 x9
theorem laws_jIn.L0_lim (x1 : List Int) (x7 : List (List Int)) (x8 : Int) (x9 : Int) : Lim (fun k => laws_jIn.l0 k x1 x7 x8 x9) (laws_jIn.L0 x1 x7 x8 x9) := Lim.of fun k => (laws_jIn.mono_l k) x1 x7 x8 x9
noncomputable def laws_jIn.F (l0 : List (List Int)) (l1 : List Int) : Option (Bool) := lim fun k => laws_jIn.f k l0 l1
theorem laws_jIn.F_lim (l0 : List (List Int)) (l1 : List Int) : Lim (fun k => laws_jIn.f k l0 l1) (laws_jIn.F l0 l1) := Lim.of fun k => laws_jIn.mono l0 l1 k
theorem laws_jIn.L0_eq (x1 : List Int) (x7 : List (List Int)) (x8 : Int) (x9 : Int) : laws_jIn.L0 x1 x7 x8 x9 = (if x9 < x8 then (if 0 ≤ x9 then (if x9 < (x7.length : Int) then ((laws_jSame.F (rd_L2 x7 x9) x1).bind fun t177 => (if t177 = true then (some true) else (laws_jIn.L0 x1 x7 x8 (wrap64 (x9 + 1))))) else (none)) else (none)) else (some false)) :=
 Lim.step (f := fun k => laws_jIn.l0 (k + 1) x1 x7 x8 x9) (laws_jIn.L0_lim x1 x7 x8 x9) (fun _ => rfl) (by
  simp only [laws_jIn.l0]
  repeat' (first | (with_reducible first | exact Lim.const _ | exact laws_jIn.L0_lim _ _ _ _ | exact laws_jSame.F_lim _ _ | refine Lim.ite ?_ ?_ | refine Lim.bind ?_ (fun _ => ?_))))
theorem laws_jIn.F_eq (l0 : List (List Int)) (l1 : List Int) : laws_jIn.F l0 l1 = (laws_jIn.L0 l1 l0 (l0.length : Int) 0) :=
 Lim.unique (laws_jIn.F_lim l0 l1) (by
  unfold laws_jIn.f
  repeat' (first | (with_reducible first | exact Lim.const _ | exact laws_jIn.L0_lim _ _ _ _ | refine Lim.ite ?_ ?_ | refine Lim.bind ?_ (fun _ => ?_))))

end Go.Proofs.Ytaohgllnoomaeaa.Fn
namespace Go.Proofs.Ytaohgllnoomaeaa.Fn
open Go.RowKit Go.Proofs.YtaohgllnoomaeaaW.PrintWords Go.Proofs.YtaohgllnoomaeaaW.PrintLast Go.Proofs.YtaohgllnoomaeaaW.PrintMore
attribute [local go_sem] max2_int min2_int max_two min_two max_three min_three max_four min_four   -- for this text's walks alone
set_option linter.unusedVariables false
set_option linter.unusedSimpArgs false

/-! ### laws_jBack: function 25 -/
def laws_jBack.l0 : Nat → List Int → List Int → Int → Option (List Int)
 | 0, _, _, _ => none
 | k + 1, x0, x3, x4 => if x4 ≥ 0 then (if 0 ≤ x4 then (if x4 < (x0.length : Int) then (if x3.length < 17592186044416 then (laws_jBack.l0 k x0 (x3 ++ [rd x0 x4]) (wrap64 (x4 - 1))) else (none)) else (none)) else (none)) else (some x3)
def laws_jBack.f (k : Nat) (l0 : List Int) : Option (List Int) := laws_jBack.l0 k l0 ([] : List Int) (wrap64 ((l0.length : Int) - 1))
theorem laws_jBack.mono_l : ∀ k, (∀ y0 y1 y2, LeO (laws_jBack.l0 k y0 y1 y2) (laws_jBack.l0 (k + 1) y0 y1 y2))
 | 0 => fun _ _ _ r h => by simp [laws_jBack.l0] at h
 | k + 1 => by
  have ih0 := laws_jBack.mono_l k
  ·intro y0 y1 y2
   unfold laws_jBack.l0
   repeat' (first | (with_reducible first | exact ih0 _ _ _ | exact LeO.refl _ | exact LeO.none _ | refine LeO.ite ?_ ?_ | refine LeO.bind ?_ (fun _ => ?_)) | exact ih0 _ _ _ | exact LeO.none _ | refine LeO.ite ?_ ?_ | refine LeO.bind ?_ (fun _ => ?_))
theorem laws_jBack.mono : ∀ a0 k, LeO (laws_jBack.f k a0) (laws_jBack.f (k + 1) a0) := by
 intro a0 k
 have ih0 := laws_jBack.mono_l k
 unfold laws_jBack.f
 repeat' (first | (with_reducible first | exact ih0 _ _ _ | exact LeO.refl _ | exact LeO.none _ | refine LeO.ite ?_ ?_ | refine LeO.bind ?_ (fun _ => ?_)) | exact ih0 _ _ _ | exact LeO.none _ | refine LeO.ite ?_ ?_ | refine LeO.bind ?_ (fun _ => ?_))
set_option maxHeartbeats 8000000 in
set_option maxRecDepth 100000 in
theorem laws_jBack.calls (k : Nat) (A0 : Option Addr) (c0 : Nat) (l0 : List Int) (r : List Int) (w : World) (hr0 : Kd.C (Kd.int .i64) w A0 l0.length l0) (hc0 : l0.length ≤ c0) (h : laws_jBack.f k l0 = some r) :
  Calls Try.prog 25 #[.slice A0 l0.length c0] w fun e w' => ∃ v0_ : Value, e = .returned (v0_) ∧ Kd.R (Kd.int .i64) 3 w' w.heap.size (fun _ => True) v0_ r ∧ Below w.heap.size w w' := by
 have HR0 := Aside0.mk hr0
 have HC0 := Aside0.mk hc0
 clear hr0 hc0
 have HB := Aside0.mk (Below.refl w.heap.size w)
 have H : (laws_jBack.l0 k l0 ([] : List Int) (wrap64 ((l0.length : Int) - 1))) = some r := h
 clear h
 have H' := Aside0.mk H
 clear H
 go_enter Try.func25, Try.ntmps25
 go_wp2
 go_loopg [3, 4] k (fun kq v3 v4 w' => ∃ (x3_1 : List Int) (x4_1 : Int), v4 = .int .i64 x4_1 ∧ Aside0 (laws_jBack.l0 kq l0 x3_1 x4_1 = some r) ∧ Aside0 (kq ≤ k) ∧ Aside0 (Kd.R (Kd.int .i64) 3 w' w.heap.size (fun _ => True) v3 x3_1) ∧ Aside0 (Below w.heap.size w w'))
 case atStart => exact ⟨(([] : List Int)), (wrap64 ((l0.length : Int) - 1)), (by first | rfl | (simp; done) | (simp [*]; done)), H', ⟨Nat.le_refl _⟩, ⟨by first | exact Kd.R_nil _ _ _ _ _ | exact Kd.N_nil _ _ _ _ _ | exact Kd.V_nil _ _ _ _ _ | exact Kd.Q_nil _ _ _ _ _ | exact Kd.S_nil _ _ _ _ _⟩, ⟨atB HB⟩⟩
 case round =>
  clear H'
  obtain ⟨x3_1, x4_1, rfl, HA, HK1, HO_3, HB⟩ := hrel
  cases gk with
  | zero => exact absurd HA.out (by simp [laws_jBack.l0])
  | succ k1 =>
   have H := HA.out
   clear HA
   simp only [laws_jBack.l0] at H
   by_cases c2 : x4_1 ≥ 0
   ·rw [if_pos c2] at H
    have c2b0 : decide (0 ≤ x4_1) = true := decide_eq_true c2
    clear c2
    by_cases c3 : 0 ≤ x4_1
    ·rw [if_pos c3] at H
     have c3b0 : decide (0 ≤ x4_1) = true := decide_eq_true c3
     clear c3
     by_cases c4 : x4_1 < (l0.length : Int)
     ·rw [if_pos c4] at H
      have c4b0 : decide (x4_1 < (l0.length : Int)) = true := decide_eq_true c4
      clear c4
      by_cases c5 : x3_1.length < 17592186044416
      ·rw [if_pos c5] at H
       have LMc5 := Aside0.mk c5
       clear c5
       obtain ⟨y179, hy179⟩ : ∃ y_ : List Int, y_ = (x3_1 ++ [rd l0 x4_1]) := ⟨_, rfl⟩
       replace H : (laws_jBack.l0 k1 l0 y179 (wrap64 (x4_1 - 1))) = some r := by first | (rw [hy179]; with_reducible exact H) | (have H2_ := (Option.bind_some _ _).symm.trans H; rw [hy179]; with_reducible exact H2_) | (have H2_ := (Option.bind_some _ _).symm.trans H; with_reducible exact H2_) | with_reducible exact H | (rw [hy179]; exact H) | exact H
       have Ny179 := Aside0.mk hy179
       clear hy179
       have H' := Aside0.mk H
       clear H
       have p178 : 0 ≤ (x4_1 : Int) := ofd
       have q178 : x4_1 < (l0.length : Int) := ofd
       obtain ⟨ad178, e178, hx178_0⟩ := Kd.at_int HR0.out x4_1 p178 q178
       cases e178
       replace hx178_0 := (HB.out.cell (World.block_lt_of_cell? w _ hx178_0)).trans hx178_0
       replace p178 := eq_true p178
       replace q178 := eq_true q178
       go_wp2_with (first | ((with_reducible refine gate_builtin (b := .append) (xs := #[.tmp 12, .tmp 17]) rfl ?_); at_builtin; refine Kd.R_append (Kd.int .i64) (w0 := w) w.heap.size rfl (.tmp 12) (.tmp 17) 31 3 (.int .i64 0) 8 rfl Try.underlying31 info3 rfl (by decide) (by omega) u3 x3_1 (rd l0 x4_1) [.int .i64 (rd l0 x4_1)] (fun _ => True) (fun _ => False) rfl rfl ?aP (fun _ hk => hk.elim) ?aF ?aO ?aB ?aS ?aL ?_; (case aP => exact rfl); (case aB => exact (atB HB)); (case aF => exact (fun _ _ => trivial)); (case aO => exact (atR HO_3)); (case aS => exact (szB HB)); (case aL => have := LMc5.out; omega); intro v180 w6 ho hb hg hat; rw [← Ny179.out] at ho; have HO181 := Aside0.mk (ho); replace HB := Aside0.mk (hb); clear HO_3; clear ho hb hg hat))
       go_roundg k1
       case measure => have := HK1.out; omega
       case rel => exact ⟨(y179), (wrap64 (x4_1 - 1)), (by first | rfl | (simp; done) | (simp [*]; done)), H', ⟨by have := HK1.out; omega⟩, ⟨atR HO181⟩, ⟨atB HB⟩⟩
      ·rw [if_neg c5] at H
       exact absurd H (by simp)
     ·rw [if_neg c4] at H
      exact absurd H (by simp)
    ·rw [if_neg c3] at H
     exact absurd H (by simp)
   ·rw [if_neg c2] at H
    have c2b0 : decide (0 ≤ x4_1) = false := decide_eq_false c2
    clear c2
    obtain rfl := Option.some.inj H
    go_wp2
    go_ret
    exact ⟨_, by first | rfl | (simp [errW_none, errW_some] <;> rfl) | (simp [*, errW_none, errW_some] <;> rfl), atR HO_3, atB HB⟩

noncomputable def laws_jBack.L0 (x0 : List Int) (x3 : List Int) (x4 : Int) : Option (List Int) := lim fun k => laws_jBack.l0 k x0 x3 x4
theorem laws_jBack.L0_lim (x0 : List Int) (x3 : List Int) (x4 : Int) : Lim (fun k => laws_jBack.l0 k x0 x3 x4) (laws_jBack.L0 x0 x3 x4) := Lim.of fun k => (laws_jBack.mono_l k) x0 x3 x4
noncomputable def laws_jBack.F (l0 : List Int) : Option (List Int) := lim fun k => laws_jBack.f k l0
theorem laws_jBack.F_lim (l0 : List Int) : Lim (fun k => laws_jBack.f k l0) (laws_jBack.F l0) := Lim.of fun k => laws_jBack.mono l0 k
theorem laws_jBack.L0_eq (x0 : List Int) (x3 : List Int) (x4 : Int) : laws_jBack.L0 x0 x3 x4 = (if x4 ≥ 0 then (if 0 ≤ x4 then (if x4 < (x0.length : Int) then (if x3.length < 17592186044416 then (laws_jBack.L0 x0 (x3 ++ [rd x0 x4]) (wrap64 (x4 - 1))) else (none)) else (none)) else (none)) else (some x3)) :=
 Lim.step (f := fun k => laws_jBack.l0 (k + 1) x0 x3 x4) (laws_jBack.L0_lim x0 x3 x4) (fun _ => rfl) (by
  simp only [laws_jBack.l0]
  repeat' (first | (with_reducible first | exact Lim.const _ | exact laws_jBack.L0_lim _ _ _ | refine Lim.ite ?_ ?_ | refine Lim.bind ?_ (fun _ => ?_))))
theorem laws_jBack.F_eq (l0 : List Int) : laws_jBack.F l0 = (laws_jBack.L0 l0 ([] : List Int) (wrap64 ((l0.length : Int) - 1))) :=
 Lim.unique (laws_jBack.F_lim l0) (by
  unfold laws_jBack.f
  repeat' (first | (with_reducible first | exact Lim.const _ | exact laws_jBack.L0_lim _ _ _ | refine Lim.ite ?_ ?_ | refine Lim.bind ?_ (fun _ => ?_))))

end Go.Proofs.Ytaohgllnoomaeaa.Fn
namespace Go.Proofs.Ytaohgllnoomaeaa.Fn
open Go.RowKit Go.Proofs.YtaohgllnoomaeaaW.PrintWords Go.Proofs.YtaohgllnoomaeaaW.PrintLast Go.Proofs.YtaohgllnoomaeaaW.PrintMore
attribute [local go_sem] max2_int min2_int max_two min_two max_three min_three max_four min_four   -- for this text's walks alone
set_option linter.unusedVariables false
set_option linter.unusedSimpArgs false

/-! ### laws_FnLangfordThere: function 3 -/
def laws_FnLangfordThere.l0 : Nat → Int → Int → Int → List (List Int) → List Int → List (List Int) → Int → Int → Option (Bool)
 | 0, _, _, _, _, _, _, _, _ => none
 | k + 1, x5, x6, x7, x11, x15, x143, x144, x145 => if x145 < x144 then (if 0 ≤ x145 then (if x145 < (x143.length : Int) then ((impl_IsLangford.f k (rd_L2 x143 x145)).bind fun bt222 => ((impl_LeastOfLangford.f k (rd_L2 x143 x145)).bind fun bt224 => (if bt222.2 = true then (if bt222.1 = true then (if bt224.2 = true then (if bt224.1 = x6 then (if ((rd_L2 x143 x145).length : Int) = (wrap64 (2 * x5)) then (if x145 > 0 then (if 0 ≤ (wrap64 (x145 - 1)) then (if (wrap64 (x145 - 1)) < (x11.length : Int) then ((laws_jLess.f k (rd_L2 x11 (wrap64 (x145 - 1))) (rd_L2 x143 x145)).bind fun t227 => (if t227 = true then ((laws_jBack.f k (rd_L2 x143 x145)).bind fun t228 => ((laws_jIn.f k x11 t228).bind fun t231 => (if t231 = true then ((impl_RaiseRow.f k (rd_L2 x143 x145) 1).bind fun bt236 => (if bt236.2 = true then ((impl_FitsShift.f k bt236.1 0).bind fun bt240 => (if bt240.2 = true then (if bt240.1 = true then (laws_FnLangfordThere.l0 k x5 x6 x7 x11 x15 x143 x144 (wrap64 (x145 + 1))) else (some false)) else (some false))) else (laws_FnLangfordThere.l0 k x5 x6 x7 x11 x15 x143 x144 (wrap64 (x145 + 1))))) else (some false)))) else (some false))) else (none)) else (none)) else ((laws_jBack.f k (rd_L2 x143 x145)).bind fun t232 => ((laws_jIn.f k x11 t232).bind fun t235 => (if t235 = true then ((impl_RaiseRow.f k (rd_L2 x143 x145) 1).bind fun bt242 => (if bt242.2 = true then ((impl_FitsShift.f k bt242.1 0).bind fun bt246 => (if bt246.2 = true then (if bt246.1 = true then (laws_FnLangfordThere.l0 k x5 x6 x7 x11 x15 x143 x144 (wrap64 (x145 + 1))) else (some false)) else (some false))) else (laws_FnLangfordThere.l0 k x5 x6 x7 x11 x15 x143 x144 (wrap64 (x145 + 1))))) else (some false))))) else (some false)) else (some false)) else (some false)) else (some false)) else (some false)))) else (none)) else (none)) else (if (x11.length : Int) = x7 then (if x7 > 0 then (if 0 < (x11.length : Int) then ((laws_jSame.f k (rd_L2 x11 0) x15).bind fun t220 => (if t220 = true then (some true) else (some false))) else (none)) else (some true)) else (some false))
def laws_FnLangfordThere.f (k : Nat) (l0 : List Int) (l1 : List Int) : Option (Bool) := (laws_big.f l0 l1).bind fun t192 => (if t192 = true then (some true) else ((spec_DrawAllLangford.f l0).bind fun bt193 => ((impl_CountLangford.f bt193.1 bt193.2).bind fun bt195 => ((spec_CountLangford.f bt193.1 bt193.2).bind fun bt197 => ((impl_AllLangford.f bt193.1 bt193.2).bind fun bt199 => ((spec_AllLangford.f bt193.1 bt193.2).bind fun bt203 => ((impl_FirstLangford.f bt193.1 bt193.2).bind fun bt207 => ((spec_FirstLangford.f bt193.1 bt193.2).bind fun bt211 => ((impl_IsLangfordThere.f k bt193.1 bt193.2).bind fun bt215 => (if (bt195.2 != bt197.2) = true then (some false) else (if bt195.1 = bt197.1 then (if (bt199.2 != bt203.2) = true then (some false) else ((laws_jRows.f k bt199.1 bt203.1).bind fun t217 => (if t217 = true then (if (bt207.2 != bt211.2) = true then (some false) else ((laws_jSame.f k bt207.1 bt211.1).bind fun t218 => (if t218 = true then (if bt195.2 = true then (if (bt199.2 != (decide (bt195.1 ≤ 600))) = true then (some false) else (if (bt207.2 != (decide (bt195.1 > 0))) = true then (some false) else (if bt215.2 = true then (if (bt215.1 != (decide (bt195.1 > 0))) = true then (some false) else (if bt199.2 = true then (laws_FnLangfordThere.l0 k bt193.1 bt193.2 bt195.1 bt199.1 bt207.1 bt199.1 (bt199.1.length : Int) 0) else (some true))) else (some false)))) else (if (bt199.2 != false) = true then (some false) else (if (bt207.2 != false) = true then (some false) else (if bt199.2 = true then (laws_FnLangfordThere.l0 k bt193.1 bt193.2 bt195.1 bt199.1 bt207.1 bt199.1 (bt199.1.length : Int) 0) else (some true))))) else (some false)))) else (some false)))) else (some false))))))))))))
theorem laws_FnLangfordThere.mono_l : ∀ k, (∀ y0 y1 y2 y3 y4 y5 y6 y7, LeO (laws_FnLangfordThere.l0 k y0 y1 y2 y3 y4 y5 y6 y7) (laws_FnLangfordThere.l0 (k + 1) y0 y1 y2 y3 y4 y5 y6 y7))
 | 0 => fun _ _ _ _ _ _ _ _ r h => by simp [laws_FnLangfordThere.l0] at h
 | k + 1 => by
  have ih0 := laws_FnLangfordThere.mono_l k
  ·intro y0 y1 y2 y3 y4 y5 y6 y7
   unfold laws_FnLangfordThere.l0
   repeat' (first | (with_reducible first | exact ih0 _ _ _ _ _ _ _ _ | exact impl_FitsShift.mono _ _ _ | exact impl_IsLangford.mono _ _ | exact impl_LeastOfLangford.mono _ _ | exact impl_RaiseRow.mono _ _ _ | exact laws_jBack.mono _ _ | exact laws_jIn.mono _ _ _ | exact laws_jLess.mono _ _ _ | exact laws_jSame.mono _ _ _ | exact LeO.refl _ | exact LeO.none _ | refine LeO.ite ?_ ?_ | refine LeO.bind ?_ (fun _ => ?_)) | exact ih0 _ _ _ _ _ _ _ _ | exact impl_FitsShift.mono _ _ _ | exact impl_IsLangford.mono _ _ | exact impl_LeastOfLangford.mono _ _ | exact impl_RaiseRow.mono _ _ _ | exact laws_jBack.mono _ _ | exact laws_jIn.mono _ _ _ | exact laws_jLess.mono _ _ _ | exact laws_jSame.mono _ _ _ | exact LeO.none _ | refine LeO.ite ?_ ?_ | refine LeO.bind ?_ (fun _ => ?_))
theorem laws_FnLangfordThere.mono : ∀ a0 a1 k, LeO (laws_FnLangfordThere.f k a0 a1) (laws_FnLangfordThere.f (k + 1) a0 a1) := by
 intro a0 a1 k
 have ih0 := laws_FnLangfordThere.mono_l k
 unfold laws_FnLangfordThere.f
 repeat' (first | (with_reducible first | exact ih0 _ _ _ _ _ _ _ _ | exact impl_IsLangfordThere.mono _ _ _ | exact laws_jRows.mono _ _ _ | exact laws_jSame.mono _ _ _ | exact LeO.refl _ | exact LeO.none _ | refine LeO.ite ?_ ?_ | refine LeO.bind ?_ (fun _ => ?_)) | exact ih0 _ _ _ _ _ _ _ _ | exact impl_IsLangfordThere.mono _ _ _ | exact laws_jRows.mono _ _ _ | exact laws_jSame.mono _ _ _ | exact LeO.none _ | refine LeO.ite ?_ ?_ | refine LeO.bind ?_ (fun _ => ?_))
set_option maxHeartbeats 8000000 in
set_option maxRecDepth 100000 in
theorem laws_FnLangfordThere.calls (k : Nat) (A0 : Option Addr) (c0 : Nat) (l0 : List Int) (A1 : Option Addr) (c1 : Nat) (l1 : List Int) (r : Bool) (w : World) (hr0 : Kd.C (Kd.int .u8) w A0 l0.length l0) (hc0 : l0.length ≤ c0) (hr1 : Kd.C (Kd.int .u8) w A1 l1.length l1) (hc1 : l1.length ≤ c1) (ht_ : r = true) (h : laws_FnLangfordThere.f k l0 l1 = some r) :
  Calls Try.prog 3 #[.slice A0 l0.length c0, .slice A1 l1.length c1] w fun e w' => e = .returned (.bool r) ∧ Below w.heap.size w w' := by
 have HR0 := Aside0.mk hr0
 have HC0 := Aside0.mk hc0
 clear hr0 hc0
 have HR1 := Aside0.mk hr1
 have HC1 := Aside0.mk hc1
 clear hr1 hc1
 have HB := Aside0.mk (Below.refl w.heap.size w)
 have H : ((laws_big.f l0 l1).bind fun t192 => (if t192 = true then (some true) else ((spec_DrawAllLangford.f l0).bind fun bt193 => ((impl_CountLangford.f bt193.1 bt193.2).bind fun bt195 => ((spec_CountLangford.f bt193.1 bt193.2).bind fun bt197 => ((impl_AllLangford.f bt193.1 bt193.2).bind fun bt199 => ((spec_AllLangford.f bt193.1 bt193.2).bind fun bt203 => ((impl_FirstLangford.f bt193.1 bt193.2).bind fun bt207 => ((spec_FirstLangford.f bt193.1 bt193.2).bind fun bt211 => ((impl_IsLangfordThere.f k bt193.1 bt193.2).bind fun bt215 => (if (bt195.2 != bt197.2) = true then (some false) else (if bt195.1 = bt197.1 then (if (bt199.2 != bt203.2) = true then (some false) else ((laws_jRows.f k bt199.1 bt203.1).bind fun t217 => (if t217 = true then (if (bt207.2 != bt211.2) = true then (some false) else ((laws_jSame.f k bt207.1 bt211.1).bind fun t218 => (if t218 = true then (if bt195.2 = true then (if (bt199.2 != (decide (bt195.1 ≤ 600))) = true then (some false) else (if (bt207.2 != (decide (bt195.1 > 0))) = true then (some false) else (if bt215.2 = true then (if (bt215.1 != (decide (bt195.1 > 0))) = true then (some false) else (if bt199.2 = true then (laws_FnLangfordThere.l0 k bt193.1 bt193.2 bt195.1 bt199.1 bt207.1 bt199.1 (bt199.1.length : Int) 0) else (some true))) else (some false)))) else (if (bt199.2 != false) = true then (some false) else (if (bt207.2 != false) = true then (some false) else (if bt199.2 = true then (laws_FnLangfordThere.l0 k bt193.1 bt193.2 bt195.1 bt199.1 bt207.1 bt199.1 (bt199.1.length : Int) 0) else (some true))))) else (some false)))) else (some false)))) else (some false))))))))))))) = some r := h
 clear h
 have HT := Aside0.mk ht_
 clear ht_
 replace H := Option.bind_eq_some_iff.mp H
 obtain ⟨t192, A30, H⟩ := H
 (try dsimp only at H)
 have A3 := Aside0.mk A30
 clear A30
 by_cases c4 : t192 = true
 ·subst c4
  rw [if_pos rfl] at H
  obtain rfl := Option.some.inj H
  go_enter Try.func3, Try.ntmps3
  go_wp2_with (first | ((with_reducible refine gate_callee (f := 10) rfl ?_); refine goesA (some 33) Try.func10 #[.slice A0 l0.length c0, .slice A1 l1.length c1] ?_; (with_reducible refine (laws_big.calls _ _ l0 _ _ l1 true _ ?side1 ?side2 ?side3 ?side4 A3.out).mono ?_); (case side1 => repeat (first | exact HR0.out | (with_reducible refine Kd.C_alloc ?_ _) | (with_reducible refine Kd.C_drewN ?_ _) | (with_reducible refine Kd.C_drew ?_))); (case side2 => exact HC0.out); (case side3 => repeat (first | exact HR1.out | (with_reducible refine Kd.C_alloc ?_ _) | (with_reducible refine Kd.C_drewN ?_ _) | (with_reducible refine Kd.C_drew ?_))); (case side4 => exact HC1.out); rintro e w' ⟨rfl, ⟨nd, rfl⟩⟩; refine ⟨_, rfl, ?_⟩))
  go_ret
  exact ⟨by first | rfl | (simp [errW_none, errW_some] <;> rfl) | (simp [*, errW_none, errW_some] <;> rfl), atB HB⟩
 ·replace c4 := Bool.eq_false_iff.mpr c4
  subst c4
  rw [if_neg (show ¬ (false = true) by decide)] at H
  replace H := Option.bind_eq_some_iff.mp H
  obtain ⟨⟨t193, t194⟩, A50, H⟩ := H
  (try dsimp only at H)
  have A5 := Aside0.mk A50
  clear A50
  replace H := Option.bind_eq_some_iff.mp H
  obtain ⟨⟨t195, t196⟩, A60, H⟩ := H
  (try dsimp only at H)
  have A6 := Aside0.mk A60
  clear A60
  replace H := Option.bind_eq_some_iff.mp H
  obtain ⟨⟨t197, t198⟩, A70, H⟩ := H
  (try dsimp only at H)
  have A7 := Aside0.mk A70
  clear A70
  replace H := Option.bind_eq_some_iff.mp H
  obtain ⟨⟨t199, t200⟩, A80, H⟩ := H
  (try dsimp only at H)
  have A8 := Aside0.mk A80
  clear A80
  replace H := Option.bind_eq_some_iff.mp H
  obtain ⟨⟨t203, t204⟩, A90, H⟩ := H
  (try dsimp only at H)
  have A9 := Aside0.mk A90
  clear A90
  replace H := Option.bind_eq_some_iff.mp H
  obtain ⟨⟨t207, t208⟩, A100, H⟩ := H
  (try dsimp only at H)
  have A10 := Aside0.mk A100
  clear A100
  replace H := Option.bind_eq_some_iff.mp H
  obtain ⟨⟨t211, t212⟩, A110, H⟩ := H
  (try dsimp only at H)
  have A11 := Aside0.mk A110
  clear A110
  replace H := Option.bind_eq_some_iff.mp H
  obtain ⟨⟨t215, t216⟩, A120, H⟩ := H
  (try dsimp only at H)
  have A12 := Aside0.mk A120
  clear A120
  by_cases c13 : (t196 != t198) = true
  ·rw [if_pos c13] at H
   have c13b0 : (t196 != t198) = true := c13
   (try (have c13b1 : decide (t196 = t198) = false := by simpa using c13))
   (try (have c13b2 : (t196 == t198) = false := by simpa using c13))
   (try (have c13b3 : ¬ (t196 = t198) := by simpa using c13))
   clear c13
   exact absurd ((Option.some.inj H).trans HT.out) (by decide)
  ·rw [if_neg c13] at H
   have c13b0 : (t196 != t198) = false := by simpa using c13
   (try (have c13b1 : decide (t196 = t198) = true := by simpa using c13))
   (try (have c13b2 : (t196 == t198) = true := by simpa using c13))
   clear c13
   by_cases c14 : t195 = t197
   ·rw [if_pos c14] at H
    have c14b0 : (t195 == t197) = true := beq_iff_eq.mpr c14
    have c14b1 : (t195 != t197) = false := bne_eq_false_iff_eq.mpr c14
    clear c14
    by_cases c15 : (t200 != t204) = true
    ·rw [if_pos c15] at H
     have c15b0 : (t200 != t204) = true := c15
     (try (have c15b1 : decide (t200 = t204) = false := by simpa using c15))
     (try (have c15b2 : (t200 == t204) = false := by simpa using c15))
     (try (have c15b3 : ¬ (t200 = t204) := by simpa using c15))
     clear c15
     exact absurd ((Option.some.inj H).trans HT.out) (by decide)
    ·rw [if_neg c15] at H
     have c15b0 : (t200 != t204) = false := by simpa using c15
     (try (have c15b1 : decide (t200 = t204) = true := by simpa using c15))
     (try (have c15b2 : (t200 == t204) = true := by simpa using c15))
     clear c15
     replace H := Option.bind_eq_some_iff.mp H
     obtain ⟨t217, A160, H⟩ := H
     (try dsimp only at H)
     have A16 := Aside0.mk A160
     clear A160
     by_cases c17 : t217 = true
     ·subst c17
      rw [if_pos rfl] at H
      by_cases c18 : (t208 != t212) = true
      ·rw [if_pos c18] at H
       have c18b0 : (t208 != t212) = true := c18
       (try (have c18b1 : decide (t208 = t212) = false := by simpa using c18))
       (try (have c18b2 : (t208 == t212) = false := by simpa using c18))
       (try (have c18b3 : ¬ (t208 = t212) := by simpa using c18))
       clear c18
       exact absurd ((Option.some.inj H).trans HT.out) (by decide)
      ·rw [if_neg c18] at H
       have c18b0 : (t208 != t212) = false := by simpa using c18
       (try (have c18b1 : decide (t208 = t212) = true := by simpa using c18))
       (try (have c18b2 : (t208 == t212) = true := by simpa using c18))
       clear c18
       replace H := Option.bind_eq_some_iff.mp H
       obtain ⟨t218, A190, H⟩ := H
       (try dsimp only at H)
       have A19 := Aside0.mk A190
       clear A190
       by_cases c20 : t218 = true
       ·subst c20
        rw [if_pos rfl] at H
        by_cases c21 : t196 = true
        ·subst c21
         rw [if_pos rfl] at H
         by_cases c22 : (t200 != (decide (t195 ≤ 600))) = true
         ·rw [if_pos c22] at H
          have c22b0 : (t200 != (decide (t195 ≤ 600))) = true := c22
          (try (have c22b1 : decide (t200 = (decide (t195 ≤ 600))) = false := by simpa using c22))
          (try (have c22b2 : (t200 == (decide (t195 ≤ 600))) = false := by simpa using c22))
          (try (have c22b3 : ¬ (t200 = (decide (t195 ≤ 600))) := by simpa using c22))
          clear c22
          exact absurd ((Option.some.inj H).trans HT.out) (by decide)
         ·rw [if_neg c22] at H
          have c22b0 : (t200 != (decide (t195 ≤ 600))) = false := by simpa using c22
          (try (have c22b1 : decide (t200 = (decide (t195 ≤ 600))) = true := by simpa using c22))
          (try (have c22b2 : (t200 == (decide (t195 ≤ 600))) = true := by simpa using c22))
          clear c22
          by_cases c23 : (t208 != (decide (t195 > 0))) = true
          ·rw [if_pos c23] at H
           have c23b0 : (t208 != (decide (t195 > 0))) = true := c23
           (try (have c23b1 : decide (t208 = (decide (t195 > 0))) = false := by simpa using c23))
           (try (have c23b2 : (t208 == (decide (t195 > 0))) = false := by simpa using c23))
           (try (have c23b3 : ¬ (t208 = (decide (t195 > 0))) := by simpa using c23))
           clear c23
           exact absurd ((Option.some.inj H).trans HT.out) (by decide)
          ·rw [if_neg c23] at H
           have c23b0 : (t208 != (decide (t195 > 0))) = false := by simpa using c23
           (try (have c23b1 : decide (t208 = (decide (t195 > 0))) = true := by simpa using c23))
           (try (have c23b2 : (t208 == (decide (t195 > 0))) = true := by simpa using c23))
           clear c23
           by_cases c24 : t216 = true
           ·subst c24
            rw [if_pos rfl] at H
            by_cases c25 : (t215 != (decide (t195 > 0))) = true
            ·rw [if_pos c25] at H
             have c25b0 : (t215 != (decide (t195 > 0))) = true := c25
             (try (have c25b1 : decide (t215 = (decide (t195 > 0))) = false := by simpa using c25))
             (try (have c25b2 : (t215 == (decide (t195 > 0))) = false := by simpa using c25))
             (try (have c25b3 : ¬ (t215 = (decide (t195 > 0))) := by simpa using c25))
             clear c25
             exact absurd ((Option.some.inj H).trans HT.out) (by decide)
            ·rw [if_neg c25] at H
             have c25b0 : (t215 != (decide (t195 > 0))) = false := by simpa using c25
             (try (have c25b1 : decide (t215 = (decide (t195 > 0))) = true := by simpa using c25))
             (try (have c25b2 : (t215 == (decide (t195 > 0))) = true := by simpa using c25))
             clear c25
             by_cases c26 : t200 = true
             ·subst c26
              rw [if_pos rfl] at H
              have H' := Aside0.mk H
              clear H
              go_enter Try.func3, Try.ntmps3
              go_wp2_with (first | ((with_reducible refine gate_callee (f := 10) rfl ?_); refine goesA (some 33) Try.func10 #[.slice A0 l0.length c0, .slice A1 l1.length c1] ?_; (with_reducible refine (laws_big.calls _ _ l0 _ _ l1 false _ ?side1 ?side2 ?side3 ?side4 A3.out).mono ?_); (case side1 => repeat (first | exact HR0.out | (with_reducible refine Kd.C_alloc ?_ _) | (with_reducible refine Kd.C_drewN ?_ _) | (with_reducible refine Kd.C_drew ?_))); (case side2 => exact HC0.out); (case side3 => repeat (first | exact HR1.out | (with_reducible refine Kd.C_alloc ?_ _) | (with_reducible refine Kd.C_drewN ?_ _) | (with_reducible refine Kd.C_drew ?_))); (case side4 => exact HC1.out); rintro e w' ⟨rfl, ⟨nd, rfl⟩⟩; refine ⟨_, rfl, ?_⟩) | ((with_reducible refine gate_callee (f := 11) rfl ?_); refine goesA (some 36) Try.func11 #[.slice A0 l0.length c0] ?_; (with_reducible refine (spec_DrawAllLangford.calls _ _ l0 t193 t194 _ ?side1 ?side2 A5.out).mono ?_); (case side1 => repeat (first | exact HR0.out | (with_reducible refine Kd.C_alloc ?_ _) | (with_reducible refine Kd.C_drewN ?_ _) | (with_reducible refine Kd.C_drew ?_))); (case side2 => exact HC0.out); rintro e w27 ⟨rfl, hb⟩; refine ⟨_, rfl, ?_⟩; replace HB := upB HB hb; (try clear hb); (try clear hb2); (try clear hk); (try clear hi)) | ((with_reducible refine gate_callee (f := 12) rfl ?_); refine goesA (some 42) Try.func12 #[.int .i64 t193, .int .i64 t194] ?_; (with_reducible refine (impl_CountLangford.calls t193 t194 t195 true _ A6.out).mono ?_); rintro e w28 ⟨rfl, hb⟩; refine ⟨_, rfl, ?_⟩; replace HB := upB HB hb; (try clear hb); (try clear hb2); (try clear hk); (try clear hi)) | ((with_reducible refine gate_callee (f := 13) rfl ?_); refine goesA (some 48) Try.func13 #[.int .i64 t193, .int .i64 t194] ?_; (with_reducible refine (spec_CountLangford.calls t193 t194 t197 t198 _ A7.out).mono ?_); rintro e w29 ⟨rfl, hb⟩; refine ⟨_, rfl, ?_⟩; replace HB := upB HB hb; (try clear hb); (try clear hb2); (try clear hk); (try clear hi)) | ((with_reducible refine gate_callee (f := 14) rfl ?_); refine goesA (some 54) Try.func14 #[.int .i64 t193, .int .i64 t194] ?_; (with_reducible refine (impl_AllLangford.calls t193 t194 t199 true _ A8.out).mono ?_); rintro e w30 ⟨v201, rfl, ho0, hb⟩; refine ⟨_, rfl, ?_⟩; have HO202 := lowS ho0 HB; replace HB := upB HB hb; (try clear hb); (try clear hb2); (try clear hk); (try clear hi); (try clear ho0)) | ((with_reducible refine gate_callee (f := 15) rfl ?_); refine goesA (some 60) Try.func15 #[.int .i64 t193, .int .i64 t194] ?_; (with_reducible refine (spec_AllLangford.calls t193 t194 t203 t204 _ A9.out).mono ?_); rintro e w31 ⟨v205, rfl, ho0, hb⟩; refine ⟨_, rfl, ?_⟩; have HO206 := lowS ho0 HB; replace HO202 := upS HO202 hb; replace HB := upB HB hb; (try clear hb); (try clear hb2); (try clear hk); (try clear hi); (try clear ho0)) | ((with_reducible refine gate_callee (f := 16) rfl ?_); refine goesA (some 66) Try.func16 #[.int .i64 t193, .int .i64 t194] ?_; (with_reducible refine (impl_FirstLangford.calls t193 t194 t207 t208 _ A10.out).mono ?_); rintro e w32 ⟨v209, rfl, ho0, hb⟩; refine ⟨_, rfl, ?_⟩; have HO210 := lowR ho0 HB; replace HO202 := upS HO202 hb; replace HO206 := upS HO206 hb; replace HB := upB HB hb; (try clear hb); (try clear hb2); (try clear hk); (try clear hi); (try clear ho0)) | ((with_reducible refine gate_callee (f := 17) rfl ?_); refine goesA (some 72) Try.func17 #[.int .i64 t193, .int .i64 t194] ?_; (with_reducible refine (spec_FirstLangford.calls t193 t194 t211 t212 _ A11.out).mono ?_); rintro e w33 ⟨v213, rfl, ho0, hb⟩; refine ⟨_, rfl, ?_⟩; have HO214 := lowR ho0 HB; replace HO202 := upS HO202 hb; replace HO206 := upS HO206 hb; replace HO210 := upR HO210 hb; replace HB := upB HB hb; (try clear hb); (try clear hb2); (try clear hk); (try clear hi); (try clear ho0)) | ((with_reducible refine gate_callee (f := 18) rfl ?_); refine goesA (some 78) Try.func18 #[.int .i64 t193, .int .i64 t194] ?_; (with_reducible refine (impl_IsLangfordThere.calls k t193 t194 t215 true _ A12.out).mono ?_); rintro e w' ⟨rfl, ⟨nd, rfl⟩⟩; refine ⟨_, rfl, ?_⟩; obtain ⟨Ao34, co34, eo34⟩ := Kd.S_slice HO202.out; subst eo34; obtain ⟨Ao35, co35, eo35⟩ := Kd.S_slice HO206.out; subst eo35) | (go_at_call 19; (with_reducible refine (laws_jRows.calls k _ _ t199 _ _ t203 true _ ?side1 ?side2 ?side3 ?side4 A16.out).mono ?_); (case side1 => exact atSC HO202); (case side2 => exact (Kd.S_reads' HO202.out).2.1); (case side3 => exact atSC HO206); (case side4 => exact (Kd.S_reads' HO206.out).2.1); rintro e w' ⟨rfl, ⟨nd, rfl⟩⟩; obtain ⟨Ao36, co36, eo36⟩ := Kd.R_slice HO210.out; subst eo36; obtain ⟨Ao37, co37, eo37⟩ := Kd.R_slice HO214.out; subst eo37) | (go_at_call 20; (with_reducible refine (laws_jSame.calls k _ _ t207 _ _ t211 true _ ?side1 ?side2 ?side3 ?side4 A19.out).mono ?_); (case side1 => exact atRC HO210); (case side2 => exact (Kd.R_reads' HO210.out).2.1); (case side3 => exact atRC HO214); (case side4 => exact (Kd.R_reads' HO214.out).2.1); rintro e w' ⟨rfl, ⟨nd, rfl⟩⟩))
              go_loopg [145] k (fun kq v145 w' => ∃ (x145_1 : Int), v145 = .int .i64 x145_1 ∧ Aside0 (laws_FnLangfordThere.l0 kq t193 t194 t195 t199 t207 t199 (t199.length : Int) x145_1 = some r) ∧ Aside0 (kq ≤ k) ∧ Aside0 (Kd.S (Kd.slice 3 (Kd.int .i64)) 31 w' w.heap.size (fun _ => True) (.slice Ao34 t199.length co34) t199) ∧ Aside0 (Kd.R (Kd.int .i64) 3 w' w.heap.size (fun _ => True) (.slice Ao36 t207.length co36) t207) ∧ Aside0 (Kd.S (Kd.slice 3 (Kd.int .i64)) 31 w' w.heap.size (fun _ => True) (.slice Ao34 t199.length co34) t199) ∧ Aside0 (Below w.heap.size w w'))
              case atStart => exact ⟨(0), (by first | rfl | (simp; done) | (simp [*]; done)), H', ⟨Nat.le_refl _⟩, ⟨atS HO202⟩, ⟨atR HO210⟩, ⟨atS HO202⟩, ⟨atB HB⟩⟩
              case round => as_aux_lemma =>
               clear H'
               try clear c1
               try clear c2
               try clear p2
               try clear c3
               try clear c4
               try clear c10
               try clear c11
               try clear c12
               try clear c13
               try clear c13b0
               try clear c13b1
               try clear c13b2
               try clear c14
               try clear c14b0
               try clear c14b1
               try clear c15
               try clear c15b0
               try clear c15b1
               try clear c15b2
               try clear c16
               try clear c17
               try clear c18
               try clear c18b0
               try clear c18b1
               try clear c18b2
               try clear c20
               try clear c21
               try clear c22
               try clear c22b0
               try clear c22b1
               try clear c22b2
               try clear c23
               try clear c23b0
               try clear c23b1
               try clear c23b2
               try clear c24
               try clear c25
               try clear c25b0
               try clear c25b1
               try clear c25b2
               try clear c26
               obtain ⟨x145_1, rfl, HA, HK1, HO_11, HO_15, HO_143, HB⟩ := hrel
               cases gk with
               | zero => exact absurd HA.out (by simp [laws_FnLangfordThere.l0])
               | succ k1 =>
                have H := HA.out
                clear HA
                simp only [laws_FnLangfordThere.l0] at H
                by_cases c38 : x145_1 < (t199.length : Int)
                ·rw [if_pos c38] at H
                 have c38b0 : decide (x145_1 < (t199.length : Int)) = true := decide_eq_true c38
                 clear c38
                 by_cases c39 : 0 ≤ x145_1
                 ·rw [if_pos c39] at H
                  have c39b0 : decide (0 ≤ x145_1) = true := decide_eq_true c39
                  clear c39
                  by_cases c40 : x145_1 < (t199.length : Int)
                  ·rw [if_pos c40] at H
                   have c40b0 : decide (x145_1 < (t199.length : Int)) = true := decide_eq_true c40
                   clear c40
                   replace H := Option.bind_eq_some_iff.mp H
                   obtain ⟨⟨t222, t223⟩, A410, H⟩ := H
                   (try dsimp only at H)
                   have A41 := Aside0.mk A410
                   clear A410
                   replace H := Option.bind_eq_some_iff.mp H
                   obtain ⟨⟨t224, t225⟩, A420, H⟩ := H
                   (try dsimp only at H)
                   have A42 := Aside0.mk A420
                   clear A420
                   by_cases c43 : t223 = true
                   ·subst c43
                    rw [if_pos rfl] at H
                    by_cases c44 : t222 = true
                    ·subst c44
                     rw [if_pos rfl] at H
                     by_cases c45 : t225 = true
                     ·subst c45
                      rw [if_pos rfl] at H
                      by_cases c46 : t224 = t194
                      ·rw [if_pos c46] at H
                       have c46b0 : (t224 == t194) = true := beq_iff_eq.mpr c46
                       have c46b1 : (t224 != t194) = false := bne_eq_false_iff_eq.mpr c46
                       clear c46
                       by_cases c47 : ((rd_L2 t199 x145_1).length : Int) = (wrap64 (2 * t193))
                       ·rw [if_pos c47] at H
                        have c47b0 : (((rd_L2 t199 x145_1).length : Int) == (wrap64 (2 * t193))) = true := beq_iff_eq.mpr c47
                        have c47b1 : (((rd_L2 t199 x145_1).length : Int) != (wrap64 (2 * t193))) = false := bne_eq_false_iff_eq.mpr c47
                        clear c47
                        by_cases c48 : x145_1 > 0
                        ·rw [if_pos c48] at H
                         have c48b0 : decide (0 < x145_1) = true := decide_eq_true c48
                         clear c48
                         obtain ⟨ji49, hji49⟩ : ∃ j_ : Int, (wrap64 (x145_1 - 1)) = j_ := ⟨_, rfl⟩
                         replace H : (if 0 ≤ (ji49) then (if (ji49) < (t199.length : Int) then ((laws_jLess.f k1 (rd_L2 t199 (ji49)) (rd_L2 t199 x145_1)).bind fun t227 => (if t227 = true then ((laws_jBack.f k1 (rd_L2 t199 x145_1)).bind fun t228 => ((laws_jIn.f k1 t199 t228).bind fun t231 => (if t231 = true then ((impl_RaiseRow.f k1 (rd_L2 t199 x145_1) 1).bind fun bt236 => (if bt236.2 = true then ((impl_FitsShift.f k1 bt236.1 0).bind fun bt240 => (if bt240.2 = true then (if bt240.1 = true then (laws_FnLangfordThere.l0 k1 t193 t194 t195 t199 t207 t199 (t199.length : Int) (wrap64 (x145_1 + 1))) else (some false)) else (some false))) else (laws_FnLangfordThere.l0 k1 t193 t194 t195 t199 t207 t199 (t199.length : Int) (wrap64 (x145_1 + 1))))) else (some false)))) else (some false))) else (none)) else (none)) = some r := by first | (rw [hji49] at H; exact H) | (simp only [hji49] at H ⊢; exact H)
                         (try rw [hji49] at A41)
                         (try rw [hji49] at A42)
                         have hji49w : (IntKind.i64.wrap (x145_1 - 1)) = ji49 := (i64_w _).trans hji49
                         by_cases c50 : 0 ≤ (ji49)
                         ·rw [if_pos c50] at H
                          have c50b0 : decide (0 ≤ (ji49)) = true := decide_eq_true c50
                          clear c50
                          by_cases c51 : (ji49) < (t199.length : Int)
                          ·rw [if_pos c51] at H
                           have c51b0 : decide ((ji49) < (t199.length : Int)) = true := decide_eq_true c51
                           clear c51
                           replace H := Option.bind_eq_some_iff.mp H
                           obtain ⟨t227, A520, H⟩ := H
                           (try dsimp only at H)
                           have A52 := Aside0.mk A520
                           clear A520
                           by_cases c53 : t227 = true
                           ·subst c53
                            rw [if_pos rfl] at H
                            replace H := Option.bind_eq_some_iff.mp H
                            obtain ⟨t228, A540, H⟩ := H
                            (try dsimp only at H)
                            have A54 := Aside0.mk A540
                            clear A540
                            replace H := Option.bind_eq_some_iff.mp H
                            obtain ⟨t231, A550, H⟩ := H
                            (try dsimp only at H)
                            have A55 := Aside0.mk A550
                            clear A550
                            by_cases c56 : t231 = true
                            ·subst c56
                             rw [if_pos rfl] at H
                             replace H := Option.bind_eq_some_iff.mp H
                             obtain ⟨⟨t236, t237⟩, A570, H⟩ := H
                             (try dsimp only at H)
                             have A57 := Aside0.mk A570
                             clear A570
                             by_cases c58 : t237 = true
                             ·subst c58
                              rw [if_pos rfl] at H
                              replace H := Option.bind_eq_some_iff.mp H
                              obtain ⟨⟨t240, t241⟩, A590, H⟩ := H
                              (try dsimp only at H)
                              have A59 := Aside0.mk A590
                              clear A590
                              by_cases c60 : t241 = true
                              ·subst c60
                               rw [if_pos rfl] at H
                               by_cases c61 : t240 = true
                               ·subst c61
                                rw [if_pos rfl] at H
                                have H' := Aside0.mk H
                                clear H
                                have p221 : 0 ≤ (x145_1 : Int) := ofd
                                have q221 : x145_1 < (t199.length : Int) := ofd
                                obtain ⟨ad221, A221_0, c221_0, e221, hx221_0, hl221_0, hi221_0⟩ := at_L2 (Kd.S_reads' HO_143.out).2.2 x145_1 p221 q221
                                cases e221
                                obtain ⟨ce221, hce221, hMe221, hcc221⟩ := Kd.S_get HO_143.out [] x145_1 p221 (by first | exact q221 | exact of_decide_eq_true (by first | (with_reducible assumption) | assumption) | (have e_ := (Kd.S_reads' HO_143.out).1; omega))
                                obtain ⟨ve221_0, rfl, ge221_0⟩ := hMe221
                                have hv221_0 := hcc221 0 _ rfl
                                rw [Nat.add_zero, show ((Kd.slice 3 (Kd.int .i64))).sz = 1 from rfl, Nat.mul_one] at hv221_0
                                replace hv221_0 := Option.some.inj (hv221_0.symm.trans hx221_0)
                                rw [hv221_0] at ge221_0
                                have HL221_0 := Aside0.mk (show Kd.R (Kd.int .i64) 3 _ _ _ _ (rd_L2 t199 x145_1) from ge221_0)
                                clear hv221_0 ge221_0
                                clear hcc221 hce221
                                have HR221_0 := Aside0.mk hi221_0
                                have HC221_0 := Aside0.mk hl221_0
                                clear hi221_0 hl221_0
                                replace p221 := eq_true p221
                                replace q221 := eq_true q221
                                go_wp2_with (first | ((with_reducible refine gate_callee (f := 21) rfl ?_); refine goesA (some 152) Try.func21 #[.slice A221_0 (rd_L2 t199 x145_1).length c221_0] ?_; (with_reducible refine (impl_IsLangford.calls k1 _ _ (rd_L2 t199 x145_1) true true _ ?side1 ?side2 A41.out).mono ?_); (case side1 => exact atC HR221_0); (case side2 => exact HC221_0.out); rintro e w62 ⟨rfl, hb⟩; refine ⟨_, rfl, ?_⟩; replace HO_11 := upS HO_11 hb; replace HO_15 := upR HO_15 hb; replace HO_143 := upS HO_143 hb; replace HL221_0 := upR HL221_0 hb; replace HR221_0 := upC HR221_0 hb; replace HB := upB HB hb; (try clear hb); (try clear hb2); (try clear hk); (try clear hi)) | ((with_reducible refine gate_callee (f := 22) rfl ?_); refine goesA (some 157) Try.func22 #[.slice A221_0 (rd_L2 t199 x145_1).length c221_0] ?_; (with_reducible refine (impl_LeastOfLangford.calls k1 _ _ (rd_L2 t199 x145_1) t224 true _ ?side1 ?side2 A42.out).mono ?_); (case side1 => exact atC HR221_0); (case side2 => exact HC221_0.out); rintro e w63 ⟨rfl, hb⟩; refine ⟨_, rfl, ?_⟩; replace HO_11 := upS HO_11 hb; replace HO_15 := upR HO_15 hb; replace HO_143 := upS HO_143 hb; replace HL221_0 := upR HL221_0 hb; replace HR221_0 := upC HR221_0 hb; replace HB := upB HB hb; (try clear hb); (try clear hb2); (try clear hk); (try clear hi); have p226 : 0 ≤ ((ji49) : Int) := ofd; have q226 : (ji49) < (t199.length : Int) := ofd; obtain ⟨ad226, A226_0, c226_0, e226, hx226_0, hl226_0, hi226_0⟩ := at_L2 (Kd.S_reads' HO_11.out).2.2 (ji49) p226 q226; obtain rfl : ad221 = ad226 := (by injection e226); obtain ⟨ce226, hce226, hMe226, hcc226⟩ := Kd.S_get HO_11.out [] (ji49) p226 (by first | exact q226 | exact of_decide_eq_true (by first | (with_reducible assumption) | assumption) | (have e_ := (Kd.S_reads' HO_11.out).1; omega)); obtain ⟨ve226_0, rfl, ge226_0⟩ := hMe226; have hv226_0 := hcc226 0 _ rfl; rw [Nat.add_zero, show ((Kd.slice 3 (Kd.int .i64))).sz = 1 from rfl, Nat.mul_one] at hv226_0; replace hv226_0 := Option.some.inj (hv226_0.symm.trans hx226_0); rw [hv226_0] at ge226_0; have HL226_0 := Aside0.mk (show Kd.R (Kd.int .i64) 3 _ _ _ _ (rd_L2 t199 (ji49)) from ge226_0); clear hv226_0 ge226_0; clear hcc226 hce226; have HR226_0 := Aside0.mk hi226_0; have HC226_0 := Aside0.mk hl226_0; clear hi226_0 hl226_0; replace p226 := eq_true p226; replace q226 := eq_true q226) | (go_at_call 23; (with_reducible refine (laws_jLess.calls k1 _ _ (rd_L2 t199 (ji49)) _ _ (rd_L2 t199 x145_1) true _ ?side1 ?side2 ?side3 ?side4 A52.out).mono ?_); (case side1 => exact atC HR226_0); (case side2 => exact HC226_0.out); (case side3 => exact atC HR221_0); (case side4 => exact HC221_0.out); rintro e w' ⟨rfl, ⟨nd, rfl⟩⟩; (try (rw [drewN_self w63]; generalize hq_ : World.drewN w63 _ = w63; have n0_ : Aside0 (Kd.R (Kd.int .i64) 3 w63 w.heap.size (fun k_ => some k_ ≠ (.slice (some ad221) t199.length co34 : Value).ownBlock) (.slice A221_0 (rd_L2 t199 x145_1).length c221_0) (rd_L2 t199 x145_1)) := ⟨by rw [← hq_]; exact (by (with_reducible repeat (first | apply Kd.R_alloc | apply Kd.R_drewN | apply Kd.R_drew)); exact Kd.R_mono HL221_0.out (fun _ hk => hk.2))⟩; have n1_ : Aside0 (Kd.R (Kd.int .i64) 3 w63 w.heap.size (fun k_ => some k_ ≠ (.slice (some ad221) t199.length co34 : Value).ownBlock) (.slice A226_0 (rd_L2 t199 (ji49)).length c226_0) (rd_L2 t199 (ji49))) := ⟨by rw [← hq_]; exact (by (with_reducible repeat (first | apply Kd.R_alloc | apply Kd.R_drewN | apply Kd.R_drew)); exact Kd.R_mono HL226_0.out (fun _ hk => hk.2))⟩; have n2_ : Aside0 (Kd.S (Kd.slice 3 (Kd.int .i64)) 31 w63 w.heap.size (fun _ => True) (.slice (some ad221) t199.length co34) t199) := ⟨by rw [← hq_]; exact (atS HO_11)⟩; have n3_ : Aside0 (Kd.S (Kd.slice 3 (Kd.int .i64)) 31 w63 w.heap.size (fun _ => True) (.slice (some ad221) t199.length co34) t199) := ⟨by rw [← hq_]; exact (atS HO_143)⟩; have n4_ : Aside0 (Kd.R (Kd.int .i64) 3 w63 w.heap.size (fun _ => True) (.slice Ao36 t207.length co36) t207) := ⟨by rw [← hq_]; exact (atR HO_15)⟩; have n5_ : Aside0 (Below w.heap.size w w63) := ⟨by rw [← hq_]; exact (atB HB)⟩; have n6_ : Aside0 (Kd.C (Kd.int .i64) w63 A221_0 (rd_L2 t199 x145_1).length (rd_L2 t199 x145_1)) := ⟨by rw [← hq_]; exact (atC HR221_0)⟩; have n7_ : Aside0 (Kd.C (Kd.int .i64) w63 A226_0 (rd_L2 t199 (ji49)).length (rd_L2 t199 (ji49))) := ⟨by rw [← hq_]; exact (atC HR226_0)⟩; clear HL221_0 HL226_0 HO_11 HO_143 HO_15 HB HR221_0 HR226_0 hq_; have HL221_0 := n0_; have HL226_0 := n1_; have HO_11 := n2_; have HO_143 := n3_; have HO_15 := n4_; have HB := n5_; have HR221_0 := n6_; have HR226_0 := n7_; clear n0_ n1_ n2_ n3_ n4_ n5_ n6_ n7_))) | (go_at_call 25; (with_reducible refine (laws_jBack.calls k1 _ _ (rd_L2 t199 x145_1) t228 _ ?side1 ?side2 A54.out).mono ?_); (case side1 => exact atC HR221_0); (case side2 => exact HC221_0.out); rintro e w64 ⟨v229, rfl, ho0, hb⟩; have HO230 := lowR ho0 HB; replace HO_11 := upS HO_11 hb; replace HO_15 := upR HO_15 hb; replace HO_143 := upS HO_143 hb; replace HL221_0 := upR HL221_0 hb; replace HL226_0 := upR HL226_0 hb; replace HR221_0 := upC HR221_0 hb; replace HR226_0 := upC HR226_0 hb; replace HB := upB HB hb; (try clear hb); (try clear hb2); (try clear hk); (try clear hi); (try clear ho0); obtain ⟨Ao65, co65, eo65⟩ := Kd.R_slice HO230.out; subst eo65) | (go_at_call 24; (with_reducible refine (laws_jIn.calls k1 _ _ t199 _ _ t228 true _ ?side1 ?side2 ?side3 ?side4 A55.out).mono ?_); (case side1 => exact atSC HO_11); (case side2 => exact (Kd.S_reads' HO_11.out).2.1); (case side3 => exact atRC HO230); (case side4 => exact (Kd.R_reads' HO230.out).2.1); rintro e w' ⟨rfl, ⟨nd, rfl⟩⟩; (try (rw [drewN_self w64]; generalize hq_ : World.drewN w64 _ = w64; have n0_ : Aside0 (Kd.R (Kd.int .i64) 3 w64 w.heap.size (fun k_ => some k_ ≠ (.slice (some ad221) t199.length co34 : Value).ownBlock) (.slice A221_0 (rd_L2 t199 x145_1).length c221_0) (rd_L2 t199 x145_1)) := ⟨by rw [← hq_]; exact (by (with_reducible repeat (first | apply Kd.R_alloc | apply Kd.R_drewN | apply Kd.R_drew)); exact Kd.R_mono HL221_0.out (fun _ hk => hk.2))⟩; have n1_ : Aside0 (Kd.R (Kd.int .i64) 3 w64 w.heap.size (fun k_ => some k_ ≠ (.slice (some ad221) t199.length co34 : Value).ownBlock) (.slice A226_0 (rd_L2 t199 (ji49)).length c226_0) (rd_L2 t199 (ji49))) := ⟨by rw [← hq_]; exact (by (with_reducible repeat (first | apply Kd.R_alloc | apply Kd.R_drewN | apply Kd.R_drew)); exact Kd.R_mono HL226_0.out (fun _ hk => hk.2))⟩; have n2_ : Aside0 (Kd.R (Kd.int .i64) 3 w64 w.heap.size (fun _ => True) (.slice Ao65 t228.length co65) t228) := ⟨by rw [← hq_]; exact (atR HO230)⟩; have n3_ : Aside0 (Kd.S (Kd.slice 3 (Kd.int .i64)) 31 w64 w.heap.size (fun _ => True) (.slice (some ad221) t199.length co34) t199) := ⟨by rw [← hq_]; exact (atS HO_11)⟩; have n4_ : Aside0 (Kd.S (Kd.slice 3 (Kd.int .i64)) 31 w64 w.heap.size (fun _ => True) (.slice (some ad221) t199.length co34) t199) := ⟨by rw [← hq_]; exact (atS HO_143)⟩; have n5_ : Aside0 (Kd.R (Kd.int .i64) 3 w64 w.heap.size (fun _ => True) (.slice Ao36 t207.length co36) t207) := ⟨by rw [← hq_]; exact (atR HO_15)⟩; have n6_ : Aside0 (Below w.heap.size w w64) := ⟨by rw [← hq_]; exact (atB HB)⟩; have n7_ : Aside0 (Kd.C (Kd.int .i64) w64 A221_0 (rd_L2 t199 x145_1).length (rd_L2 t199 x145_1)) := ⟨by rw [← hq_]; exact (atC HR221_0)⟩; have n8_ : Aside0 (Kd.C (Kd.int .i64) w64 A226_0 (rd_L2 t199 (ji49)).length (rd_L2 t199 (ji49))) := ⟨by rw [← hq_]; exact (atC HR226_0)⟩; clear HL221_0 HL226_0 HO230 HO_11 HO_143 HO_15 HB HR221_0 HR226_0 hq_; have HL221_0 := n0_; have HL226_0 := n1_; have HO230 := n2_; have HO_11 := n3_; have HO_143 := n4_; have HO_15 := n5_; have HB := n6_; have HR221_0 := n7_; have HR226_0 := n8_; clear n0_ n1_ n2_ n3_ n4_ n5_ n6_ n7_ n8_))) | ((with_reducible refine gate_callee (f := 26) rfl ?_); refine goesA (some 205) Try.func26 #[.slice A221_0 (rd_L2 t199 x145_1).length c221_0, .int .i64 1] ?_; (with_reducible refine (impl_RaiseRow.calls k1 _ _ (rd_L2 t199 x145_1) 1 t236 true _ ?side1 ?side2 A57.out).mono ?_); (case side1 => exact atC HR221_0); (case side2 => exact HC221_0.out); rintro e w66 ⟨v238, rfl, ho0, hb⟩; refine ⟨_, rfl, ?_⟩; have HO239 := lowR ho0 HB; replace HO_11 := upS HO_11 hb; replace HO_15 := upR HO_15 hb; replace HO_143 := upS HO_143 hb; replace HL221_0 := upR HL221_0 hb; replace HL226_0 := upR HL226_0 hb; replace HO230 := upR HO230 hb; replace HR221_0 := upC HR221_0 hb; replace HR226_0 := upC HR226_0 hb; replace HB := upB HB hb; (try clear hb); (try clear hb2); (try clear hk); (try clear hi); (try clear ho0); obtain ⟨Ao67, co67, eo67⟩ := Kd.R_slice HO239.out; subst eo67) | ((with_reducible refine gate_callee (f := 27) rfl ?_); refine goesA (some 211) Try.func27 #[.slice Ao67 t236.length co67, .int .i64 0] ?_; (with_reducible refine (impl_FitsShift.calls k1 _ _ t236 0 true true _ ?side1 ?side2 A59.out).mono ?_); (case side1 => exact atRC HO239); (case side2 => exact (Kd.R_reads' HO239.out).2.1); rintro e w68 ⟨rfl, hb⟩; refine ⟨_, rfl, ?_⟩; replace HO_11 := upS HO_11 hb; replace HO_15 := upR HO_15 hb; replace HO_143 := upS HO_143 hb; replace HL221_0 := upR HL221_0 hb; replace HL226_0 := upR HL226_0 hb; replace HO230 := upR HO230 hb; replace HO239 := upR HO239 hb; replace HR221_0 := upC HR221_0 hb; replace HR226_0 := upC HR226_0 hb; replace HB := upB HB hb; (try clear hb); (try clear hb2); (try clear hk); (try clear hi)))
                                go_roundg k1
                                case measure => have := HK1.out; omega
                                case rel => exact ⟨(wrap64 (x145_1 + 1)), (by first | rfl | (simp; done) | (simp [*]; done)), H', ⟨by have := HK1.out; omega⟩, ⟨atS HO_11⟩, ⟨atR HO_15⟩, ⟨atS HO_143⟩, ⟨atB HB⟩⟩
                               ·replace c61 := Bool.eq_false_iff.mpr c61
                                subst c61
                                rw [if_neg (show ¬ (false = true) by decide)] at H
                                exact absurd ((Option.some.inj H).trans HT.out) (by decide)
                              ·replace c60 := Bool.eq_false_iff.mpr c60
                               subst c60
                               rw [if_neg (show ¬ (false = true) by decide)] at H
                               exact absurd ((Option.some.inj H).trans HT.out) (by decide)
                             ·replace c58 := Bool.eq_false_iff.mpr c58
                              subst c58
                              rw [if_neg (show ¬ (false = true) by decide)] at H
                              have H' := Aside0.mk H
                              clear H
                              have p221 : 0 ≤ (x145_1 : Int) := ofd
                              have q221 : x145_1 < (t199.length : Int) := ofd
                              obtain ⟨ad221, A221_0, c221_0, e221, hx221_0, hl221_0, hi221_0⟩ := at_L2 (Kd.S_reads' HO_143.out).2.2 x145_1 p221 q221
                              cases e221
                              obtain ⟨ce221, hce221, hMe221, hcc221⟩ := Kd.S_get HO_143.out [] x145_1 p221 (by first | exact q221 | exact of_decide_eq_true (by first | (with_reducible assumption) | assumption) | (have e_ := (Kd.S_reads' HO_143.out).1; omega))
                              obtain ⟨ve221_0, rfl, ge221_0⟩ := hMe221
                              have hv221_0 := hcc221 0 _ rfl
                              rw [Nat.add_zero, show ((Kd.slice 3 (Kd.int .i64))).sz = 1 from rfl, Nat.mul_one] at hv221_0
                              replace hv221_0 := Option.some.inj (hv221_0.symm.trans hx221_0)
                              rw [hv221_0] at ge221_0
                              have HL221_0 := Aside0.mk (show Kd.R (Kd.int .i64) 3 _ _ _ _ (rd_L2 t199 x145_1) from ge221_0)
                              clear hv221_0 ge221_0
                              clear hcc221 hce221
                              have HR221_0 := Aside0.mk hi221_0
                              have HC221_0 := Aside0.mk hl221_0
                              clear hi221_0 hl221_0
                              replace p221 := eq_true p221
                              replace q221 := eq_true q221
                              go_wp2_with (first | ((with_reducible refine gate_callee (f := 21) rfl ?_); refine goesA (some 152) Try.func21 #[.slice A221_0 (rd_L2 t199 x145_1).length c221_0] ?_; (with_reducible refine (impl_IsLangford.calls k1 _ _ (rd_L2 t199 x145_1) true true _ ?side1 ?side2 A41.out).mono ?_); (case side1 => exact atC HR221_0); (case side2 => exact HC221_0.out); rintro e w69 ⟨rfl, hb⟩; refine ⟨_, rfl, ?_⟩; replace HO_11 := upS HO_11 hb; replace HO_15 := upR HO_15 hb; replace HO_143 := upS HO_143 hb; replace HL221_0 := upR HL221_0 hb; replace HR221_0 := upC HR221_0 hb; replace HB := upB HB hb; (try clear hb); (try clear hb2); (try clear hk); (try clear hi)) | ((with_reducible refine gate_callee (f := 22) rfl ?_); refine goesA (some 157) Try.func22 #[.slice A221_0 (rd_L2 t199 x145_1).length c221_0] ?_; (with_reducible refine (impl_LeastOfLangford.calls k1 _ _ (rd_L2 t199 x145_1) t224 true _ ?side1 ?side2 A42.out).mono ?_); (case side1 => exact atC HR221_0); (case side2 => exact HC221_0.out); rintro e w70 ⟨rfl, hb⟩; refine ⟨_, rfl, ?_⟩; replace HO_11 := upS HO_11 hb; replace HO_15 := upR HO_15 hb; replace HO_143 := upS HO_143 hb; replace HL221_0 := upR HL221_0 hb; replace HR221_0 := upC HR221_0 hb; replace HB := upB HB hb; (try clear hb); (try clear hb2); (try clear hk); (try clear hi); have p226 : 0 ≤ ((ji49) : Int) := ofd; have q226 : (ji49) < (t199.length : Int) := ofd; obtain ⟨ad226, A226_0, c226_0, e226, hx226_0, hl226_0, hi226_0⟩ := at_L2 (Kd.S_reads' HO_11.out).2.2 (ji49) p226 q226; obtain rfl : ad221 = ad226 := (by injection e226); obtain ⟨ce226, hce226, hMe226, hcc226⟩ := Kd.S_get HO_11.out [] (ji49) p226 (by first | exact q226 | exact of_decide_eq_true (by first | (with_reducible assumption) | assumption) | (have e_ := (Kd.S_reads' HO_11.out).1; omega)); obtain ⟨ve226_0, rfl, ge226_0⟩ := hMe226; have hv226_0 := hcc226 0 _ rfl; rw [Nat.add_zero, show ((Kd.slice 3 (Kd.int .i64))).sz = 1 from rfl, Nat.mul_one] at hv226_0; replace hv226_0 := Option.some.inj (hv226_0.symm.trans hx226_0); rw [hv226_0] at ge226_0; have HL226_0 := Aside0.mk (show Kd.R (Kd.int .i64) 3 _ _ _ _ (rd_L2 t199 (ji49)) from ge226_0); clear hv226_0 ge226_0; clear hcc226 hce226; have HR226_0 := Aside0.mk hi226_0; have HC226_0 := Aside0.mk hl226_0; clear hi226_0 hl226_0; replace p226 := eq_true p226; replace q226 := eq_true q226) | (go_at_call 23; (with_reducible refine (laws_jLess.calls k1 _ _ (rd_L2 t199 (ji49)) _ _ (rd_L2 t199 x145_1) true _ ?side1 ?side2 ?side3 ?side4 A52.out).mono ?_); (case side1 => exact atC HR226_0); (case side2 => exact HC226_0.out); (case side3 => exact atC HR221_0); (case side4 => exact HC221_0.out); rintro e w' ⟨rfl, ⟨nd, rfl⟩⟩; (try (rw [drewN_self w70]; generalize hq_ : World.drewN w70 _ = w70; have n0_ : Aside0 (Kd.R (Kd.int .i64) 3 w70 w.heap.size (fun k_ => some k_ ≠ (.slice (some ad221) t199.length co34 : Value).ownBlock) (.slice A221_0 (rd_L2 t199 x145_1).length c221_0) (rd_L2 t199 x145_1)) := ⟨by rw [← hq_]; exact (by (with_reducible repeat (first | apply Kd.R_alloc | apply Kd.R_drewN | apply Kd.R_drew)); exact Kd.R_mono HL221_0.out (fun _ hk => hk.2))⟩; have n1_ : Aside0 (Kd.R (Kd.int .i64) 3 w70 w.heap.size (fun k_ => some k_ ≠ (.slice (some ad221) t199.length co34 : Value).ownBlock) (.slice A226_0 (rd_L2 t199 (ji49)).length c226_0) (rd_L2 t199 (ji49))) := ⟨by rw [← hq_]; exact (by (with_reducible repeat (first | apply Kd.R_alloc | apply Kd.R_drewN | apply Kd.R_drew)); exact Kd.R_mono HL226_0.out (fun _ hk => hk.2))⟩; have n2_ : Aside0 (Kd.S (Kd.slice 3 (Kd.int .i64)) 31 w70 w.heap.size (fun _ => True) (.slice (some ad221) t199.length co34) t199) := ⟨by rw [← hq_]; exact (atS HO_11)⟩; have n3_ : Aside0 (Kd.S (Kd.slice 3 (Kd.int .i64)) 31 w70 w.heap.size (fun _ => True) (.slice (some ad221) t199.length co34) t199) := ⟨by rw [← hq_]; exact (atS HO_143)⟩; have n4_ : Aside0 (Kd.R (Kd.int .i64) 3 w70 w.heap.size (fun _ => True) (.slice Ao36 t207.length co36) t207) := ⟨by rw [← hq_]; exact (atR HO_15)⟩; have n5_ : Aside0 (Below w.heap.size w w70) := ⟨by rw [← hq_]; exact (atB HB)⟩; have n6_ : Aside0 (Kd.C (Kd.int .i64) w70 A221_0 (rd_L2 t199 x145_1).length (rd_L2 t199 x145_1)) := ⟨by rw [← hq_]; exact (atC HR221_0)⟩; have n7_ : Aside0 (Kd.C (Kd.int .i64) w70 A226_0 (rd_L2 t199 (ji49)).length (rd_L2 t199 (ji49))) := ⟨by rw [← hq_]; exact (atC HR226_0)⟩; clear HL221_0 HL226_0 HO_11 HO_143 HO_15 HB HR221_0 HR226_0 hq_; have HL221_0 := n0_; have HL226_0 := n1_; have HO_11 := n2_; have HO_143 := n3_; have HO_15 := n4_; have HB := n5_; have HR221_0 := n6_; have HR226_0 := n7_; clear n0_ n1_ n2_ n3_ n4_ n5_ n6_ n7_))) | (go_at_call 25; (with_reducible refine (laws_jBack.calls k1 _ _ (rd_L2 t199 x145_1) t228 _ ?side1 ?side2 A54.out).mono ?_); (case side1 => exact atC HR221_0); (case side2 => exact HC221_0.out); rintro e w71 ⟨v229, rfl, ho0, hb⟩; have HO230 := lowR ho0 HB; replace HO_11 := upS HO_11 hb; replace HO_15 := upR HO_15 hb; replace HO_143 := upS HO_143 hb; replace HL221_0 := upR HL221_0 hb; replace HL226_0 := upR HL226_0 hb; replace HR221_0 := upC HR221_0 hb; replace HR226_0 := upC HR226_0 hb; replace HB := upB HB hb; (try clear hb); (try clear hb2); (try clear hk); (try clear hi); (try clear ho0); obtain ⟨Ao72, co72, eo72⟩ := Kd.R_slice HO230.out; subst eo72) | (go_at_call 24; (with_reducible refine (laws_jIn.calls k1 _ _ t199 _ _ t228 true _ ?side1 ?side2 ?side3 ?side4 A55.out).mono ?_); (case side1 => exact atSC HO_11); (case side2 => exact (Kd.S_reads' HO_11.out).2.1); (case side3 => exact atRC HO230); (case side4 => exact (Kd.R_reads' HO230.out).2.1); rintro e w' ⟨rfl, ⟨nd, rfl⟩⟩; (try (rw [drewN_self w71]; generalize hq_ : World.drewN w71 _ = w71; have n0_ : Aside0 (Kd.R (Kd.int .i64) 3 w71 w.heap.size (fun k_ => some k_ ≠ (.slice (some ad221) t199.length co34 : Value).ownBlock) (.slice A221_0 (rd_L2 t199 x145_1).length c221_0) (rd_L2 t199 x145_1)) := ⟨by rw [← hq_]; exact (by (with_reducible repeat (first | apply Kd.R_alloc | apply Kd.R_drewN | apply Kd.R_drew)); exact Kd.R_mono HL221_0.out (fun _ hk => hk.2))⟩; have n1_ : Aside0 (Kd.R (Kd.int .i64) 3 w71 w.heap.size (fun k_ => some k_ ≠ (.slice (some ad221) t199.length co34 : Value).ownBlock) (.slice A226_0 (rd_L2 t199 (ji49)).length c226_0) (rd_L2 t199 (ji49))) := ⟨by rw [← hq_]; exact (by (with_reducible repeat (first | apply Kd.R_alloc | apply Kd.R_drewN | apply Kd.R_drew)); exact Kd.R_mono HL226_0.out (fun _ hk => hk.2))⟩; have n2_ : Aside0 (Kd.R (Kd.int .i64) 3 w71 w.heap.size (fun _ => True) (.slice Ao72 t228.length co72) t228) := ⟨by rw [← hq_]; exact (atR HO230)⟩; have n3_ : Aside0 (Kd.S (Kd.slice 3 (Kd.int .i64)) 31 w71 w.heap.size (fun _ => True) (.slice (some ad221) t199.length co34) t199) := ⟨by rw [← hq_]; exact (atS HO_11)⟩; have n4_ : Aside0 (Kd.S (Kd.slice 3 (Kd.int .i64)) 31 w71 w.heap.size (fun _ => True) (.slice (some ad221) t199.length co34) t199) := ⟨by rw [← hq_]; exact (atS HO_143)⟩; have n5_ : Aside0 (Kd.R (Kd.int .i64) 3 w71 w.heap.size (fun _ => True) (.slice Ao36 t207.length co36) t207) := ⟨by rw [← hq_]; exact (atR HO_15)⟩; have n6_ : Aside0 (Below w.heap.size w w71) := ⟨by rw [← hq_]; exact (atB HB)⟩; have n7_ : Aside0 (Kd.C (Kd.int .i64) w71 A221_0 (rd_L2 t199 x145_1).length (rd_L2 t199 x145_1)) := ⟨by rw [← hq_]; exact (atC HR221_0)⟩; have n8_ : Aside0 (Kd.C (Kd.int .i64) w71 A226_0 (rd_L2 t199 (ji49)).length (rd_L2 t199 (ji49))) := ⟨by rw [← hq_]; exact (atC HR226_0)⟩; clear HL221_0 HL226_0 HO230 HO_11 HO_143 HO_15 HB HR221_0 HR226_0 hq_; have HL221_0 := n0_; have HL226_0 := n1_; have HO230 := n2_; have HO_11 := n3_; have HO_143 := n4_; have HO_15 := n5_; have HB := n6_; have HR221_0 := n7_; have HR226_0 := n8_; clear n0_ n1_ n2_ n3_ n4_ n5_ n6_ n7_ n8_))) | ((with_reducible refine gate_callee (f := 26) rfl ?_); refine goesA (some 205) Try.func26 #[.slice A221_0 (rd_L2 t199 x145_1).length c221_0, .int .i64 1] ?_; (with_reducible refine (impl_RaiseRow.calls k1 _ _ (rd_L2 t199 x145_1) 1 t236 false _ ?side1 ?side2 A57.out).mono ?_); (case side1 => exact atC HR221_0); (case side2 => exact HC221_0.out); rintro e w73 ⟨v238, rfl, ho0, hb⟩; refine ⟨_, rfl, ?_⟩; have HO239 := lowR ho0 HB; replace HO_11 := upS HO_11 hb; replace HO_15 := upR HO_15 hb; replace HO_143 := upS HO_143 hb; replace HL221_0 := upR HL221_0 hb; replace HL226_0 := upR HL226_0 hb; replace HO230 := upR HO230 hb; replace HR221_0 := upC HR221_0 hb; replace HR226_0 := upC HR226_0 hb; replace HB := upB HB hb; (try clear hb); (try clear hb2); (try clear hk); (try clear hi); (try clear ho0)))
                              go_roundg k1
                              case measure => have := HK1.out; omega
                              case rel => exact ⟨(wrap64 (x145_1 + 1)), (by first | rfl | (simp; done) | (simp [*]; done)), H', ⟨by have := HK1.out; omega⟩, ⟨atS HO_11⟩, ⟨atR HO_15⟩, ⟨atS HO_143⟩, ⟨atB HB⟩⟩
                            ·replace c56 := Bool.eq_false_iff.mpr c56
                             subst c56
                             rw [if_neg (show ¬ (false = true) by decide)] at H
                             exact absurd ((Option.some.inj H).trans HT.out) (by decide)
                           ·replace c53 := Bool.eq_false_iff.mpr c53
                            subst c53
                            rw [if_neg (show ¬ (false = true) by decide)] at H
                            exact absurd ((Option.some.inj H).trans HT.out) (by decide)
                          ·rw [if_neg c51] at H
                           exact absurd H (by simp)
                         ·rw [if_neg c50] at H
                          exact absurd H (by simp)
                        ·rw [if_neg c48] at H
                         have c48b0 : decide (0 < x145_1) = false := decide_eq_false c48
                         clear c48
                         replace H := Option.bind_eq_some_iff.mp H
                         obtain ⟨t232, A740, H⟩ := H
                         (try dsimp only at H)
                         have A74 := Aside0.mk A740
                         clear A740
                         replace H := Option.bind_eq_some_iff.mp H
                         obtain ⟨t235, A750, H⟩ := H
                         (try dsimp only at H)
                         have A75 := Aside0.mk A750
                         clear A750
                         by_cases c76 : t235 = true
                         ·subst c76
                          rw [if_pos rfl] at H
                          replace H := Option.bind_eq_some_iff.mp H
                          obtain ⟨⟨t242, t243⟩, A770, H⟩ := H
                          (try dsimp only at H)
                          have A77 := Aside0.mk A770
                          clear A770
                          by_cases c78 : t243 = true
                          ·subst c78
                           rw [if_pos rfl] at H
                           replace H := Option.bind_eq_some_iff.mp H
                           obtain ⟨⟨t246, t247⟩, A790, H⟩ := H
                           (try dsimp only at H)
                           have A79 := Aside0.mk A790
                           clear A790
                           by_cases c80 : t247 = true
                           ·subst c80
                            rw [if_pos rfl] at H
                            by_cases c81 : t246 = true
                            ·subst c81
                             rw [if_pos rfl] at H
                             have H' := Aside0.mk H
                             clear H
                             have p221 : 0 ≤ (x145_1 : Int) := ofd
                             have q221 : x145_1 < (t199.length : Int) := ofd
                             obtain ⟨ad221, A221_0, c221_0, e221, hx221_0, hl221_0, hi221_0⟩ := at_L2 (Kd.S_reads' HO_143.out).2.2 x145_1 p221 q221
                             cases e221
                             obtain ⟨ce221, hce221, hMe221, hcc221⟩ := Kd.S_get HO_143.out [] x145_1 p221 (by first | exact q221 | exact of_decide_eq_true (by first | (with_reducible assumption) | assumption) | (have e_ := (Kd.S_reads' HO_143.out).1; omega))
                             obtain ⟨ve221_0, rfl, ge221_0⟩ := hMe221
                             have hv221_0 := hcc221 0 _ rfl
                             rw [Nat.add_zero, show ((Kd.slice 3 (Kd.int .i64))).sz = 1 from rfl, Nat.mul_one] at hv221_0
                             replace hv221_0 := Option.some.inj (hv221_0.symm.trans hx221_0)
                             rw [hv221_0] at ge221_0
                             have HL221_0 := Aside0.mk (show Kd.R (Kd.int .i64) 3 _ _ _ _ (rd_L2 t199 x145_1) from ge221_0)
                             clear hv221_0 ge221_0
                             clear hcc221 hce221
                             have HR221_0 := Aside0.mk hi221_0
                             have HC221_0 := Aside0.mk hl221_0
                             clear hi221_0 hl221_0
                             replace p221 := eq_true p221
                             replace q221 := eq_true q221
                             go_wp2_with (first | ((with_reducible refine gate_callee (f := 21) rfl ?_); refine goesA (some 152) Try.func21 #[.slice A221_0 (rd_L2 t199 x145_1).length c221_0] ?_; (with_reducible refine (impl_IsLangford.calls k1 _ _ (rd_L2 t199 x145_1) true true _ ?side1 ?side2 A41.out).mono ?_); (case side1 => exact atC HR221_0); (case side2 => exact HC221_0.out); rintro e w82 ⟨rfl, hb⟩; refine ⟨_, rfl, ?_⟩; replace HO_11 := upS HO_11 hb; replace HO_15 := upR HO_15 hb; replace HO_143 := upS HO_143 hb; replace HL221_0 := upR HL221_0 hb; replace HR221_0 := upC HR221_0 hb; replace HB := upB HB hb; (try clear hb); (try clear hb2); (try clear hk); (try clear hi)) | ((with_reducible refine gate_callee (f := 22) rfl ?_); refine goesA (some 157) Try.func22 #[.slice A221_0 (rd_L2 t199 x145_1).length c221_0] ?_; (with_reducible refine (impl_LeastOfLangford.calls k1 _ _ (rd_L2 t199 x145_1) t224 true _ ?side1 ?side2 A42.out).mono ?_); (case side1 => exact atC HR221_0); (case side2 => exact HC221_0.out); rintro e w83 ⟨rfl, hb⟩; refine ⟨_, rfl, ?_⟩; replace HO_11 := upS HO_11 hb; replace HO_15 := upR HO_15 hb; replace HO_143 := upS HO_143 hb; replace HL221_0 := upR HL221_0 hb; replace HR221_0 := upC HR221_0 hb; replace HB := upB HB hb; (try clear hb); (try clear hb2); (try clear hk); (try clear hi)) | (go_at_call 25; (with_reducible refine (laws_jBack.calls k1 _ _ (rd_L2 t199 x145_1) t232 _ ?side1 ?side2 A74.out).mono ?_); (case side1 => exact atC HR221_0); (case side2 => exact HC221_0.out); rintro e w84 ⟨v233, rfl, ho0, hb⟩; have HO234 := lowR ho0 HB; replace HO_11 := upS HO_11 hb; replace HO_15 := upR HO_15 hb; replace HO_143 := upS HO_143 hb; replace HL221_0 := upR HL221_0 hb; replace HR221_0 := upC HR221_0 hb; replace HB := upB HB hb; (try clear hb); (try clear hb2); (try clear hk); (try clear hi); (try clear ho0); obtain ⟨Ao85, co85, eo85⟩ := Kd.R_slice HO234.out; subst eo85) | (go_at_call 24; (with_reducible refine (laws_jIn.calls k1 _ _ t199 _ _ t232 true _ ?side1 ?side2 ?side3 ?side4 A75.out).mono ?_); (case side1 => exact atSC HO_11); (case side2 => exact (Kd.S_reads' HO_11.out).2.1); (case side3 => exact atRC HO234); (case side4 => exact (Kd.R_reads' HO234.out).2.1); rintro e w' ⟨rfl, ⟨nd, rfl⟩⟩; (try (rw [drewN_self w84]; generalize hq_ : World.drewN w84 _ = w84; have n0_ : Aside0 (Kd.R (Kd.int .i64) 3 w84 w.heap.size (fun k_ => some k_ ≠ (.slice (some ad221) t199.length co34 : Value).ownBlock) (.slice A221_0 (rd_L2 t199 x145_1).length c221_0) (rd_L2 t199 x145_1)) := ⟨by rw [← hq_]; exact (by (with_reducible repeat (first | apply Kd.R_alloc | apply Kd.R_drewN | apply Kd.R_drew)); exact Kd.R_mono HL221_0.out (fun _ hk => hk.2))⟩; have n1_ : Aside0 (Kd.R (Kd.int .i64) 3 w84 w.heap.size (fun _ => True) (.slice Ao85 t232.length co85) t232) := ⟨by rw [← hq_]; exact (atR HO234)⟩; have n2_ : Aside0 (Kd.S (Kd.slice 3 (Kd.int .i64)) 31 w84 w.heap.size (fun _ => True) (.slice (some ad221) t199.length co34) t199) := ⟨by rw [← hq_]; exact (atS HO_11)⟩; have n3_ : Aside0 (Kd.S (Kd.slice 3 (Kd.int .i64)) 31 w84 w.heap.size (fun _ => True) (.slice (some ad221) t199.length co34) t199) := ⟨by rw [← hq_]; exact (atS HO_143)⟩; have n4_ : Aside0 (Kd.R (Kd.int .i64) 3 w84 w.heap.size (fun _ => True) (.slice Ao36 t207.length co36) t207) := ⟨by rw [← hq_]; exact (atR HO_15)⟩; have n5_ : Aside0 (Below w.heap.size w w84) := ⟨by rw [← hq_]; exact (atB HB)⟩; have n6_ : Aside0 (Kd.C (Kd.int .i64) w84 A221_0 (rd_L2 t199 x145_1).length (rd_L2 t199 x145_1)) := ⟨by rw [← hq_]; exact (atC HR221_0)⟩; clear HL221_0 HO234 HO_11 HO_143 HO_15 HB HR221_0 hq_; have HL221_0 := n0_; have HO234 := n1_; have HO_11 := n2_; have HO_143 := n3_; have HO_15 := n4_; have HB := n5_; have HR221_0 := n6_; clear n0_ n1_ n2_ n3_ n4_ n5_ n6_))) | ((with_reducible refine gate_callee (f := 26) rfl ?_); refine goesA (some 205) Try.func26 #[.slice A221_0 (rd_L2 t199 x145_1).length c221_0, .int .i64 1] ?_; (with_reducible refine (impl_RaiseRow.calls k1 _ _ (rd_L2 t199 x145_1) 1 t242 true _ ?side1 ?side2 A77.out).mono ?_); (case side1 => exact atC HR221_0); (case side2 => exact HC221_0.out); rintro e w86 ⟨v244, rfl, ho0, hb⟩; refine ⟨_, rfl, ?_⟩; have HO245 := lowR ho0 HB; replace HO_11 := upS HO_11 hb; replace HO_15 := upR HO_15 hb; replace HO_143 := upS HO_143 hb; replace HL221_0 := upR HL221_0 hb; replace HO234 := upR HO234 hb; replace HR221_0 := upC HR221_0 hb; replace HB := upB HB hb; (try clear hb); (try clear hb2); (try clear hk); (try clear hi); (try clear ho0); obtain ⟨Ao87, co87, eo87⟩ := Kd.R_slice HO245.out; subst eo87) | ((with_reducible refine gate_callee (f := 27) rfl ?_); refine goesA (some 211) Try.func27 #[.slice Ao87 t242.length co87, .int .i64 0] ?_; (with_reducible refine (impl_FitsShift.calls k1 _ _ t242 0 true true _ ?side1 ?side2 A79.out).mono ?_); (case side1 => exact atRC HO245); (case side2 => exact (Kd.R_reads' HO245.out).2.1); rintro e w88 ⟨rfl, hb⟩; refine ⟨_, rfl, ?_⟩; replace HO_11 := upS HO_11 hb; replace HO_15 := upR HO_15 hb; replace HO_143 := upS HO_143 hb; replace HL221_0 := upR HL221_0 hb; replace HO234 := upR HO234 hb; replace HO245 := upR HO245 hb; replace HR221_0 := upC HR221_0 hb; replace HB := upB HB hb; (try clear hb); (try clear hb2); (try clear hk); (try clear hi)))
                             go_roundg k1
                             case measure => have := HK1.out; omega
                             case rel => exact ⟨(wrap64 (x145_1 + 1)), (by first | rfl | (simp; done) | (simp [*]; done)), H', ⟨by have := HK1.out; omega⟩, ⟨atS HO_11⟩, ⟨atR HO_15⟩, ⟨atS HO_143⟩, ⟨atB HB⟩⟩
                            ·replace c81 := Bool.eq_false_iff.mpr c81
                             subst c81
                             rw [if_neg (show ¬ (false = true) by decide)] at H
                             exact absurd ((Option.some.inj H).trans HT.out) (by decide)
                           ·replace c80 := Bool.eq_false_iff.mpr c80
                            subst c80
                            rw [if_neg (show ¬ (false = true) by decide)] at H
                            exact absurd ((Option.some.inj H).trans HT.out) (by decide)
                          ·replace c78 := Bool.eq_false_iff.mpr c78
                           subst c78
                           rw [if_neg (show ¬ (false = true) by decide)] at H
                           have H' := Aside0.mk H
                           clear H
                           have p221 : 0 ≤ (x145_1 : Int) := ofd
                           have q221 : x145_1 < (t199.length : Int) := ofd
                           obtain ⟨ad221, A221_0, c221_0, e221, hx221_0, hl221_0, hi221_0⟩ := at_L2 (Kd.S_reads' HO_143.out).2.2 x145_1 p221 q221
                           cases e221
                           obtain ⟨ce221, hce221, hMe221, hcc221⟩ := Kd.S_get HO_143.out [] x145_1 p221 (by first | exact q221 | exact of_decide_eq_true (by first | (with_reducible assumption) | assumption) | (have e_ := (Kd.S_reads' HO_143.out).1; omega))
                           obtain ⟨ve221_0, rfl, ge221_0⟩ := hMe221
                           have hv221_0 := hcc221 0 _ rfl
                           rw [Nat.add_zero, show ((Kd.slice 3 (Kd.int .i64))).sz = 1 from rfl, Nat.mul_one] at hv221_0
                           replace hv221_0 := Option.some.inj (hv221_0.symm.trans hx221_0)
                           rw [hv221_0] at ge221_0
                           have HL221_0 := Aside0.mk (show Kd.R (Kd.int .i64) 3 _ _ _ _ (rd_L2 t199 x145_1) from ge221_0)
                           clear hv221_0 ge221_0
                           clear hcc221 hce221
                           have HR221_0 := Aside0.mk hi221_0
                           have HC221_0 := Aside0.mk hl221_0
                           clear hi221_0 hl221_0
                           replace p221 := eq_true p221
                           replace q221 := eq_true q221
                           go_wp2_with (first | ((with_reducible refine gate_callee (f := 21) rfl ?_); refine goesA (some 152) Try.func21 #[.slice A221_0 (rd_L2 t199 x145_1).length c221_0] ?_; (with_reducible refine (impl_IsLangford.calls k1 _ _ (rd_L2 t199 x145_1) true true _ ?side1 ?side2 A41.out).mono ?_); (case side1 => exact atC HR221_0); (case side2 => exact HC221_0.out); rintro e w89 ⟨rfl, hb⟩; refine ⟨_, rfl, ?_⟩; replace HO_11 := upS HO_11 hb; replace HO_15 := upR HO_15 hb; replace HO_143 := upS HO_143 hb; replace HL221_0 := upR HL221_0 hb; replace HR221_0 := upC HR221_0 hb; replace HB := upB HB hb; (try clear hb); (try clear hb2); (try clear hk); (try clear hi)) | ((with_reducible refine gate_callee (f := 22) rfl ?_); refine goesA (some 157) Try.func22 #[.slice A221_0 (rd_L2 t199 x145_1).length c221_0] ?_; (with_reducible refine (impl_LeastOfLangford.calls k1 _ _ (rd_L2 t199 x145_1) t224 true _ ?side1 ?side2 A42.out).mono ?_); (case side1 => exact atC HR221_0); (case side2 => exact HC221_0.out); rintro e w90 ⟨rfl, hb⟩; refine ⟨_, rfl, ?_⟩; replace HO_11 := upS HO_11 hb; replace HO_15 := upR HO_15 hb; replace HO_143 := upS HO_143 hb; replace HL221_0 := upR HL221_0 hb; replace HR221_0 := upC HR221_0 hb; replace HB := upB HB hb; (try clear hb); (try clear hb2); (try clear hk); (try clear hi)) | (go_at_call 25; (with_reducible refine (laws_jBack.calls k1 _ _ (rd_L2 t199 x145_1) t232 _ ?side1 ?side2 A74.out).mono ?_); (case side1 => exact atC HR221_0); (case side2 => exact HC221_0.out); rintro e w91 ⟨v233, rfl, ho0, hb⟩; have HO234 := lowR ho0 HB; replace HO_11 := upS HO_11 hb; replace HO_15 := upR HO_15 hb; replace HO_143 := upS HO_143 hb; replace HL221_0 := upR HL221_0 hb; replace HR221_0 := upC HR221_0 hb; replace HB := upB HB hb; (try clear hb); (try clear hb2); (try clear hk); (try clear hi); (try clear ho0); obtain ⟨Ao92, co92, eo92⟩ := Kd.R_slice HO234.out; subst eo92) | (go_at_call 24; (with_reducible refine (laws_jIn.calls k1 _ _ t199 _ _ t232 true _ ?side1 ?side2 ?side3 ?side4 A75.out).mono ?_); (case side1 => exact atSC HO_11); (case side2 => exact (Kd.S_reads' HO_11.out).2.1); (case side3 => exact atRC HO234); (case side4 => exact (Kd.R_reads' HO234.out).2.1); rintro e w' ⟨rfl, ⟨nd, rfl⟩⟩; (try (rw [drewN_self w91]; generalize hq_ : World.drewN w91 _ = w91; have n0_ : Aside0 (Kd.R (Kd.int .i64) 3 w91 w.heap.size (fun k_ => some k_ ≠ (.slice (some ad221) t199.length co34 : Value).ownBlock) (.slice A221_0 (rd_L2 t199 x145_1).length c221_0) (rd_L2 t199 x145_1)) := ⟨by rw [← hq_]; exact (by (with_reducible repeat (first | apply Kd.R_alloc | apply Kd.R_drewN | apply Kd.R_drew)); exact Kd.R_mono HL221_0.out (fun _ hk => hk.2))⟩; have n1_ : Aside0 (Kd.R (Kd.int .i64) 3 w91 w.heap.size (fun _ => True) (.slice Ao92 t232.length co92) t232) := ⟨by rw [← hq_]; exact (atR HO234)⟩; have n2_ : Aside0 (Kd.S (Kd.slice 3 (Kd.int .i64)) 31 w91 w.heap.size (fun _ => True) (.slice (some ad221) t199.length co34) t199) := ⟨by rw [← hq_]; exact (atS HO_11)⟩; have n3_ : Aside0 (Kd.S (Kd.slice 3 (Kd.int .i64)) 31 w91 w.heap.size (fun _ => True) (.slice (some ad221) t199.length co34) t199) := ⟨by rw [← hq_]; exact (atS HO_143)⟩; have n4_ : Aside0 (Kd.R (Kd.int .i64) 3 w91 w.heap.size (fun _ => True) (.slice Ao36 t207.length co36) t207) := ⟨by rw [← hq_]; exact (atR HO_15)⟩; have n5_ : Aside0 (Below w.heap.size w w91) := ⟨by rw [← hq_]; exact (atB HB)⟩; have n6_ : Aside0 (Kd.C (Kd.int .i64) w91 A221_0 (rd_L2 t199 x145_1).length (rd_L2 t199 x145_1)) := ⟨by rw [← hq_]; exact (atC HR221_0)⟩; clear HL221_0 HO234 HO_11 HO_143 HO_15 HB HR221_0 hq_; have HL221_0 := n0_; have HO234 := n1_; have HO_11 := n2_; have HO_143 := n3_; have HO_15 := n4_; have HB := n5_; have HR221_0 := n6_; clear n0_ n1_ n2_ n3_ n4_ n5_ n6_))) | ((with_reducible refine gate_callee (f := 26) rfl ?_); refine goesA (some 205) Try.func26 #[.slice A221_0 (rd_L2 t199 x145_1).length c221_0, .int .i64 1] ?_; (with_reducible refine (impl_RaiseRow.calls k1 _ _ (rd_L2 t199 x145_1) 1 t242 false _ ?side1 ?side2 A77.out).mono ?_); (case side1 => exact atC HR221_0); (case side2 => exact HC221_0.out); rintro e w93 ⟨v244, rfl, ho0, hb⟩; refine ⟨_, rfl, ?_⟩; have HO245 := lowR ho0 HB; replace HO_11 := upS HO_11 hb; replace HO_15 := upR HO_15 hb; replace HO_143 := upS HO_143 hb; replace HL221_0 := upR HL221_0 hb; replace HO234 := upR HO234 hb; replace HR221_0 := upC HR221_0 hb; replace HB := upB HB hb; (try clear hb); (try clear hb2); (try clear hk); (try clear hi); (try clear ho0)))
                           go_roundg k1
                           case measure => have := HK1.out; omega
                           case rel => exact ⟨(wrap64 (x145_1 + 1)), (by first | rfl | (simp; done) | (simp [*]; done)), H', ⟨by have := HK1.out; omega⟩, ⟨atS HO_11⟩, ⟨atR HO_15⟩, ⟨atS HO_143⟩, ⟨atB HB⟩⟩
                         ·replace c76 := Bool.eq_false_iff.mpr c76
                          subst c76
                          rw [if_neg (show ¬ (false = true) by decide)] at H
                          exact absurd ((Option.some.inj H).trans HT.out) (by decide)
                       ·rw [if_neg c47] at H
                        have c47b0 : (((rd_L2 t199 x145_1).length : Int) == (wrap64 (2 * t193))) = false := beq_eq_false_iff_ne.mpr c47
                        have c47b1 : (((rd_L2 t199 x145_1).length : Int) != (wrap64 (2 * t193))) = true := bne_iff_ne.mpr c47
                        exact absurd ((Option.some.inj H).trans HT.out) (by decide)
                      ·rw [if_neg c46] at H
                       have c46b0 : (t224 == t194) = false := beq_eq_false_iff_ne.mpr c46
                       have c46b1 : (t224 != t194) = true := bne_iff_ne.mpr c46
                       exact absurd ((Option.some.inj H).trans HT.out) (by decide)
                     ·replace c45 := Bool.eq_false_iff.mpr c45
                      subst c45
                      rw [if_neg (show ¬ (false = true) by decide)] at H
                      exact absurd ((Option.some.inj H).trans HT.out) (by decide)
                    ·replace c44 := Bool.eq_false_iff.mpr c44
                     subst c44
                     rw [if_neg (show ¬ (false = true) by decide)] at H
                     exact absurd ((Option.some.inj H).trans HT.out) (by decide)
                   ·replace c43 := Bool.eq_false_iff.mpr c43
                    subst c43
                    rw [if_neg (show ¬ (false = true) by decide)] at H
                    exact absurd ((Option.some.inj H).trans HT.out) (by decide)
                  ·rw [if_neg c40] at H
                   exact absurd H (by simp)
                 ·rw [if_neg c39] at H
                  exact absurd H (by simp)
                ·rw [if_neg c38] at H
                 have c38b0 : decide (x145_1 < (t199.length : Int)) = false := decide_eq_false c38
                 clear c38
                 by_cases c94 : (t199.length : Int) = t195
                 ·rw [if_pos c94] at H
                  have c94b0 : ((t199.length : Int) == t195) = true := beq_iff_eq.mpr c94
                  have c94b1 : ((t199.length : Int) != t195) = false := bne_eq_false_iff_eq.mpr c94
                  clear c94
                  by_cases c95 : t195 > 0
                  ·rw [if_pos c95] at H
                   have c95b0 : decide (0 < t195) = true := decide_eq_true c95
                   clear c95
                   by_cases c96 : 0 < (t199.length : Int)
                   ·rw [if_pos c96] at H
                    have c96b0 : decide (0 < (t199.length : Int)) = true := decide_eq_true c96
                    have c96b1 : decide (0 < t199.length) = true := decide_eq_true (by omega)
                    clear c96
                    replace H := Option.bind_eq_some_iff.mp H
                    obtain ⟨t220, A970, H⟩ := H
                    (try dsimp only at H)
                    have A97 := Aside0.mk A970
                    clear A970
                    by_cases c98 : t220 = true
                    ·subst c98
                     rw [if_pos rfl] at H
                     obtain rfl := Option.some.inj H
                     have p219 : 0 ≤ (0 : Int) := (by omega)
                     have q219 : 0 < (t199.length : Int) := ofd
                     obtain ⟨ad219, A219_0, c219_0, e219, hx219_0, hl219_0, hi219_0⟩ := at_L2 (Kd.S_reads' HO_11.out).2.2 0 p219 q219
                     cases e219
                     obtain ⟨ce219, hce219, hMe219, hcc219⟩ := Kd.S_get HO_11.out [] 0 p219 (by first | exact q219 | exact of_decide_eq_true (by first | (with_reducible assumption) | assumption) | (have e_ := (Kd.S_reads' HO_11.out).1; omega))
                     obtain ⟨ve219_0, rfl, ge219_0⟩ := hMe219
                     have hv219_0 := hcc219 0 _ rfl
                     rw [Nat.add_zero, show ((Kd.slice 3 (Kd.int .i64))).sz = 1 from rfl, Nat.mul_one] at hv219_0
                     replace hv219_0 := Option.some.inj (hv219_0.symm.trans hx219_0)
                     rw [hv219_0] at ge219_0
                     have HL219_0 := Aside0.mk (show Kd.R (Kd.int .i64) 3 _ _ _ _ (rd_L2 t199 0) from ge219_0)
                     clear hv219_0 ge219_0
                     clear hcc219 hce219
                     have qi219 : (0 < t199.length) = True := eq_true (by omega)
                     (try rw [show ((0 : Int)).toNat = 0 from rfl] at hx219_0)
                     (try rw [Addr.add_zero'] at hx219_0)
                     have HR219_0 := Aside0.mk hi219_0
                     have HC219_0 := Aside0.mk hl219_0
                     clear hi219_0 hl219_0
                     replace p219 := eq_true p219
                     replace q219 := eq_true q219
                     go_wp2_with (first | (go_at_call 20; (with_reducible refine (laws_jSame.calls k1 _ _ (rd_L2 t199 0) _ _ t207 true _ ?side1 ?side2 ?side3 ?side4 A97.out).mono ?_); (case side1 => exact atC HR219_0); (case side2 => exact HC219_0.out); (case side3 => exact atRC HO_15); (case side4 => exact (Kd.R_reads' HO_15.out).2.1); rintro e w' ⟨rfl, ⟨nd, rfl⟩⟩))
                     go_ret
                     exact ⟨by first | rfl | (simp [errW_none, errW_some] <;> rfl) | (simp [*, errW_none, errW_some] <;> rfl), atB HB⟩
                    ·replace c98 := Bool.eq_false_iff.mpr c98
                     subst c98
                     rw [if_neg (show ¬ (false = true) by decide)] at H
                     exact absurd ((Option.some.inj H).trans HT.out) (by decide)
                   ·rw [if_neg c96] at H
                    exact absurd H (by simp)
                  ·rw [if_neg c95] at H
                   have c95b0 : decide (0 < t195) = false := decide_eq_false c95
                   clear c95
                   obtain rfl := Option.some.inj H
                   go_wp2
                   go_ret
                   exact ⟨by first | rfl | (simp [errW_none, errW_some] <;> rfl) | (simp [*, errW_none, errW_some] <;> rfl), atB HB⟩
                 ·rw [if_neg c94] at H
                  have c94b0 : ((t199.length : Int) == t195) = false := beq_eq_false_iff_ne.mpr c94
                  have c94b1 : ((t199.length : Int) != t195) = true := bne_iff_ne.mpr c94
                  exact absurd ((Option.some.inj H).trans HT.out) (by decide)
             ·replace c26 := Bool.eq_false_iff.mpr c26
              subst c26
              rw [if_neg (show ¬ (false = true) by decide)] at H
              obtain rfl := Option.some.inj H
              go_enter Try.func3, Try.ntmps3
              go_wp2_with (first | ((with_reducible refine gate_callee (f := 10) rfl ?_); refine goesA (some 33) Try.func10 #[.slice A0 l0.length c0, .slice A1 l1.length c1] ?_; (with_reducible refine (laws_big.calls _ _ l0 _ _ l1 false _ ?side1 ?side2 ?side3 ?side4 A3.out).mono ?_); (case side1 => repeat (first | exact HR0.out | (with_reducible refine Kd.C_alloc ?_ _) | (with_reducible refine Kd.C_drewN ?_ _) | (with_reducible refine Kd.C_drew ?_))); (case side2 => exact HC0.out); (case side3 => repeat (first | exact HR1.out | (with_reducible refine Kd.C_alloc ?_ _) | (with_reducible refine Kd.C_drewN ?_ _) | (with_reducible refine Kd.C_drew ?_))); (case side4 => exact HC1.out); rintro e w' ⟨rfl, ⟨nd, rfl⟩⟩; refine ⟨_, rfl, ?_⟩) | ((with_reducible refine gate_callee (f := 11) rfl ?_); refine goesA (some 36) Try.func11 #[.slice A0 l0.length c0] ?_; (with_reducible refine (spec_DrawAllLangford.calls _ _ l0 t193 t194 _ ?side1 ?side2 A5.out).mono ?_); (case side1 => repeat (first | exact HR0.out | (with_reducible refine Kd.C_alloc ?_ _) | (with_reducible refine Kd.C_drewN ?_ _) | (with_reducible refine Kd.C_drew ?_))); (case side2 => exact HC0.out); rintro e w99 ⟨rfl, hb⟩; refine ⟨_, rfl, ?_⟩; replace HB := upB HB hb; (try clear hb); (try clear hb2); (try clear hk); (try clear hi)) | ((with_reducible refine gate_callee (f := 12) rfl ?_); refine goesA (some 42) Try.func12 #[.int .i64 t193, .int .i64 t194] ?_; (with_reducible refine (impl_CountLangford.calls t193 t194 t195 true _ A6.out).mono ?_); rintro e w100 ⟨rfl, hb⟩; refine ⟨_, rfl, ?_⟩; replace HB := upB HB hb; (try clear hb); (try clear hb2); (try clear hk); (try clear hi)) | ((with_reducible refine gate_callee (f := 13) rfl ?_); refine goesA (some 48) Try.func13 #[.int .i64 t193, .int .i64 t194] ?_; (with_reducible refine (spec_CountLangford.calls t193 t194 t197 t198 _ A7.out).mono ?_); rintro e w101 ⟨rfl, hb⟩; refine ⟨_, rfl, ?_⟩; replace HB := upB HB hb; (try clear hb); (try clear hb2); (try clear hk); (try clear hi)) | ((with_reducible refine gate_callee (f := 14) rfl ?_); refine goesA (some 54) Try.func14 #[.int .i64 t193, .int .i64 t194] ?_; (with_reducible refine (impl_AllLangford.calls t193 t194 t199 false _ A8.out).mono ?_); rintro e w102 ⟨v201, rfl, ho0, hb⟩; refine ⟨_, rfl, ?_⟩; have HO202 := lowS ho0 HB; replace HB := upB HB hb; (try clear hb); (try clear hb2); (try clear hk); (try clear hi); (try clear ho0)) | ((with_reducible refine gate_callee (f := 15) rfl ?_); refine goesA (some 60) Try.func15 #[.int .i64 t193, .int .i64 t194] ?_; (with_reducible refine (spec_AllLangford.calls t193 t194 t203 t204 _ A9.out).mono ?_); rintro e w103 ⟨v205, rfl, ho0, hb⟩; refine ⟨_, rfl, ?_⟩; have HO206 := lowS ho0 HB; replace HO202 := upS HO202 hb; replace HB := upB HB hb; (try clear hb); (try clear hb2); (try clear hk); (try clear hi); (try clear ho0)) | ((with_reducible refine gate_callee (f := 16) rfl ?_); refine goesA (some 66) Try.func16 #[.int .i64 t193, .int .i64 t194] ?_; (with_reducible refine (impl_FirstLangford.calls t193 t194 t207 t208 _ A10.out).mono ?_); rintro e w104 ⟨v209, rfl, ho0, hb⟩; refine ⟨_, rfl, ?_⟩; have HO210 := lowR ho0 HB; replace HO202 := upS HO202 hb; replace HO206 := upS HO206 hb; replace HB := upB HB hb; (try clear hb); (try clear hb2); (try clear hk); (try clear hi); (try clear ho0)) | ((with_reducible refine gate_callee (f := 17) rfl ?_); refine goesA (some 72) Try.func17 #[.int .i64 t193, .int .i64 t194] ?_; (with_reducible refine (spec_FirstLangford.calls t193 t194 t211 t212 _ A11.out).mono ?_); rintro e w105 ⟨v213, rfl, ho0, hb⟩; refine ⟨_, rfl, ?_⟩; have HO214 := lowR ho0 HB; replace HO202 := upS HO202 hb; replace HO206 := upS HO206 hb; replace HO210 := upR HO210 hb; replace HB := upB HB hb; (try clear hb); (try clear hb2); (try clear hk); (try clear hi); (try clear ho0)) | ((with_reducible refine gate_callee (f := 18) rfl ?_); refine goesA (some 78) Try.func18 #[.int .i64 t193, .int .i64 t194] ?_; (with_reducible refine (impl_IsLangfordThere.calls k t193 t194 t215 true _ A12.out).mono ?_); rintro e w' ⟨rfl, ⟨nd, rfl⟩⟩; refine ⟨_, rfl, ?_⟩; obtain ⟨Ao106, co106, eo106⟩ := Kd.S_slice HO202.out; subst eo106; obtain ⟨Ao107, co107, eo107⟩ := Kd.S_slice HO206.out; subst eo107) | (go_at_call 19; (with_reducible refine (laws_jRows.calls k _ _ t199 _ _ t203 true _ ?side1 ?side2 ?side3 ?side4 A16.out).mono ?_); (case side1 => exact atSC HO202); (case side2 => exact (Kd.S_reads' HO202.out).2.1); (case side3 => exact atSC HO206); (case side4 => exact (Kd.S_reads' HO206.out).2.1); rintro e w' ⟨rfl, ⟨nd, rfl⟩⟩; obtain ⟨Ao108, co108, eo108⟩ := Kd.R_slice HO210.out; subst eo108; obtain ⟨Ao109, co109, eo109⟩ := Kd.R_slice HO214.out; subst eo109) | (go_at_call 20; (with_reducible refine (laws_jSame.calls k _ _ t207 _ _ t211 true _ ?side1 ?side2 ?side3 ?side4 A19.out).mono ?_); (case side1 => exact atRC HO210); (case side2 => exact (Kd.R_reads' HO210.out).2.1); (case side3 => exact atRC HO214); (case side4 => exact (Kd.R_reads' HO214.out).2.1); rintro e w' ⟨rfl, ⟨nd, rfl⟩⟩))
              go_ret
              exact ⟨by first | rfl | (simp [errW_none, errW_some] <;> rfl) | (simp [*, errW_none, errW_some] <;> rfl), atB HB⟩
           ·replace c24 := Bool.eq_false_iff.mpr c24
            subst c24
            rw [if_neg (show ¬ (false = true) by decide)] at H
            exact absurd ((Option.some.inj H).trans HT.out) (by decide)
        ·replace c21 := Bool.eq_false_iff.mpr c21
         subst c21
         rw [if_neg (show ¬ (false = true) by decide)] at H
         by_cases c110 : (t200 != false) = true
         ·rw [if_pos c110] at H
          have c110b0 : (t200 != false) = true := c110
          (try (have c110b1 : decide (t200 = false) = false := by simpa using c110))
          (try (have c110b2 : (t200 == false) = false := by simpa using c110))
          (try (have c110b3 : ¬ (t200 = false) := by simpa using c110))
          clear c110
          exact absurd ((Option.some.inj H).trans HT.out) (by decide)
         ·rw [if_neg c110] at H
          have c110b0 : (t200 != false) = false := by simpa using c110
          (try (have c110b1 : decide (t200 = false) = true := by simpa using c110))
          (try (have c110b2 : (t200 == false) = true := by simpa using c110))
          clear c110
          by_cases c111 : (t208 != false) = true
          ·rw [if_pos c111] at H
           have c111b0 : (t208 != false) = true := c111
           (try (have c111b1 : decide (t208 = false) = false := by simpa using c111))
           (try (have c111b2 : (t208 == false) = false := by simpa using c111))
           (try (have c111b3 : ¬ (t208 = false) := by simpa using c111))
           clear c111
           exact absurd ((Option.some.inj H).trans HT.out) (by decide)
          ·rw [if_neg c111] at H
           have c111b0 : (t208 != false) = false := by simpa using c111
           (try (have c111b1 : decide (t208 = false) = true := by simpa using c111))
           (try (have c111b2 : (t208 == false) = true := by simpa using c111))
           clear c111
           by_cases c112 : t200 = true
           ·subst c112
            exact absurd c110b0 (by decide)
           ·replace c112 := Bool.eq_false_iff.mpr c112
            subst c112
            rw [if_neg (show ¬ (false = true) by decide)] at H
            obtain rfl := Option.some.inj H
            go_enter Try.func3, Try.ntmps3
            go_wp2_with (first | ((with_reducible refine gate_callee (f := 10) rfl ?_); refine goesA (some 33) Try.func10 #[.slice A0 l0.length c0, .slice A1 l1.length c1] ?_; (with_reducible refine (laws_big.calls _ _ l0 _ _ l1 false _ ?side1 ?side2 ?side3 ?side4 A3.out).mono ?_); (case side1 => repeat (first | exact HR0.out | (with_reducible refine Kd.C_alloc ?_ _) | (with_reducible refine Kd.C_drewN ?_ _) | (with_reducible refine Kd.C_drew ?_))); (case side2 => exact HC0.out); (case side3 => repeat (first | exact HR1.out | (with_reducible refine Kd.C_alloc ?_ _) | (with_reducible refine Kd.C_drewN ?_ _) | (with_reducible refine Kd.C_drew ?_))); (case side4 => exact HC1.out); rintro e w' ⟨rfl, ⟨nd, rfl⟩⟩; refine ⟨_, rfl, ?_⟩) | ((with_reducible refine gate_callee (f := 11) rfl ?_); refine goesA (some 36) Try.func11 #[.slice A0 l0.length c0] ?_; (with_reducible refine (spec_DrawAllLangford.calls _ _ l0 t193 t194 _ ?side1 ?side2 A5.out).mono ?_); (case side1 => repeat (first | exact HR0.out | (with_reducible refine Kd.C_alloc ?_ _) | (with_reducible refine Kd.C_drewN ?_ _) | (with_reducible refine Kd.C_drew ?_))); (case side2 => exact HC0.out); rintro e w185 ⟨rfl, hb⟩; refine ⟨_, rfl, ?_⟩; replace HB := upB HB hb; (try clear hb); (try clear hb2); (try clear hk); (try clear hi)) | ((with_reducible refine gate_callee (f := 12) rfl ?_); refine goesA (some 42) Try.func12 #[.int .i64 t193, .int .i64 t194] ?_; (with_reducible refine (impl_CountLangford.calls t193 t194 t195 false _ A6.out).mono ?_); rintro e w186 ⟨rfl, hb⟩; refine ⟨_, rfl, ?_⟩; replace HB := upB HB hb; (try clear hb); (try clear hb2); (try clear hk); (try clear hi)) | ((with_reducible refine gate_callee (f := 13) rfl ?_); refine goesA (some 48) Try.func13 #[.int .i64 t193, .int .i64 t194] ?_; (with_reducible refine (spec_CountLangford.calls t193 t194 t197 t198 _ A7.out).mono ?_); rintro e w187 ⟨rfl, hb⟩; refine ⟨_, rfl, ?_⟩; replace HB := upB HB hb; (try clear hb); (try clear hb2); (try clear hk); (try clear hi)) | ((with_reducible refine gate_callee (f := 14) rfl ?_); refine goesA (some 54) Try.func14 #[.int .i64 t193, .int .i64 t194] ?_; (with_reducible refine (impl_AllLangford.calls t193 t194 t199 false _ A8.out).mono ?_); rintro e w188 ⟨v201, rfl, ho0, hb⟩; refine ⟨_, rfl, ?_⟩; have HO202 := lowS ho0 HB; replace HB := upB HB hb; (try clear hb); (try clear hb2); (try clear hk); (try clear hi); (try clear ho0)) | ((with_reducible refine gate_callee (f := 15) rfl ?_); refine goesA (some 60) Try.func15 #[.int .i64 t193, .int .i64 t194] ?_; (with_reducible refine (spec_AllLangford.calls t193 t194 t203 t204 _ A9.out).mono ?_); rintro e w189 ⟨v205, rfl, ho0, hb⟩; refine ⟨_, rfl, ?_⟩; have HO206 := lowS ho0 HB; replace HO202 := upS HO202 hb; replace HB := upB HB hb; (try clear hb); (try clear hb2); (try clear hk); (try clear hi); (try clear ho0)) | ((with_reducible refine gate_callee (f := 16) rfl ?_); refine goesA (some 66) Try.func16 #[.int .i64 t193, .int .i64 t194] ?_; (with_reducible refine (impl_FirstLangford.calls t193 t194 t207 t208 _ A10.out).mono ?_); rintro e w190 ⟨v209, rfl, ho0, hb⟩; refine ⟨_, rfl, ?_⟩; have HO210 := lowR ho0 HB; replace HO202 := upS HO202 hb; replace HO206 := upS HO206 hb; replace HB := upB HB hb; (try clear hb); (try clear hb2); (try clear hk); (try clear hi); (try clear ho0)) | ((with_reducible refine gate_callee (f := 17) rfl ?_); refine goesA (some 72) Try.func17 #[.int .i64 t193, .int .i64 t194] ?_; (with_reducible refine (spec_FirstLangford.calls t193 t194 t211 t212 _ A11.out).mono ?_); rintro e w191 ⟨v213, rfl, ho0, hb⟩; refine ⟨_, rfl, ?_⟩; have HO214 := lowR ho0 HB; replace HO202 := upS HO202 hb; replace HO206 := upS HO206 hb; replace HO210 := upR HO210 hb; replace HB := upB HB hb; (try clear hb); (try clear hb2); (try clear hk); (try clear hi); (try clear ho0)) | ((with_reducible refine gate_callee (f := 18) rfl ?_); refine goesA (some 78) Try.func18 #[.int .i64 t193, .int .i64 t194] ?_; (with_reducible refine (impl_IsLangfordThere.calls k t193 t194 t215 t216 _ A12.out).mono ?_); rintro e w' ⟨rfl, ⟨nd, rfl⟩⟩; refine ⟨_, rfl, ?_⟩; obtain ⟨Ao192, co192, eo192⟩ := Kd.S_slice HO202.out; subst eo192; obtain ⟨Ao193, co193, eo193⟩ := Kd.S_slice HO206.out; subst eo193) | (go_at_call 19; (with_reducible refine (laws_jRows.calls k _ _ t199 _ _ t203 true _ ?side1 ?side2 ?side3 ?side4 A16.out).mono ?_); (case side1 => exact atSC HO202); (case side2 => exact (Kd.S_reads' HO202.out).2.1); (case side3 => exact atSC HO206); (case side4 => exact (Kd.S_reads' HO206.out).2.1); rintro e w' ⟨rfl, ⟨nd, rfl⟩⟩; obtain ⟨Ao194, co194, eo194⟩ := Kd.R_slice HO210.out; subst eo194; obtain ⟨Ao195, co195, eo195⟩ := Kd.R_slice HO214.out; subst eo195) | (go_at_call 20; (with_reducible refine (laws_jSame.calls k _ _ t207 _ _ t211 true _ ?side1 ?side2 ?side3 ?side4 A19.out).mono ?_); (case side1 => exact atRC HO210); (case side2 => exact (Kd.R_reads' HO210.out).2.1); (case side3 => exact atRC HO214); (case side4 => exact (Kd.R_reads' HO214.out).2.1); rintro e w' ⟨rfl, ⟨nd, rfl⟩⟩))
            go_ret
            exact ⟨by first | rfl | (simp [errW_none, errW_some] <;> rfl) | (simp [*, errW_none, errW_some] <;> rfl), atB HB⟩
       ·replace c20 := Bool.eq_false_iff.mpr c20
        subst c20
        rw [if_neg (show ¬ (false = true) by decide)] at H
        exact absurd ((Option.some.inj H).trans HT.out) (by decide)
     ·replace c17 := Bool.eq_false_iff.mpr c17
      subst c17
      rw [if_neg (show ¬ (false = true) by decide)] at H
      exact absurd ((Option.some.inj H).trans HT.out) (by decide)
   ·rw [if_neg c14] at H
    have c14b0 : (t195 == t197) = false := beq_eq_false_iff_ne.mpr c14
    have c14b1 : (t195 != t197) = true := bne_iff_ne.mpr c14
    exact absurd ((Option.some.inj H).trans HT.out) (by decide)

/-- The statement of laws_FnLangfordThere over numbers and lists. -/
def laws_FnLangfordThere.Pure : Prop := ∀ (l0 : List Int) (l1 : List Int), l0.length ≤ maxLen → l0.length * 1 ≤ 140737488351232 → (∀ x ∈ l0, (Lit.int .u8 x).wf = true) → l1.length ≤ maxLen → l1.length * 1 ≤ 140737488351232 → (∀ x ∈ l1, (Lit.int .u8 x).wf = true) → ∃ k, laws_FnLangfordThere.f k l0 l1 = some true
theorem laws_FnLangfordThere.walk (P : laws_FnLangfordThere.Pure) (a0 : Option Addr) (len0 cap0 : Nat) (z0 : List Int) (a1 : Option Addr) (len1 cap1 : Nat) (z1 : List Int) (w : World) (w0 : (a0 = none ∧ len0 = 0 ∧ cap0 = 0 ∧ z0 = []) ∨ ∃ x, a0 = some x ∧ len0 ≤ cap0 ∧ cap0 ≤ maxLen ∧ z0.length = cap0 ∧ (∀ i, i < z0.length → w.cell? (x.add i) = some (.int .u8 (z0.getD i 0))) ∧ ∀ n ∈ z0, (Lit.int .u8 n).wf = true) (y0 : len0 * 1 ≤ 140737488351232) (w1 : (a1 = none ∧ len1 = 0 ∧ cap1 = 0 ∧ z1 = []) ∨ ∃ x, a1 = some x ∧ len1 ≤ cap1 ∧ cap1 ≤ maxLen ∧ z1.length = cap1 ∧ (∀ i, i < z1.length → w.cell? (x.add i) = some (.int .u8 (z1.getD i 0))) ∧ ∀ n ∈ z1, (Lit.int .u8 n).wf = true) (y1 : len1 * 1 ≤ 140737488351232) :
  Calls Try.prog 3 #[.slice a0 len0 cap0, .slice a1 len1 cap1] w fun e w' => e = .returned (.bool true) ∧ Below w.heap.size w w' := by
 obtain ⟨l0, rfl, hr0, hm0, hw0, hc0⟩ := ReadsInt.ofRowC w0
 obtain ⟨l1, rfl, hr1, hm1, hw1, hc1⟩ := ReadsInt.ofRowC w1
 obtain ⟨k, h⟩ := P l0 l1 hm0 y0 hw0 hm1 y1 hw1
 refine (laws_FnLangfordThere.calls k _ _ l0 _ _ l1 true w (Kd.C_of_reads (d := (0 : Int)) (h1 := fun _ => rfl) hr0) hc0 (Kd.C_of_reads (d := (0 : Int)) (h1 := fun _ => rfl) hr1) hc1 rfl h).mono ?_
 rintro e w' ⟨rfl, hd⟩
 exact ⟨rfl, hd⟩

noncomputable def laws_FnLangfordThere.L0 (x5 : Int) (x6 : Int) (x7 : Int) (x11 : List (List Int)) (x15 : List Int) (x143 : List (List Int)) (x144 : Int) (x145 : Int) : Option (Bool) := lim fun k => laws_FnLangfordThere.l0 k x5 x6 x7 x11 x15 x143 x144 x145
theorem laws_FnLangfordThere.L0_lim (x5 : Int) (x6 : Int) (x7 : Int) (x11 : List (List Int)) (x15 : List Int) (x143 : List (List Int)) (x144 : Int) (x145 : Int) : Lim (fun k => laws_FnLangfordThere.l0 k x5 x6 x7 x11 x15 x143 x144 x145) (laws_FnLangfordThere.L0 x5 x6 x7 x11 x15 x143 x144 x145) := Lim.of fun k => (laws_FnLangfordThere.mono_l k) x5 x6 x7 x11 x15 x143 x144 x145
noncomputable def laws_FnLangfordThere.F (l0 : List Int) (l1 : List Int) : Option (Bool) := lim fun k => laws_FnLangfordThere.f k l0 l1
theorem laws_FnLangfordThere.F_lim (l0 : List Int) (l1 : List Int) : Lim (fun k => laws_FnLangfordThere.f k l0 l1) (laws_FnLangfordThere.F l0 l1) := Lim.of fun k => laws_FnLangfordThere.mono l0 l1 k
theorem laws_FnLangfordThere.L0_eq (x5 : Int) (x6 : Int) (x7 : Int) (x11 : List (List Int)) (x15 : List Int) (x143 : List (List Int)) (x144 : Int) (x145 : Int) : laws_FnLangfordThere.L0 x5 x6 x7 x11 x15 x143 x144 x145 = (if x145 < x144 then (if 0 ≤ x145 then (if x145 < (x143.length : Int) then ((impl_IsLangford.F (rd_L2 x143 x145)).bind fun bt222 => ((impl_LeastOfLangford.F (rd_L2 x143 x145)).bind fun bt224 => (if bt222.2 = true then (if bt222.1 = true then (if bt224.2 = true then (if bt224.1 = x6 then (if ((rd_L2 x143 x145).length : Int) = (wrap64 (2 * x5)) then (if x145 > 0 then (if 0 ≤ (wrap64 (x145 - 1)) then (if (wrap64 (x145 - 1)) < (x11.length : Int) then ((laws_jLess.F (rd_L2 x11 (wrap64 (x145 - 1))) (rd_L2 x143 x145)).bind fun t227 => (if t227 = true then ((laws_jBack.F (rd_L2 x143 x145)).bind fun t228 => ((laws_jIn.F x11 t228).bind fun t231 => (if t231 = true then ((impl_RaiseRow.F (rd_L2 x143 x145) 1).bind fun bt236 => (if bt236.2 = true then ((impl_FitsShift.F bt236.1 0).bind fun bt240 => (if bt240.2 = true then (if bt240.1 = true then (laws_FnLangfordThere.L0 x5 x6 x7 x11 x15 x143 x144 (wrap64 (x145 + 1))) else (some false)) else (some false))) else (laws_FnLangfordThere.L0 x5 x6 x7 x11 x15 x143 x144 (wrap64 (x145 + 1))))) else (some false)))) else (some false))) else (none)) else (none)) else ((laws_jBack.F (rd_L2 x143 x145)).bind fun t232 => ((laws_jIn.F x11 t232).bind fun t235 => (if t235 = true then ((impl_RaiseRow.F (rd_L2 x143 x145) 1).bind fun bt242 => (if bt242.2 = true then ((impl_FitsShift.F bt242.1 0).bind fun bt246 => (if bt246.2 = true then (if bt246.1 = true then (laws_FnLangfordThere.L0 x5 x6 x7 x11 x15 x143 x144 (wrap64 (x145 + 1))) else (some false)) else (some false))) else (laws_FnLangfordThere.L0 x5 x6 x7 x11 x15 x143 x144 (wrap64 (x145 + 1))))) else (some false))))) else (some false)) else (some false)) else (some false)) else (some false)) else (some false)))) else (none)) else (none)) else (if (x11.length : Int) = x7 then (if x7 > 0 then (if 0 < (x11.length : Int) then ((laws_jSame.F (rd_L2 x11 0) x15).bind fun t220 => (if t220 = true then (some true) else (some false))) else (none)) else (some true)) else (some false))) :=
 Lim.step (f := fun k => laws_FnLangfordThere.l0 (k + 1) x5 x6 x7 x11 x15 x143 x144 x145) (laws_FnLangfordThere.L0_lim x5 x6 x7 x11 x15 x143 x144 x145) (fun _ => rfl) (by
  simp only [laws_FnLangfordThere.l0]
  repeat' (first | (with_reducible first | exact Lim.const _ | exact impl_FitsShift.F_lim _ _ | exact impl_IsLangford.F_lim _ | exact impl_LeastOfLangford.F_lim _ | exact impl_RaiseRow.F_lim _ _ | exact laws_FnLangfordThere.L0_lim _ _ _ _ _ _ _ _ | exact laws_jBack.F_lim _ | exact laws_jIn.F_lim _ _ | exact laws_jLess.F_lim _ _ | exact laws_jSame.F_lim _ _ | refine Lim.ite ?_ ?_ | refine Lim.bind ?_ (fun _ => ?_))))
theorem laws_FnLangfordThere.F_eq (l0 : List Int) (l1 : List Int) : laws_FnLangfordThere.F l0 l1 = ((laws_big.f l0 l1).bind fun t192 => (if t192 = true then (some true) else ((spec_DrawAllLangford.f l0).bind fun bt193 => ((impl_CountLangford.f bt193.1 bt193.2).bind fun bt195 => ((spec_CountLangford.f bt193.1 bt193.2).bind fun bt197 => ((impl_AllLangford.f bt193.1 bt193.2).bind fun bt199 => ((spec_AllLangford.f bt193.1 bt193.2).bind fun bt203 => ((impl_FirstLangford.f bt193.1 bt193.2).bind fun bt207 => ((spec_FirstLangford.f bt193.1 bt193.2).bind fun bt211 => ((impl_IsLangfordThere.F bt193.1 bt193.2).bind fun bt215 => (if (bt195.2 != bt197.2) = true then (some false) else (if bt195.1 = bt197.1 then (if (bt199.2 != bt203.2) = true then (some false) else ((laws_jRows.F bt199.1 bt203.1).bind fun t217 => (if t217 = true then (if (bt207.2 != bt211.2) = true then (some false) else ((laws_jSame.F bt207.1 bt211.1).bind fun t218 => (if t218 = true then (if bt195.2 = true then (if (bt199.2 != (decide (bt195.1 ≤ 600))) = true then (some false) else (if (bt207.2 != (decide (bt195.1 > 0))) = true then (some false) else (if bt215.2 = true then (if (bt215.1 != (decide (bt195.1 > 0))) = true then (some false) else (if bt199.2 = true then (laws_FnLangfordThere.L0 bt193.1 bt193.2 bt195.1 bt199.1 bt207.1 bt199.1 (bt199.1.length : Int) 0) else (some true))) else (some false)))) else (if (bt199.2 != false) = true then (some false) else (if (bt207.2 != false) = true then (some false) else (if bt199.2 = true then (laws_FnLangfordThere.L0 bt193.1 bt193.2 bt195.1 bt199.1 bt207.1 bt199.1 (bt199.1.length : Int) 0) else (some true))))) else (some false)))) else (some false)))) else (some false))))))))))))) :=
 Lim.unique (laws_FnLangfordThere.F_lim l0 l1) (by
  unfold laws_FnLangfordThere.f
  repeat' (first | (with_reducible first | exact Lim.const _ | exact impl_IsLangfordThere.F_lim _ _ | exact laws_FnLangfordThere.L0_lim _ _ _ _ _ _ _ _ | exact laws_jRows.F_lim _ _ | exact laws_jSame.F_lim _ _ | refine Lim.ite ?_ ?_ | refine Lim.bind ?_ (fun _ => ?_))))

end Go.Proofs.Ytaohgllnoomaeaa.Fn
namespace Go.Proofs.Ytaohgllnoomaeaa.Fn
open Go.RowKit Go.Proofs.YtaohgllnoomaeaaW.PrintWords Go.Proofs.YtaohgllnoomaeaaW.PrintLast Go.Proofs.YtaohgllnoomaeaaW.PrintMore
set_option linter.unusedVariables false
set_option linter.unusedSimpArgs false
/-- A list of at most 40 numbers in 0..20. -/
def isRow (l : List Int) : Bool := decide (l.length ≤ 40) && l.all (fun x => decide (0 ≤ x) && decide (x ≤ 20))
theorem isRow_len {l : List Int} (h : isRow l = true) : l.length ≤ 40 := by
  unfold isRow at h
  simp only [Bool.and_eq_true, decide_eq_true_eq] at h
  exact h.1
theorem isRow_mem {l : List Int} (h : isRow l = true) {x : Int} (hx : x ∈ l) : 0 ≤ x ∧ x ≤ 20 := by
  unfold isRow at h
  simp only [Bool.and_eq_true, decide_eq_true_eq, List.all_eq_true] at h
  exact h.2 x hx
theorem slices_Clone_int_int.f_val (l : List Int) (h : l.length < 17592186044416) : slices_Clone_int_int.f l = some l := by
  unfold slices_Clone_int_int.f
  rw [if_pos h]
theorem impl_IsRow.L0_val (l : List Int) : ∀ (suf pre : List Int), (pre ++ suf).length < 4611686018427387904 → impl_IsRow.L0 l (pre ++ suf) ((pre ++ suf).length : Int) (pre.length : Int) = some (suf.all (fun x => decide (0 ≤ x) && decide (x ≤ 20)) && decide (l.length ≤ 40))
  | [], pre, h => by
    rw [impl_IsRow.L0_eq, range_end]
    simp
    omega
  | x :: suf, pre, h => by
    rw [impl_IsRow.L0_eq, range_step, rd_mid, wrap_mid h]
    by_cases h1 : x < 0
    · have : ¬ 0 ≤ x := by omega
      rw [if_pos h1]
      simp [this]
    · have h1' : 0 ≤ x := by omega
      rw [if_neg h1]
      by_cases h2 : x > 20
      · have : ¬ x ≤ 20 := by omega
        rw [if_pos h2]
        simp [this]
      · have h2' : x ≤ 20 := by omega
        rw [if_neg h2, app_mid, impl_IsRow.L0_val l suf (pre ++ [x]) (by simpa using h)]
        simp [h1', h2']
theorem impl_IsRow.F_val (l : List Int) (h : l.length < 4611686018427387904) : impl_IsRow.F l = some (isRow l) := by
  rw [impl_IsRow.F_eq]
  have := impl_IsRow.L0_val l l [] (by simpa using h)
  simp only [List.nil_append, List.length_nil] at this
  rw [isRow, Bool.and_comm]
  exact this
end Go.Proofs.Ytaohgllnoomaeaa.Fn
namespace Go.Proofs.Ytaohgllnoomaeaa.Fn
open Go.RowKit Go.Proofs.YtaohgllnoomaeaaW.PrintWords Go.Proofs.YtaohgllnoomaeaaW.PrintLast Go.Proofs.YtaohgllnoomaeaaW.PrintMore
set_option linter.unusedVariables false
set_option linter.unusedSimpArgs false
theorem placesFrom_count (n : Int) : ∀ (l : List Int) (i : Nat), (placesFrom n i l).length = l.count n
  | [], i => by simp [placesFrom]
  | x :: l, i => by
    have ih := placesFrom_count n l (i + 1)
    by_cases h : x = n
    · subst h
      simp [placesFrom, ih]
    · simp [placesFrom, h, ih]
theorem placesOf_count (l : List Int) (n : Int) : (placesOf l n).length = l.count n := placesFrom_count n l 0
theorem pairsOk_eq (l : List Int) : pairsOk l = (List.range' 1 20).all fun k => (placesOf l (k : Nat)).length == 0 || (placesOf l (k : Nat)).length == 2 := by
  unfold pairsOk
  rw [show List.range 21 = 0 :: List.range' 1 20 from rfl, List.all_cons]
  simp only [atOf, if_true, List.length_nil, beq_self_eq_true, Bool.true_or, Bool.true_and]
  rw [Bool.eq_iff_iff, List.all_eq_true, List.all_eq_true]
  have hk : ∀ k, k ∈ List.range' 1 20 → ¬ k = 0 := fun k hk => by have := List.mem_range'_1.1 hk; omega
  exact ⟨fun H k h => by have := H k h; rw [if_neg (hk k h)] at this; exact this, fun H k h => by rw [if_neg (hk k h)]; exact H k h⟩
theorem pairsOk_count {l : List Int} (h : pairsOk l = true) (k : Nat) (h1 : 1 ≤ k) (h2 : k ≤ 20) : l.count (k : Int) = 0 ∨ l.count (k : Int) = 2 := by
  rw [pairsOk_eq, List.all_eq_true] at h
  have := h k (List.mem_range'_1.2 (by omega))
  rw [placesOf_count] at this
  simpa using this
/-- The numbers of a row, from n on, m of them looked at. -/
def numbersFrom (l : List Int) (n m : Nat) : List Int := ((List.range' n m).filter (fun k : Nat => decide ((k : Int) ∈ l))).map (fun k : Nat => (k : Int))
def numbersOf (l : List Int) : List Int := numbersFrom l 1 20
theorem numbersFrom_length (l : List Int) (n m : Nat) : (numbersFrom l n m).length ≤ m := by
  unfold numbersFrom
  have := List.length_filter_le (fun k : Nat => decide ((k : Int) ∈ l)) (List.range' n m)
  simp at this ⊢
  exact this
theorem mem_numbersOf (l : List Int) (v : Int) : v ∈ numbersOf l ↔ v ∈ l ∧ 1 ≤ v ∧ v ≤ 20 := by
  simp only [numbersOf, numbersFrom, List.mem_map, List.mem_filter, List.mem_range'_1, decide_eq_true_eq]
  constructor
  · rintro ⟨k, ⟨hi, hk⟩, rfl⟩
    exact ⟨hk, by omega, by omega⟩
  · rintro ⟨h, h1, h2⟩
    refine ⟨v.toNat, ⟨by omega, ?_⟩, by omega⟩
    rwa [Int.toNat_of_nonneg (by omega)]
theorem fitsAt_eq (l : List Int) (s : Int) (h : pairsOk l = true) : fitsAt l s = (numbersOf l).all fun v => wrap64 (rd (placesOf l v) 1 - rd (placesOf l v) 0) == wrap64 (v + s) := by
  unfold fitsAt
  rw [Bool.eq_iff_iff, List.all_eq_true, List.all_eq_true]
  constructor
  · intro H v hv
    obtain ⟨h1, h2, h3⟩ := (mem_numbersOf l v).1 hv
    obtain ⟨k, rfl⟩ : ∃ k : Nat, v = (k : Int) := ⟨v.toNat, by omega⟩
    have hk := H k (by simp; omega)
    have hz : ¬ k = 0 := by omega
    rw [atOf, if_neg hz, placesOf_count] at hk
    have h5 : 0 < l.count (k : Int) := List.count_pos_iff.2 h1
    rcases pairsOk_count h k (by omega) (by omega) with h4 | h4
    · omega
    · rw [h4] at hk
      simpa using hk
  · intro H k hk
    by_cases hz : k = 0
    · subst hz
      rfl
    · rw [atOf, if_neg hz, placesOf_count]
      by_cases h4 : l.count (k : Int) = 2
      · have h5 : (k : Int) ∈ l := List.count_pos_iff.1 (by omega)
        have := H k ((mem_numbersOf l k).2 ⟨h5, by omega, by simp at hk; omega⟩)
        rw [h4]
        simpa using this
      · rw [beq_false_of_ne h4]
        rfl
/-- A row in which each number stands twice or not at all. -/
def isPairs (l : List Int) : Bool := isRow l && pairsOk l
theorem isPairs_row {l : List Int} (h : isPairs l = true) : isRow l = true := by
  unfold isPairs at h
  exact (Bool.and_eq_true_iff.1 h).1
theorem isPairs_ok {l : List Int} (h : isPairs l = true) : pairsOk l = true := by
  unfold isPairs at h
  exact (Bool.and_eq_true_iff.1 h).2
theorem spec_roPlaces.L0_val (n : Int) : ∀ (suf pre acc : List Int), (pre ++ suf).length < 4611686018427387904 → acc.length + suf.length < 17592186044416 → spec_roPlaces.L0 n acc (pre ++ suf) ((pre ++ suf).length : Int) (pre.length : Int) = some (acc ++ placesFrom n pre.length suf)
  | [], pre, acc, h, ha => by
    rw [spec_roPlaces.L0_eq, range_end]
    simp [placesFrom]
  | x :: suf, pre, acc, h, ha => by
    have ha' : acc.length + (suf.length + 1) < 17592186044416 := by simpa using ha
    have e : (pre ++ [x]).length = pre.length + 1 := by simp
    rw [spec_roPlaces.L0_eq, range_step, rd_mid, wrap_mid h, app_mid pre x suf]
    by_cases h1 : x = n
    · rw [if_pos h1, if_pos (by omega), spec_roPlaces.L0_val n suf (pre ++ [x]) _ (by simpa using h) (by simp; omega), e]
      simp [placesFrom, h1]
    · rw [if_neg h1, spec_roPlaces.L0_val n suf (pre ++ [x]) _ (by simpa using h) (by omega), e]
      simp [placesFrom, h1]
theorem spec_roPlaces.F_val (l : List Int) (n : Int) (h : l.length < 17592186044416) : spec_roPlaces.F l n = some (placesOf l n) := by
  rw [spec_roPlaces.F_eq]
  have := spec_roPlaces.L0_val n l [] [] (by simp; omega) (by simpa using h)
  simpa [placesOf] using this
theorem impl_isPairs.F_val (l : List Int) (h : l.length < 4611686018427387904) : impl_isPairs.F l = some (isPairs l) := by
  rw [impl_isPairs.F_eq, impl_IsRow.F_val l h]
  simp only [Option.bind_some]
  unfold isPairs
  by_cases h1 : isRow l = true
  · rw [if_pos h1, h1]
    rfl
  · rw [if_neg h1, Bool.eq_false_iff.2 h1]
    rfl
theorem impl_fits.F_val (l : List Int) (s : Int) (h : l.length < 4611686018427387904) : impl_fits.F l s = some (isPairs l && fitsAt l s) := by
  rw [impl_fits.F_eq, impl_isPairs.F_val l h]
  simp only [Option.bind_some]
  by_cases h1 : isPairs l = true
  · rw [if_pos h1, h1]
    rfl
  · rw [if_neg h1, Bool.eq_false_iff.2 h1]
    rfl
theorem spec_l1Has.L0_val (n : Int) : ∀ (suf pre : List Int), (pre ++ suf).length < 4611686018427387904 → spec_l1Has.L0 n (pre ++ suf) ((pre ++ suf).length : Int) (pre.length : Int) = some (decide (n ∈ suf))
  | [], pre, h => by
    rw [spec_l1Has.L0_eq, range_end]
    simp
  | x :: suf, pre, h => by
    rw [spec_l1Has.L0_eq, range_step, rd_mid, wrap_mid h, app_mid pre x suf, spec_l1Has.L0_val n suf (pre ++ [x]) (by simpa using h)]
    by_cases h1 : x = n
    · rw [if_pos h1]
      simp [h1]
    · rw [if_neg h1]
      have : ¬ n = x := fun h => h1 h.symm
      simp [this]
theorem spec_l1Has.F_val (l : List Int) (n : Int) (h : l.length < 4611686018427387904) : spec_l1Has.F l n = some (decide (n ∈ l)) := by
  rw [spec_l1Has.F_eq]
  have := spec_l1Has.L0_val n l [] (by simpa using h)
  simpa using this
/-- The first place of a number, the first one counted as i; -1 where it does not stand. -/
def indexFrom (n : Int) : Nat → List Int → Int
  | _, [] => -1
  | i, x :: l => if n = x then (i : Int) else indexFrom n (i + 1) l
theorem indexFrom_mem (n : Int) : ∀ (l : List Int) (i : Nat), 0 ≤ indexFrom n i l ↔ n ∈ l
  | [], i => by simp [indexFrom]
  | x :: l, i => by
    have ih := indexFrom_mem n l (i + 1)
    by_cases h : n = x
    · simp [indexFrom, h]
    · simp [indexFrom, h, ih]
theorem slices_Index_int_int.L0_val (n : Int) : ∀ (suf pre : List Int), (pre ++ suf).length < 4611686018427387904 → slices_Index_int_int.L0 (pre ++ suf) n ((pre ++ suf).length : Int) (pre.length : Int) = some (indexFrom n pre.length suf)
  | [], pre, h => by
    rw [slices_Index_int_int.L0_eq, range_end]
    rfl
  | x :: suf, pre, h => by
    have e : (pre ++ [x]).length = pre.length + 1 := by simp
    rw [slices_Index_int_int.L0_eq, range_step, rd_mid, wrap_mid h, app_mid pre x suf, slices_Index_int_int.L0_val n suf (pre ++ [x]) (by simpa using h), e, indexFrom]
    split <;> rfl
theorem slices_Index_int_int.F_val (l : List Int) (n : Int) (h : l.length < 4611686018427387904) : slices_Index_int_int.F l n = some (indexFrom n 0 l) := by
  rw [slices_Index_int_int.F_eq]
  have := slices_Index_int_int.L0_val n l [] (by simpa using h)
  simpa using this
theorem slices_Contains_int_int.F_val (l : List Int) (n : Int) (h : l.length < 4611686018427387904) : slices_Contains_int_int.F l n = some (decide (n ∈ l)) := by
  rw [slices_Contains_int_int.F_eq, slices_Index_int_int.F_val l n h]
  simp only [Option.bind_some]
  have := indexFrom_mem n l 0
  congr 1
  rw [decide_eq_decide]
  exact this
theorem spec_roNumbers.L0_val (l : List Int) (hl : l.length < 4611686018427387904) : ∀ (m n : Nat) (acc : List Int), n + m = 21 → acc.length + m < 100 → spec_roNumbers.L0 l acc (n : Int) = some (acc ++ numbersFrom l n m)
  | 0, n, acc, h, ha => by
    rw [spec_roNumbers.L0_eq, if_neg (by omega)]
    simp [numbersFrom]
  | m + 1, n, acc, h, ha => by
    have e : wrap64 ((n : Int) + 1) = ((n + 1 : Nat) : Int) := by rw [wrap_in (by omega) (by omega)]; omega
    rw [spec_roNumbers.L0_eq, if_pos (by omega), spec_l1Has.F_val l n hl]
    simp only [Option.bind_some]
    by_cases h1 : (n : Int) ∈ l
    · rw [if_pos (by simpa using h1), if_pos (by omega), e, spec_roNumbers.L0_val l hl m (n + 1) _ (by omega) (by simp; omega)]
      simp [numbersFrom, List.range'_succ, h1]
    · rw [if_neg (by simpa using h1), e, spec_roNumbers.L0_val l hl m (n + 1) _ (by omega) (by omega)]
      simp [numbersFrom, List.range'_succ, h1]
theorem spec_roNumbers.F_val (l : List Int) (hl : l.length < 4611686018427387904) : spec_roNumbers.F l = some (numbersOf l) := by
  rw [spec_roNumbers.F_eq]
  exact spec_roNumbers.L0_val l hl 20 1 [] (by omega) (by simp)
theorem impl_numbers.L0_val (l : List Int) (hl : l.length < 4611686018427387904) : ∀ (m n : Nat) (acc : List Int), n + m = 21 → acc.length + m < 100 → impl_numbers.L0 l acc (n : Int) = some (acc ++ numbersFrom l n m)
  | 0, n, acc, h, ha => by
    rw [impl_numbers.L0_eq, if_neg (by omega)]
    simp [numbersFrom]
  | m + 1, n, acc, h, ha => by
    have e : wrap64 ((n : Int) + 1) = ((n + 1 : Nat) : Int) := by rw [wrap_in (by omega) (by omega)]; omega
    rw [impl_numbers.L0_eq, if_pos (by omega), slices_Contains_int_int.F_val l n hl]
    simp only [Option.bind_some]
    by_cases h1 : (n : Int) ∈ l
    · rw [if_pos (by simpa using h1), if_pos (by omega), e, impl_numbers.L0_val l hl m (n + 1) _ (by omega) (by simp; omega)]
      simp [numbersFrom, List.range'_succ, h1]
    · rw [if_neg (by simpa using h1), e, impl_numbers.L0_val l hl m (n + 1) _ (by omega) (by omega)]
      simp [numbersFrom, List.range'_succ, h1]
theorem impl_numbers.F_val (l : List Int) (hl : l.length < 4611686018427387904) : impl_numbers.F l = some (numbersOf l) := by
  rw [impl_numbers.F_eq]
  exact impl_numbers.L0_val l hl 20 1 [] (by omega) (by simp)
theorem spec_roFits.L0_val (l : List Int) (s : Int) (hl : l.length < 17592186044416) : ∀ (suf pre : List Int), (pre ++ suf).length < 4611686018427387904 → (∀ v ∈ suf, (placesOf l v).length = 2) → spec_roFits.L0 l s (pre ++ suf) ((pre ++ suf).length : Int) (pre.length : Int) = some (suf.all fun v => wrap64 (rd (placesOf l v) 1 - rd (placesOf l v) 0) == wrap64 (v + s))
  | [], pre, h, hv => by
    rw [spec_roFits.L0_eq, range_end]
    simp
  | x :: suf, pre, h, hv => by
    have h2 := hv x (by simp)
    rw [spec_roFits.L0_eq, range_step, rd_mid, wrap_mid h, app_mid pre x suf, spec_roPlaces.F_val l x hl]
    simp only [Option.bind_some]
    rw [if_pos (by omega), if_pos (by omega), spec_roFits.L0_val l s hl suf (pre ++ [x]) (by simpa using h) (fun v h => hv v (by simp [h])), List.all_cons]
    by_cases h1 : wrap64 (rd (placesOf l x) 1 - rd (placesOf l x) 0) = wrap64 (x + s)
    · rw [if_pos h1, beq_iff_eq.2 h1]
      rfl
    · rw [if_neg h1, beq_false_of_ne h1]
      rfl
theorem numbersOf_two {l : List Int} (h : pairsOk l = true) {v : Int} (hv : v ∈ numbersOf l) : (placesOf l v).length = 2 := by
  obtain ⟨h1, h2, h3⟩ := (mem_numbersOf l v).1 hv
  obtain ⟨k, rfl⟩ : ∃ k : Nat, v = (k : Int) := ⟨v.toNat, by omega⟩
  have h5 : 0 < l.count (k : Int) := List.count_pos_iff.2 h1
  rw [placesOf_count]
  rcases pairsOk_count h k (by omega) (by omega) with h4 | h4 <;> omega
theorem spec_roFits.F_val (l : List Int) (s : Int) (hl : l.length < 17592186044416) (h : pairsOk l = true) : spec_roFits.F l s = some (fitsAt l s) := by
  rw [spec_roFits.F_eq, spec_roNumbers.F_val l (by omega)]
  simp only [Option.bind_some]
  rw [fitsAt_eq l s h]
  have hn := numbersFrom_length l 1 20
  have := spec_roFits.L0_val l s hl (numbersOf l) [] (by simp only [List.nil_append, numbersOf]; omega) (fun v hv => numbersOf_two h hv)
  simpa using this
end Go.Proofs.Ytaohgllnoomaeaa.Fn
namespace Go.Proofs.Ytaohgllnoomaeaa.Fn
open Go.RowKit Go.Proofs.YtaohgllnoomaeaaW.PrintWords Go.Proofs.YtaohgllnoomaeaaW.PrintLast Go.Proofs.YtaohgllnoomaeaaW.PrintMore
set_option linter.unusedVariables false
set_option linter.unusedSimpArgs false
/-- Each number m of a list is as great as its place and k together. -/
def fromOf (k : Int) : Nat → List Int → Bool
  | _, [] => true
  | i, x :: l => decide (x = k + (i : Int)) && fromOf k (i + 1) l
/-- The first hole's place; -1 where there is none. -/
def holeFrom : Nat → List Int → Int
  | _, [] => -1
  | i, x :: l => if x = 0 then (i : Int) else holeFrom (i + 1) l
theorem holeFrom_places : ∀ (l : List Int) (i : Nat), 0 < (placesFrom 0 i l).length → holeFrom i l = rd (placesFrom 0 i l) 0
  | [], i, h => by simp [placesFrom] at h
  | x :: l, i, h => by
    by_cases hx : x = 0
    · simp [placesFrom, holeFrom, hx, rd]
    · simp only [placesFrom, holeFrom, hx, if_false] at h ⊢
      exact holeFrom_places l (i + 1) h
/-- The row's order, if its numbers are those from 1 on. -/
def orderOf (l : List Int) : Int := if fromOf 1 0 (numbersOf l) = true then ((numbersOf l).length : Int) else 0
/-- A row with one hole whose pairs fit. -/
def oneHole (l : List Int) : Bool := isPairs l && fitsAt l 0 && decide ((placesOf l 0).length = 1)
def extendedOf (l : List Int) : Int × Int := if oneHole l = true then (orderOf l, rd (placesOf l 0) 0) else (0, 0)
theorem fromOf_mem (k : Int) : ∀ (l : List Int) (i : Nat) (x : Int), fromOf k i l = true → x ∈ l → x < k + (i : Int) + l.length
  | [], i, x, h, hx => by cases hx
  | y :: l, i, x, h, hx => by
    simp only [fromOf, Bool.and_eq_true, decide_eq_true_eq] at h
    rcases List.mem_cons.1 hx with rfl | hx
    · rw [List.length_cons]
      omega
    · have := fromOf_mem k l (i + 1) x h.2 hx
      rw [List.length_cons]
      omega
/-- Numbers that grow, from k + i on, and none of them behind the last place: each is as great as its place. -/
theorem fromOf_of (k : Int) : ∀ (l : List Int) (i : Nat), (l.Pairwise (· < ·)) → (∀ x ∈ l, k + (i : Int) ≤ x ∧ x < k + (i : Int) + l.length) → fromOf k i l = true
  | [], i, hp, hx => rfl
  | y :: l, i, hp, hx => by
    obtain ⟨h1, h2⟩ := List.pairwise_cons.1 hp
    have hy := hx y (by simp)
    have hall : ∀ x ∈ l, k + ((i + 1 : Nat) : Int) ≤ x ∧ x < k + ((i + 1 : Nat) : Int) + l.length := fun x hxl => by
      have a := h1 x hxl
      have b := hx x (by simp [hxl])
      rw [List.length_cons] at b
      omega
    have hrec := fromOf_of k l (i + 1) h2 hall
    simp only [fromOf, hrec, Bool.and_true, decide_eq_true_eq]
    -- the first one: were it greater, the others had no room
    have room : ∀ (l : List Int) (b : Int), l.Pairwise (· < ·) → (∀ x ∈ l, b < x) → ∀ x ∈ l, ∀ c, (∀ x ∈ l, x < c) → b + l.length < c := by
      intro l
      induction l with
      | nil => intro b _ _ x hx; cases hx
      | cons z t ih =>
        intro b hp hb x _ c hc
        obtain ⟨g1, g2⟩ := List.pairwise_cons.1 hp
        have hz := hb z (by simp)
        cases t with
        | nil => have := hc z (by simp); simp; omega
        | cons u v =>
          have := ih z g2 g1 u (by simp) c (fun x hx => hc x (by simp [hx]))
          simp at this ⊢
          omega
    cases l with
    | nil => simp at hy; omega
    | cons u v =>
      have := room (u :: v) y h2 h1 u (by simp) (k + (i : Int) + ((y :: u :: v).length : Nat)) (fun x hxl => (hx x (by simp [hxl])).2)
      simp at this
      omega
theorem numbersOf_sorted (l : List Int) : (numbersOf l).Pairwise (· < ·) := by
  unfold numbersOf numbersFrom
  rw [List.pairwise_map]
  exact (List.Pairwise.filter _ (List.pairwise_lt_range' (s := 1) (n := 20))).imp (fun h => by omega)
theorem numbersFrom_count (l : List Int) : ∀ (m n : Nat), (∀ k, n ≤ k → k < n + m → l.count (k : Int) = 0 ∨ l.count (k : Int) = 2) → ((List.range' n m).map fun k : Nat => l.count (k : Int)).sum = 2 * (numbersFrom l n m).length
  | 0, n, h => rfl
  | m + 1, n, h => by
    have ih := numbersFrom_count l m (n + 1) (fun k h1 h2 => h k (by omega) (by omega))
    rw [List.range'_succ, List.map_cons, List.sum_cons, ih]
    have e : numbersFrom l n (m + 1) = (if (n : Int) ∈ l then [(n : Int)] else []) ++ numbersFrom l (n + 1) m := by
      unfold numbersFrom
      rw [List.range'_succ]
      by_cases hn : (n : Int) ∈ l <;> simp [hn]
    rw [e, List.length_append]
    by_cases hn : (n : Int) ∈ l
    · have h5 : 0 < l.count (n : Int) := List.count_pos_iff.2 hn
      rcases h n (by omega) (by omega) with h4 | h4
      · omega
      · rw [if_pos hn, h4]
        simp
        omega
    · have h5 : l.count (n : Int) = 0 := List.count_eq_zero.2 hn
      rw [if_neg hn, h5]
      simp
theorem count_sum : ∀ (l : List Int) (m n : Nat), (∀ x ∈ l, (n : Int) ≤ x ∧ x < (n : Int) + m) → ((List.range' n m).map fun k : Nat => l.count (k : Int)).sum = l.length
  | [], m, n, h => by
    have : ∀ ks : List Nat, (ks.map fun k : Nat => ([] : List Int).count (k : Int)).sum = 0 := fun ks => by induction ks with | nil => rfl | cons a t ih => rw [List.map_cons, List.sum_cons, ih]; rfl
    exact this _
  | x :: l, m, n, h => by
    have ih := count_sum l m n (fun y hy => h y (by simp [hy]))
    have hx := h x (by simp)
    have key : ∀ (m n : Nat), ((n : Int) ≤ x ∧ x < (n : Int) + m → ((List.range' n m).map fun k : Nat => (x :: l).count (k : Int)).sum = ((List.range' n m).map fun k : Nat => l.count (k : Int)).sum + 1) ∧ (¬ ((n : Int) ≤ x ∧ x < (n : Int) + m) → ((List.range' n m).map fun k : Nat => (x :: l).count (k : Int)).sum = ((List.range' n m).map fun k : Nat => l.count (k : Int)).sum) := by
      intro m
      induction m with
      | zero => intro n; exact ⟨fun h => by omega, fun _ => rfl⟩
      | succ m ih =>
        intro n
        obtain ⟨i1, i2⟩ := ih (n + 1)
        rw [List.range'_succ, List.map_cons, List.sum_cons, List.map_cons, List.sum_cons, List.count_cons]
        by_cases hn : x = (n : Int)
        · have := i2 (by omega)
          have hb : (x == (n : Int)) = true := by simpa using hn
          rw [this, hb]
          exact ⟨fun _ => by rw [if_pos rfl]; omega, fun hh => absurd ⟨by omega, by omega⟩ hh⟩
        · have hb : (x == (n : Int)) = false := by simpa using hn
          rw [hb]
          constructor
          · intro hh
            rw [i1 (by omega)]
            simp
            omega
          · intro hh
            rw [i2 (by omega)]
            simp
    rw [(key m n).1 hx, ih, List.length_cons]
/-- A row's length: its holes and twice its numbers. -/
theorem row_length {l : List Int} (h : isPairs l = true) : l.length = l.count 0 + 2 * (numbersOf l).length := by
  have h1 := count_sum l 21 0 (fun x hx => by have := isRow_mem (isPairs_row h) hx; omega)
  have h2 := numbersFrom_count l 20 1 (fun k h3 h4 => pairsOk_count (isPairs_ok h) k h3 (by omega))
  rw [show List.range' 0 21 = 0 :: List.range' 1 20 from rfl, List.map_cons, List.sum_cons, h2] at h1
  unfold numbersOf
  simp at h1
  omega
/-- What the law's own form of an extended row asks: an odd length of three or more, one hole, no number above half of it. -/
def extendedSpec (l : List Int) : Bool := decide (3 ≤ l.length) && decide (l.length % 2 = 1) && fitsAt l 0 && decide (l.count 0 = 1) && l.all (fun x => decide (x ≤ (l.length : Int) / 2))
theorem extended_same {l : List Int} (h : isPairs l = true) : extendedSpec l = decide ((extendedOf l).1 > 0) := by
  have hlen := row_length h
  have hc : (placesOf l 0).length = l.count 0 := placesOf_count l 0
  unfold extendedSpec extendedOf oneHole
  rw [h, Bool.true_and, hc]
  by_cases hf : fitsAt l 0 = true
  · by_cases h1 : l.count 0 = 1
    · have e1 : (fitsAt l 0 && decide (l.count 0 = 1)) = true := by simp [hf, h1]
      rw [if_pos e1, hf]
      simp only [h1, decide_true, Bool.and_true]
      have hsort := numbersOf_sorted l
      by_cases hn : (numbersOf l).length = 0
      · have hl3 : ¬ 3 ≤ l.length := by omega
        have ho : orderOf l = 0 := by unfold orderOf; rw [hn]; split <;> rfl
        rw [ho]
        simp [hl3]
      · have hl3 : 3 ≤ l.length := by omega
        have hodd : l.length % 2 = 1 := by omega
        have hhalf : (l.length : Int) / 2 = ((numbersOf l).length : Int) := by omega
        simp only [hl3, hodd, decide_true, Bool.true_and, hhalf]
        rw [Bool.eq_iff_iff, List.all_eq_true, decide_eq_true_eq]
        constructor
        · intro H
          have hfr : fromOf 1 0 (numbersOf l) = true := fromOf_of 1 _ 0 hsort (fun x hx => by
            obtain ⟨g1, g2, g3⟩ := (mem_numbersOf l x).1 hx
            have := H x g1
            simp only [decide_eq_true_eq] at this
            omega)
          unfold orderOf
          rw [if_pos hfr]
          omega
        · intro H x hx
          by_cases hfr : fromOf 1 0 (numbersOf l) = true
          · have hr := isRow_mem (isPairs_row h) hx
            simp only [decide_eq_true_eq]
            by_cases hx0 : x = 0
            · omega
            · have := fromOf_mem 1 _ 0 x hfr ((mem_numbersOf l x).2 ⟨hx, by omega, by omega⟩)
              omega
          · unfold orderOf at H
            rw [if_neg hfr] at H
            exact absurd H (by decide)
    · have e1 : ¬ (fitsAt l 0 && decide (l.count 0 = 1)) = true := by simp [h1]
      rw [if_neg e1]
      simp [h1]
  · have e1 : ¬ (fitsAt l 0 && decide (l.count 0 = 1)) = true := by simp [hf]
    rw [if_neg e1]
    simp [hf]
theorem extendedOf_pos {l : List Int} (h : ¬ (extendedOf l).1 = 0) : oneHole l = true ∧ (extendedOf l).1 > 0 ∧ (extendedOf l).2 = rd (placesOf l 0) 0 := by
  unfold extendedOf at h ⊢
  by_cases h1 : oneHole l = true
  · rw [if_pos h1] at h ⊢
    refine ⟨h1, ?_, rfl⟩
    simp only [orderOf] at h ⊢
    split at h
    · rename_i h2
      rw [if_pos h2]
      omega
    · exact absurd rfl h
  · rw [if_neg h1] at h
    exact absurd rfl h
theorem oneHole_pairs {l : List Int} (h : oneHole l = true) : isPairs l = true ∧ fitsAt l 0 = true ∧ (placesOf l 0).length = 1 := by
  unfold oneHole at h
  simpa [and_assoc] using h
theorem impl_holes.L0_val : ∀ (suf pre acc : List Int), (pre ++ suf).length < 4611686018427387904 → acc.length + suf.length < 17592186044416 → impl_holes.L0 acc (pre ++ suf) ((pre ++ suf).length : Int) (pre.length : Int) = some (acc ++ placesFrom 0 pre.length suf)
  | [], pre, acc, h, ha => by
    rw [impl_holes.L0_eq, range_end]
    simp [placesFrom]
  | x :: suf, pre, acc, h, ha => by
    have ha' : acc.length + (suf.length + 1) < 17592186044416 := by simpa using ha
    have e : (pre ++ [x]).length = pre.length + 1 := by simp
    rw [impl_holes.L0_eq, range_step, rd_mid, wrap_mid h, app_mid pre x suf]
    by_cases h1 : x = 0
    · rw [if_pos h1, if_pos (by omega), impl_holes.L0_val suf (pre ++ [x]) _ (by simpa using h) (by simp; omega), e]
      simp [placesFrom, h1]
    · rw [if_neg h1, impl_holes.L0_val suf (pre ++ [x]) _ (by simpa using h) (by omega), e]
      simp [placesFrom, h1]
theorem impl_holes.F_val (l : List Int) (h : l.length < 17592186044416) : impl_holes.F l = some (placesOf l 0) := by
  rw [impl_holes.F_eq]
  have := impl_holes.L0_val l [] [] (by simp; omega) (by simpa using h)
  simpa [placesOf] using this
theorem impl_isFrom.L0_val (k : Int) (hk : -1000 ≤ k ∧ k ≤ 1000) (ns : List Int) : ∀ (suf pre : List Int), (pre ++ suf).length ≤ 1000 → impl_isFrom.L0 k ns (pre ++ suf) ((pre ++ suf).length : Int) (pre.length : Int) = some (if fromOf k pre.length suf = true then ((ns.length : Int), decide ((ns.length : Int) > 0)) else (0, false))
  | [], pre, h => by
    rw [impl_isFrom.L0_eq, range_end]
    rfl
  | x :: suf, pre, h => by
    have h' : pre.length + (suf.length + 1) ≤ 1000 := by simpa using h
    have e : (pre ++ [x]).length = pre.length + 1 := by simp
    rw [impl_isFrom.L0_eq, range_step, rd_mid, wrap_mid (pre := pre) (x := x) (suf := suf) (by omega), app_mid pre x suf, wrap_in (n := k + (pre.length : Int)) (by omega) (by omega), impl_isFrom.L0_val k hk ns suf (pre ++ [x]) (by simpa using h), e, fromOf]
    by_cases h1 : x = k + (pre.length : Int)
    · rw [if_pos h1]
      simp [h1]
    · rw [if_neg h1]
      simp [h1]
theorem impl_isFrom.F_val (l : List Int) (k : Int) (hk : -1000 ≤ k ∧ k ≤ 1000) (h : l.length < 4611686018427387904) : impl_isFrom.F l k = some (if fromOf k 0 (numbersOf l) = true then (((numbersOf l).length : Int), decide (((numbersOf l).length : Int) > 0)) else (0, false)) := by
  rw [impl_isFrom.F_eq, impl_numbers.F_val l h]
  simp only [Option.bind_some]
  have hn := numbersFrom_length l 1 20
  have := impl_isFrom.L0_val k hk (numbersOf l) (numbersOf l) [] (by simp only [List.nil_append, numbersOf]; omega)
  simpa using this
theorem impl_extended.F_val (l : List Int) (h : l.length < 17592186044416) : impl_extended.F l = some (extendedOf l) := by
  rw [impl_extended.F_eq, impl_fits.F_val l 0 (by omega), impl_holes.F_val l h]
  simp only [Option.bind_some, impl_extended.J0_eq]
  unfold extendedOf oneHole orderOf
  rw [impl_isFrom.F_val l 1 (by omega) (by omega), impl_holes.F_val l h]
  simp only [Option.bind_some]
  by_cases h1 : (isPairs l && fitsAt l 0) = true
  · rw [if_pos h1, h1]
    by_cases h2 : (placesOf l 0).length = 1
    · have h3 : (((placesOf l 0).length : Int) != 1) = false := by rw [h2]; rfl
      have h4 : (0 : Int) < ((placesOf l 0).length : Int) := by omega
      have h6 : decide ((placesOf l 0).length = 1) = true := decide_eq_true h2
      by_cases h5 : fromOf 1 0 (numbersOf l) = true
      · simp only [h3, h4, h5, h6, if_true, Bool.and_self, Bool.false_eq_true, if_false]
      · simp only [h3, h4, h5, h6, if_true, Bool.and_self, Bool.false_eq_true, if_false]
    · have h3 : (((placesOf l 0).length : Int) != 1) = true := by simp; omega
      simp only [h3, if_true, h2, decide_false, Bool.and_false, Bool.false_eq_true, if_false]
  · rw [if_neg h1, Bool.eq_false_iff.2 h1]
    simp only [if_true, Bool.false_and, Bool.false_eq_true, if_false]
def hookedOf (l : List Int) : Int := if (extendedOf l).2 = (l.length : Int) - 2 then (extendedOf l).1 else 0
theorem hookedOf_pairs {l : List Int} (h : ¬ hookedOf l = 0) : isPairs l = true := by
  refine (oneHole_pairs (extendedOf_pos (l := l) fun h2 => h ?_).1).1
  unfold hookedOf
  rw [h2]
  split <;> rfl
theorem impl_hooked.F_val (l : List Int) (h : l.length < 17592186044416) : impl_hooked.F l = some (hookedOf l) := by
  rw [impl_hooked.F_eq, impl_extended.F_val l h]
  simp only [Option.bind_some]
  rw [wrap_in (by omega) (by omega)]
  unfold hookedOf
  split <;> rfl
end Go.Proofs.Ytaohgllnoomaeaa.Fn
namespace Go.Proofs.Ytaohgllnoomaeaa.Fn
open Go.RowKit Go.Proofs.YtaohgllnoomaeaaW.PrintWords Go.Proofs.YtaohgllnoomaeaaW.PrintLast Go.Proofs.YtaohgllnoomaeaaW.PrintMore
set_option linter.unusedVariables false
set_option linter.unusedSimpArgs false
theorem impl_isShift.f_val (s : Int) : impl_isShift.f s = some (decide (s = 0 ∨ s = 1)) := by
  unfold impl_isShift.f
  by_cases h1 : s = 0
  · rw [if_pos h1]
    simp [h1]
  · rw [if_neg h1]
    simp [h1]
    rfl
/-- A row with no hole whose pairs fit, and the order of its numbers from 1 on; 0 where it is none. -/
def skolemOf (l : List Int) : Int := if isPairs l = true ∧ fitsAt l 0 = true ∧ l.count 0 = 0 then (if fromOf 1 0 (numbersOf l) = true then ((numbersOf l).length : Int) else 0) else 0
theorem skolemOf_no {l : List Int} (h : ¬ (isPairs l = true ∧ fitsAt l 0 = true ∧ l.count 0 = 0)) : skolemOf l = 0 := if_neg h
theorem skolemOf_yes {l : List Int} (h1 : isPairs l = true) (h2 : fitsAt l 0 = true) (h3 : l.count 0 = 0) : skolemOf l = if fromOf 1 0 (numbersOf l) = true then ((numbersOf l).length : Int) else 0 := if_pos ⟨h1, h2, h3⟩
theorem skolemOf_pos {l : List Int} (h : ¬ skolemOf l = 0) : isPairs l = true ∧ fitsAt l 0 = true ∧ l.count 0 = 0 ∧ fromOf 1 0 (numbersOf l) = true ∧ ¬ (numbersOf l).length = 0 ∧ skolemOf l = ((l.length / 2 : Nat) : Int) := by
  unfold skolemOf at h ⊢
  by_cases h1 : isPairs l = true ∧ fitsAt l 0 = true ∧ l.count 0 = 0
  · rw [if_pos h1] at h ⊢
    by_cases h2 : fromOf 1 0 (numbersOf l) = true
    · rw [if_pos h2] at h ⊢
      have := row_length h1.1
      exact ⟨h1.1, h1.2.1, h1.2.2, h2, by omega, by omega⟩
    · rw [if_neg h2] at h
      exact absurd rfl h
  · rw [if_neg h1] at h
    exact absurd rfl h
/-- A row with no hole whose pairs lie one further apart, and its first number; 0 where it is none. -/
def langfordOf (l : List Int) : Int := if isPairs l = true ∧ fitsAt l 1 = true ∧ l.count 0 = 0 ∧ fromOf (rd (numbersOf l) 0) 0 (numbersOf l) = true ∧ ¬ (numbersOf l).length = 0 then rd (numbersOf l) 0 else 0
theorem rd_mem (l : List Int) (h : ¬ l.length = 0) : rd l 0 ∈ l := by
  cases l with
  | nil => exact absurd rfl h
  | cons x t => simp [rd]
theorem langfordOf_pos {l : List Int} (h : ¬ langfordOf l = 0) : isPairs l = true ∧ fitsAt l 1 = true ∧ l.count 0 = 0 ∧ fromOf (rd (numbersOf l) 0) 0 (numbersOf l) = true ∧ ¬ (numbersOf l).length = 0 ∧ langfordOf l = rd (numbersOf l) 0 := by
  unfold langfordOf at h ⊢
  by_cases h1 : isPairs l = true ∧ fitsAt l 1 = true ∧ l.count 0 = 0 ∧ fromOf (rd (numbersOf l) 0) 0 (numbersOf l) = true ∧ ¬ (numbersOf l).length = 0
  · rw [if_pos h1]
    exact ⟨h1.1, h1.2.1, h1.2.2.1, h1.2.2.2.1, h1.2.2.2.2, rfl⟩
  · rw [if_neg h1] at h
    exact absurd rfl h
theorem first_number {l : List Int} (h : ¬ (numbersOf l).length = 0) : 1 ≤ rd (numbersOf l) 0 ∧ rd (numbersOf l) 0 ≤ 20 := ((mem_numbersOf l _).1 (rd_mem _ h)).2
/-- What a Langford row asks, on a list of pairs. -/
def isLangford (l : List Int) : Prop := fitsAt l 1 = true ∧ l.count 0 = 0 ∧ fromOf (rd (numbersOf l) 0) 0 (numbersOf l) = true ∧ ¬ (numbersOf l).length = 0
theorem langfordOf_eq {l : List Int} (h : isPairs l = true) : (isLangford l → langfordOf l = rd (numbersOf l) 0 ∧ ¬ langfordOf l = 0) ∧ (¬ isLangford l → langfordOf l = 0) := by
  refine ⟨fun h1 => ?_, fun h1 => ?_⟩
  · have e : langfordOf l = rd (numbersOf l) 0 := if_pos ⟨h, h1⟩
    have := first_number h1.2.2.2
    exact ⟨e, by omega⟩
  · exact if_neg (fun h2 => h1 h2.2)
theorem impl_langford.F_val (l : List Int) (h : l.length < 17592186044416) : impl_langford.F l = some (langfordOf l) := by
  rw [impl_langford.F_eq, impl_fits.F_val l 1 (by omega), impl_holes.F_val l h]
  simp only [Option.bind_some, placesOf_count, impl_langford.J0_eq, impl_numbers.F_val l (show l.length < 4611686018427387904 by omega)]
  by_cases h1 : isPairs l = true
  · obtain ⟨y, n⟩ := langfordOf_eq h1
    by_cases h2 : fitsAt l 1 = true
    · rw [if_pos (by simp [h1, h2])]
      have hlen := row_length h1
      by_cases h0 : (l.length : Int) = 0
      · rw [if_pos h0, if_pos (by trivial), n (fun h => by have := h.2.2.2; omega)]
      · rw [if_neg h0]
        by_cases h3 : l.count 0 = 0
        · have hn : ¬ (numbersOf l).length = 0 := by omega
          have hf := first_number hn
          rw [if_neg (by simp [h3]), if_pos (by omega), impl_isFrom.F_val l _ (by omega) (by omega)]
          simp only [Option.bind_some]
          by_cases h4 : fromOf (rd (numbersOf l) 0) 0 (numbersOf l) = true
          · simp only [h4, if_true]
            rw [if_pos (by simp; omega), (y ⟨h2, h3, h4, hn⟩).1]
          · simp only [h4, if_false]
            rw [n (fun h => h4 h.2.2.1)]
            rfl
        · rw [if_pos (by simp; exact List.count_pos_iff.1 (by omega)), n (fun h => h3 h.2.1)]
    · rw [if_neg (by simp [h2]), if_pos (by trivial), n (fun h => h2 h.1)]
  · rw [if_neg (by simp [h1]), if_pos (by trivial), show langfordOf l = 0 from if_neg (fun h => h1 h.1)]
theorem impl_RaiseRow.L0_val (k : Int) (hk : -20 ≤ k ∧ k ≤ 20) : ∀ (suf pre done : List Int), (pre ++ suf).length ≤ 40 → done.length = pre.length → (∀ x ∈ suf, 0 ≤ x ∧ x ≤ 20) → impl_RaiseRow.L0 k (done ++ suf) (pre ++ suf) ((pre ++ suf).length : Int) (pre.length : Int) = some (if suf.all (fun x => decide (x = 0) || (decide (1 ≤ x + k) && decide (x + k ≤ 20))) = true then (done ++ suf.map (fun x => if x = 0 then 0 else x + k), true) else ([], false))
  | [], pre, done, h, hd, hx => by
    rw [impl_RaiseRow.L0_eq, range_end]
    rfl
  | x :: suf, pre, done, h, hd, hx => by
    have hx1 := hx x (by simp)
    have hx2 : ∀ y ∈ suf, 0 ≤ y ∧ y ≤ 20 := fun y hy => hx y (by simp [hy])
    have h' : pre.length + (suf.length + 1) ≤ 40 := by simpa using h
    have w : wrap64 (x + k) = x + k := wrap_in (by omega) (by omega)
    have hlen : (pre.length : Int) < ((done ++ x :: suf).length : Int) := by simp; omega
    rw [impl_RaiseRow.L0_eq, range_step, rd_mid, wrap_mid (pre := pre) (x := x) (suf := suf) (by omega), app_mid pre x suf, w, impl_isNumber.f]
    by_cases h0 : x = 0
    · rw [if_pos h0, app_mid done x suf, impl_RaiseRow.L0_val k hk suf (pre ++ [x]) (done ++ [x]) (by simpa using h) (by simp [hd]) hx2]
      simp [h0]
    · have es : (done ++ x :: suf).set pre.length (x + k) = (done ++ [x + k]) ++ suf := by
        rw [← hd, List.set_append_right _ _ (Nat.le_refl _), Nat.sub_self, List.set_cons_zero]
        simp
      rw [if_neg h0, if_pos hlen, Int.toNat_natCast, es, impl_RaiseRow.L0_val k hk suf (pre ++ [x]) (done ++ [x + k]) (by simpa using h) (by simp [hd]) hx2]
      by_cases h1 : x + k ≥ 1
      · have h1' : 1 ≤ x + k := h1
        rw [if_pos h1]
        simp only [Option.bind_some]
        by_cases h2 : x + k ≤ 20
        · rw [if_pos (by simpa using h2)]
          simp [h0, h1', h2]
        · rw [if_neg (by simpa using h2)]
          simp [h0, h2]
      · have h1' : ¬ 1 ≤ x + k := h1
        rw [if_neg h1]
        simp [h0, h1']
theorem impl_RaiseRow.F_val1 (l : List Int) (h : isRow l = true) : impl_RaiseRow.F l 1 = some (if l.all (fun x => decide (x = 0) || (decide (1 ≤ x + 1) && decide (x + 1 ≤ 20))) = true then (l.map (fun x => if x = 0 then 0 else x + 1), true) else ([], false)) := by
  have hl := isRow_len h
  have := impl_RaiseRow.L0_val 1 (by omega) l [] [] (by simpa using hl) rfl (fun x hx => isRow_mem h hx)
  rw [impl_RaiseRow.F_eq, impl_IsRow.F_val l (by omega)]
  simp only [Option.bind_some, impl_RaiseRow.J0_eq]
  rw [if_pos h, if_neg (by decide), if_neg (by decide), slices_Clone_int_int.f_val l (by omega)]
  exact this
end Go.Proofs.Ytaohgllnoomaeaa.Fn
namespace Go.Proofs.Ytaohgllnoomaeaa.Fn
open Go.RowKit Go.Proofs.YtaohgllnoomaeaaW.PrintWords Go.Proofs.YtaohgllnoomaeaaW.PrintLast Go.Proofs.YtaohgllnoomaeaaW.PrintMore
set_option linter.unusedVariables false
set_option linter.unusedSimpArgs false
/-- All rows, in order. -/
def extsLoop (rec : List Int → Nat → List (List Int)) (hole shift : Int) (row : List Int) (used a : Nat) : Nat → Int → List (List Int)
  | 0, _ => []
  | m + 1, n => (if sePassed hole row used n ((a : Int) + n + shift) then [] else rec ((row.set a n).set ((a : Int) + n + shift).toNat n) (used ||| 2 ^ n.toNat)) ++ extsLoop rec hole shift row used a m (n + 1)
def exts (from_ : Int) (N : Nat) (shift hole : Int) : Nat → List Int → Nat → List (List Int)
  | 0, _, _ => []
  | k + 1, row, used => if seAt hole row = row.length then [row] else extsLoop (exts from_ N shift hole k) hole shift row used (seAt hole row) N from_
/-- A function called for rows, one after the other, until it ends. -/
def foldE {σ : Type} (each : σ → List Int → Option (σ × Bool)) : σ → List (List Int) → Option (σ × Bool)
  | s, [] => some (s, false)
  | s, x :: l => (each s x).bind fun p => if p.2 = true then some (p.1, true) else foldE each p.1 l
theorem foldE_append {σ : Type} (each : σ → List Int → Option (σ × Bool)) : ∀ (a b : List (List Int)) (s : σ), foldE each s (a ++ b) = (foldE each s a).bind fun p => if p.2 = true then some (p.1, true) else foldE each p.1 b
  | [], b, s => by simp [foldE]
  | x :: a, b, s => by
    simp only [List.cons_append, foldE]
    cases each s x with
    | none => rfl
    | some p =>
      simp only [Option.bind_some]
      by_cases h : p.2 = true
      · simp [h]
      · simp only [if_neg h]
        exact foldE_append each a b p.1
/-- The row as the program's search has it. -/
def freeH (hole : Int) (row : List Int) : List Int := (List.range row.length).map fun j : Nat => if rd row j = 0 ∧ (j : Int) ≠ hole then -1 else rd row j
theorem freeH_len (hole : Int) (row : List Int) : (freeH hole row).length = row.length := by simp [freeH]
theorem freeH_rd {hole : Int} {row : List Int} (j : Nat) (h : j < row.length) : rd (freeH hole row) j = if rd row j = 0 ∧ (j : Int) ≠ hole then -1 else rd row j := by
  rw [rd_nat _ j (by rw [freeH_len]; exact h)]
  simp [freeH]
theorem ext_rd {a b : List Int} (hl : a.length = b.length) (h : ∀ j : Nat, j < a.length → rd a j = rd b j) : a = b := by
  apply List.ext_getElem hl
  intro j h1 h2
  have := h j h1
  rwa [rd_nat a j h1, rd_nat b j h2] at this
theorem rd_set (l : List Int) (a : Nat) (v : Int) (j : Nat) (hj : j < l.length) : rd (l.set a v) j = if a = j then v else rd l j := by
  rw [rd_nat _ j (by rw [List.length_set]; exact hj), rd_nat l j hj, List.getElem_set]
theorem freeH_set {hole : Int} {row : List Int} {a : Nat} {n : Int} (hn : n ≠ 0) : (freeH hole row).set a n = freeH hole (row.set a n) := by
  apply ext_rd (by simp [freeH_len])
  intro j hj
  have hj' : j < row.length := by simpa [freeH_len] using hj
  rw [rd_set (freeH hole row) a n j (by rw [freeH_len]; exact hj'), freeH_rd (row := row) j hj', freeH_rd (row := row.set a n) j (by rw [List.length_set]; exact hj'), rd_set row a n j hj']
  by_cases e : a = j
  · simp [e, hn]
  · simp [e]
theorem freeAt_is : ∀ (l : List Int) (a : Nat), a ≤ l.length → (∀ j : Nat, j < a → rd l j ≠ -1) → (a < l.length → rd l a = -1) → freeAt l = a
  | [], a, h, _, _ => by
    simp at h
    simp [freeAt, h]
  | x :: l, 0, _, _, h => by
    have := h (by simp)
    simp [rd] at this
    simp [freeAt, this]
  | x :: l, a + 1, h, h1, h2 => by
    have hx := h1 0 (by omega)
    simp [rd] at hx
    have ih := freeAt_is l a (by simpa using h) (fun j hj => by
      have := h1 (j + 1) (by omega)
      simpa [rd] using this) (fun ha => by
      have := h2 (by simpa using ha)
      simpa [rd] using this)
    simp [freeAt, hx, ih]
theorem seAtFrom_spec (hole : Int) : ∀ (l : List Int) (i : Nat), ∃ a, seAtFrom hole l i = i + a ∧ a ≤ l.length ∧ (∀ j : Nat, j < a → rd l j ≠ 0 ∨ ((i + j : Nat) : Int) = hole) ∧ (a < l.length → rd l a = 0 ∧ ((i + a : Nat) : Int) ≠ hole)
  | [], i => ⟨0, rfl, Nat.le_refl _, fun j hj => by omega, fun h => by simp at h⟩
  | x :: l, i => by
    by_cases h : x = 0 ∧ (i : Int) ≠ hole
    · exact ⟨0, by rw [seAtFrom, if_pos h]; rfl, Nat.zero_le _, fun j hj => by omega, fun _ => ⟨by simpa [rd] using h.1, by simpa using h.2⟩⟩
    · obtain ⟨a, h1, h2, h3, h4⟩ := seAtFrom_spec hole l (i + 1)
      refine ⟨a + 1, by rw [seAtFrom, if_neg h, h1]; omega, by simpa using h2, fun j hj => ?_, fun ha => ?_⟩
      · cases j with
        | zero =>
          by_cases hx : x = 0
          · exact .inr (by simpa using Classical.byContradiction fun e => h ⟨hx, e⟩)
          · exact .inl (by simpa [rd] using hx)
        | succ j =>
          have := h3 j (by omega)
          rw [show i + (j + 1) = i + 1 + j by omega]
          simpa [rd] using this
      · have := h4 (by simpa using ha)
        rw [show i + (a + 1) = i + 1 + a by omega]
        simpa [rd] using this
theorem seAt_spec (hole : Int) (l : List Int) : seAt hole l ≤ l.length ∧ (∀ j : Nat, j < seAt hole l → rd l j ≠ 0 ∨ (j : Int) = hole) ∧ (seAt hole l < l.length → rd l (seAt hole l) = 0 ∧ ((seAt hole l : Nat) : Int) ≠ hole) := by
  obtain ⟨a, h1, h2, h3, h4⟩ := seAtFrom_spec hole l 0
  have e : seAt hole l = a := by rw [seAt, h1, Nat.zero_add]
  rw [e]
  exact ⟨h2, fun j hj => by simpa using h3 j hj, fun ha => by simpa using h4 ha⟩
theorem freeH_free {hole : Int} {row : List Int} (hp : ∀ j : Nat, j < row.length → 0 ≤ rd row j) : freeAt (freeH hole row) = seAt hole row := by
  obtain ⟨h1, h2, h3⟩ := seAt_spec hole row
  refine freeAt_is _ _ (by rw [freeH_len]; exact h1) (fun j hj => ?_) (fun ha => ?_)
  · rw [freeH_rd j (by omega)]
    have := hp j (by omega)
    split
    · rename_i h
      rcases h2 j hj with h4 | h4
      · exact absurd h.1 h4
      · exact absurd h4 h.2
    · omega
  · rw [freeH_len] at ha
    rw [freeH_rd _ ha, if_pos (h3 ha)]
theorem freeH_full {hole : Int} {row : List Int} (h : seAt hole row = row.length) : freeH hole row = row := by
  refine ext_rd (freeH_len _ _) (fun j hj => ?_)
  rw [freeH_len] at hj
  have := (seAt_spec hole row).2.1 j (by omega)
  rw [freeH_rd j hj, if_neg (fun e => this.elim (fun h => h e.1) (fun h => e.2 h))]
/-- What is left of the numbers from_, .., N of them. -/
def leftH (from_ : Int) (N used : Nat) : List Int := (List.range N).map fun i => if used.testBit (from_.toNat + i) = true then 0 else from_ + (i : Int)
theorem leftH_len (from_ : Int) (N used : Nat) : (leftH from_ N used).length = N := by simp [leftH]
theorem leftH_rd {from_ : Int} {N used i : Nat} (h : i < N) : rd (leftH from_ N used) i = if used.testBit (from_.toNat + i) = true then 0 else from_ + (i : Int) := by
  rw [rd_nat _ i (by rw [leftH_len]; exact h)]
  simp [leftH]
theorem leftH_set {from_ : Int} {N used i : Nat} (h : i < N) : (leftH from_ N used).set i 0 = leftH from_ N (used ||| 2 ^ (from_.toNat + i)) := by
  apply List.ext_getElem?
  intro j
  rw [List.getElem?_set, leftH_len]
  by_cases hj : i = j
  · subst hj
    rw [if_pos rfl, if_pos h]
    simp [leftH, h, Nat.testBit_or, Nat.testBit_two_pow]
  · rw [if_neg hj]
    rcases Nat.lt_or_ge j N with h2 | h2
    · simp [leftH, h2, Nat.testBit_or, Nat.testBit_two_pow, hj]
    · rw [List.getElem?_eq_none (by rw [leftH_len]; exact h2), List.getElem?_eq_none (by rw [leftH_len]; exact h2)]
theorem count_free {r : List Int} {a : Nat} {n : Int} (t : Nat) (ha : a < r.length) (h0 : rd r a = -1) (hn : n ≠ -1) : ((r.set a n).set t n).count (-1) < r.count (-1) := by
  have hmem : (-1 : Int) ∈ r := by
    rw [rd_nat r a ha] at h0
    rw [← h0]
    exact List.getElem_mem ha
  have hpos := List.count_pos_iff.2 hmem
  have h1 : (r.set a n).count (-1) = r.count (-1) - 1 := by
    rw [List.count_set ha]
    rw [rd_nat r a ha] at h0
    simp [h0, hn]
  rcases Nat.lt_or_ge t (r.set a n).length with h | h
  · rw [List.count_set h, h1]
    simp only [beq_iff_eq, hn, if_false, Nat.add_zero]
    omega
  · rw [List.set_eq_of_length_le h, h1]
    omega
theorem fillLoop_exts {σ : Type} {each : σ → List Int → Option (σ × Bool)} {row told : List Int} {from_ shift hole : Int} {N used k : Nat} {rec : σ → List Int → List Int → Option (σ × Bool)} {recE : List Int → Nat → List (List Int)} (hz : ∀ j : Int, rd told j = 0) (hf : 1 ≤ from_) (hs : 0 ≤ shift) (hpos : ∀ j : Nat, j < row.length → 0 ≤ rd row j)
    (hrec : ∀ s row' used', row'.length = row.length → (freeH hole row').count (-1) < k → (∀ j : Nat, j < row'.length → 0 ≤ rd row' j) → rec s (freeH hole row') (leftH from_ N used') = foldE each s (recE row' used')) (hk : (freeH hole row).count (-1) < k + 1) (ha : seAt hole row < row.length) :
    ∀ (m i : Nat) (s : σ), i + m = N → fillLoop rec (freeH hole row) told (leftH from_ N used) shift m i s = foldE each s (extsLoop recE hole shift row used (seAt hole row) m (from_ + (i : Int)))
  | 0, i, s, hi => rfl
  | m + 1, i, s, hi => by
    have hfa := freeH_free (hole := hole) hpos
    have hn := leftH_rd (from_ := from_) (N := N) (used := used) (i := i) (by omega)
    have hnx : from_ + (i : Int) + 1 = from_ + ((i + 1 : Nat) : Int) := by omega
    have hb : (from_ + (i : Int)).toNat = from_.toNat + i := by omega
    by_cases hbit : used.testBit (from_.toNat + i) = true
    · rw [if_pos hbit] at hn
      have hp : sePassed hole row used (from_ + (i : Int)) ((seAt hole row : Int) + (from_ + (i : Int)) + shift) := .inl (by rw [hb]; exact hbit)
      rw [fillLoop_pass hfa hn rfl (.inl rfl), fillLoop_exts hz hf hs hpos hrec hk ha m (i + 1) s (by omega), extsLoop, if_pos hp, List.nil_append, hnx]
    · rw [if_neg hbit] at hn
      obtain ⟨n, hne⟩ : ∃ n, from_ + (i : Int) = n := ⟨_, rfl⟩
      rw [hne] at hn hnx hb ⊢
      obtain ⟨t, ht⟩ : ∃ t, (seAt hole row : Int) + n + shift = t := ⟨_, rfl⟩
      have hn1 : 1 ≤ n := by omega
      obtain ⟨tn, htn⟩ : ∃ tn : Nat, t = (tn : Int) := ⟨t.toNat, by omega⟩
      have hcond : passed (freeH hole row) told (seAt hole row) n t ↔ sePassed hole row used n t := by
        have hb2 : ¬ used.testBit n.toNat = true := by rw [hb]; exact hbit
        have hrd : tn < row.length → (rd (freeH hole row) t ≠ -1 ↔ (t = hole ∨ rd row t ≠ 0)) := fun h => by
          rw [htn, freeH_rd tn h]
          have h6 := hpos tn h
          by_cases h3 : rd row (tn : Int) = 0 ∧ (tn : Int) ≠ hole
          · rw [if_pos h3]
            simp [h3]
          · rw [if_neg h3]
            constructor
            · intro _
              by_cases h7 : rd row (tn : Int) = 0
              · exact .inl (Classical.byContradiction fun e => h3 ⟨h7, e⟩)
              · exact .inr h7
            · intro _; omega
        unfold passed
        rw [freeH_len, hz, hz]
        constructor
        · rintro (h | h | h | h | h)
          · omega
          · exact .inr (.inl h)
          · by_cases h5 : (row.length : Int) ≤ t
            · exact .inr (.inl h5)
            · exact .inr (.inr ((hrd (by omega)).1 h))
          · exact absurd rfl h.1
          · exact absurd rfl h.1
        · rintro (h | h | h)
          · exact absurd h hb2
          · exact .inr (.inl h)
          · by_cases h5 : (row.length : Int) ≤ t
            · exact .inr (.inl h5)
            · exact .inr (.inr (.inl ((hrd (by omega)).2 h)))
      by_cases hp : sePassed hole row used n t
      · rw [fillLoop_pass hfa hn ht (hcond.2 hp), fillLoop_exts hz hf hs hpos hrec hk ha m (i + 1) s (by omega), extsLoop, ht, if_pos hp, List.nil_append, hnx]
      · have hat := (seAt_spec hole row).2.2 ha
        have hfr : rd (freeH hole row) (seAt hole row) = -1 := by rw [freeH_rd _ ha, if_pos hat]
        have hc := count_free (n := n) t.toNat (by rw [freeH_len]; exact ha) hfr (by omega)
        rw [fillLoop_put hfa hn ht (fun h => hp (hcond.1 h)), freeH_set (show n ≠ 0 by omega), freeH_set (show n ≠ 0 by omega), leftH_set (show i < N by omega), hrec s _ _ (by simp) (by rw [freeH_set (show n ≠ 0 by omega), freeH_set (show n ≠ 0 by omega)] at hc; omega) (fun j hj => by
          have hj' : j < row.length := by simpa using hj
          rw [rd_set _ _ _ _ (by simpa using hj'), rd_set _ _ _ _ hj']
          have := hpos j hj'
          split
          · omega
          · split
            · omega
            · exact this), extsLoop, ht, if_neg hp, foldE_append, ← hb]
        cases foldE each s (recE ((row.set (seAt hole row) n).set t.toNat n) (used ||| 2 ^ n.toNat)) with
        | none => rfl
        | some p =>
          simp only [Option.bind_some]
          by_cases h8 : p.2 = true
          · rw [if_pos h8, if_pos h8]
          · rw [if_neg h8, if_neg h8, fillLoop_exts hz hf hs hpos hrec hk ha m (i + 1) p.1 (by omega), hnx]
theorem fillF_exts {σ : Type} (each : σ → List Int → Option (σ × Bool)) (told : List Int) (from_ shift hole : Int) (N : Nat) (hz : ∀ j : Int, rd told j = 0) (hf : 1 ≤ from_) (hs : 0 ≤ shift) : ∀ (k : Nat) (s : σ) (row : List Int) (used : Nat), (freeH hole row).count (-1) < k → (∀ j : Nat, j < row.length → 0 ≤ rd row j) → fillF each told shift k s (freeH hole row) (leftH from_ N used) = foldE each s (exts from_ N shift hole k row used)
  | 0, s, row, used, h, hp => by omega
  | k + 1, s, row, used, h, hp => by
    have hfa := freeH_free (hole := hole) hp
    unfold fillF exts
    rw [hfa, freeH_len]
    by_cases h2 : seAt hole row = row.length
    · rw [if_pos h2, if_pos h2, freeH_full h2]
      simp only [foldE]
      cases each s row with
      | none => rfl
      | some p =>
        simp only [Option.bind_some]
        by_cases h8 : p.2 = true
        · rw [if_pos h8, ← h8]
        · rw [if_neg h8]
          rw [Bool.not_eq_true] at h8
          rw [← h8]
    · have := (seAt_spec hole row).1
      rw [if_neg h2, if_neg h2, leftH_len, fillLoop_exts hz hf hs hp (fun s row' used' h1 h2 h3 => fillF_exts each told from_ shift hole N hz hf hs k s row' used' h2 h3) h (by omega) N 0 s (by omega)]
      simp
theorem take_more' {α : Type} (a b : List α) (n : Nat) : (a.take n ++ b).take n = (a ++ b).take n := by
  rcases Nat.le_total n a.length with h | h
  · rw [List.take_append_of_le_length (by rw [List.length_take]; omega), List.take_append_of_le_length h, List.take_take, Nat.min_self]
  · rw [List.take_of_length_le h]
theorem seLoop_exts {row : List Int} {from_ shift hole : Int} {used k most : Nat} {rec : SeSt → List Int → Nat → Option SeSt} {recE : List Int → Nat → List (List Int)} (hf : 1 ≤ from_) (hs : 0 ≤ shift) (hpos : ∀ j : Nat, j < row.length → 0 ≤ rd row j)
    (hrec : ∀ c xs row' used', (freeH hole row').count (-1) < k → (∀ j : Nat, j < row'.length → 0 ≤ rd row' j) → xs.length ≤ most → c + (recE row' used').length ≤ 1000000000000 → rec (c, xs) row' used' = some (c + (recE row' used').length, (xs ++ recE row' used').take most)) (hk : (freeH hole row).count (-1) < k + 1) (ha : seAt hole row < row.length) :
    ∀ (m : Nat) (n : Int) (c : Nat) (xs : List (List Int)), 1 ≤ n → xs.length ≤ most → c + (extsLoop recE hole shift row used (seAt hole row) m n).length ≤ 1000000000000 → seLoop rec hole shift row used (seAt hole row) m n (c, xs) = some (c + (extsLoop recE hole shift row used (seAt hole row) m n).length, (xs ++ extsLoop recE hole shift row used (seAt hole row) m n).take most)
  | 0, n, c, xs, hn, hx, hc => by
    simp only [seLoop, extsLoop, List.append_nil, List.length_nil, Nat.add_zero]
    rw [List.take_of_length_le hx]
  | m + 1, n, c, xs, hn, hx, hc => by
    obtain ⟨t, ht⟩ : ∃ t, (seAt hole row : Int) + n + shift = t := ⟨_, rfl⟩
    by_cases hp : sePassed hole row used n t
    · have e : extsLoop recE hole shift row used (seAt hole row) (m + 1) n = extsLoop recE hole shift row used (seAt hole row) m (n + 1) := by
        rw [extsLoop, ht, if_pos hp, List.nil_append]
      rw [e] at hc ⊢
      rw [seLoop_pass ht hp, seLoop_exts hf hs hpos hrec hk ha m (n + 1) c xs (by omega) hx hc]
    · have e : extsLoop recE hole shift row used (seAt hole row) (m + 1) n = recE ((row.set (seAt hole row) n).set t.toNat n) (used ||| 2 ^ n.toNat) ++ extsLoop recE hole shift row used (seAt hole row) m (n + 1) := by
        rw [extsLoop, ht, if_neg hp]
      have hat := (seAt_spec hole row).2.2 ha
      have hfr : rd (freeH hole row) (seAt hole row) = -1 := by rw [freeH_rd _ ha, if_pos hat]
      have hc2 := count_free (n := n) t.toNat (by rw [freeH_len]; exact ha) hfr (by omega)
      rw [freeH_set (show n ≠ 0 by omega), freeH_set (show n ≠ 0 by omega)] at hc2
      rw [e] at hc ⊢
      rw [List.length_append] at hc ⊢
      rw [seLoop_put ht hp, hrec c xs _ _ (by omega) (fun j hj => by
          have hj' : j < row.length := by simpa using hj
          rw [rd_set _ _ _ _ (by simpa using hj'), rd_set _ _ _ _ hj']
          have := hpos j hj'
          split
          · omega
          · split
            · omega
            · exact this) hx (by omega), Option.bind_some, seLoop_exts hf hs hpos hrec hk ha m (n + 1) _ _ (by omega) (by rw [List.length_take]; omega) (by omega), take_more', List.append_assoc, Nat.add_assoc]
theorem seF_exts (from_ to_ shift hole : Int) (most : Nat) (hm : most ≤ 1000000) (hf : 1 ≤ from_) (hs : 0 ≤ shift) : ∀ (k c : Nat) (xs : List (List Int)) (row : List Int) (used : Nat), (freeH hole row).count (-1) < k → (∀ j : Nat, j < row.length → 0 ≤ rd row j) → xs.length ≤ most → c + (exts from_ (to_ + 1 - from_).toNat shift hole k row used).length ≤ 1000000000000 → seF from_ to_ shift hole (most : Int) k (c, xs) row used = some (c + (exts from_ (to_ + 1 - from_).toNat shift hole k row used).length, (xs ++ exts from_ (to_ + 1 - from_).toNat shift hole k row used).take most)
  | 0, c, xs, row, used, h, hp, hx, hc => by omega
  | k + 1, c, xs, row, used, h, hp, hx, hc => by
    unfold seF
    by_cases h2 : seAt hole row = row.length
    · have e : exts from_ (to_ + 1 - from_).toNat shift hole (k + 1) row used = [row] := by rw [exts, if_pos h2]
      rw [e] at hc ⊢
      have hc' : c + 1 ≤ 1000000000000 := hc
      rw [if_pos h2, if_pos ⟨by show c < _; omega, by show xs.length < _; omega⟩]
      show some (c + 1, if (xs.length : Int) < (most : Int) then xs ++ [row] else xs) = _
      by_cases h3 : (xs.length : Int) < (most : Int)
      · rw [if_pos h3, List.take_of_length_le (by simp; omega)]
        rfl
      · rw [if_neg h3, List.take_append_of_le_length (by omega), List.take_of_length_le (by omega)]
        rfl
    · have e : exts from_ (to_ + 1 - from_).toNat shift hole (k + 1) row used = extsLoop (exts from_ (to_ + 1 - from_).toNat shift hole k) hole shift row used (seAt hole row) (to_ + 1 - from_).toNat from_ := by rw [exts, if_neg h2]
      rw [e] at hc ⊢
      have := (seAt_spec hole row).1
      rw [if_neg h2]
      exact seLoop_exts hf hs hp (fun c xs row' used' h1 h3 h4 h5 => seF_exts from_ to_ shift hole most hm hf hs k c xs row' used' h1 h3 h4 h5) h (by omega) _ _ c xs hf hx hc
/-- So many of the numbers are not used. -/
def unset (used : Nat) : Nat → Nat → Nat
  | _, 0 => 0
  | b, m + 1 => (if used.testBit b = true then 0 else 1) + unset used (b + 1) m
theorem unset_same {u v : Nat} : ∀ (m b : Nat), (∀ j, b ≤ j → u.testBit j = v.testBit j) → unset u b m = unset v b m
  | 0, b, h => rfl
  | m + 1, b, h => by
    rw [unset, unset, h b (Nat.le_refl _), unset_same m (b + 1) (fun j hj => h j (by omega))]
theorem unset_or {u c : Nat} (hu : u.testBit c = false) : ∀ (m b : Nat), b ≤ c → c < b + m → unset (u ||| 2 ^ c) b m + 1 = unset u b m
  | 0, b, h1, h2 => by omega
  | m + 1, b, h1, h2 => by
    by_cases e : c = b
    · subst e
      have h3 := unset_same (u := u ||| 2 ^ c) (v := u) m (c + 1) (fun j hj => by
        rw [Nat.testBit_or, Nat.testBit_two_pow]
        have : ¬ c = j := by omega
        simp [this])
      rw [unset, unset, h3]
      simp [Nat.testBit_or, Nat.testBit_two_pow, hu]
      omega
    · have ih := unset_or hu m (b + 1) (by omega) (by omega)
      rw [unset, unset, Nat.testBit_or, Nat.testBit_two_pow]
      simp only [e, decide_false, Bool.or_false]
      omega
def fct : Nat → Nat
  | 0 => 1
  | n + 1 => (n + 1) * fct n
theorem fct_pos : ∀ n, 1 ≤ fct n
  | 0 => Nat.le_refl _
  | n + 1 => by
    have := fct_pos n
    rw [fct]
    exact Nat.le_trans this (Nat.le_mul_of_pos_left _ (Nat.succ_pos n))
theorem extsLoop_len {recE : List Int → Nat → List (List Int)} {hole shift : Int} {row : List Int} {used a B : Nat} {from_ : Int} {N : Nat} (hf : 1 ≤ from_) (hB : ∀ i, i < N → used.testBit (from_.toNat + i) = false → ∀ row', (recE row' (used ||| 2 ^ (from_.toNat + i))).length ≤ B) : ∀ (m i : Nat), i + m = N → (extsLoop recE hole shift row used a m (from_ + (i : Int))).length ≤ unset used (from_.toNat + i) m * B
  | 0, i, h => by simp [extsLoop]
  | m + 1, i, h => by
    have ih := extsLoop_len (recE := recE) (hole := hole) (shift := shift) (row := row) (a := a) hf hB m (i + 1) (by omega)
    have hnx : from_ + (i : Int) + 1 = from_ + ((i + 1 : Nat) : Int) := by omega
    have hb : (from_ + (i : Int)).toNat = from_.toNat + i := by omega
    rw [extsLoop, unset, List.length_append, hnx]
    rw [show from_.toNat + (i + 1) = from_.toNat + i + 1 by omega] at ih
    by_cases hbit : used.testBit (from_.toNat + i) = true
    · rw [if_pos hbit, if_pos (.inl (by rw [hb]; exact hbit))]
      simpa using ih
    · rw [if_neg hbit, Nat.add_mul, Nat.one_mul]
      refine Nat.add_le_add ?_ ih
      split
      · exact Nat.zero_le _
      · rw [hb]
        exact hB i (by omega) (Bool.eq_false_iff.mpr hbit) _
theorem exts_len (from_ : Int) (N : Nat) (shift hole : Int) (hf : 1 ≤ from_) : ∀ (k : Nat) (row : List Int) (used : Nat), (exts from_ N shift hole k row used).length ≤ fct (unset used from_.toNat N)
  | 0, row, used => Nat.zero_le _
  | k + 1, row, used => by
    rw [exts]
    split
    · exact fct_pos _
    · have h := extsLoop_len (recE := exts from_ N shift hole k) (hole := hole) (shift := shift) (row := row) (used := used) (a := seAt hole row) (B := fct (unset used from_.toNat N - 1)) (N := N) hf (fun i hi hb row' => by
        have h1 := exts_len from_ N shift hole hf k row' (used ||| 2 ^ (from_.toNat + i))
        have h2 := unset_or hb N from_.toNat (by omega) (by omega)
        have h3 : unset (used ||| 2 ^ (from_.toNat + i)) from_.toNat N = unset used from_.toNat N - 1 := by omega
        rw [h3] at h1
        exact h1) N 0 (by omega)
      have e0 : from_ + ((0 : Nat) : Int) = from_ := by simp
      rw [e0, Nat.add_zero] at h
      refine Nat.le_trans h ?_
      generalize unset used from_.toNat N = U
      cases U with
      | zero => simp
      | succ U => exact Nat.le_refl _
theorem unset_zero : ∀ (m b : Nat), unset 0 b m = m
  | 0, _ => rfl
  | m + 1, b => by
    rw [unset, unset_zero m (b + 1), Nat.zero_testBit]
    simp
    omega
theorem fct_small {n : Nat} (h : n ≤ 7) : fct n ≤ 5040 := by
  have : n = 0 ∨ n = 1 ∨ n = 2 ∨ n = 3 ∨ n = 4 ∨ n = 5 ∨ n = 6 ∨ n = 7 := by omega
  rcases this with rfl | rfl | rfl | rfl | rfl | rfl | rfl | rfl <;> decide
end Go.Proofs.Ytaohgllnoomaeaa.Fn
