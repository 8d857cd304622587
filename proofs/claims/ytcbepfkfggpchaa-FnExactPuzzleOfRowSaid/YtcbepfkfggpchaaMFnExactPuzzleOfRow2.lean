/- The machine's side and plain lemmas for FnExactPuzzleOfRow: texts of this session, merged by its program (part 2). -/
import Derived.Test.YtcbepfkfggpchaaMFnExactPuzzleOfRow0
import Derived.Test.YtcbepfkfggpchaaMFnExactPuzzleOfRow1
namespace Go.Proofs.Ytcbepfkfggpchaa.Fn
open Go.RowKit Go.Proofs.YtcbepfkfggpchaaW.PrintWords Go.Proofs.YtcbepfkfggpchaaW.PrintLast Go.Proofs.YtcbepfkfggpchaaW.PrintMore
attribute [local go_sem] max2_int min2_int max_two min_two max_three min_three max_four min_four   -- for this text's walks alone
set_option linter.unusedVariables false
set_option linter.unusedSimpArgs false

/-! ### laws_FnExactPuzzleOfRow: function 7 -/
mutual
def laws_FnExactPuzzleOfRow.j0 : Nat → List Int → Int → Bool → List Int → Bool → Bool → List Int → Int → Int → List Int → Int → Int → Option (Bool)
  | 0, _, _, _, _, _, _, _, _, _, _, _, _ => none
  | k + 1, x0, x1, x6, x7, x9, x41, x505000, x505001, x505002, x515000, x515001, x515002 => if x41 = true then (some false) else ((laws_toIntS.f k x0).bind fun t516 => ((laws_eqIntS.f k x7 t516).bind fun t519 => (if t519 = true then ((laws_markIntS.f k x7 1).bind fun bt520 => (if bt520.1 < 0 then (laws_FnExactPuzzleOfRow.j1 k x0 x1 x6 true x505000 x505001 x505002 x515000 x515001 x515002) else ((laws_eqPuzzle.f k x515000 x515001 x515002 x505000 x505001 x505002).bind fun t522 => (if t522 = true then (laws_FnExactPuzzleOfRow.j1 k x0 x1 x6 (x9 != x6) x505000 x505001 x505002 x515000 x515001 x515002) else (laws_FnExactPuzzleOfRow.j1 k x0 x1 x6 true x505000 x505001 x505002 x515000 x515001 x515002))))) else (some false))))
def laws_FnExactPuzzleOfRow.j1 : Nat → List Int → Int → Bool → Bool → List Int → Int → Int → List Int → Int → Int → Option (Bool)
  | 0, _, _, _, _, _, _, _, _, _, _ => none
  | k + 1, x0, x1, x6, x62, x505000, x505001, x505002, x515000, x515001, x515002 => if x62 = true then (some false) else ((laws_markPuzzle.f k x515000 x515001 x515002 1).bind fun bt523 => ((laws_heldPuzzle.f k bt523.2 x515001 x515002 1).bind fun t525 => (if t525 < 0 then (some false) else (if t525 = bt523.1 then ((laws_toIntS.f k x0).bind fun t526 => ((impl_PuzzleOfRow.f k t526 x1).bind fun bt529 => ((laws_eqPuzzle.f k bt529.1 bt529.2.1 bt529.2.2.1 x505000 x505001 x505002).bind fun t536 => (if t536 = true then (laws_FnExactPuzzleOfRow.j2 k bt523.1 (bt529.2.2.2 != x6) bt523.2 x515001 x515002) else (laws_FnExactPuzzleOfRow.j2 k bt523.1 true bt523.2 x515001 x515002))))) else (some false)))))
def laws_FnExactPuzzleOfRow.j2 : Nat → Int → Bool → List Int → Int → Int → Option (Bool)
  | 0, _, _, _, _, _ => none
  | k + 1, x11, x89, x515000, x515001, x515002 => if x89 = true then (some false) else ((laws_heldPuzzle.f k x515000 x515001 x515002 1).bind fun t537 => (if t537 < 0 then (some false) else (if t537 = x11 then (some true) else (some false))))
end
def laws_FnExactPuzzleOfRow.f (k : Nat) (l0 : List Int) (a1 : Int) : Option (Bool) := if (l0.length : Int) > 1048576 then (some true) else ((laws_toIntS.f k l0).bind fun t495 => ((spec_PuzzleOfRow.f k t495 a1).bind fun bt498 => ((laws_toIntS.f k l0).bind fun t505 => ((impl_PuzzleOfRow.f k t505 a1).bind fun bt508 => ((laws_eqPuzzle.f k bt508.1 bt508.2.1 bt508.2.2.1 bt498.1 bt498.2.1 bt498.2.2.1).bind fun t515 => (if t515 = true then (laws_FnExactPuzzleOfRow.j0 k l0 a1 bt498.2.2.2 t505 bt508.2.2.2 (bt508.2.2.2 != bt498.2.2.2) bt498.1 bt498.2.1 bt498.2.2.1 bt508.1 bt508.2.1 bt508.2.2.1) else (laws_FnExactPuzzleOfRow.j0 k l0 a1 bt498.2.2.2 t505 bt508.2.2.2 true bt498.1 bt498.2.1 bt498.2.2.1 bt508.1 bt508.2.1 bt508.2.2.1)))))))
theorem laws_FnExactPuzzleOfRow.mono_l : ∀ k, (∀ y0 y1 y2 y3 y4 y5 y6 y7 y8 y9 y10 y11, LeO (laws_FnExactPuzzleOfRow.j0 k y0 y1 y2 y3 y4 y5 y6 y7 y8 y9 y10 y11) (laws_FnExactPuzzleOfRow.j0 (k + 1) y0 y1 y2 y3 y4 y5 y6 y7 y8 y9 y10 y11)) ∧ (∀ y0 y1 y2 y3 y4 y5 y6 y7 y8 y9, LeO (laws_FnExactPuzzleOfRow.j1 k y0 y1 y2 y3 y4 y5 y6 y7 y8 y9) (laws_FnExactPuzzleOfRow.j1 (k + 1) y0 y1 y2 y3 y4 y5 y6 y7 y8 y9)) ∧ (∀ y0 y1 y2 y3 y4, LeO (laws_FnExactPuzzleOfRow.j2 k y0 y1 y2 y3 y4) (laws_FnExactPuzzleOfRow.j2 (k + 1) y0 y1 y2 y3 y4))
  | 0 => ⟨fun _ _ _ _ _ _ _ _ _ _ _ _ r h => by simp [laws_FnExactPuzzleOfRow.j0] at h, fun _ _ _ _ _ _ _ _ _ _ r h => by simp [laws_FnExactPuzzleOfRow.j1] at h, fun _ _ _ _ _ r h => by simp [laws_FnExactPuzzleOfRow.j2] at h⟩
  | k + 1 => by
    obtain ⟨ih0, ih1, ih2⟩ := laws_FnExactPuzzleOfRow.mono_l k
    refine ⟨?_, ?_, ?_⟩
    · intro y0 y1 y2 y3 y4 y5 y6 y7 y8 y9 y10 y11
      unfold laws_FnExactPuzzleOfRow.j0
      repeat' first
      | (with_reducible exact ih0 _ _ _ _ _ _ _ _ _ _ _ _)
      | (with_reducible exact ih1 _ _ _ _ _ _ _ _ _ _)
      | (with_reducible exact ih2 _ _ _ _ _)
      | (with_reducible exact impl_PuzzleOfRow.mono _ _ _)
      | (with_reducible exact laws_eqIntS.mono _ _ _)
      | (with_reducible exact laws_eqPuzzle.mono _ _ _ _ _ _ _)
      | (with_reducible exact laws_heldPuzzle.mono _ _ _ _ _)
      | (with_reducible exact laws_markIntS.mono _ _ _)
      | (with_reducible exact laws_markPuzzle.mono _ _ _ _ _)
      | (with_reducible exact laws_toIntS.mono _ _)
      | (with_reducible exact spec_PuzzleOfRow.mono _ _ _)
      | (with_reducible exact LeO.refl _)
      | (with_reducible exact LeO.none _)
      | (with_reducible refine LeO.ite ?_ ?_)
      | (with_reducible refine LeO.bind ?_ (fun _ => ?_))
      | exact ih0 _ _ _ _ _ _ _ _ _ _ _ _
      | exact ih1 _ _ _ _ _ _ _ _ _ _
      | exact ih2 _ _ _ _ _
      | exact impl_PuzzleOfRow.mono _ _ _
      | exact laws_eqIntS.mono _ _ _
      | exact laws_eqPuzzle.mono _ _ _ _ _ _ _
      | exact laws_heldPuzzle.mono _ _ _ _ _
      | exact laws_markIntS.mono _ _ _
      | exact laws_markPuzzle.mono _ _ _ _ _
      | exact laws_toIntS.mono _ _
      | exact spec_PuzzleOfRow.mono _ _ _
      | exact LeO.none _
      | refine LeO.ite ?_ ?_
      | refine LeO.bind ?_ (fun _ => ?_)
    · intro y0 y1 y2 y3 y4 y5 y6 y7 y8 y9
      unfold laws_FnExactPuzzleOfRow.j1
      repeat' first
      | (with_reducible exact ih0 _ _ _ _ _ _ _ _ _ _ _ _)
      | (with_reducible exact ih1 _ _ _ _ _ _ _ _ _ _)
      | (with_reducible exact ih2 _ _ _ _ _)
      | (with_reducible exact impl_PuzzleOfRow.mono _ _ _)
      | (with_reducible exact laws_eqIntS.mono _ _ _)
      | (with_reducible exact laws_eqPuzzle.mono _ _ _ _ _ _ _)
      | (with_reducible exact laws_heldPuzzle.mono _ _ _ _ _)
      | (with_reducible exact laws_markIntS.mono _ _ _)
      | (with_reducible exact laws_markPuzzle.mono _ _ _ _ _)
      | (with_reducible exact laws_toIntS.mono _ _)
      | (with_reducible exact spec_PuzzleOfRow.mono _ _ _)
      | (with_reducible exact LeO.refl _)
      | (with_reducible exact LeO.none _)
      | (with_reducible refine LeO.ite ?_ ?_)
      | (with_reducible refine LeO.bind ?_ (fun _ => ?_))
      | exact ih0 _ _ _ _ _ _ _ _ _ _ _ _
      | exact ih1 _ _ _ _ _ _ _ _ _ _
      | exact ih2 _ _ _ _ _
      | exact impl_PuzzleOfRow.mono _ _ _
      | exact laws_eqIntS.mono _ _ _
      | exact laws_eqPuzzle.mono _ _ _ _ _ _ _
      | exact laws_heldPuzzle.mono _ _ _ _ _
      | exact laws_markIntS.mono _ _ _
      | exact laws_markPuzzle.mono _ _ _ _ _
      | exact laws_toIntS.mono _ _
      | exact spec_PuzzleOfRow.mono _ _ _
      | exact LeO.none _
      | refine LeO.ite ?_ ?_
      | refine LeO.bind ?_ (fun _ => ?_)
    · intro y0 y1 y2 y3 y4
      unfold laws_FnExactPuzzleOfRow.j2
      repeat' first
      | (with_reducible exact ih0 _ _ _ _ _ _ _ _ _ _ _ _)
      | (with_reducible exact ih1 _ _ _ _ _ _ _ _ _ _)
      | (with_reducible exact ih2 _ _ _ _ _)
      | (with_reducible exact impl_PuzzleOfRow.mono _ _ _)
      | (with_reducible exact laws_eqIntS.mono _ _ _)
      | (with_reducible exact laws_eqPuzzle.mono _ _ _ _ _ _ _)
      | (with_reducible exact laws_heldPuzzle.mono _ _ _ _ _)
      | (with_reducible exact laws_markIntS.mono _ _ _)
      | (with_reducible exact laws_markPuzzle.mono _ _ _ _ _)
      | (with_reducible exact laws_toIntS.mono _ _)
      | (with_reducible exact spec_PuzzleOfRow.mono _ _ _)
      | (with_reducible exact LeO.refl _)
      | (with_reducible exact LeO.none _)
      | (with_reducible refine LeO.ite ?_ ?_)
      | (with_reducible refine LeO.bind ?_ (fun _ => ?_))
      | exact ih0 _ _ _ _ _ _ _ _ _ _ _ _
      | exact ih1 _ _ _ _ _ _ _ _ _ _
      | exact ih2 _ _ _ _ _
      | exact impl_PuzzleOfRow.mono _ _ _
      | exact laws_eqIntS.mono _ _ _
      | exact laws_eqPuzzle.mono _ _ _ _ _ _ _
      | exact laws_heldPuzzle.mono _ _ _ _ _
      | exact laws_markIntS.mono _ _ _
      | exact laws_markPuzzle.mono _ _ _ _ _
      | exact laws_toIntS.mono _ _
      | exact spec_PuzzleOfRow.mono _ _ _
      | exact LeO.none _
      | refine LeO.ite ?_ ?_
      | refine LeO.bind ?_ (fun _ => ?_)
theorem laws_FnExactPuzzleOfRow.mono : ∀ a0 a1 k, LeO (laws_FnExactPuzzleOfRow.f k a0 a1) (laws_FnExactPuzzleOfRow.f (k + 1) a0 a1) := by
  intro a0 a1 k
  obtain ⟨ih0, ih1, ih2⟩ := laws_FnExactPuzzleOfRow.mono_l k
  unfold laws_FnExactPuzzleOfRow.f
  repeat' first
      | (with_reducible exact ih0 _ _ _ _ _ _ _ _ _ _ _ _)
      | (with_reducible exact ih1 _ _ _ _ _ _ _ _ _ _)
      | (with_reducible exact ih2 _ _ _ _ _)
      | (with_reducible exact impl_PuzzleOfRow.mono _ _ _)
      | (with_reducible exact laws_eqIntS.mono _ _ _)
      | (with_reducible exact laws_eqPuzzle.mono _ _ _ _ _ _ _)
      | (with_reducible exact laws_heldPuzzle.mono _ _ _ _ _)
      | (with_reducible exact laws_markIntS.mono _ _ _)
      | (with_reducible exact laws_markPuzzle.mono _ _ _ _ _)
      | (with_reducible exact laws_toIntS.mono _ _)
      | (with_reducible exact spec_PuzzleOfRow.mono _ _ _)
      | (with_reducible exact LeO.refl _)
      | (with_reducible exact LeO.none _)
      | (with_reducible refine LeO.ite ?_ ?_)
      | (with_reducible refine LeO.bind ?_ (fun _ => ?_))
      | exact ih0 _ _ _ _ _ _ _ _ _ _ _ _
      | exact ih1 _ _ _ _ _ _ _ _ _ _
      | exact ih2 _ _ _ _ _
      | exact impl_PuzzleOfRow.mono _ _ _
      | exact laws_eqIntS.mono _ _ _
      | exact laws_eqPuzzle.mono _ _ _ _ _ _ _
      | exact laws_heldPuzzle.mono _ _ _ _ _
      | exact laws_markIntS.mono _ _ _
      | exact laws_markPuzzle.mono _ _ _ _ _
      | exact laws_toIntS.mono _ _
      | exact spec_PuzzleOfRow.mono _ _ _
      | exact LeO.none _
      | refine LeO.ite ?_ ?_
      | refine LeO.bind ?_ (fun _ => ?_)
set_option maxHeartbeats 8000000 in
set_option maxRecDepth 100000 in
theorem laws_FnExactPuzzleOfRow.calls (k : Nat) (A0 : Option Addr) (c0 : Nat) (l0 : List Int) (a1 : Int) (r : Bool) (w : World) (hr0 : Kd.C (Kd.int .i64) w A0 l0.length l0) (hc0 : l0.length ≤ c0) (h : laws_FnExactPuzzleOfRow.f k l0 a1 = some r) :
    Calls Try.prog 7 #[.slice A0 l0.length c0, .int .i64 a1] w fun e w' => e = .returned (.bool r) ∧ Below w.heap.size w w' := by
  have hu40 := Try.underlying40
  have HR0 := Aside0.mk hr0
  have HC0 := Aside0.mk hc0
  clear hr0 hc0
  have HB := Aside0.mk (Below.refl w.heap.size w)
  have H : (if (l0.length : Int) > 1048576 then (some true) else ((laws_toIntS.f k l0).bind fun t495 => ((spec_PuzzleOfRow.f k t495 a1).bind fun bt498 => ((laws_toIntS.f k l0).bind fun t505 => ((impl_PuzzleOfRow.f k t505 a1).bind fun bt508 => ((laws_eqPuzzle.f k bt508.1 bt508.2.1 bt508.2.2.1 bt498.1 bt498.2.1 bt498.2.2.1).bind fun t515 => (if t515 = true then (laws_FnExactPuzzleOfRow.j0 k l0 a1 bt498.2.2.2 t505 bt508.2.2.2 (bt508.2.2.2 != bt498.2.2.2) bt498.1 bt498.2.1 bt498.2.2.1 bt508.1 bt508.2.1 bt508.2.2.1) else (laws_FnExactPuzzleOfRow.j0 k l0 a1 bt498.2.2.2 t505 bt508.2.2.2 true bt498.1 bt498.2.1 bt498.2.2.1 bt508.1 bt508.2.1 bt508.2.2.1)))))))) = some r := h
  clear h
  by_cases c3 : (l0.length : Int) > 1048576
  · rw [if_pos c3] at H
    have c3b0 : decide (1048576 < (l0.length : Int)) = true := decide_eq_true c3
    have c3b1 : decide (1048576 < l0.length) = true := decide_eq_true (by omega)
    clear c3
    obtain rfl := Option.some.inj H
    go_enter Try.func7, Try.ntmps7
    go_wp2
    go_ret
    exact ⟨by first | rfl | (simp [errW_none, errW_some] <;> rfl) | (simp [*, errW_none, errW_some] <;> rfl), by repeat (first | (with_reducible first | exact HB.out | apply below_alloc | apply pw_below_drewN | apply below_drew1) | exact HB.out)⟩
  · rw [if_neg c3] at H
    have c3b0 : decide (1048576 < (l0.length : Int)) = false := decide_eq_false c3
    have c3b1 : decide (1048576 < l0.length) = false := decide_eq_false (by omega)
    clear c3
    replace H := Option.bind_eq_some_iff.mp H
    obtain ⟨t495, A40, H⟩ := H
    replace H : ((spec_PuzzleOfRow.f k t495 a1).bind fun bt498 => ((laws_toIntS.f k l0).bind fun t505 => ((impl_PuzzleOfRow.f k t505 a1).bind fun bt508 => ((laws_eqPuzzle.f k bt508.1 bt508.2.1 bt508.2.2.1 bt498.1 bt498.2.1 bt498.2.2.1).bind fun t515 => (if t515 = true then (laws_FnExactPuzzleOfRow.j0 k l0 a1 bt498.2.2.2 t505 bt508.2.2.2 (bt508.2.2.2 != bt498.2.2.2) bt498.1 bt498.2.1 bt498.2.2.1 bt508.1 bt508.2.1 bt508.2.2.1) else (laws_FnExactPuzzleOfRow.j0 k l0 a1 bt498.2.2.2 t505 bt508.2.2.2 true bt498.1 bt498.2.1 bt498.2.2.1 bt508.1 bt508.2.1 bt508.2.2.1)))))) = some r := H
    have A4 := Aside0.mk A40
    clear A40
    replace H := Option.bind_eq_some_iff.mp H
    obtain ⟨⟨t498, t501, t502, t503⟩, A50, H⟩ := H
    replace H : ((laws_toIntS.f k l0).bind fun t505 => ((impl_PuzzleOfRow.f k t505 a1).bind fun bt508 => ((laws_eqPuzzle.f k bt508.1 bt508.2.1 bt508.2.2.1 t498 t501 t502).bind fun t515 => (if t515 = true then (laws_FnExactPuzzleOfRow.j0 k l0 a1 t503 t505 bt508.2.2.2 (bt508.2.2.2 != t503) t498 t501 t502 bt508.1 bt508.2.1 bt508.2.2.1) else (laws_FnExactPuzzleOfRow.j0 k l0 a1 t503 t505 bt508.2.2.2 true t498 t501 t502 bt508.1 bt508.2.1 bt508.2.2.1))))) = some r := H
    have A5 := Aside0.mk A50
    clear A50
    replace H := Option.bind_eq_some_iff.mp H
    obtain ⟨t505, A60, H⟩ := H
    replace H : ((impl_PuzzleOfRow.f k t505 a1).bind fun bt508 => ((laws_eqPuzzle.f k bt508.1 bt508.2.1 bt508.2.2.1 t498 t501 t502).bind fun t515 => (if t515 = true then (laws_FnExactPuzzleOfRow.j0 k l0 a1 t503 t505 bt508.2.2.2 (bt508.2.2.2 != t503) t498 t501 t502 bt508.1 bt508.2.1 bt508.2.2.1) else (laws_FnExactPuzzleOfRow.j0 k l0 a1 t503 t505 bt508.2.2.2 true t498 t501 t502 bt508.1 bt508.2.1 bt508.2.2.1)))) = some r := H
    have A6 := Aside0.mk A60
    clear A60
    replace H := Option.bind_eq_some_iff.mp H
    obtain ⟨⟨t508, t511, t512, t513⟩, A70, H⟩ := H
    replace H : ((laws_eqPuzzle.f k t508 t511 t512 t498 t501 t502).bind fun t515 => (if t515 = true then (laws_FnExactPuzzleOfRow.j0 k l0 a1 t503 t505 t513 (t513 != t503) t498 t501 t502 t508 t511 t512) else (laws_FnExactPuzzleOfRow.j0 k l0 a1 t503 t505 t513 true t498 t501 t502 t508 t511 t512))) = some r := H
    have A7 := Aside0.mk A70
    clear A70
    have HC8 := Aside0.mk H
    clear H
    go_enter Try.func7, Try.ntmps7
    go_upto_region 6 with (first | ((with_reducible refine gate_callee (f := 21) rfl ?_); refine goesL_ (some 20) rfl rfl Try.func21 (by kernel_rfl) rfl #[.slice A0 l0.length c0] rfl (by (try simp only [List.map_toArray, List.map_cons, List.map_nil]); first | done | rfl | (simp only [List.length_drop, List.length_take]; rfl)) ?_; (with_reducible refine (laws_toIntS.calls k _ _ l0 t495 _ ?side1 ?side2 A4.out).mono ?_); (case side1 => repeat (first | exact HR0.out | (with_reducible refine Kd.C_alloc ?_ _) | (with_reducible refine Kd.C_drewN ?_ _) | (with_reducible refine Kd.C_drew ?_))); (case side2 => exact HC0.out); rintro e w9 ⟨v496, rfl, ho0, hb⟩; refine ⟨_, rfl, ?_⟩; have n0_ := Aside0.mk (Kd.R_lower ho0 (below_size (by repeat (first | (with_reducible first | exact HB.out | apply below_alloc | apply pw_below_drewN | apply below_drew1) | exact HB.out)))); have n1_ := Aside0.mk (below_step (by repeat (first | (with_reducible first | exact HB.out | apply below_alloc | apply pw_below_drewN | apply below_drew1) | exact HB.out)) hb); clear HB; have HO497 := n0_; have HB := n1_; clear n0_ n1_; (try clear hb); (try clear hb2); (try clear hk); (try clear hi); (try clear ho0); obtain ⟨Ao10, co10, eo10⟩ := Kd.R_slice HO497.out; subst eo10) | ((with_reducible refine gate_callee (f := 28) rfl ?_); refine goesL_ (some 22) rfl rfl Try.func28 (by kernel_rfl) rfl #[.slice Ao10 t495.length co10, .int .i64 a1] rfl (by (try simp only [List.map_toArray, List.map_cons, List.map_nil]); first | done | rfl | (simp only [List.length_drop, List.length_take]; rfl)) ?_; (with_reducible refine (spec_PuzzleOfRow.calls k _ _ t495 a1 t498 t501 t502 t503 _ ?side1 ?side2 A5.out).mono ?_); (case side1 => repeat (first | exact (Kd.R_reads' HO497.out).2.2 | (with_reducible refine Kd.C_alloc ?_ _) | (with_reducible refine Kd.C_drewN ?_ _) | (with_reducible refine Kd.C_drew ?_))); (case side2 => exact (Kd.R_reads' HO497.out).2.1); rintro e w11 ⟨v499, rfl, ho0, hb⟩; refine ⟨_, rfl, ?_⟩; have n0_ := Aside0.mk (Kd.R_elder' (by (with_reducible repeat (first | apply Kd.R_alloc | apply Kd.R_drewN | apply Kd.R_drew)); exact HO497.out) (Kd.R_base ho0) hb); have n1_ := Aside0.mk (Kd.R_lower (Kd.R_new' ho0 (Kd.R_lt (by (with_reducible repeat (first | apply Kd.R_alloc | apply Kd.R_drewN | apply Kd.R_drew)); exact HO497.out))) (below_size (by repeat (first | (with_reducible first | exact HB.out | apply below_alloc | apply pw_below_drewN | apply below_drew1) | exact HB.out)))); have n2_ := Aside0.mk (below_step (by repeat (first | (with_reducible first | exact HB.out | apply below_alloc | apply pw_below_drewN | apply below_drew1) | exact HB.out)) hb); clear HO497; clear HB; have HO497 := n0_; have HO500 := n1_; have HB := n2_; clear n0_ n1_ n2_; (try clear hb); (try clear hb2); (try clear hk); (try clear hi); (try clear ho0)) | ((with_reducible refine gate_dst (N := 5) rfl ?_); refine box_event ?hg (N := 5) ?hd (cs := #[.slice none 0 0, .int .i64 0, .int .i64 0]) (t := 40) ?hr ?_; (case hd => rfl); (case hg => rfl); (case hr => first | (go_simp; done) | (go_simp; rfl)); intro gb504 hg w12 hbox hb; have n0_ := Aside0.mk (Kd.R_below (by (with_reducible repeat (first | apply Kd.R_alloc | apply Kd.R_drewN | apply Kd.R_drew)); exact HO497.out) hb); have n1_ := Aside0.mk (Kd.R_below (by (with_reducible repeat (first | apply Kd.R_alloc | apply Kd.R_drewN | apply Kd.R_drew)); exact HO500.out) hb); have n2_ := Aside0.mk (below_step (by repeat (first | (with_reducible first | exact HB.out | apply below_alloc | apply pw_below_drewN | apply below_drew1) | exact HB.out)) hb); have n3_ := Aside0.mk (hbox); have n4_ := Aside0.mk ((by rw [hg]; exact (below_size (by repeat (first | (with_reducible first | exact HB.out | apply below_alloc | apply pw_below_drewN | apply below_drew1) | exact HB.out))) : w.heap.size ≤ gb504)); have n5_ := Aside0.mk ((by rw [hg]; exact (below_size (by repeat (first | (with_reducible first | exact HB.out | apply below_alloc | apply pw_below_drewN | apply below_drew1) | exact HB.out))) : w.heap.size ≤ gb504)); clear HO497; clear HO500; clear HB; have HO497 := n0_; have HO500 := n1_; have HB := n2_; have BK504 := n3_; have GW504 := n4_; have GE504 := n5_; clear n0_ n1_ n2_ n3_ n4_ n5_; clear hb hbox hg; obtain ⟨Ao13, co13, eo13⟩ := Kd.R_slice HO500.out; subst eo13; have hcz14_0 : w12.cell? ⟨gb504, 0, none⟩ = some (.slice none 0 0) := (blk_cell BK504.out 0).trans rfl; have hcz14_1 : w12.cell? ⟨gb504, 1, none⟩ = some (.int .i64 0) := (blk_cell BK504.out 1).trans rfl; have hcz14_2 : w12.cell? ⟨gb504, 2, none⟩ = some (.int .i64 0) := (blk_cell BK504.out 2).trans rfl; have hfz14_0 := blk_frozen BK504.out 0; have hfz14_1 := blk_frozen BK504.out 1; have hfz14_2 := blk_frozen BK504.out 2) | ((with_reducible refine gate_callee (f := 21) rfl ?_); refine goesL_ (some 26) rfl rfl Try.func21 (by kernel_rfl) rfl #[.slice A0 l0.length c0] rfl (by (try simp only [List.map_toArray, List.map_cons, List.map_nil]); first | done | rfl | (simp only [List.length_drop, List.length_take]; rfl)) ?_; (with_reducible refine (laws_toIntS.calls k _ _ l0 t505 _ ?side1 ?side2 A6.out).mono ?_); (case side1 => exact Kd.C_below HR0.out (by repeat (first | (with_reducible first | exact HB.out | apply below_alloc | apply pw_below_drewN | apply below_drew1 | refine below_set ?_ GE504.out) | exact HB.out))); (case side2 => exact HC0.out); rintro e w15 ⟨v506, rfl, ho0, hb⟩; refine ⟨_, rfl, ?_⟩; have n0_ := Aside0.mk (Kd.R_elder' (by (with_reducible repeat (first | apply Kd.R_alloc | apply Kd.R_drewN | apply Kd.R_drew)); exact (Kd.R_mono (Kd.R_far (p := ⟨gb504, 2, none⟩) (Kd.R_far (p := ⟨gb504, 1, none⟩) (Kd.R_far (p := ⟨gb504, 0, none⟩) (Kd.R_types HO497.out BK504.out (by decide)) (fun _ hk => hk.2) (.slice Ao13 t498.length co13)) (fun _ hk => hk.2) (.int .i64 t501)) (fun _ hk => hk.2) (.int .i64 t502)) (fun _ h_ => h_.1))) (Kd.R_base ho0) hb); have n1_ := Aside0.mk (Kd.R_elder' (by (with_reducible repeat (first | apply Kd.R_alloc | apply Kd.R_drewN | apply Kd.R_drew)); exact (Kd.R_mono (Kd.R_far (p := ⟨gb504, 2, none⟩) (Kd.R_far (p := ⟨gb504, 1, none⟩) (Kd.R_far (p := ⟨gb504, 0, none⟩) (Kd.R_types HO500.out BK504.out (by decide)) (fun _ hk => hk.2) (.slice Ao13 t498.length co13)) (fun _ hk => hk.2) (.int .i64 t501)) (fun _ hk => hk.2) (.int .i64 t502)) (fun _ h_ => h_.1))) (Kd.R_base ho0) hb); have n2_ := Aside0.mk (Kd.R_lower (Kd.R_new' (Kd.R_new' ho0 (Kd.R_lt (by (with_reducible repeat (first | apply Kd.R_alloc | apply Kd.R_drewN | apply Kd.R_drew)); exact (Kd.R_mono (Kd.R_far (p := ⟨gb504, 2, none⟩) (Kd.R_far (p := ⟨gb504, 1, none⟩) (Kd.R_far (p := ⟨gb504, 0, none⟩) (Kd.R_types HO497.out BK504.out (by decide)) (fun _ hk => hk.2) (.slice Ao13 t498.length co13)) (fun _ hk => hk.2) (.int .i64 t501)) (fun _ hk => hk.2) (.int .i64 t502)) (fun _ h_ => h_.1))))) (Kd.R_lt (by (with_reducible repeat (first | apply Kd.R_alloc | apply Kd.R_drewN | apply Kd.R_drew)); exact (Kd.R_mono (Kd.R_far (p := ⟨gb504, 2, none⟩) (Kd.R_far (p := ⟨gb504, 1, none⟩) (Kd.R_far (p := ⟨gb504, 0, none⟩) (Kd.R_types HO500.out BK504.out (by decide)) (fun _ hk => hk.2) (.slice Ao13 t498.length co13)) (fun _ hk => hk.2) (.int .i64 t501)) (fun _ hk => hk.2) (.int .i64 t502)) (fun _ h_ => h_.1))))) (below_size (by repeat (first | (with_reducible first | exact HB.out | apply below_alloc | apply pw_below_drewN | apply below_drew1 | refine below_set ?_ GE504.out) | exact HB.out)))); have n3_ := Aside0.mk (blk_below (g := gb504) (o := .cells #[.slice Ao13 t498.length co13, .int .i64 t501, .int .i64 t502] 40 (0, 0)) (by (with_reducible repeat (first | refine blk_drewN ?_ _ | refine blk_drew ?_ | refine blk_alloc ?_ _)); refine blk_put (cs := #[.slice Ao13 t498.length co13, .int .i64 t501, .int .i64 0]) ?_ 2 _ rfl; (with_reducible repeat (first | refine blk_drewN ?_ _ | refine blk_drew ?_ | refine blk_alloc ?_ _)); refine blk_put (cs := #[.slice Ao13 t498.length co13, .int .i64 0, .int .i64 0]) ?_ 1 _ rfl; (with_reducible repeat (first | refine blk_drewN ?_ _ | refine blk_drew ?_ | refine blk_alloc ?_ _)); refine blk_put (cs := #[.slice none 0 0, .int .i64 0, .int .i64 0]) ?_ 0 _ rfl; (with_reducible repeat (first | refine blk_drewN ?_ _ | refine blk_drew ?_ | refine blk_alloc ?_ _)); exact BK504.out) hb); have n4_ := Aside0.mk (below_step (by repeat (first | (with_reducible first | exact HB.out | apply below_alloc | apply pw_below_drewN | apply below_drew1 | refine below_set ?_ GE504.out) | exact HB.out)) hb); clear HO497; clear HO500; clear BK504; clear HB; have HO497 := n0_; have HO500 := n1_; have HO507 := n2_; have BK504 := n3_; have HB := n4_; clear n0_ n1_ n2_ n3_ n4_; (try clear hb); (try clear hb2); (try clear hk); (try clear hi); (try clear ho0); obtain ⟨Ao16, co16, eo16⟩ := Kd.R_slice HO507.out; subst eo16) | ((with_reducible refine gate_callee (f := 29) rfl ?_); refine goesL_ (some 30) rfl rfl Try.func29 (by kernel_rfl) rfl #[.slice Ao16 t505.length co16, .int .i64 a1] rfl (by (try simp only [List.map_toArray, List.map_cons, List.map_nil]); first | done | rfl | (simp only [List.length_drop, List.length_take]; rfl)) ?_; (with_reducible refine (impl_PuzzleOfRow.calls k _ _ t505 a1 t508 t511 t512 t513 _ ?side1 ?side2 A7.out).mono ?_); (case side1 => repeat (first | exact (Kd.R_reads' HO507.out).2.2 | (with_reducible refine Kd.C_alloc ?_ _) | (with_reducible refine Kd.C_drewN ?_ _) | (with_reducible refine Kd.C_drew ?_))); (case side2 => exact (Kd.R_reads' HO507.out).2.1); rintro e w17 ⟨v509, rfl, ho0, hb⟩; refine ⟨_, rfl, ?_⟩; have n0_ := Aside0.mk (Kd.R_elder' (by (with_reducible repeat (first | apply Kd.R_alloc | apply Kd.R_drewN | apply Kd.R_drew)); exact HO497.out) (Kd.R_base ho0) hb); have n1_ := Aside0.mk (Kd.R_elder' (by (with_reducible repeat (first | apply Kd.R_alloc | apply Kd.R_drewN | apply Kd.R_drew)); exact HO500.out) (Kd.R_base ho0) hb); have n2_ := Aside0.mk (Kd.R_elder' (by (with_reducible repeat (first | apply Kd.R_alloc | apply Kd.R_drewN | apply Kd.R_drew)); exact HO507.out) (Kd.R_base ho0) hb); have n3_ := Aside0.mk (Kd.R_lower (Kd.R_new' (Kd.R_new' (Kd.R_new' ho0 (Kd.R_lt (by (with_reducible repeat (first | apply Kd.R_alloc | apply Kd.R_drewN | apply Kd.R_drew)); exact HO497.out))) (Kd.R_lt (by (with_reducible repeat (first | apply Kd.R_alloc | apply Kd.R_drewN | apply Kd.R_drew)); exact HO500.out))) (Kd.R_lt (by (with_reducible repeat (first | apply Kd.R_alloc | apply Kd.R_drewN | apply Kd.R_drew)); exact HO507.out))) (below_size (by repeat (first | (with_reducible first | exact HB.out | apply below_alloc | apply pw_below_drewN | apply below_drew1 | refine below_set ?_ GE504.out) | exact HB.out)))); have n4_ := Aside0.mk (blk_below (g := gb504) (o := .cells #[.slice Ao13 t498.length co13, .int .i64 t501, .int .i64 t502] 40 (0, 0)) (by (with_reducible repeat (first | refine blk_drewN ?_ _ | refine blk_drew ?_ | refine blk_alloc ?_ _)); exact BK504.out) hb); have n5_ := Aside0.mk (below_step (by repeat (first | (with_reducible first | exact HB.out | apply below_alloc | apply pw_below_drewN | apply below_drew1 | refine below_set ?_ GE504.out) | exact HB.out)) hb); clear HO497; clear HO500; clear HO507; clear BK504; clear HB; have HO497 := n0_; have HO500 := n1_; have HO507 := n2_; have HO510 := n3_; have BK504 := n4_; have HB := n5_; clear n0_ n1_ n2_ n3_ n4_ n5_; (try clear hb); (try clear hb2); (try clear hk); (try clear hi); (try clear ho0)) | ((with_reducible refine gate_dst (N := 8) rfl ?_); refine box_event ?hg (N := 8) ?hd (cs := #[.slice none 0 0, .int .i64 0, .int .i64 0]) (t := 40) ?hr ?_; (case hd => rfl); (case hg => rfl); (case hr => first | (go_simp; done) | (go_simp; rfl)); intro gb514 hg w18 hbox hb; have n0_ := Aside0.mk (Kd.R_below (by (with_reducible repeat (first | apply Kd.R_alloc | apply Kd.R_drewN | apply Kd.R_drew)); exact HO497.out) hb); have n1_ := Aside0.mk (Kd.R_below (by (with_reducible repeat (first | apply Kd.R_alloc | apply Kd.R_drewN | apply Kd.R_drew)); exact HO500.out) hb); have n2_ := Aside0.mk (Kd.R_below (by (with_reducible repeat (first | apply Kd.R_alloc | apply Kd.R_drewN | apply Kd.R_drew)); exact HO507.out) hb); have n3_ := Aside0.mk (Kd.R_below (by (with_reducible repeat (first | apply Kd.R_alloc | apply Kd.R_drewN | apply Kd.R_drew)); exact HO510.out) hb); have n4_ := Aside0.mk (blk_below (g := gb504) (o := .cells #[.slice Ao13 t498.length co13, .int .i64 t501, .int .i64 t502] 40 (0, 0)) (by (with_reducible repeat (first | refine blk_drewN ?_ _ | refine blk_drew ?_ | refine blk_alloc ?_ _)); exact BK504.out) hb); have n5_ := Aside0.mk (below_step (by repeat (first | (with_reducible first | exact HB.out | apply below_alloc | apply pw_below_drewN | apply below_drew1 | refine below_set ?_ GE504.out) | exact HB.out)) hb); have n6_ := Aside0.mk (hbox); have n7_ := Aside0.mk ((by rw [hg]; exact (below_size (by repeat (first | (with_reducible first | exact HB.out | apply below_alloc | apply pw_below_drewN | apply below_drew1 | refine below_set ?_ GE504.out) | exact HB.out))) : w.heap.size ≤ gb514)); have n8_ := Aside0.mk ((by rw [hg]; exact (below_size (by repeat (first | (with_reducible first | exact HB.out | apply below_alloc | apply pw_below_drewN | apply below_drew1 | refine below_set ?_ GE504.out) | exact HB.out))) : w.heap.size ≤ gb514)); have n9_ := Aside0.mk ((by rw [hg]; exact Nat.ne_of_lt (blk_lt (g := gb504) (o := .cells #[.slice Ao13 t498.length co13, .int .i64 t501, .int .i64 t502] 40 (0, 0)) (by (with_reducible repeat (first | refine blk_drewN ?_ _ | refine blk_drew ?_ | refine blk_alloc ?_ _)); exact BK504.out)) : gb504 ≠ gb514)); have n10_ := Aside0.mk ((by rw [hg]; exact Nat.ne_of_gt (blk_lt (g := gb504) (o := .cells #[.slice Ao13 t498.length co13, .int .i64 t501, .int .i64 t502] 40 (0, 0)) (by (with_reducible repeat (first | refine blk_drewN ?_ _ | refine blk_drew ?_ | refine blk_alloc ?_ _)); exact BK504.out)) : gb514 ≠ gb504)); clear HO497; clear HO500; clear HO507; clear HO510; clear BK504; clear HB; have HO497 := n0_; have HO500 := n1_; have HO507 := n2_; have HO510 := n3_; have BK504 := n4_; have HB := n5_; have BK514 := n6_; have GW514 := n7_; have GE514 := n8_; have NB504_514 := n9_; have NB514_504 := n10_; clear n0_ n1_ n2_ n3_ n4_ n5_ n6_ n7_ n8_ n9_ n10_; clear hb hbox hg; obtain ⟨Ao19, co19, eo19⟩ := Kd.R_slice HO510.out; subst eo19; have hnb20 := NB514_504.out; have hnc20 := NB504_514.out; have hcz21_0 : w18.cell? ⟨gb514, 0, none⟩ = some (.slice none 0 0) := (blk_cell BK514.out 0).trans rfl; have hcz21_1 : w18.cell? ⟨gb514, 1, none⟩ = some (.int .i64 0) := (blk_cell BK514.out 1).trans rfl; have hcz21_2 : w18.cell? ⟨gb514, 2, none⟩ = some (.int .i64 0) := (blk_cell BK514.out 2).trans rfl; have hfz21_0 := blk_frozen BK514.out 0; have hfz21_1 := blk_frozen BK514.out 1; have hfz21_2 := blk_frozen BK514.out 2))
    (try simp only [Act.put, List.setIfInBounds_toArray, List.set_cons_zero, List.set_cons_succ])
    go_cut [41] (fun v41 wc => ∃ (kq : Nat) (x41_7 : Bool), v41 = .bool x41_7 ∧ Aside0 (laws_FnExactPuzzleOfRow.j0 kq l0 a1 t503 t505 t513 x41_7 t498 t501 t502 t508 t511 t512 = some r) ∧ Aside0 (kq ≤ k) ∧ Aside0 (Kd.R (Kd.int .i64) 3 wc w.heap.size (fun k_ => some k_ ≠ ((.slice Ao13 t498.length co13) : Value).ownBlock ∧ some k_ ≠ ((.slice Ao19 t508.length co19) : Value).ownBlock) (.slice Ao16 t505.length co16) t505) ∧ Aside0 (Kd.R (Kd.int .i64) 3 wc w.heap.size (fun k_ => some k_ ≠ ((.slice Ao16 t505.length co16) : Value).ownBlock ∧ some k_ ≠ ((.slice Ao19 t508.length co19) : Value).ownBlock) (.slice Ao13 t498.length co13) t498) ∧ Aside0 (Kd.R (Kd.int .i64) 3 wc w.heap.size (fun k_ => some k_ ≠ ((.slice Ao16 t505.length co16) : Value).ownBlock ∧ some k_ ≠ ((.slice Ao13 t498.length co13) : Value).ownBlock) (.slice Ao19 t508.length co19) t508) ∧ Aside0 (wc.heap[gb504]? = some (.cells #[(.slice Ao13 t498.length co13), .int .i64 t501, .int .i64 t502] 40 (0, 0))) ∧ Aside0 (wc.heap[gb514]? = some (.cells #[(.slice Ao19 t508.length co19), .int .i64 t511, .int .i64 t512] 40 (0, 0))) ∧ Aside0 (Below w.heap.size w wc))
    case first =>
      have H := HC8.out
      clear HC8
      replace H := Option.bind_eq_some_iff.mp H
      obtain ⟨t515, A220, H⟩ := H
      replace H : (if t515 = true then (laws_FnExactPuzzleOfRow.j0 k l0 a1 t503 t505 t513 (t513 != t503) t498 t501 t502 t508 t511 t512) else (laws_FnExactPuzzleOfRow.j0 k l0 a1 t503 t505 t513 true t498 t501 t502 t508 t511 t512)) = some r := H
      have A22 := Aside0.mk A220
      clear A220
      by_cases c23 : t515 = true
      · subst c23
        have H1 : (laws_FnExactPuzzleOfRow.j0 k l0 a1 t503 t505 t513 (t513 != t503) t498 t501 t502 t508 t511 t512) = some r := by rw [if_pos rfl] at H; exact H
        clear H
        have H := H1
        clear H1
        have H' := Aside0.mk H
        clear H
        have hnb24 := NB514_504.out
        have hnc24 := NB504_514.out
        have hcz25_0 : w18.cell? ⟨gb514, 0, none⟩ = some (.slice none 0 0) := (blk_cell BK514.out 0).trans rfl
        have hcz25_1 : w18.cell? ⟨gb514, 1, none⟩ = some (.int .i64 0) := (blk_cell BK514.out 1).trans rfl
        have hcz25_2 : w18.cell? ⟨gb514, 2, none⟩ = some (.int .i64 0) := (blk_cell BK514.out 2).trans rfl
        have hfz25_0 := blk_frozen BK514.out 0
        have hfz25_1 := blk_frozen BK514.out 1
        have hfz25_2 := blk_frozen BK514.out 2
        have hcz26_0 : w18.cell? ⟨gb504, 0, none⟩ = some (.slice Ao13 t498.length co13) := (blk_cell BK504.out 0).trans rfl
        have hcz26_1 : w18.cell? ⟨gb504, 1, none⟩ = some (.int .i64 t501) := (blk_cell BK504.out 1).trans rfl
        have hcz26_2 : w18.cell? ⟨gb504, 2, none⟩ = some (.int .i64 t502) := (blk_cell BK504.out 2).trans rfl
        have hfz26_0 := blk_frozen BK504.out 0
        have hfz26_1 := blk_frozen BK504.out 1
        have hfz26_2 := blk_frozen BK504.out 2
        go_wp2_with (first | ((with_reducible refine gate_callee (f := 30) rfl ?_); refine goesL_ (some 35) rfl rfl Try.func30 (by kernel_rfl) rfl #[.agg #[.slice Ao19 t508.length co19, .int .i64 t511, .int .i64 t512], .agg #[.slice Ao13 t498.length co13, .int .i64 t501, .int .i64 t502]] rfl (by (try simp only [List.map_toArray, List.map_cons, List.map_nil]); first | done | rfl | (simp only [List.length_drop, List.length_take]; rfl)) ?_; (with_reducible refine (laws_eqPuzzle.calls k _ _ t508 t511 t512 _ _ t498 t501 t502 true _ ?side1 ?side2 ?side3 ?side4 A22.out).mono ?_); (case side1 => refine (Kd.R_reads' (e := 3) (base := w.heap.size) (ok := fun k_ => (((True ∧ some k_ ≠ (.slice Ao10 t495.length co10 : Value).ownBlock) ∧ some k_ ≠ (.slice Ao13 t498.length co13 : Value).ownBlock) ∧ some k_ ≠ (.slice Ao16 t505.length co16 : Value).ownBlock)) (n := t508.length) (c := co19) ?_).2.2; exact (by (with_reducible repeat (first | apply Kd.R_alloc | apply Kd.R_drewN | apply Kd.R_drew)); exact (Kd.R_mono (Kd.R_far (p := ⟨gb514, 2, none⟩) (Kd.R_far (p := ⟨gb514, 1, none⟩) (Kd.R_far (p := ⟨gb514, 0, none⟩) (Kd.R_types HO510.out BK514.out (by decide)) (fun _ hk => hk.2) (.slice Ao19 t508.length co19)) (fun _ hk => hk.2) (.int .i64 t511)) (fun _ hk => hk.2) (.int .i64 t512)) (fun _ h_ => h_.1)))); (case side2 => exact (Kd.R_reads' HO510.out).2.1); (case side3 => refine (Kd.R_reads' (e := 3) (base := w.heap.size) (ok := fun k_ => (((True ∧ some k_ ≠ (.slice Ao10 t495.length co10 : Value).ownBlock) ∧ some k_ ≠ (.slice Ao16 t505.length co16 : Value).ownBlock) ∧ some k_ ≠ (.slice Ao19 t508.length co19 : Value).ownBlock)) (n := t498.length) (c := co13) ?_).2.2; exact (by (with_reducible repeat (first | apply Kd.R_alloc | apply Kd.R_drewN | apply Kd.R_drew)); exact (Kd.R_mono (Kd.R_far (p := ⟨gb514, 2, none⟩) (Kd.R_far (p := ⟨gb514, 1, none⟩) (Kd.R_far (p := ⟨gb514, 0, none⟩) (Kd.R_types HO500.out BK514.out (by decide)) (fun _ hk => hk.2) (.slice Ao19 t508.length co19)) (fun _ hk => hk.2) (.int .i64 t511)) (fun _ hk => hk.2) (.int .i64 t512)) (fun _ h_ => h_.1)))); (case side4 => exact (Kd.R_reads' HO500.out).2.1); rintro e w27 ⟨rfl, hb⟩; refine ⟨_, rfl, ?_⟩; have n0_ := Aside0.mk (Kd.R_below (by (with_reducible repeat (first | apply Kd.R_alloc | apply Kd.R_drewN | apply Kd.R_drew)); exact (Kd.R_mono (Kd.R_far (p := ⟨gb514, 2, none⟩) (Kd.R_far (p := ⟨gb514, 1, none⟩) (Kd.R_far (p := ⟨gb514, 0, none⟩) (Kd.R_types HO497.out BK514.out (by decide)) (fun _ hk => hk.2) (.slice Ao19 t508.length co19)) (fun _ hk => hk.2) (.int .i64 t511)) (fun _ hk => hk.2) (.int .i64 t512)) (fun _ h_ => h_.1))) hb); have n1_ := Aside0.mk (Kd.R_below (by (with_reducible repeat (first | apply Kd.R_alloc | apply Kd.R_drewN | apply Kd.R_drew)); exact (Kd.R_mono (Kd.R_far (p := ⟨gb514, 2, none⟩) (Kd.R_far (p := ⟨gb514, 1, none⟩) (Kd.R_far (p := ⟨gb514, 0, none⟩) (Kd.R_types HO500.out BK514.out (by decide)) (fun _ hk => hk.2) (.slice Ao19 t508.length co19)) (fun _ hk => hk.2) (.int .i64 t511)) (fun _ hk => hk.2) (.int .i64 t512)) (fun _ h_ => h_.1))) hb); have n2_ := Aside0.mk (Kd.R_below (by (with_reducible repeat (first | apply Kd.R_alloc | apply Kd.R_drewN | apply Kd.R_drew)); exact (Kd.R_mono (Kd.R_far (p := ⟨gb514, 2, none⟩) (Kd.R_far (p := ⟨gb514, 1, none⟩) (Kd.R_far (p := ⟨gb514, 0, none⟩) (Kd.R_types HO507.out BK514.out (by decide)) (fun _ hk => hk.2) (.slice Ao19 t508.length co19)) (fun _ hk => hk.2) (.int .i64 t511)) (fun _ hk => hk.2) (.int .i64 t512)) (fun _ h_ => h_.1))) hb); have n3_ := Aside0.mk (Kd.R_below (by (with_reducible repeat (first | apply Kd.R_alloc | apply Kd.R_drewN | apply Kd.R_drew)); exact (Kd.R_mono (Kd.R_far (p := ⟨gb514, 2, none⟩) (Kd.R_far (p := ⟨gb514, 1, none⟩) (Kd.R_far (p := ⟨gb514, 0, none⟩) (Kd.R_types HO510.out BK514.out (by decide)) (fun _ hk => hk.2) (.slice Ao19 t508.length co19)) (fun _ hk => hk.2) (.int .i64 t511)) (fun _ hk => hk.2) (.int .i64 t512)) (fun _ h_ => h_.1))) hb); have n4_ := Aside0.mk (blk_below (g := gb504) (o := .cells #[.slice Ao13 t498.length co13, .int .i64 t501, .int .i64 t502] 40 (0, 0)) (by (with_reducible repeat (first | refine blk_drewN ?_ _ | refine blk_drew ?_ | refine blk_alloc ?_ _)); refine blk_far ?_ NB504_514.out _; (with_reducible repeat (first | refine blk_drewN ?_ _ | refine blk_drew ?_ | refine blk_alloc ?_ _)); refine blk_far ?_ NB504_514.out _; (with_reducible repeat (first | refine blk_drewN ?_ _ | refine blk_drew ?_ | refine blk_alloc ?_ _)); refine blk_far ?_ NB504_514.out _; (with_reducible repeat (first | refine blk_drewN ?_ _ | refine blk_drew ?_ | refine blk_alloc ?_ _)); exact BK504.out) hb); have n5_ := Aside0.mk (blk_below (g := gb514) (o := .cells #[.slice Ao19 t508.length co19, .int .i64 t511, .int .i64 t512] 40 (0, 0)) (by (with_reducible repeat (first | refine blk_drewN ?_ _ | refine blk_drew ?_ | refine blk_alloc ?_ _)); refine blk_put (cs := #[.slice Ao19 t508.length co19, .int .i64 t511, .int .i64 0]) ?_ 2 _ rfl; (with_reducible repeat (first | refine blk_drewN ?_ _ | refine blk_drew ?_ | refine blk_alloc ?_ _)); refine blk_put (cs := #[.slice Ao19 t508.length co19, .int .i64 0, .int .i64 0]) ?_ 1 _ rfl; (with_reducible repeat (first | refine blk_drewN ?_ _ | refine blk_drew ?_ | refine blk_alloc ?_ _)); refine blk_put (cs := #[.slice none 0 0, .int .i64 0, .int .i64 0]) ?_ 0 _ rfl; (with_reducible repeat (first | refine blk_drewN ?_ _ | refine blk_drew ?_ | refine blk_alloc ?_ _)); exact BK514.out) hb); have n6_ := Aside0.mk (below_step (by repeat (first | (with_reducible first | exact HB.out | apply below_alloc | apply pw_below_drewN | apply below_drew1 | refine below_set ?_ GE504.out | refine below_set ?_ GE514.out) | exact HB.out)) hb); clear HO497; clear HO500; clear HO507; clear HO510; clear BK504; clear BK514; clear HB; have HO497 := n0_; have HO500 := n1_; have HO507 := n2_; have HO510 := n3_; have BK504 := n4_; have BK514 := n5_; have HB := n6_; clear n0_ n1_ n2_ n3_ n4_ n5_ n6_; (try clear hb); (try clear hb2); (try clear hk); (try clear hi)))
        go_meet
        case rel => exact ⟨_, ((t513 != t503)), (by first | rfl | (simp; done) | (simp [*]; done)), H', ⟨by first | omega | exact Nat.le_refl _⟩, ⟨by (with_reducible repeat (first | apply Kd.R_alloc | apply Kd.R_drewN | apply Kd.R_drew)); exact Kd.R_mono HO507.out (fun _ hk => ⟨hk.1.2, hk.2⟩)⟩, ⟨by (with_reducible repeat (first | apply Kd.R_alloc | apply Kd.R_drewN | apply Kd.R_drew)); exact Kd.R_mono HO500.out (fun _ hk => ⟨hk.1.2, hk.2⟩)⟩, ⟨by (with_reducible repeat (first | apply Kd.R_alloc | apply Kd.R_drewN | apply Kd.R_drew)); exact Kd.R_mono HO510.out (fun _ hk => ⟨hk.2, hk.1.2⟩)⟩, ⟨by (with_reducible repeat (first | refine blk_drewN ?_ _ | refine blk_drew ?_ | refine blk_alloc ?_ _)); exact BK504.out⟩, ⟨by (with_reducible repeat (first | refine blk_drewN ?_ _ | refine blk_drew ?_ | refine blk_alloc ?_ _)); exact BK514.out⟩, ⟨by repeat (first | (with_reducible first | exact HB.out | apply below_alloc | apply pw_below_drewN | apply below_drew1 | refine below_set ?_ GE504.out | refine below_set ?_ GE514.out) | exact HB.out)⟩⟩
      · replace c23 := Bool.eq_false_iff.mpr c23
        subst c23
        have H1 : (laws_FnExactPuzzleOfRow.j0 k l0 a1 t503 t505 t513 true t498 t501 t502 t508 t511 t512) = some r := by rw [if_neg (show ¬ (false = true) by decide)] at H; exact H
        clear H
        have H := H1
        clear H1
        have H' := Aside0.mk H
        clear H
        have hnb28 := NB514_504.out
        have hnc28 := NB504_514.out
        have hcz29_0 : w18.cell? ⟨gb514, 0, none⟩ = some (.slice none 0 0) := (blk_cell BK514.out 0).trans rfl
        have hcz29_1 : w18.cell? ⟨gb514, 1, none⟩ = some (.int .i64 0) := (blk_cell BK514.out 1).trans rfl
        have hcz29_2 : w18.cell? ⟨gb514, 2, none⟩ = some (.int .i64 0) := (blk_cell BK514.out 2).trans rfl
        have hfz29_0 := blk_frozen BK514.out 0
        have hfz29_1 := blk_frozen BK514.out 1
        have hfz29_2 := blk_frozen BK514.out 2
        have hcz30_0 : w18.cell? ⟨gb504, 0, none⟩ = some (.slice Ao13 t498.length co13) := (blk_cell BK504.out 0).trans rfl
        have hcz30_1 : w18.cell? ⟨gb504, 1, none⟩ = some (.int .i64 t501) := (blk_cell BK504.out 1).trans rfl
        have hcz30_2 : w18.cell? ⟨gb504, 2, none⟩ = some (.int .i64 t502) := (blk_cell BK504.out 2).trans rfl
        have hfz30_0 := blk_frozen BK504.out 0
        have hfz30_1 := blk_frozen BK504.out 1
        have hfz30_2 := blk_frozen BK504.out 2
        go_wp2_with (first | ((with_reducible refine gate_callee (f := 30) rfl ?_); refine goesL_ (some 35) rfl rfl Try.func30 (by kernel_rfl) rfl #[.agg #[.slice Ao19 t508.length co19, .int .i64 t511, .int .i64 t512], .agg #[.slice Ao13 t498.length co13, .int .i64 t501, .int .i64 t502]] rfl (by (try simp only [List.map_toArray, List.map_cons, List.map_nil]); first | done | rfl | (simp only [List.length_drop, List.length_take]; rfl)) ?_; (with_reducible refine (laws_eqPuzzle.calls k _ _ t508 t511 t512 _ _ t498 t501 t502 false _ ?side1 ?side2 ?side3 ?side4 A22.out).mono ?_); (case side1 => refine (Kd.R_reads' (e := 3) (base := w.heap.size) (ok := fun k_ => (((True ∧ some k_ ≠ (.slice Ao10 t495.length co10 : Value).ownBlock) ∧ some k_ ≠ (.slice Ao13 t498.length co13 : Value).ownBlock) ∧ some k_ ≠ (.slice Ao16 t505.length co16 : Value).ownBlock)) (n := t508.length) (c := co19) ?_).2.2; exact (by (with_reducible repeat (first | apply Kd.R_alloc | apply Kd.R_drewN | apply Kd.R_drew)); exact (Kd.R_mono (Kd.R_far (p := ⟨gb514, 2, none⟩) (Kd.R_far (p := ⟨gb514, 1, none⟩) (Kd.R_far (p := ⟨gb514, 0, none⟩) (Kd.R_types HO510.out BK514.out (by decide)) (fun _ hk => hk.2) (.slice Ao19 t508.length co19)) (fun _ hk => hk.2) (.int .i64 t511)) (fun _ hk => hk.2) (.int .i64 t512)) (fun _ h_ => h_.1)))); (case side2 => exact (Kd.R_reads' HO510.out).2.1); (case side3 => refine (Kd.R_reads' (e := 3) (base := w.heap.size) (ok := fun k_ => (((True ∧ some k_ ≠ (.slice Ao10 t495.length co10 : Value).ownBlock) ∧ some k_ ≠ (.slice Ao16 t505.length co16 : Value).ownBlock) ∧ some k_ ≠ (.slice Ao19 t508.length co19 : Value).ownBlock)) (n := t498.length) (c := co13) ?_).2.2; exact (by (with_reducible repeat (first | apply Kd.R_alloc | apply Kd.R_drewN | apply Kd.R_drew)); exact (Kd.R_mono (Kd.R_far (p := ⟨gb514, 2, none⟩) (Kd.R_far (p := ⟨gb514, 1, none⟩) (Kd.R_far (p := ⟨gb514, 0, none⟩) (Kd.R_types HO500.out BK514.out (by decide)) (fun _ hk => hk.2) (.slice Ao19 t508.length co19)) (fun _ hk => hk.2) (.int .i64 t511)) (fun _ hk => hk.2) (.int .i64 t512)) (fun _ h_ => h_.1)))); (case side4 => exact (Kd.R_reads' HO500.out).2.1); rintro e w31 ⟨rfl, hb⟩; refine ⟨_, rfl, ?_⟩; have n0_ := Aside0.mk (Kd.R_below (by (with_reducible repeat (first | apply Kd.R_alloc | apply Kd.R_drewN | apply Kd.R_drew)); exact (Kd.R_mono (Kd.R_far (p := ⟨gb514, 2, none⟩) (Kd.R_far (p := ⟨gb514, 1, none⟩) (Kd.R_far (p := ⟨gb514, 0, none⟩) (Kd.R_types HO497.out BK514.out (by decide)) (fun _ hk => hk.2) (.slice Ao19 t508.length co19)) (fun _ hk => hk.2) (.int .i64 t511)) (fun _ hk => hk.2) (.int .i64 t512)) (fun _ h_ => h_.1))) hb); have n1_ := Aside0.mk (Kd.R_below (by (with_reducible repeat (first | apply Kd.R_alloc | apply Kd.R_drewN | apply Kd.R_drew)); exact (Kd.R_mono (Kd.R_far (p := ⟨gb514, 2, none⟩) (Kd.R_far (p := ⟨gb514, 1, none⟩) (Kd.R_far (p := ⟨gb514, 0, none⟩) (Kd.R_types HO500.out BK514.out (by decide)) (fun _ hk => hk.2) (.slice Ao19 t508.length co19)) (fun _ hk => hk.2) (.int .i64 t511)) (fun _ hk => hk.2) (.int .i64 t512)) (fun _ h_ => h_.1))) hb); have n2_ := Aside0.mk (Kd.R_below (by (with_reducible repeat (first | apply Kd.R_alloc | apply Kd.R_drewN | apply Kd.R_drew)); exact (Kd.R_mono (Kd.R_far (p := ⟨gb514, 2, none⟩) (Kd.R_far (p := ⟨gb514, 1, none⟩) (Kd.R_far (p := ⟨gb514, 0, none⟩) (Kd.R_types HO507.out BK514.out (by decide)) (fun _ hk => hk.2) (.slice Ao19 t508.length co19)) (fun _ hk => hk.2) (.int .i64 t511)) (fun _ hk => hk.2) (.int .i64 t512)) (fun _ h_ => h_.1))) hb); have n3_ := Aside0.mk (Kd.R_below (by (with_reducible repeat (first | apply Kd.R_alloc | apply Kd.R_drewN | apply Kd.R_drew)); exact (Kd.R_mono (Kd.R_far (p := ⟨gb514, 2, none⟩) (Kd.R_far (p := ⟨gb514, 1, none⟩) (Kd.R_far (p := ⟨gb514, 0, none⟩) (Kd.R_types HO510.out BK514.out (by decide)) (fun _ hk => hk.2) (.slice Ao19 t508.length co19)) (fun _ hk => hk.2) (.int .i64 t511)) (fun _ hk => hk.2) (.int .i64 t512)) (fun _ h_ => h_.1))) hb); have n4_ := Aside0.mk (blk_below (g := gb504) (o := .cells #[.slice Ao13 t498.length co13, .int .i64 t501, .int .i64 t502] 40 (0, 0)) (by (with_reducible repeat (first | refine blk_drewN ?_ _ | refine blk_drew ?_ | refine blk_alloc ?_ _)); refine blk_far ?_ NB504_514.out _; (with_reducible repeat (first | refine blk_drewN ?_ _ | refine blk_drew ?_ | refine blk_alloc ?_ _)); refine blk_far ?_ NB504_514.out _; (with_reducible repeat (first | refine blk_drewN ?_ _ | refine blk_drew ?_ | refine blk_alloc ?_ _)); refine blk_far ?_ NB504_514.out _; (with_reducible repeat (first | refine blk_drewN ?_ _ | refine blk_drew ?_ | refine blk_alloc ?_ _)); exact BK504.out) hb); have n5_ := Aside0.mk (blk_below (g := gb514) (o := .cells #[.slice Ao19 t508.length co19, .int .i64 t511, .int .i64 t512] 40 (0, 0)) (by (with_reducible repeat (first | refine blk_drewN ?_ _ | refine blk_drew ?_ | refine blk_alloc ?_ _)); refine blk_put (cs := #[.slice Ao19 t508.length co19, .int .i64 t511, .int .i64 0]) ?_ 2 _ rfl; (with_reducible repeat (first | refine blk_drewN ?_ _ | refine blk_drew ?_ | refine blk_alloc ?_ _)); refine blk_put (cs := #[.slice Ao19 t508.length co19, .int .i64 0, .int .i64 0]) ?_ 1 _ rfl; (with_reducible repeat (first | refine blk_drewN ?_ _ | refine blk_drew ?_ | refine blk_alloc ?_ _)); refine blk_put (cs := #[.slice none 0 0, .int .i64 0, .int .i64 0]) ?_ 0 _ rfl; (with_reducible repeat (first | refine blk_drewN ?_ _ | refine blk_drew ?_ | refine blk_alloc ?_ _)); exact BK514.out) hb); have n6_ := Aside0.mk (below_step (by repeat (first | (with_reducible first | exact HB.out | apply below_alloc | apply pw_below_drewN | apply below_drew1 | refine below_set ?_ GE504.out | refine below_set ?_ GE514.out) | exact HB.out)) hb); clear HO497; clear HO500; clear HO507; clear HO510; clear BK504; clear BK514; clear HB; have HO497 := n0_; have HO500 := n1_; have HO507 := n2_; have HO510 := n3_; have BK504 := n4_; have BK514 := n5_; have HB := n6_; clear n0_ n1_ n2_ n3_ n4_ n5_ n6_; (try clear hb); (try clear hb2); (try clear hk); (try clear hi)))
        go_meet
        case rel => exact ⟨_, (true), (by first | rfl | (simp; done) | (simp [*]; done)), H', ⟨by first | omega | exact Nat.le_refl _⟩, ⟨by (with_reducible repeat (first | apply Kd.R_alloc | apply Kd.R_drewN | apply Kd.R_drew)); exact Kd.R_mono HO507.out (fun _ hk => ⟨hk.1.2, hk.2⟩)⟩, ⟨by (with_reducible repeat (first | apply Kd.R_alloc | apply Kd.R_drewN | apply Kd.R_drew)); exact Kd.R_mono HO500.out (fun _ hk => ⟨hk.1.2, hk.2⟩)⟩, ⟨by (with_reducible repeat (first | apply Kd.R_alloc | apply Kd.R_drewN | apply Kd.R_drew)); exact Kd.R_mono HO510.out (fun _ hk => ⟨hk.2, hk.1.2⟩)⟩, ⟨by (with_reducible repeat (first | refine blk_drewN ?_ _ | refine blk_drew ?_ | refine blk_alloc ?_ _)); exact BK504.out⟩, ⟨by (with_reducible repeat (first | refine blk_drewN ?_ _ | refine blk_drew ?_ | refine blk_alloc ?_ _)); exact BK514.out⟩, ⟨by repeat (first | (with_reducible first | exact HB.out | apply below_alloc | apply pw_below_drewN | apply below_drew1 | refine below_set ?_ GE504.out | refine below_set ?_ GE514.out) | exact HB.out)⟩⟩
    case rest =>
      clear HC8
      try clear c2
      try clear p2
      try clear c3
      try clear c3b0
      try clear c3b1
      try clear c7
      try clear c20
      try clear c21
      try clear c23
      try clear c24
      try clear c28
      try clear c29
      try clear c30
      try clear hcz14_0
      try clear hcz14_1
      try clear hcz14_2
      try clear hcz21_0
      try clear hcz21_1
      try clear hcz21_2
      try clear hcz25_0
      try clear hcz25_1
      try clear hcz25_2
      try clear hcz26_0
      try clear hcz26_1
      try clear hcz26_2
      try clear hcz29_0
      try clear hcz29_1
      try clear hcz29_2
      try clear hcz30_0
      try clear hcz30_1
      try clear hcz30_2
      try clear hfz14_0
      try clear hfz14_1
      try clear hfz14_2
      try clear hfz21_0
      try clear hfz21_1
      try clear hfz21_2
      try clear hfz25_0
      try clear hfz25_1
      try clear hfz25_2
      try clear hfz26_0
      try clear hfz26_1
      try clear hfz26_2
      try clear hfz29_0
      try clear hfz29_1
      try clear hfz29_2
      try clear hfz30_0
      try clear hfz30_1
      try clear hfz30_2
      obtain ⟨kq, x41_7, rfl, HA, HJ7, HO_7, HO_505000, HO_515000, BK504, BK514, HB⟩ := hcut
      cases kq with
      | zero => exact absurd HA.out (by simp [laws_FnExactPuzzleOfRow.j0])
      | succ kj7 =>
        have H := HA.out
        clear HA
        simp only [laws_FnExactPuzzleOfRow.j0] at H
        by_cases c32 : x41_7 = true
        · subst c32
          have H1 : (some false) = some r := by rw [if_pos rfl] at H; exact H
          clear H
          have H := H1
          clear H1
          obtain rfl := Option.some.inj H
          go_wp2
          go_ret
          exact ⟨by first | rfl | (simp [errW_none, errW_some] <;> rfl) | (simp [*, errW_none, errW_some] <;> rfl), by repeat (first | (with_reducible first | exact HB.out | apply below_alloc | apply pw_below_drewN | apply below_drew1 | refine below_set ?_ GE504.out | refine below_set ?_ GE514.out) | exact HB.out)⟩
        · replace c32 := Bool.eq_false_iff.mpr c32
          subst c32
          have H1 : ((laws_toIntS.f kj7 l0).bind fun t516 => ((laws_eqIntS.f kj7 t505 t516).bind fun t519 => (if t519 = true then ((laws_markIntS.f kj7 t505 1).bind fun bt520 => (if bt520.1 < 0 then (laws_FnExactPuzzleOfRow.j1 kj7 l0 a1 t503 true t498 t501 t502 t508 t511 t512) else ((laws_eqPuzzle.f kj7 t508 t511 t512 t498 t501 t502).bind fun t522 => (if t522 = true then (laws_FnExactPuzzleOfRow.j1 kj7 l0 a1 t503 (t513 != t503) t498 t501 t502 t508 t511 t512) else (laws_FnExactPuzzleOfRow.j1 kj7 l0 a1 t503 true t498 t501 t502 t508 t511 t512))))) else (some false)))) = some r := by rw [if_neg (show ¬ (false = true) by decide)] at H; exact H
          clear H
          have H := H1
          clear H1
          replace H := Option.bind_eq_some_iff.mp H
          obtain ⟨t516, A330, H⟩ := H
          replace H : ((laws_eqIntS.f kj7 t505 t516).bind fun t519 => (if t519 = true then ((laws_markIntS.f kj7 t505 1).bind fun bt520 => (if bt520.1 < 0 then (laws_FnExactPuzzleOfRow.j1 kj7 l0 a1 t503 true t498 t501 t502 t508 t511 t512) else ((laws_eqPuzzle.f kj7 t508 t511 t512 t498 t501 t502).bind fun t522 => (if t522 = true then (laws_FnExactPuzzleOfRow.j1 kj7 l0 a1 t503 (t513 != t503) t498 t501 t502 t508 t511 t512) else (laws_FnExactPuzzleOfRow.j1 kj7 l0 a1 t503 true t498 t501 t502 t508 t511 t512))))) else (some false))) = some r := H
          have A33 := Aside0.mk A330
          clear A330
          replace H := Option.bind_eq_some_iff.mp H
          obtain ⟨t519, A340, H⟩ := H
          replace H : (if t519 = true then ((laws_markIntS.f kj7 t505 1).bind fun bt520 => (if bt520.1 < 0 then (laws_FnExactPuzzleOfRow.j1 kj7 l0 a1 t503 true t498 t501 t502 t508 t511 t512) else ((laws_eqPuzzle.f kj7 t508 t511 t512 t498 t501 t502).bind fun t522 => (if t522 = true then (laws_FnExactPuzzleOfRow.j1 kj7 l0 a1 t503 (t513 != t503) t498 t501 t502 t508 t511 t512) else (laws_FnExactPuzzleOfRow.j1 kj7 l0 a1 t503 true t498 t501 t502 t508 t511 t512))))) else (some false)) = some r := H
          have A34 := Aside0.mk A340
          clear A340
          by_cases c35 : t519 = true
          · subst c35
            have H1 : ((laws_markIntS.f kj7 t505 1).bind fun bt520 => (if bt520.1 < 0 then (laws_FnExactPuzzleOfRow.j1 kj7 l0 a1 t503 true t498 t501 t502 t508 t511 t512) else ((laws_eqPuzzle.f kj7 t508 t511 t512 t498 t501 t502).bind fun t522 => (if t522 = true then (laws_FnExactPuzzleOfRow.j1 kj7 l0 a1 t503 (t513 != t503) t498 t501 t502 t508 t511 t512) else (laws_FnExactPuzzleOfRow.j1 kj7 l0 a1 t503 true t498 t501 t502 t508 t511 t512))))) = some r := by rw [if_pos rfl] at H; exact H
            clear H
            have H := H1
            clear H1
            replace H := Option.bind_eq_some_iff.mp H
            obtain ⟨⟨t520, t521⟩, A360, H⟩ := H
            replace H : (if t520 < 0 then (laws_FnExactPuzzleOfRow.j1 kj7 l0 a1 t503 true t498 t501 t502 t508 t511 t512) else ((laws_eqPuzzle.f kj7 t508 t511 t512 t498 t501 t502).bind fun t522 => (if t522 = true then (laws_FnExactPuzzleOfRow.j1 kj7 l0 a1 t503 (t513 != t503) t498 t501 t502 t508 t511 t512) else (laws_FnExactPuzzleOfRow.j1 kj7 l0 a1 t503 true t498 t501 t502 t508 t511 t512)))) = some r := H
            have A36 := Aside0.mk A360
            clear A360
            have HC37 := Aside0.mk H
            clear H
            go_upto_region 12 with (first | ((with_reducible refine gate_callee (f := 21) rfl ?_); refine goesL_ (some 44) rfl rfl Try.func21 (by kernel_rfl) rfl #[.slice A0 l0.length c0] rfl (by (try simp only [List.map_toArray, List.map_cons, List.map_nil]); first | done | rfl | (simp only [List.length_drop, List.length_take]; rfl)) ?_; (with_reducible refine (laws_toIntS.calls kj7 _ _ l0 t516 _ ?side1 ?side2 A33.out).mono ?_); (case side1 => repeat (first | exact (Kd.C_below HR0.out HB.out) | (with_reducible refine Kd.C_alloc ?_ _) | (with_reducible refine Kd.C_drewN ?_ _) | (with_reducible refine Kd.C_drew ?_))); (case side2 => exact HC0.out); rintro e w38 ⟨v517, rfl, ho0, hb⟩; refine ⟨_, rfl, ?_⟩; have n0_ := Aside0.mk (Kd.R_elder' (by (with_reducible repeat (first | apply Kd.R_alloc | apply Kd.R_drewN | apply Kd.R_drew)); exact HO_7.out) (Kd.R_base ho0) hb); have n1_ := Aside0.mk (Kd.R_elder' (by (with_reducible repeat (first | apply Kd.R_alloc | apply Kd.R_drewN | apply Kd.R_drew)); exact HO_505000.out) (Kd.R_base ho0) hb); have n2_ := Aside0.mk (Kd.R_elder' (by (with_reducible repeat (first | apply Kd.R_alloc | apply Kd.R_drewN | apply Kd.R_drew)); exact HO_515000.out) (Kd.R_base ho0) hb); have n3_ := Aside0.mk (Kd.R_lower (Kd.R_new' (Kd.R_new' (Kd.R_new' ho0 (Kd.R_lt (by (with_reducible repeat (first | apply Kd.R_alloc | apply Kd.R_drewN | apply Kd.R_drew)); exact HO_7.out))) (Kd.R_lt (by (with_reducible repeat (first | apply Kd.R_alloc | apply Kd.R_drewN | apply Kd.R_drew)); exact HO_505000.out))) (Kd.R_lt (by (with_reducible repeat (first | apply Kd.R_alloc | apply Kd.R_drewN | apply Kd.R_drew)); exact HO_515000.out))) (below_size (by repeat (first | (with_reducible first | exact HB.out | apply below_alloc | apply pw_below_drewN | apply below_drew1 | refine below_set ?_ GE504.out | refine below_set ?_ GE514.out) | exact HB.out)))); have n4_ := Aside0.mk (blk_below (g := gb504) (o := .cells #[.slice Ao13 t498.length co13, .int .i64 t501, .int .i64 t502] 40 (0, 0)) (by (with_reducible repeat (first | refine blk_drewN ?_ _ | refine blk_drew ?_ | refine blk_alloc ?_ _)); exact BK504.out) hb); have n5_ := Aside0.mk (blk_below (g := gb514) (o := .cells #[.slice Ao19 t508.length co19, .int .i64 t511, .int .i64 t512] 40 (0, 0)) (by (with_reducible repeat (first | refine blk_drewN ?_ _ | refine blk_drew ?_ | refine blk_alloc ?_ _)); exact BK514.out) hb); have n6_ := Aside0.mk (below_step (by repeat (first | (with_reducible first | exact HB.out | apply below_alloc | apply pw_below_drewN | apply below_drew1 | refine below_set ?_ GE504.out | refine below_set ?_ GE514.out) | exact HB.out)) hb); clear HO_7; clear HO_505000; clear HO_515000; clear BK504; clear BK514; clear HB; have HO_7 := n0_; have HO_505000 := n1_; have HO_515000 := n2_; have HO518 := n3_; have BK504 := n4_; have BK514 := n5_; have HB := n6_; clear n0_ n1_ n2_ n3_ n4_ n5_ n6_; (try clear hb); (try clear hb2); (try clear hk); (try clear hi); (try clear ho0); obtain ⟨Ao39, co39, eo39⟩ := Kd.R_slice HO518.out; subst eo39) | ((with_reducible refine gate_callee (f := 23) rfl ?_); refine goesL_ (some 45) rfl rfl Try.func23 (by kernel_rfl) rfl #[.slice Ao16 t505.length co16, .slice Ao39 t516.length co39] rfl (by (try simp only [List.map_toArray, List.map_cons, List.map_nil]); first | done | rfl | (simp only [List.length_drop, List.length_take]; rfl)) ?_; (with_reducible refine (laws_eqIntS.calls kj7 _ _ t505 _ _ t516 true _ ?side1 ?side2 ?side3 ?side4 A34.out).mono ?_); (case side1 => repeat (first | exact (Kd.R_reads' HO_7.out).2.2 | (with_reducible refine Kd.C_alloc ?_ _) | (with_reducible refine Kd.C_drewN ?_ _) | (with_reducible refine Kd.C_drew ?_))); (case side2 => exact (Kd.R_reads' HO_7.out).2.1); (case side3 => repeat (first | exact (Kd.R_reads' HO518.out).2.2 | (with_reducible refine Kd.C_alloc ?_ _) | (with_reducible refine Kd.C_drewN ?_ _) | (with_reducible refine Kd.C_drew ?_))); (case side4 => exact (Kd.R_reads' HO518.out).2.1); rintro e w' ⟨rfl, ⟨nd, rfl⟩⟩; refine ⟨_, rfl, ?_⟩) | ((with_reducible refine gate_callee (f := 24) rfl ?_); refine goesL_ (some 49) rfl rfl Try.func24 (by kernel_rfl) rfl #[.slice Ao16 t505.length co16, .int .i64 1] rfl (by (try simp only [List.map_toArray, List.map_cons, List.map_nil]); first | done | rfl | (simp only [List.length_drop, List.length_take]; rfl)) ?_; (with_reducible refine (laws_markIntS.calls kj7 (fun k_ => some k_ = (.slice Ao16 t505.length co16 : Value).ownBlock) (.slice Ao16 t505.length co16) t505 1 t520 t521 w _ ?side1 ?side2 A36.out).mono ?_); (case side1 => repeat (first | (with_reducible first | exact HB.out | apply below_alloc | apply pw_below_drewN | apply below_drew1 | refine below_set ?_ GE504.out | refine below_set ?_ GE514.out) | exact HB.out)); (case side2 => exact Kd.R_tight rfl HO_7.out); rintro e w40 ⟨rfl, hy0, hb, hkp⟩; refine ⟨_, rfl, ?_⟩; have n0_ := Aside0.mk (Kd.R_reok rfl hy0 (fun k_ e_ => HO_7.out.1 k_ e_)); have n1_ := Aside0.mk (Kd.R_mono (ok' := fun k_ => some k_ ≠ (.slice Ao16 t505.length co16 : Value).ownBlock ∧ some k_ ≠ (.slice Ao19 t508.length co19 : Value).ownBlock ∧ some k_ ≠ (.slice Ao39 t516.length co39 : Value).ownBlock) (Kd.R_keptB (HO_505000.out) hkp (fun k_ hk_ hs_ => (hk_.1.1) hs_)) (fun k_ hk_ => ⟨hk_.1.1.1, hk_.1.1.2, hk_.1.2⟩)); have n2_ := Aside0.mk (Kd.R_mono (ok' := fun k_ => some k_ ≠ (.slice Ao16 t505.length co16 : Value).ownBlock ∧ some k_ ≠ (.slice Ao13 t498.length co13 : Value).ownBlock ∧ some k_ ≠ (.slice Ao39 t516.length co39 : Value).ownBlock) (Kd.R_keptB (HO_515000.out) hkp (fun k_ hk_ hs_ => (hk_.1.1) hs_)) (fun k_ hk_ => ⟨hk_.1.1.1, hk_.1.1.2, hk_.1.2⟩)); have n3_ := Aside0.mk (blk_kept (by (with_reducible repeat (first | refine blk_drewN ?_ _ | refine blk_drew ?_ | refine blk_alloc ?_ _)); exact BK504.out) hkp (fun hs_ => (fun e_ => (Kd.R_ne HO_7.out BK504.out (by decide)) e_) hs_)); have n4_ := Aside0.mk (blk_kept (by (with_reducible repeat (first | refine blk_drewN ?_ _ | refine blk_drew ?_ | refine blk_alloc ?_ _)); exact BK514.out) hkp (fun hs_ => (fun e_ => (Kd.R_ne HO_7.out BK514.out (by decide)) e_) hs_)); have n5_ := Aside0.mk (Kd.R_mono (ok' := fun k_ => some k_ ≠ (.slice Ao16 t505.length co16 : Value).ownBlock ∧ some k_ ≠ (.slice Ao13 t498.length co13 : Value).ownBlock ∧ some k_ ≠ (.slice Ao19 t508.length co19 : Value).ownBlock) (Kd.R_keptB (HO518.out) hkp (fun k_ hk_ hs_ => (hk_.1.1.2) hs_)) (fun k_ hk_ => ⟨hk_.1.1.1.2, hk_.1.1.2, hk_.1.2⟩)); have n6_ := Aside0.mk (hb); clear HO_7; clear HO_505000; clear HO_515000; clear BK504; clear BK514; clear HO518; clear HB; have HO_7 := n0_; have HO_505000 := n1_; have HO_515000 := n2_; have BK504 := n3_; have BK514 := n4_; have HO518 := n5_; have HB := n6_; clear n0_ n1_ n2_ n3_ n4_ n5_ n6_; (try clear hb); (try clear hkp); (try clear hy0)))
            (try simp only [Act.put, List.setIfInBounds_toArray, List.set_cons_zero, List.set_cons_succ])
            go_cut [62] (fun v62 wc => ∃ (kq : Nat) (x62_36 : Bool), v62 = .bool x62_36 ∧ Aside0 (laws_FnExactPuzzleOfRow.j1 kq l0 a1 t503 x62_36 t498 t501 t502 t508 t511 t512 = some r) ∧ Aside0 (kq ≤ kj7) ∧ Aside0 (Kd.R (Kd.int .i64) 3 wc w.heap.size (fun k_ => some k_ ≠ ((.slice Ao19 t508.length co19) : Value).ownBlock) (.slice Ao13 t498.length co13) t498) ∧ Aside0 (Kd.R (Kd.int .i64) 3 wc w.heap.size (fun k_ => some k_ ≠ ((.slice Ao13 t498.length co13) : Value).ownBlock) (.slice Ao19 t508.length co19) t508) ∧ Aside0 (wc.heap[gb504]? = some (.cells #[(.slice Ao13 t498.length co13), .int .i64 t501, .int .i64 t502] 40 (0, 0))) ∧ Aside0 (wc.heap[gb514]? = some (.cells #[(.slice Ao19 t508.length co19), .int .i64 t511, .int .i64 t512] 40 (0, 0))) ∧ Aside0 (Below w.heap.size w wc))
            case first =>
              have H := HC37.out
              clear HC37
              by_cases c41 : t520 < 0
              · rw [if_pos c41] at H
                have c41b0 : decide (t520 < 0) = true := decide_eq_true c41
                clear c41
                (first | rw [c41b0] | (simp only [i64_w, i32_w]; rw [c41b0]) | skip)
                have H' := Aside0.mk H
                clear H
                go_wp2
                go_meet
                case rel => exact ⟨_, (true), (by first | rfl | (simp; done) | (simp [*]; done)), H', ⟨by have := HJ7.out; first | omega | exact Nat.le_refl _⟩, ⟨by (with_reducible repeat (first | apply Kd.R_alloc | apply Kd.R_drewN | apply Kd.R_drew)); exact Kd.R_mono HO_505000.out (fun _ hk => hk.2.1)⟩, ⟨by (with_reducible repeat (first | apply Kd.R_alloc | apply Kd.R_drewN | apply Kd.R_drew)); exact Kd.R_mono HO_515000.out (fun _ hk => hk.2.1)⟩, ⟨by (with_reducible repeat (first | refine blk_drewN ?_ _ | refine blk_drew ?_ | refine blk_alloc ?_ _)); exact BK504.out⟩, ⟨by (with_reducible repeat (first | refine blk_drewN ?_ _ | refine blk_drew ?_ | refine blk_alloc ?_ _)); exact BK514.out⟩, ⟨by repeat (first | (with_reducible first | exact HB.out | apply below_alloc | apply pw_below_drewN | apply below_drew1 | refine below_set ?_ GE504.out | refine below_set ?_ GE514.out) | exact HB.out)⟩⟩
              · rw [if_neg c41] at H
                have c41b0 : decide (t520 < 0) = false := decide_eq_false c41
                clear c41
                (first | rw [c41b0] | (simp only [i64_w, i32_w]; rw [c41b0]) | skip)
                replace H := Option.bind_eq_some_iff.mp H
                obtain ⟨t522, A420, H⟩ := H
                replace H : (if t522 = true then (laws_FnExactPuzzleOfRow.j1 kj7 l0 a1 t503 (t513 != t503) t498 t501 t502 t508 t511 t512) else (laws_FnExactPuzzleOfRow.j1 kj7 l0 a1 t503 true t498 t501 t502 t508 t511 t512)) = some r := H
                have A42 := Aside0.mk A420
                clear A420
                by_cases c43 : t522 = true
                · subst c43
                  have H1 : (laws_FnExactPuzzleOfRow.j1 kj7 l0 a1 t503 (t513 != t503) t498 t501 t502 t508 t511 t512) = some r := by rw [if_pos rfl] at H; exact H
                  clear H
                  have H := H1
                  clear H1
                  have H' := Aside0.mk H
                  clear H
                  have hnb44 := NB514_504.out
                  have hnc44 := NB504_514.out
                  have hcz45_0 : w40.cell? ⟨gb514, 0, none⟩ = some (.slice Ao19 t508.length co19) := (blk_cell BK514.out 0).trans rfl
                  have hcz45_1 : w40.cell? ⟨gb514, 1, none⟩ = some (.int .i64 t511) := (blk_cell BK514.out 1).trans rfl
                  have hcz45_2 : w40.cell? ⟨gb514, 2, none⟩ = some (.int .i64 t512) := (blk_cell BK514.out 2).trans rfl
                  have hfz45_0 := blk_frozen BK514.out 0
                  have hfz45_1 := blk_frozen BK514.out 1
                  have hfz45_2 := blk_frozen BK514.out 2
                  have hcz46_0 : w40.cell? ⟨gb504, 0, none⟩ = some (.slice Ao13 t498.length co13) := (blk_cell BK504.out 0).trans rfl
                  have hcz46_1 : w40.cell? ⟨gb504, 1, none⟩ = some (.int .i64 t501) := (blk_cell BK504.out 1).trans rfl
                  have hcz46_2 : w40.cell? ⟨gb504, 2, none⟩ = some (.int .i64 t502) := (blk_cell BK504.out 2).trans rfl
                  have hfz46_0 := blk_frozen BK504.out 0
                  have hfz46_1 := blk_frozen BK504.out 1
                  have hfz46_2 := blk_frozen BK504.out 2
                  go_wp2_with (first | (go_at_call 30; (with_reducible refine (laws_eqPuzzle.calls kj7 _ _ t508 t511 t512 _ _ t498 t501 t502 true _ ?side1 ?side2 ?side3 ?side4 A42.out).mono ?_); (case side1 => repeat (first | exact (Kd.R_reads' HO_515000.out).2.2 | (with_reducible refine Kd.C_alloc ?_ _) | (with_reducible refine Kd.C_drewN ?_ _) | (with_reducible refine Kd.C_drew ?_))); (case side2 => exact (Kd.R_reads' HO_515000.out).2.1); (case side3 => repeat (first | exact (Kd.R_reads' HO_505000.out).2.2 | (with_reducible refine Kd.C_alloc ?_ _) | (with_reducible refine Kd.C_drewN ?_ _) | (with_reducible refine Kd.C_drew ?_))); (case side4 => exact (Kd.R_reads' HO_505000.out).2.1); rintro e w47 ⟨rfl, hb⟩; have n0_ := Aside0.mk (Kd.R_below (by (with_reducible repeat (first | apply Kd.R_alloc | apply Kd.R_drewN | apply Kd.R_drew)); exact HO_7.out) hb); have n1_ := Aside0.mk (Kd.R_below (by (with_reducible repeat (first | apply Kd.R_alloc | apply Kd.R_drewN | apply Kd.R_drew)); exact HO_505000.out) hb); have n2_ := Aside0.mk (Kd.R_below (by (with_reducible repeat (first | apply Kd.R_alloc | apply Kd.R_drewN | apply Kd.R_drew)); exact HO_515000.out) hb); have n3_ := Aside0.mk (Kd.R_below (by (with_reducible repeat (first | apply Kd.R_alloc | apply Kd.R_drewN | apply Kd.R_drew)); exact HO518.out) hb); have n4_ := Aside0.mk (blk_below (g := gb504) (o := .cells #[.slice Ao13 t498.length co13, .int .i64 t501, .int .i64 t502] 40 (0, 0)) (by (with_reducible repeat (first | refine blk_drewN ?_ _ | refine blk_drew ?_ | refine blk_alloc ?_ _)); exact BK504.out) hb); have n5_ := Aside0.mk (blk_below (g := gb514) (o := .cells #[.slice Ao19 t508.length co19, .int .i64 t511, .int .i64 t512] 40 (0, 0)) (by (with_reducible repeat (first | refine blk_drewN ?_ _ | refine blk_drew ?_ | refine blk_alloc ?_ _)); exact BK514.out) hb); have n6_ := Aside0.mk (below_step (by repeat (first | (with_reducible first | exact HB.out | apply below_alloc | apply pw_below_drewN | apply below_drew1 | refine below_set ?_ GE504.out | refine below_set ?_ GE514.out) | exact HB.out)) hb); clear HO_7; clear HO_505000; clear HO_515000; clear HO518; clear BK504; clear BK514; clear HB; have HO_7 := n0_; have HO_505000 := n1_; have HO_515000 := n2_; have HO518 := n3_; have BK504 := n4_; have BK514 := n5_; have HB := n6_; clear n0_ n1_ n2_ n3_ n4_ n5_ n6_; (try clear hb); (try clear hb2); (try clear hk); (try clear hi)))
                  go_meet
                  case rel => exact ⟨_, ((t513 != t503)), (by first | rfl | (simp; done) | (simp [*]; done)), H', ⟨by have := HJ7.out; first | omega | exact Nat.le_refl _⟩, ⟨by (with_reducible repeat (first | apply Kd.R_alloc | apply Kd.R_drewN | apply Kd.R_drew)); exact Kd.R_mono HO_505000.out (fun _ hk => hk.2.1)⟩, ⟨by (with_reducible repeat (first | apply Kd.R_alloc | apply Kd.R_drewN | apply Kd.R_drew)); exact Kd.R_mono HO_515000.out (fun _ hk => hk.2.1)⟩, ⟨by (with_reducible repeat (first | refine blk_drewN ?_ _ | refine blk_drew ?_ | refine blk_alloc ?_ _)); exact BK504.out⟩, ⟨by (with_reducible repeat (first | refine blk_drewN ?_ _ | refine blk_drew ?_ | refine blk_alloc ?_ _)); exact BK514.out⟩, ⟨by repeat (first | (with_reducible first | exact HB.out | apply below_alloc | apply pw_below_drewN | apply below_drew1 | refine below_set ?_ GE504.out | refine below_set ?_ GE514.out) | exact HB.out)⟩⟩
                · replace c43 := Bool.eq_false_iff.mpr c43
                  subst c43
                  have H1 : (laws_FnExactPuzzleOfRow.j1 kj7 l0 a1 t503 true t498 t501 t502 t508 t511 t512) = some r := by rw [if_neg (show ¬ (false = true) by decide)] at H; exact H
                  clear H
                  have H := H1
                  clear H1
                  have H' := Aside0.mk H
                  clear H
                  have hnb48 := NB514_504.out
                  have hnc48 := NB504_514.out
                  have hcz49_0 : w40.cell? ⟨gb514, 0, none⟩ = some (.slice Ao19 t508.length co19) := (blk_cell BK514.out 0).trans rfl
                  have hcz49_1 : w40.cell? ⟨gb514, 1, none⟩ = some (.int .i64 t511) := (blk_cell BK514.out 1).trans rfl
                  have hcz49_2 : w40.cell? ⟨gb514, 2, none⟩ = some (.int .i64 t512) := (blk_cell BK514.out 2).trans rfl
                  have hfz49_0 := blk_frozen BK514.out 0
                  have hfz49_1 := blk_frozen BK514.out 1
                  have hfz49_2 := blk_frozen BK514.out 2
                  have hcz50_0 : w40.cell? ⟨gb504, 0, none⟩ = some (.slice Ao13 t498.length co13) := (blk_cell BK504.out 0).trans rfl
                  have hcz50_1 : w40.cell? ⟨gb504, 1, none⟩ = some (.int .i64 t501) := (blk_cell BK504.out 1).trans rfl
                  have hcz50_2 : w40.cell? ⟨gb504, 2, none⟩ = some (.int .i64 t502) := (blk_cell BK504.out 2).trans rfl
                  have hfz50_0 := blk_frozen BK504.out 0
                  have hfz50_1 := blk_frozen BK504.out 1
                  have hfz50_2 := blk_frozen BK504.out 2
                  go_wp2_with (first | (go_at_call 30; (with_reducible refine (laws_eqPuzzle.calls kj7 _ _ t508 t511 t512 _ _ t498 t501 t502 false _ ?side1 ?side2 ?side3 ?side4 A42.out).mono ?_); (case side1 => repeat (first | exact (Kd.R_reads' HO_515000.out).2.2 | (with_reducible refine Kd.C_alloc ?_ _) | (with_reducible refine Kd.C_drewN ?_ _) | (with_reducible refine Kd.C_drew ?_))); (case side2 => exact (Kd.R_reads' HO_515000.out).2.1); (case side3 => repeat (first | exact (Kd.R_reads' HO_505000.out).2.2 | (with_reducible refine Kd.C_alloc ?_ _) | (with_reducible refine Kd.C_drewN ?_ _) | (with_reducible refine Kd.C_drew ?_))); (case side4 => exact (Kd.R_reads' HO_505000.out).2.1); rintro e w51 ⟨rfl, hb⟩; have n0_ := Aside0.mk (Kd.R_below (by (with_reducible repeat (first | apply Kd.R_alloc | apply Kd.R_drewN | apply Kd.R_drew)); exact HO_7.out) hb); have n1_ := Aside0.mk (Kd.R_below (by (with_reducible repeat (first | apply Kd.R_alloc | apply Kd.R_drewN | apply Kd.R_drew)); exact HO_505000.out) hb); have n2_ := Aside0.mk (Kd.R_below (by (with_reducible repeat (first | apply Kd.R_alloc | apply Kd.R_drewN | apply Kd.R_drew)); exact HO_515000.out) hb); have n3_ := Aside0.mk (Kd.R_below (by (with_reducible repeat (first | apply Kd.R_alloc | apply Kd.R_drewN | apply Kd.R_drew)); exact HO518.out) hb); have n4_ := Aside0.mk (blk_below (g := gb504) (o := .cells #[.slice Ao13 t498.length co13, .int .i64 t501, .int .i64 t502] 40 (0, 0)) (by (with_reducible repeat (first | refine blk_drewN ?_ _ | refine blk_drew ?_ | refine blk_alloc ?_ _)); exact BK504.out) hb); have n5_ := Aside0.mk (blk_below (g := gb514) (o := .cells #[.slice Ao19 t508.length co19, .int .i64 t511, .int .i64 t512] 40 (0, 0)) (by (with_reducible repeat (first | refine blk_drewN ?_ _ | refine blk_drew ?_ | refine blk_alloc ?_ _)); exact BK514.out) hb); have n6_ := Aside0.mk (below_step (by repeat (first | (with_reducible first | exact HB.out | apply below_alloc | apply pw_below_drewN | apply below_drew1 | refine below_set ?_ GE504.out | refine below_set ?_ GE514.out) | exact HB.out)) hb); clear HO_7; clear HO_505000; clear HO_515000; clear HO518; clear BK504; clear BK514; clear HB; have HO_7 := n0_; have HO_505000 := n1_; have HO_515000 := n2_; have HO518 := n3_; have BK504 := n4_; have BK514 := n5_; have HB := n6_; clear n0_ n1_ n2_ n3_ n4_ n5_ n6_; (try clear hb); (try clear hb2); (try clear hk); (try clear hi)))
                  go_meet
                  case rel => exact ⟨_, (true), (by first | rfl | (simp; done) | (simp [*]; done)), H', ⟨by have := HJ7.out; first | omega | exact Nat.le_refl _⟩, ⟨by (with_reducible repeat (first | apply Kd.R_alloc | apply Kd.R_drewN | apply Kd.R_drew)); exact Kd.R_mono HO_505000.out (fun _ hk => hk.2.1)⟩, ⟨by (with_reducible repeat (first | apply Kd.R_alloc | apply Kd.R_drewN | apply Kd.R_drew)); exact Kd.R_mono HO_515000.out (fun _ hk => hk.2.1)⟩, ⟨by (with_reducible repeat (first | refine blk_drewN ?_ _ | refine blk_drew ?_ | refine blk_alloc ?_ _)); exact BK504.out⟩, ⟨by (with_reducible repeat (first | refine blk_drewN ?_ _ | refine blk_drew ?_ | refine blk_alloc ?_ _)); exact BK514.out⟩, ⟨by repeat (first | (with_reducible first | exact HB.out | apply below_alloc | apply pw_below_drewN | apply below_drew1 | refine below_set ?_ GE504.out | refine below_set ?_ GE514.out) | exact HB.out)⟩⟩
            case rest =>
              clear HC37
              try clear c2
              try clear p2
              try clear c3
              try clear c3b0
              try clear c3b1
              try clear c4
              try clear c7
              try clear c20
              try clear c21
              try clear c23
              try clear c24
              try clear c28
              try clear c29
              try clear c30
              try clear c32
              try clear c35
              try clear c41
              try clear c41b0
              try clear c43
              try clear c44
              try clear c48
              try clear hcz14_0
              try clear hcz14_1
              try clear hcz14_2
              try clear hcz21_0
              try clear hcz21_1
              try clear hcz21_2
              try clear hcz25_0
              try clear hcz25_1
              try clear hcz25_2
              try clear hcz26_0
              try clear hcz26_1
              try clear hcz26_2
              try clear hcz29_0
              try clear hcz29_1
              try clear hcz29_2
              try clear hcz30_0
              try clear hcz30_1
              try clear hcz30_2
              try clear hcz45_0
              try clear hcz45_1
              try clear hcz45_2
              try clear hcz46_0
              try clear hcz46_1
              try clear hcz46_2
              try clear hcz49_0
              try clear hcz49_1
              try clear hcz49_2
              try clear hcz50_0
              try clear hcz50_1
              try clear hcz50_2
              try clear hfz14_0
              try clear hfz14_1
              try clear hfz14_2
              try clear hfz21_0
              try clear hfz21_1
              try clear hfz21_2
              try clear hfz25_0
              try clear hfz25_1
              try clear hfz25_2
              try clear hfz26_0
              try clear hfz26_1
              try clear hfz26_2
              try clear hfz29_0
              try clear hfz29_1
              try clear hfz29_2
              try clear hfz30_0
              try clear hfz30_1
              try clear hfz30_2
              try clear hfz45_0
              try clear hfz45_1
              try clear hfz45_2
              try clear hfz46_0
              try clear hfz46_1
              try clear hfz46_2
              try clear hfz49_0
              try clear hfz49_1
              try clear hfz49_2
              try clear hfz50_0
              try clear hfz50_1
              try clear hfz50_2
              try clear p2
              obtain ⟨kq, x62_36, rfl, HA, HJ36, HO_505000, HO_515000, BK504, BK514, HB⟩ := hcut
              cases kq with
              | zero => exact absurd HA.out (by simp [laws_FnExactPuzzleOfRow.j1])
              | succ kj36 =>
                have H := HA.out
                clear HA
                simp only [laws_FnExactPuzzleOfRow.j1] at H
                by_cases c52 : x62_36 = true
                · subst c52
                  have H1 : (some false) = some r := by rw [if_pos rfl] at H; exact H
                  clear H
                  have H := H1
                  clear H1
                  obtain rfl := Option.some.inj H
                  go_wp2
                  go_ret
                  exact ⟨by first | rfl | (simp [errW_none, errW_some] <;> rfl) | (simp [*, errW_none, errW_some] <;> rfl), by repeat (first | (with_reducible first | exact HB.out | apply below_alloc | apply pw_below_drewN | apply below_drew1 | refine below_set ?_ GE504.out | refine below_set ?_ GE514.out) | exact HB.out)⟩
                · replace c52 := Bool.eq_false_iff.mpr c52
                  subst c52
                  have H1 : ((laws_markPuzzle.f kj36 t508 t511 t512 1).bind fun bt523 => ((laws_heldPuzzle.f kj36 bt523.2 t511 t512 1).bind fun t525 => (if t525 < 0 then (some false) else (if t525 = bt523.1 then ((laws_toIntS.f kj36 l0).bind fun t526 => ((impl_PuzzleOfRow.f kj36 t526 a1).bind fun bt529 => ((laws_eqPuzzle.f kj36 bt529.1 bt529.2.1 bt529.2.2.1 t498 t501 t502).bind fun t536 => (if t536 = true then (laws_FnExactPuzzleOfRow.j2 kj36 bt523.1 (bt529.2.2.2 != t503) bt523.2 t511 t512) else (laws_FnExactPuzzleOfRow.j2 kj36 bt523.1 true bt523.2 t511 t512))))) else (some false))))) = some r := by rw [if_neg (show ¬ (false = true) by decide)] at H; exact H
                  clear H
                  have H := H1
                  clear H1
                  replace H := Option.bind_eq_some_iff.mp H
                  obtain ⟨⟨t523, t524⟩, A530, H⟩ := H
                  replace H : ((laws_heldPuzzle.f kj36 t524 t511 t512 1).bind fun t525 => (if t525 < 0 then (some false) else (if t525 = t523 then ((laws_toIntS.f kj36 l0).bind fun t526 => ((impl_PuzzleOfRow.f kj36 t526 a1).bind fun bt529 => ((laws_eqPuzzle.f kj36 bt529.1 bt529.2.1 bt529.2.2.1 t498 t501 t502).bind fun t536 => (if t536 = true then (laws_FnExactPuzzleOfRow.j2 kj36 t523 (bt529.2.2.2 != t503) t524 t511 t512) else (laws_FnExactPuzzleOfRow.j2 kj36 t523 true t524 t511 t512))))) else (some false)))) = some r := H
                  have A53 := Aside0.mk A530
                  clear A530
                  replace H := Option.bind_eq_some_iff.mp H
                  obtain ⟨t525, A540, H⟩ := H
                  replace H : (if t525 < 0 then (some false) else (if t525 = t523 then ((laws_toIntS.f kj36 l0).bind fun t526 => ((impl_PuzzleOfRow.f kj36 t526 a1).bind fun bt529 => ((laws_eqPuzzle.f kj36 bt529.1 bt529.2.1 bt529.2.2.1 t498 t501 t502).bind fun t536 => (if t536 = true then (laws_FnExactPuzzleOfRow.j2 kj36 t523 (bt529.2.2.2 != t503) t524 t511 t512) else (laws_FnExactPuzzleOfRow.j2 kj36 t523 true t524 t511 t512))))) else (some false))) = some r := H
                  have A54 := Aside0.mk A540
                  clear A540
                  by_cases c55 : t525 < 0
                  · rw [if_pos c55] at H
                    have c55b0 : decide (t525 < 0) = true := decide_eq_true c55
                    clear c55
                    obtain rfl := Option.some.inj H
                    have hnb56 := NB514_504.out
                    have hnc56 := NB504_514.out
                    have hcz57_0 : wc.cell? ⟨gb514, 0, none⟩ = some (.slice Ao19 t508.length co19) := (blk_cell BK514.out 0).trans rfl
                    have hcz57_1 : wc.cell? ⟨gb514, 1, none⟩ = some (.int .i64 t511) := (blk_cell BK514.out 1).trans rfl
                    have hcz57_2 : wc.cell? ⟨gb514, 2, none⟩ = some (.int .i64 t512) := (blk_cell BK514.out 2).trans rfl
                    have hfz57_0 := blk_frozen BK514.out 0
                    have hfz57_1 := blk_frozen BK514.out 1
                    have hfz57_2 := blk_frozen BK514.out 2
                    go_wp2_with (first | ((with_reducible refine gate_callee (f := 31) rfl ?_); refine goesL_ (some 65) rfl rfl Try.func31 (by kernel_rfl) rfl #[.agg #[.slice Ao19 t508.length co19, .int .i64 t511, .int .i64 t512], .int .i64 1] rfl (by (try simp only [List.map_toArray, List.map_cons, List.map_nil]); first | done | rfl | (simp only [List.length_drop, List.length_take]; rfl)) ?_; (with_reducible refine (laws_markPuzzle.calls kj36 (fun k_ => some k_ = (.slice Ao19 t508.length co19 : Value).ownBlock) (.slice Ao19 t508.length co19) t508 t511 t512 1 t523 t524 w _ ?side1 ?side2 A53.out).mono ?_); (case side1 => repeat (first | (with_reducible first | exact HB.out | apply below_alloc | apply pw_below_drewN | apply below_drew1 | refine below_set ?_ GE504.out | refine below_set ?_ GE514.out) | exact HB.out)); (case side2 => exact Kd.R_tight rfl HO_515000.out); rintro e w58 ⟨rfl, hy0, hb, hkp⟩; refine ⟨_, rfl, ?_⟩; have n0_ := Aside0.mk (Kd.R_mono (ok' := fun k_ => some k_ ≠ (.slice Ao19 t508.length co19 : Value).ownBlock) (Kd.R_keptB (HO_505000.out) hkp (fun k_ hk_ hs_ => (hk_) hs_)) (fun k_ hk_ => hk_.1)); have n1_ := Aside0.mk (Kd.R_reok rfl hy0 (fun k_ e_ => HO_515000.out.1 k_ e_)); have n2_ := Aside0.mk (blk_kept (by (with_reducible repeat (first | refine blk_drewN ?_ _ | refine blk_drew ?_ | refine blk_alloc ?_ _)); exact BK504.out) hkp (fun hs_ => (fun e_ => (Kd.R_ne HO_515000.out BK504.out (by decide)) e_) hs_)); have n3_ := Aside0.mk (blk_kept (by (with_reducible repeat (first | refine blk_drewN ?_ _ | refine blk_drew ?_ | refine blk_alloc ?_ _)); exact BK514.out) hkp (fun hs_ => (fun e_ => (Kd.R_ne HO_515000.out BK514.out (by decide)) e_) hs_)); have n4_ := Aside0.mk (hb); clear HO_505000; clear HO_515000; clear BK504; clear BK514; clear HB; have HO_505000 := n0_; have HO_515000 := n1_; have BK504 := n2_; have BK514 := n3_; have HB := n4_; clear n0_ n1_ n2_ n3_ n4_; (try clear hb); (try clear hkp); (try clear hy0); have hcz59_0 : w58.cell? ⟨gb514, 0, none⟩ = some (.slice Ao19 t508.length co19) := (blk_cell BK514.out 0).trans rfl; have hcz59_1 : w58.cell? ⟨gb514, 1, none⟩ = some (.int .i64 t511) := (blk_cell BK514.out 1).trans rfl; have hcz59_2 : w58.cell? ⟨gb514, 2, none⟩ = some (.int .i64 t512) := (blk_cell BK514.out 2).trans rfl; have hfz59_0 := blk_frozen BK514.out 0; have hfz59_1 := blk_frozen BK514.out 1; have hfz59_2 := blk_frozen BK514.out 2) | ((with_reducible refine gate_callee (f := 32) rfl ?_); refine goesL_ (some 68) rfl rfl Try.func32 (by kernel_rfl) rfl #[.agg #[.slice Ao19 t524.length co19, .int .i64 t511, .int .i64 t512], .int .i64 1] rfl (by (try simp only [List.map_toArray, List.map_cons, List.map_nil]); first | done | (rw [show t524.length = t508.length from (Kd.R_reads' HO_515000.out).1.symm] <;> rfl) | rfl | (simp only [List.length_drop, List.length_take]; rfl)) ?_; (with_reducible refine (laws_heldPuzzle.calls kj36 _ _ t524 t511 t512 1 t525 _ ?side1 ?side2 A54.out).mono ?_); (case side1 => repeat (first | exact (Kd.R_reads' HO_515000.out).2.2 | (with_reducible refine Kd.C_alloc ?_ _) | (with_reducible refine Kd.C_drewN ?_ _) | (with_reducible refine Kd.C_drew ?_))); (case side2 => rw [show t524.length = t508.length from (Kd.R_reads' HO_515000.out).1.symm]; exact (Kd.R_reads' HO_515000.out).2.1); rintro e w60 ⟨rfl, hb⟩; refine ⟨_, rfl, ?_⟩; have n0_ := Aside0.mk (Kd.R_below (by (with_reducible repeat (first | apply Kd.R_alloc | apply Kd.R_drewN | apply Kd.R_drew)); exact HO_505000.out) hb); have n1_ := Aside0.mk (Kd.R_below (by (with_reducible repeat (first | apply Kd.R_alloc | apply Kd.R_drewN | apply Kd.R_drew)); exact HO_515000.out) hb); have n2_ := Aside0.mk (blk_below (g := gb504) (o := .cells #[.slice Ao13 t498.length co13, .int .i64 t501, .int .i64 t502] 40 (0, 0)) (by (with_reducible repeat (first | refine blk_drewN ?_ _ | refine blk_drew ?_ | refine blk_alloc ?_ _)); exact BK504.out) hb); have n3_ := Aside0.mk (blk_below (g := gb514) (o := .cells #[.slice Ao19 t508.length co19, .int .i64 t511, .int .i64 t512] 40 (0, 0)) (by (with_reducible repeat (first | refine blk_drewN ?_ _ | refine blk_drew ?_ | refine blk_alloc ?_ _)); exact BK514.out) hb); have n4_ := Aside0.mk (below_step (by repeat (first | (with_reducible first | exact HB.out | apply below_alloc | apply pw_below_drewN | apply below_drew1 | refine below_set ?_ GE504.out | refine below_set ?_ GE514.out) | exact HB.out)) hb); clear HO_505000; clear HO_515000; clear BK504; clear BK514; clear HB; have HO_505000 := n0_; have HO_515000 := n1_; have BK504 := n2_; have BK514 := n3_; have HB := n4_; clear n0_ n1_ n2_ n3_ n4_; (try clear hb); (try clear hb2); (try clear hk); (try clear hi)))
                    go_ret
                    exact ⟨by first | rfl | (simp [errW_none, errW_some] <;> rfl) | (simp [*, errW_none, errW_some] <;> rfl), by repeat (first | (with_reducible first | exact HB.out | apply below_alloc | apply pw_below_drewN | apply below_drew1 | refine below_set ?_ GE504.out | refine below_set ?_ GE514.out) | exact HB.out)⟩
                  · rw [if_neg c55] at H
                    have c55b0 : decide (t525 < 0) = false := decide_eq_false c55
                    clear c55
                    by_cases c61 : t525 = t523
                    · rw [if_pos c61] at H
                      have c61b0 : (t525 == t523) = true := beq_iff_eq.mpr c61
                      have c61b1 : (t525 != t523) = false := bne_eq_false_iff_eq.mpr c61
                      clear c61
                      replace H := Option.bind_eq_some_iff.mp H
                      obtain ⟨t526, A620, H⟩ := H
                      replace H : ((impl_PuzzleOfRow.f kj36 t526 a1).bind fun bt529 => ((laws_eqPuzzle.f kj36 bt529.1 bt529.2.1 bt529.2.2.1 t498 t501 t502).bind fun t536 => (if t536 = true then (laws_FnExactPuzzleOfRow.j2 kj36 t523 (bt529.2.2.2 != t503) t524 t511 t512) else (laws_FnExactPuzzleOfRow.j2 kj36 t523 true t524 t511 t512)))) = some r := H
                      have A62 := Aside0.mk A620
                      clear A620
                      replace H := Option.bind_eq_some_iff.mp H
                      obtain ⟨⟨t529, t532, t533, t534⟩, A630, H⟩ := H
                      replace H : ((laws_eqPuzzle.f kj36 t529 t532 t533 t498 t501 t502).bind fun t536 => (if t536 = true then (laws_FnExactPuzzleOfRow.j2 kj36 t523 (t534 != t503) t524 t511 t512) else (laws_FnExactPuzzleOfRow.j2 kj36 t523 true t524 t511 t512))) = some r := H
                      have A63 := Aside0.mk A630
                      clear A630
                      have HC64 := Aside0.mk H
                      clear H
                      have hnb65 := NB514_504.out
                      have hnc65 := NB504_514.out
                      have hcz66_0 : wc.cell? ⟨gb514, 0, none⟩ = some (.slice Ao19 t508.length co19) := (blk_cell BK514.out 0).trans rfl
                      have hcz66_1 : wc.cell? ⟨gb514, 1, none⟩ = some (.int .i64 t511) := (blk_cell BK514.out 1).trans rfl
                      have hcz66_2 : wc.cell? ⟨gb514, 2, none⟩ = some (.int .i64 t512) := (blk_cell BK514.out 2).trans rfl
                      have hfz66_0 := blk_frozen BK514.out 0
                      have hfz66_1 := blk_frozen BK514.out 1
                      have hfz66_2 := blk_frozen BK514.out 2
                      go_upto_region 23 with (first | ((with_reducible refine gate_callee (f := 31) rfl ?_); refine goesL_ (some 65) rfl rfl Try.func31 (by kernel_rfl) rfl #[.agg #[.slice Ao19 t508.length co19, .int .i64 t511, .int .i64 t512], .int .i64 1] rfl (by (try simp only [List.map_toArray, List.map_cons, List.map_nil]); first | done | rfl | (simp only [List.length_drop, List.length_take]; rfl)) ?_; (with_reducible refine (laws_markPuzzle.calls kj36 (fun k_ => some k_ = (.slice Ao19 t508.length co19 : Value).ownBlock) (.slice Ao19 t508.length co19) t508 t511 t512 1 t523 t524 w _ ?side1 ?side2 A53.out).mono ?_); (case side1 => repeat (first | (with_reducible first | exact HB.out | apply below_alloc | apply pw_below_drewN | apply below_drew1 | refine below_set ?_ GE504.out | refine below_set ?_ GE514.out) | exact HB.out)); (case side2 => exact Kd.R_tight rfl HO_515000.out); rintro e w67 ⟨rfl, hy0, hb, hkp⟩; refine ⟨_, rfl, ?_⟩; have n0_ := Aside0.mk (Kd.R_mono (ok' := fun k_ => some k_ ≠ (.slice Ao19 t508.length co19 : Value).ownBlock) (Kd.R_keptB (HO_505000.out) hkp (fun k_ hk_ hs_ => (hk_) hs_)) (fun k_ hk_ => hk_.1)); have n1_ := Aside0.mk (Kd.R_reok rfl hy0 (fun k_ e_ => HO_515000.out.1 k_ e_)); have n2_ := Aside0.mk (blk_kept (by (with_reducible repeat (first | refine blk_drewN ?_ _ | refine blk_drew ?_ | refine blk_alloc ?_ _)); exact BK504.out) hkp (fun hs_ => (fun e_ => (Kd.R_ne HO_515000.out BK504.out (by decide)) e_) hs_)); have n3_ := Aside0.mk (blk_kept (by (with_reducible repeat (first | refine blk_drewN ?_ _ | refine blk_drew ?_ | refine blk_alloc ?_ _)); exact BK514.out) hkp (fun hs_ => (fun e_ => (Kd.R_ne HO_515000.out BK514.out (by decide)) e_) hs_)); have n4_ := Aside0.mk (hb); clear HO_505000; clear HO_515000; clear BK504; clear BK514; clear HB; have HO_505000 := n0_; have HO_515000 := n1_; have BK504 := n2_; have BK514 := n3_; have HB := n4_; clear n0_ n1_ n2_ n3_ n4_; (try clear hb); (try clear hkp); (try clear hy0); have hcz68_0 : w67.cell? ⟨gb514, 0, none⟩ = some (.slice Ao19 t508.length co19) := (blk_cell BK514.out 0).trans rfl; have hcz68_1 : w67.cell? ⟨gb514, 1, none⟩ = some (.int .i64 t511) := (blk_cell BK514.out 1).trans rfl; have hcz68_2 : w67.cell? ⟨gb514, 2, none⟩ = some (.int .i64 t512) := (blk_cell BK514.out 2).trans rfl; have hfz68_0 := blk_frozen BK514.out 0; have hfz68_1 := blk_frozen BK514.out 1; have hfz68_2 := blk_frozen BK514.out 2) | ((with_reducible refine gate_callee (f := 32) rfl ?_); refine goesL_ (some 68) rfl rfl Try.func32 (by kernel_rfl) rfl #[.agg #[.slice Ao19 t524.length co19, .int .i64 t511, .int .i64 t512], .int .i64 1] rfl (by (try simp only [List.map_toArray, List.map_cons, List.map_nil]); first | done | (rw [show t524.length = t508.length from (Kd.R_reads' HO_515000.out).1.symm] <;> rfl) | rfl | (simp only [List.length_drop, List.length_take]; rfl)) ?_; (with_reducible refine (laws_heldPuzzle.calls kj36 _ _ t524 t511 t512 1 t525 _ ?side1 ?side2 A54.out).mono ?_); (case side1 => repeat (first | exact (Kd.R_reads' HO_515000.out).2.2 | (with_reducible refine Kd.C_alloc ?_ _) | (with_reducible refine Kd.C_drewN ?_ _) | (with_reducible refine Kd.C_drew ?_))); (case side2 => rw [show t524.length = t508.length from (Kd.R_reads' HO_515000.out).1.symm]; exact (Kd.R_reads' HO_515000.out).2.1); rintro e w69 ⟨rfl, hb⟩; refine ⟨_, rfl, ?_⟩; have n0_ := Aside0.mk (Kd.R_below (by (with_reducible repeat (first | apply Kd.R_alloc | apply Kd.R_drewN | apply Kd.R_drew)); exact HO_505000.out) hb); have n1_ := Aside0.mk (Kd.R_below (by (with_reducible repeat (first | apply Kd.R_alloc | apply Kd.R_drewN | apply Kd.R_drew)); exact HO_515000.out) hb); have n2_ := Aside0.mk (blk_below (g := gb504) (o := .cells #[.slice Ao13 t498.length co13, .int .i64 t501, .int .i64 t502] 40 (0, 0)) (by (with_reducible repeat (first | refine blk_drewN ?_ _ | refine blk_drew ?_ | refine blk_alloc ?_ _)); exact BK504.out) hb); have n3_ := Aside0.mk (blk_below (g := gb514) (o := .cells #[.slice Ao19 t508.length co19, .int .i64 t511, .int .i64 t512] 40 (0, 0)) (by (with_reducible repeat (first | refine blk_drewN ?_ _ | refine blk_drew ?_ | refine blk_alloc ?_ _)); exact BK514.out) hb); have n4_ := Aside0.mk (below_step (by repeat (first | (with_reducible first | exact HB.out | apply below_alloc | apply pw_below_drewN | apply below_drew1 | refine below_set ?_ GE504.out | refine below_set ?_ GE514.out) | exact HB.out)) hb); clear HO_505000; clear HO_515000; clear BK504; clear BK514; clear HB; have HO_505000 := n0_; have HO_515000 := n1_; have BK504 := n2_; have BK514 := n3_; have HB := n4_; clear n0_ n1_ n2_ n3_ n4_; (try clear hb); (try clear hb2); (try clear hk); (try clear hi)) | ((with_reducible refine gate_callee (f := 21) rfl ?_); refine goesL_ (some 76) rfl rfl Try.func21 (by kernel_rfl) rfl #[.slice A0 l0.length c0] rfl (by (try simp only [List.map_toArray, List.map_cons, List.map_nil]); first | done | rfl | (simp only [List.length_drop, List.length_take]; rfl)) ?_; (with_reducible refine (laws_toIntS.calls kj36 _ _ l0 t526 _ ?side1 ?side2 A62.out).mono ?_); (case side1 => repeat (first | exact (Kd.C_below HR0.out HB.out) | (with_reducible refine Kd.C_alloc ?_ _) | (with_reducible refine Kd.C_drewN ?_ _) | (with_reducible refine Kd.C_drew ?_))); (case side2 => exact HC0.out); rintro e w70 ⟨v527, rfl, ho0, hb⟩; refine ⟨_, rfl, ?_⟩; have n0_ := Aside0.mk (Kd.R_elder' (by (with_reducible repeat (first | apply Kd.R_alloc | apply Kd.R_drewN | apply Kd.R_drew)); exact HO_505000.out) (Kd.R_base ho0) hb); have n1_ := Aside0.mk (Kd.R_elder' (by (with_reducible repeat (first | apply Kd.R_alloc | apply Kd.R_drewN | apply Kd.R_drew)); exact HO_515000.out) (Kd.R_base ho0) hb); have n2_ := Aside0.mk (Kd.R_lower (Kd.R_new' (Kd.R_new' ho0 (Kd.R_lt (by (with_reducible repeat (first | apply Kd.R_alloc | apply Kd.R_drewN | apply Kd.R_drew)); exact HO_505000.out))) (Kd.R_lt (by (with_reducible repeat (first | apply Kd.R_alloc | apply Kd.R_drewN | apply Kd.R_drew)); exact HO_515000.out))) (below_size (by repeat (first | (with_reducible first | exact HB.out | apply below_alloc | apply pw_below_drewN | apply below_drew1 | refine below_set ?_ GE504.out | refine below_set ?_ GE514.out) | exact HB.out)))); have n3_ := Aside0.mk (blk_below (g := gb504) (o := .cells #[.slice Ao13 t498.length co13, .int .i64 t501, .int .i64 t502] 40 (0, 0)) (by (with_reducible repeat (first | refine blk_drewN ?_ _ | refine blk_drew ?_ | refine blk_alloc ?_ _)); exact BK504.out) hb); have n4_ := Aside0.mk (blk_below (g := gb514) (o := .cells #[.slice Ao19 t508.length co19, .int .i64 t511, .int .i64 t512] 40 (0, 0)) (by (with_reducible repeat (first | refine blk_drewN ?_ _ | refine blk_drew ?_ | refine blk_alloc ?_ _)); exact BK514.out) hb); have n5_ := Aside0.mk (below_step (by repeat (first | (with_reducible first | exact HB.out | apply below_alloc | apply pw_below_drewN | apply below_drew1 | refine below_set ?_ GE504.out | refine below_set ?_ GE514.out) | exact HB.out)) hb); clear HO_505000; clear HO_515000; clear BK504; clear BK514; clear HB; have HO_505000 := n0_; have HO_515000 := n1_; have HO528 := n2_; have BK504 := n3_; have BK514 := n4_; have HB := n5_; clear n0_ n1_ n2_ n3_ n4_ n5_; (try clear hb); (try clear hb2); (try clear hk); (try clear hi); (try clear ho0); obtain ⟨Ao71, co71, eo71⟩ := Kd.R_slice HO528.out; subst eo71) | ((with_reducible refine gate_callee (f := 29) rfl ?_); refine goesL_ (some 78) rfl rfl Try.func29 (by kernel_rfl) rfl #[.slice Ao71 t526.length co71, .int .i64 a1] rfl (by (try simp only [List.map_toArray, List.map_cons, List.map_nil]); first | done | rfl | (simp only [List.length_drop, List.length_take]; rfl)) ?_; (with_reducible refine (impl_PuzzleOfRow.calls kj36 _ _ t526 a1 t529 t532 t533 t534 _ ?side1 ?side2 A63.out).mono ?_); (case side1 => repeat (first | exact (Kd.R_reads' HO528.out).2.2 | (with_reducible refine Kd.C_alloc ?_ _) | (with_reducible refine Kd.C_drewN ?_ _) | (with_reducible refine Kd.C_drew ?_))); (case side2 => exact (Kd.R_reads' HO528.out).2.1); rintro e w72 ⟨v530, rfl, ho0, hb⟩; refine ⟨_, rfl, ?_⟩; have n0_ := Aside0.mk (Kd.R_elder' (by (with_reducible repeat (first | apply Kd.R_alloc | apply Kd.R_drewN | apply Kd.R_drew)); exact HO_505000.out) (Kd.R_base ho0) hb); have n1_ := Aside0.mk (Kd.R_elder' (by (with_reducible repeat (first | apply Kd.R_alloc | apply Kd.R_drewN | apply Kd.R_drew)); exact HO_515000.out) (Kd.R_base ho0) hb); have n2_ := Aside0.mk (Kd.R_elder' (by (with_reducible repeat (first | apply Kd.R_alloc | apply Kd.R_drewN | apply Kd.R_drew)); exact HO528.out) (Kd.R_base ho0) hb); have n3_ := Aside0.mk (Kd.R_lower (Kd.R_new' (Kd.R_new' (Kd.R_new' ho0 (Kd.R_lt (by (with_reducible repeat (first | apply Kd.R_alloc | apply Kd.R_drewN | apply Kd.R_drew)); exact HO_505000.out))) (Kd.R_lt (by (with_reducible repeat (first | apply Kd.R_alloc | apply Kd.R_drewN | apply Kd.R_drew)); exact HO_515000.out))) (Kd.R_lt (by (with_reducible repeat (first | apply Kd.R_alloc | apply Kd.R_drewN | apply Kd.R_drew)); exact HO528.out))) (below_size (by repeat (first | (with_reducible first | exact HB.out | apply below_alloc | apply pw_below_drewN | apply below_drew1 | refine below_set ?_ GE504.out | refine below_set ?_ GE514.out) | exact HB.out)))); have n4_ := Aside0.mk (blk_below (g := gb504) (o := .cells #[.slice Ao13 t498.length co13, .int .i64 t501, .int .i64 t502] 40 (0, 0)) (by (with_reducible repeat (first | refine blk_drewN ?_ _ | refine blk_drew ?_ | refine blk_alloc ?_ _)); exact BK504.out) hb); have n5_ := Aside0.mk (blk_below (g := gb514) (o := .cells #[.slice Ao19 t508.length co19, .int .i64 t511, .int .i64 t512] 40 (0, 0)) (by (with_reducible repeat (first | refine blk_drewN ?_ _ | refine blk_drew ?_ | refine blk_alloc ?_ _)); exact BK514.out) hb); have n6_ := Aside0.mk (below_step (by repeat (first | (with_reducible first | exact HB.out | apply below_alloc | apply pw_below_drewN | apply below_drew1 | refine below_set ?_ GE504.out | refine below_set ?_ GE514.out) | exact HB.out)) hb); clear HO_505000; clear HO_515000; clear HO528; clear BK504; clear BK514; clear HB; have HO_505000 := n0_; have HO_515000 := n1_; have HO528 := n2_; have HO531 := n3_; have BK504 := n4_; have BK514 := n5_; have HB := n6_; clear n0_ n1_ n2_ n3_ n4_ n5_ n6_; (try clear hb); (try clear hb2); (try clear hk); (try clear hi); (try clear ho0)) | ((with_reducible refine gate_dst (N := 13) rfl ?_); refine box_event ?hg (N := 13) ?hd (cs := #[.slice none 0 0, .int .i64 0, .int .i64 0]) (t := 40) ?hr ?_; (case hd => rfl); (case hg => rfl); (case hr => first | (go_simp; done) | (go_simp; rfl)); intro gb535 hg w73 hbox hb; have n0_ := Aside0.mk (Kd.R_below (by (with_reducible repeat (first | apply Kd.R_alloc | apply Kd.R_drewN | apply Kd.R_drew)); exact HO_505000.out) hb); have n1_ := Aside0.mk (Kd.R_below (by (with_reducible repeat (first | apply Kd.R_alloc | apply Kd.R_drewN | apply Kd.R_drew)); exact HO_515000.out) hb); have n2_ := Aside0.mk (Kd.R_below (by (with_reducible repeat (first | apply Kd.R_alloc | apply Kd.R_drewN | apply Kd.R_drew)); exact HO528.out) hb); have n3_ := Aside0.mk (Kd.R_below (by (with_reducible repeat (first | apply Kd.R_alloc | apply Kd.R_drewN | apply Kd.R_drew)); exact HO531.out) hb); have n4_ := Aside0.mk (blk_below (g := gb504) (o := .cells #[.slice Ao13 t498.length co13, .int .i64 t501, .int .i64 t502] 40 (0, 0)) (by (with_reducible repeat (first | refine blk_drewN ?_ _ | refine blk_drew ?_ | refine blk_alloc ?_ _)); exact BK504.out) hb); have n5_ := Aside0.mk (blk_below (g := gb514) (o := .cells #[.slice Ao19 t508.length co19, .int .i64 t511, .int .i64 t512] 40 (0, 0)) (by (with_reducible repeat (first | refine blk_drewN ?_ _ | refine blk_drew ?_ | refine blk_alloc ?_ _)); exact BK514.out) hb); have n6_ := Aside0.mk (below_step (by repeat (first | (with_reducible first | exact HB.out | apply below_alloc | apply pw_below_drewN | apply below_drew1 | refine below_set ?_ GE504.out | refine below_set ?_ GE514.out) | exact HB.out)) hb); have n7_ := Aside0.mk (hbox); have n8_ := Aside0.mk ((by rw [hg]; exact (below_size (by repeat (first | (with_reducible first | exact HB.out | apply below_alloc | apply pw_below_drewN | apply below_drew1 | refine below_set ?_ GE504.out | refine below_set ?_ GE514.out) | exact HB.out))) : w.heap.size ≤ gb535)); have n9_ := Aside0.mk ((by rw [hg]; exact (below_size (by repeat (first | (with_reducible first | exact HB.out | apply below_alloc | apply pw_below_drewN | apply below_drew1 | refine below_set ?_ GE504.out | refine below_set ?_ GE514.out) | exact HB.out))) : w.heap.size ≤ gb535)); have n10_ := Aside0.mk ((by rw [hg]; exact Nat.ne_of_lt (blk_lt (g := gb504) (o := .cells #[.slice Ao13 t498.length co13, .int .i64 t501, .int .i64 t502] 40 (0, 0)) (by (with_reducible repeat (first | refine blk_drewN ?_ _ | refine blk_drew ?_ | refine blk_alloc ?_ _)); exact BK504.out)) : gb504 ≠ gb535)); have n11_ := Aside0.mk ((by rw [hg]; exact Nat.ne_of_gt (blk_lt (g := gb504) (o := .cells #[.slice Ao13 t498.length co13, .int .i64 t501, .int .i64 t502] 40 (0, 0)) (by (with_reducible repeat (first | refine blk_drewN ?_ _ | refine blk_drew ?_ | refine blk_alloc ?_ _)); exact BK504.out)) : gb535 ≠ gb504)); have n12_ := Aside0.mk ((by rw [hg]; exact Nat.ne_of_lt (blk_lt (g := gb514) (o := .cells #[.slice Ao19 t508.length co19, .int .i64 t511, .int .i64 t512] 40 (0, 0)) (by (with_reducible repeat (first | refine blk_drewN ?_ _ | refine blk_drew ?_ | refine blk_alloc ?_ _)); exact BK514.out)) : gb514 ≠ gb535)); have n13_ := Aside0.mk ((by rw [hg]; exact Nat.ne_of_gt (blk_lt (g := gb514) (o := .cells #[.slice Ao19 t508.length co19, .int .i64 t511, .int .i64 t512] 40 (0, 0)) (by (with_reducible repeat (first | refine blk_drewN ?_ _ | refine blk_drew ?_ | refine blk_alloc ?_ _)); exact BK514.out)) : gb535 ≠ gb514)); clear HO_505000; clear HO_515000; clear HO528; clear HO531; clear BK504; clear BK514; clear HB; have HO_505000 := n0_; have HO_515000 := n1_; have HO528 := n2_; have HO531 := n3_; have BK504 := n4_; have BK514 := n5_; have HB := n6_; have BK535 := n7_; have GW535 := n8_; have GE535 := n9_; have NB504_535 := n10_; have NB535_504 := n11_; have NB514_535 := n12_; have NB535_514 := n13_; clear n0_ n1_ n2_ n3_ n4_ n5_ n6_ n7_ n8_ n9_ n10_ n11_ n12_ n13_; clear hb hbox hg; obtain ⟨Ao74, co74, eo74⟩ := Kd.R_slice HO531.out; subst eo74; have hnb75 := NB535_504.out; have hnc75 := NB504_535.out; have hnb76 := NB535_514.out; have hnc76 := NB514_535.out; have hcz77_0 : w73.cell? ⟨gb535, 0, none⟩ = some (.slice none 0 0) := (blk_cell BK535.out 0).trans rfl; have hcz77_1 : w73.cell? ⟨gb535, 1, none⟩ = some (.int .i64 0) := (blk_cell BK535.out 1).trans rfl; have hcz77_2 : w73.cell? ⟨gb535, 2, none⟩ = some (.int .i64 0) := (blk_cell BK535.out 2).trans rfl; have hfz77_0 := blk_frozen BK535.out 0; have hfz77_1 := blk_frozen BK535.out 1; have hfz77_2 := blk_frozen BK535.out 2))
                      (try simp only [Act.put, List.setIfInBounds_toArray, List.set_cons_zero, List.set_cons_succ])
                      go_cut [89] (fun v89 wc => ∃ (kq : Nat) (x89_63 : Bool), v89 = .bool x89_63 ∧ Aside0 (laws_FnExactPuzzleOfRow.j2 kq t523 x89_63 t524 t511 t512 = some r) ∧ Aside0 (kq ≤ kj36) ∧ Aside0 (Kd.R (Kd.int .i64) 3 wc w.heap.size (fun k_ => some k_ ≠ ((.slice Ao19 t508.length co19) : Value).ownBlock ∧ some k_ ≠ ((.slice Ao74 t529.length co74) : Value).ownBlock) (.slice Ao13 t498.length co13) t498) ∧ Aside0 (Kd.R (Kd.int .i64) 3 wc w.heap.size (fun k_ => some k_ ≠ ((.slice Ao13 t498.length co13) : Value).ownBlock ∧ some k_ ≠ ((.slice Ao74 t529.length co74) : Value).ownBlock) (.slice Ao19 t508.length co19) t524) ∧ Aside0 (Kd.R (Kd.int .i64) 3 wc w.heap.size (fun k_ => some k_ ≠ ((.slice Ao13 t498.length co13) : Value).ownBlock ∧ some k_ ≠ ((.slice Ao19 t508.length co19) : Value).ownBlock) (.slice Ao74 t529.length co74) t529) ∧ Aside0 (wc.heap[gb504]? = some (.cells #[(.slice Ao13 t498.length co13), .int .i64 t501, .int .i64 t502] 40 (0, 0))) ∧ Aside0 (wc.heap[gb514]? = some (.cells #[(.slice Ao19 t508.length co19), .int .i64 t511, .int .i64 t512] 40 (0, 0))) ∧ Aside0 (wc.heap[gb535]? = some (.cells #[(.slice Ao74 t529.length co74), .int .i64 t532, .int .i64 t533] 40 (0, 0))) ∧ Aside0 (Below w.heap.size w wc))
                      case first =>
                        have H := HC64.out
                        clear HC64
                        replace H := Option.bind_eq_some_iff.mp H
                        obtain ⟨t536, A780, H⟩ := H
                        replace H : (if t536 = true then (laws_FnExactPuzzleOfRow.j2 kj36 t523 (t534 != t503) t524 t511 t512) else (laws_FnExactPuzzleOfRow.j2 kj36 t523 true t524 t511 t512)) = some r := H
                        have A78 := Aside0.mk A780
                        clear A780
                        by_cases c79 : t536 = true
                        · subst c79
                          have H1 : (laws_FnExactPuzzleOfRow.j2 kj36 t523 (t534 != t503) t524 t511 t512) = some r := by rw [if_pos rfl] at H; exact H
                          clear H
                          have H := H1
                          clear H1
                          have H' := Aside0.mk H
                          clear H
                          have hnb80 := NB535_504.out
                          have hnc80 := NB504_535.out
                          have hnb81 := NB535_514.out
                          have hnc81 := NB514_535.out
                          have hcz82_0 : w73.cell? ⟨gb535, 0, none⟩ = some (.slice none 0 0) := (blk_cell BK535.out 0).trans rfl
                          have hcz82_1 : w73.cell? ⟨gb535, 1, none⟩ = some (.int .i64 0) := (blk_cell BK535.out 1).trans rfl
                          have hcz82_2 : w73.cell? ⟨gb535, 2, none⟩ = some (.int .i64 0) := (blk_cell BK535.out 2).trans rfl
                          have hfz82_0 := blk_frozen BK535.out 0
                          have hfz82_1 := blk_frozen BK535.out 1
                          have hfz82_2 := blk_frozen BK535.out 2
                          have hnb83 := NB504_514.out
                          have hnc83 := NB514_504.out
                          have hcz84_0 : w73.cell? ⟨gb504, 0, none⟩ = some (.slice Ao13 t498.length co13) := (blk_cell BK504.out 0).trans rfl
                          have hcz84_1 : w73.cell? ⟨gb504, 1, none⟩ = some (.int .i64 t501) := (blk_cell BK504.out 1).trans rfl
                          have hcz84_2 : w73.cell? ⟨gb504, 2, none⟩ = some (.int .i64 t502) := (blk_cell BK504.out 2).trans rfl
                          have hfz84_0 := blk_frozen BK504.out 0
                          have hfz84_1 := blk_frozen BK504.out 1
                          have hfz84_2 := blk_frozen BK504.out 2
                          go_wp2_with (first | ((with_reducible refine gate_callee (f := 30) rfl ?_); refine goesL_ (some 83) rfl rfl Try.func30 (by kernel_rfl) rfl #[.agg #[.slice Ao74 t529.length co74, .int .i64 t532, .int .i64 t533], .agg #[.slice Ao13 t498.length co13, .int .i64 t501, .int .i64 t502]] rfl (by (try simp only [List.map_toArray, List.map_cons, List.map_nil]); first | done | rfl | (simp only [List.length_drop, List.length_take]; rfl)) ?_; (with_reducible refine (laws_eqPuzzle.calls kj36 _ _ t529 t532 t533 _ _ t498 t501 t502 true _ ?side1 ?side2 ?side3 ?side4 A78.out).mono ?_); (case side1 => refine (Kd.R_reads' (e := 3) (base := w.heap.size) (ok := fun k_ => (((True ∧ some k_ ≠ (.slice Ao13 t498.length co13 : Value).ownBlock) ∧ some k_ ≠ (.slice Ao19 t508.length co19 : Value).ownBlock) ∧ some k_ ≠ (.slice Ao71 t526.length co71 : Value).ownBlock)) (n := t529.length) (c := co74) ?_).2.2; exact (by (with_reducible repeat (first | apply Kd.R_alloc | apply Kd.R_drewN | apply Kd.R_drew)); exact (Kd.R_mono (Kd.R_far (p := ⟨gb535, 2, none⟩) (Kd.R_far (p := ⟨gb535, 1, none⟩) (Kd.R_far (p := ⟨gb535, 0, none⟩) (Kd.R_types HO531.out BK535.out (by decide)) (fun _ hk => hk.2) (.slice Ao74 t529.length co74)) (fun _ hk => hk.2) (.int .i64 t532)) (fun _ hk => hk.2) (.int .i64 t533)) (fun _ h_ => h_.1)))); (case side2 => exact (Kd.R_reads' HO531.out).2.1); (case side3 => refine (Kd.R_reads' (e := 3) (base := w.heap.size) (ok := fun k_ => ((some k_ ≠ (.slice Ao19 t508.length co19 : Value).ownBlock ∧ some k_ ≠ (.slice Ao71 t526.length co71 : Value).ownBlock) ∧ some k_ ≠ (.slice Ao74 t529.length co74 : Value).ownBlock)) (n := t498.length) (c := co13) ?_).2.2; exact (by (with_reducible repeat (first | apply Kd.R_alloc | apply Kd.R_drewN | apply Kd.R_drew)); exact (Kd.R_mono (Kd.R_far (p := ⟨gb535, 2, none⟩) (Kd.R_far (p := ⟨gb535, 1, none⟩) (Kd.R_far (p := ⟨gb535, 0, none⟩) (Kd.R_types HO_505000.out BK535.out (by decide)) (fun _ hk => hk.2) (.slice Ao74 t529.length co74)) (fun _ hk => hk.2) (.int .i64 t532)) (fun _ hk => hk.2) (.int .i64 t533)) (fun _ h_ => h_.1)))); (case side4 => exact (Kd.R_reads' HO_505000.out).2.1); rintro e w85 ⟨rfl, hb⟩; refine ⟨_, rfl, ?_⟩; have n0_ := Aside0.mk (Kd.R_below (by (with_reducible repeat (first | apply Kd.R_alloc | apply Kd.R_drewN | apply Kd.R_drew)); exact (Kd.R_mono (Kd.R_far (p := ⟨gb535, 2, none⟩) (Kd.R_far (p := ⟨gb535, 1, none⟩) (Kd.R_far (p := ⟨gb535, 0, none⟩) (Kd.R_types HO_505000.out BK535.out (by decide)) (fun _ hk => hk.2) (.slice Ao74 t529.length co74)) (fun _ hk => hk.2) (.int .i64 t532)) (fun _ hk => hk.2) (.int .i64 t533)) (fun _ h_ => h_.1))) hb); have n1_ := Aside0.mk (Kd.R_below (by (with_reducible repeat (first | apply Kd.R_alloc | apply Kd.R_drewN | apply Kd.R_drew)); exact (Kd.R_mono (Kd.R_far (p := ⟨gb535, 2, none⟩) (Kd.R_far (p := ⟨gb535, 1, none⟩) (Kd.R_far (p := ⟨gb535, 0, none⟩) (Kd.R_types HO_515000.out BK535.out (by decide)) (fun _ hk => hk.2) (.slice Ao74 t529.length co74)) (fun _ hk => hk.2) (.int .i64 t532)) (fun _ hk => hk.2) (.int .i64 t533)) (fun _ h_ => h_.1))) hb); have n2_ := Aside0.mk (Kd.R_below (by (with_reducible repeat (first | apply Kd.R_alloc | apply Kd.R_drewN | apply Kd.R_drew)); exact (Kd.R_mono (Kd.R_far (p := ⟨gb535, 2, none⟩) (Kd.R_far (p := ⟨gb535, 1, none⟩) (Kd.R_far (p := ⟨gb535, 0, none⟩) (Kd.R_types HO528.out BK535.out (by decide)) (fun _ hk => hk.2) (.slice Ao74 t529.length co74)) (fun _ hk => hk.2) (.int .i64 t532)) (fun _ hk => hk.2) (.int .i64 t533)) (fun _ h_ => h_.1))) hb); have n3_ := Aside0.mk (Kd.R_below (by (with_reducible repeat (first | apply Kd.R_alloc | apply Kd.R_drewN | apply Kd.R_drew)); exact (Kd.R_mono (Kd.R_far (p := ⟨gb535, 2, none⟩) (Kd.R_far (p := ⟨gb535, 1, none⟩) (Kd.R_far (p := ⟨gb535, 0, none⟩) (Kd.R_types HO531.out BK535.out (by decide)) (fun _ hk => hk.2) (.slice Ao74 t529.length co74)) (fun _ hk => hk.2) (.int .i64 t532)) (fun _ hk => hk.2) (.int .i64 t533)) (fun _ h_ => h_.1))) hb); have n4_ := Aside0.mk (blk_below (g := gb504) (o := .cells #[.slice Ao13 t498.length co13, .int .i64 t501, .int .i64 t502] 40 (0, 0)) (by (with_reducible repeat (first | refine blk_drewN ?_ _ | refine blk_drew ?_ | refine blk_alloc ?_ _)); refine blk_far ?_ NB504_535.out _; (with_reducible repeat (first | refine blk_drewN ?_ _ | refine blk_drew ?_ | refine blk_alloc ?_ _)); refine blk_far ?_ NB504_535.out _; (with_reducible repeat (first | refine blk_drewN ?_ _ | refine blk_drew ?_ | refine blk_alloc ?_ _)); refine blk_far ?_ NB504_535.out _; (with_reducible repeat (first | refine blk_drewN ?_ _ | refine blk_drew ?_ | refine blk_alloc ?_ _)); exact BK504.out) hb); have n5_ := Aside0.mk (blk_below (g := gb514) (o := .cells #[.slice Ao19 t508.length co19, .int .i64 t511, .int .i64 t512] 40 (0, 0)) (by (with_reducible repeat (first | refine blk_drewN ?_ _ | refine blk_drew ?_ | refine blk_alloc ?_ _)); refine blk_far ?_ NB514_535.out _; (with_reducible repeat (first | refine blk_drewN ?_ _ | refine blk_drew ?_ | refine blk_alloc ?_ _)); refine blk_far ?_ NB514_535.out _; (with_reducible repeat (first | refine blk_drewN ?_ _ | refine blk_drew ?_ | refine blk_alloc ?_ _)); refine blk_far ?_ NB514_535.out _; (with_reducible repeat (first | refine blk_drewN ?_ _ | refine blk_drew ?_ | refine blk_alloc ?_ _)); exact BK514.out) hb); have n6_ := Aside0.mk (blk_below (g := gb535) (o := .cells #[.slice Ao74 t529.length co74, .int .i64 t532, .int .i64 t533] 40 (0, 0)) (by (with_reducible repeat (first | refine blk_drewN ?_ _ | refine blk_drew ?_ | refine blk_alloc ?_ _)); refine blk_put (cs := #[.slice Ao74 t529.length co74, .int .i64 t532, .int .i64 0]) ?_ 2 _ rfl; (with_reducible repeat (first | refine blk_drewN ?_ _ | refine blk_drew ?_ | refine blk_alloc ?_ _)); refine blk_put (cs := #[.slice Ao74 t529.length co74, .int .i64 0, .int .i64 0]) ?_ 1 _ rfl; (with_reducible repeat (first | refine blk_drewN ?_ _ | refine blk_drew ?_ | refine blk_alloc ?_ _)); refine blk_put (cs := #[.slice none 0 0, .int .i64 0, .int .i64 0]) ?_ 0 _ rfl; (with_reducible repeat (first | refine blk_drewN ?_ _ | refine blk_drew ?_ | refine blk_alloc ?_ _)); exact BK535.out) hb); have n7_ := Aside0.mk (below_step (by repeat (first | (with_reducible first | exact HB.out | apply below_alloc | apply pw_below_drewN | apply below_drew1 | refine below_set ?_ GE504.out | refine below_set ?_ GE514.out | refine below_set ?_ GE535.out) | exact HB.out)) hb); clear HO_505000; clear HO_515000; clear HO528; clear HO531; clear BK504; clear BK514; clear BK535; clear HB; have HO_505000 := n0_; have HO_515000 := n1_; have HO528 := n2_; have HO531 := n3_; have BK504 := n4_; have BK514 := n5_; have BK535 := n6_; have HB := n7_; clear n0_ n1_ n2_ n3_ n4_ n5_ n6_ n7_; (try clear hb); (try clear hb2); (try clear hk); (try clear hi)))
                          go_meet
                          case rel => exact ⟨_, ((t534 != t503)), (by first | rfl | (simp; done) | (simp [*]; done)), H', ⟨by have := HJ7.out; have := HJ36.out; first | omega | exact Nat.le_refl _⟩, ⟨by (with_reducible repeat (first | apply Kd.R_alloc | apply Kd.R_drewN | apply Kd.R_drew)); exact Kd.R_mono HO_505000.out (fun _ hk => ⟨hk.1.1, hk.2⟩)⟩, ⟨by (with_reducible repeat (first | apply Kd.R_alloc | apply Kd.R_drewN | apply Kd.R_drew)); exact Kd.R_mono HO_515000.out (fun _ hk => ⟨hk.1.1, hk.2⟩)⟩, ⟨by (with_reducible repeat (first | apply Kd.R_alloc | apply Kd.R_drewN | apply Kd.R_drew)); exact Kd.R_mono HO531.out (fun _ hk => ⟨hk.1.1.2, hk.1.2⟩)⟩, ⟨by (with_reducible repeat (first | refine blk_drewN ?_ _ | refine blk_drew ?_ | refine blk_alloc ?_ _)); exact BK504.out⟩, ⟨by (with_reducible repeat (first | refine blk_drewN ?_ _ | refine blk_drew ?_ | refine blk_alloc ?_ _)); exact BK514.out⟩, ⟨by (with_reducible repeat (first | refine blk_drewN ?_ _ | refine blk_drew ?_ | refine blk_alloc ?_ _)); exact BK535.out⟩, ⟨by repeat (first | (with_reducible first | exact HB.out | apply below_alloc | apply pw_below_drewN | apply below_drew1 | refine below_set ?_ GE504.out | refine below_set ?_ GE514.out | refine below_set ?_ GE535.out) | exact HB.out)⟩⟩
                        · replace c79 := Bool.eq_false_iff.mpr c79
                          subst c79
                          have H1 : (laws_FnExactPuzzleOfRow.j2 kj36 t523 true t524 t511 t512) = some r := by rw [if_neg (show ¬ (false = true) by decide)] at H; exact H
                          clear H
                          have H := H1
                          clear H1
                          have H' := Aside0.mk H
                          clear H
                          have hnb86 := NB535_504.out
                          have hnc86 := NB504_535.out
                          have hnb87 := NB535_514.out
                          have hnc87 := NB514_535.out
                          have hcz88_0 : w73.cell? ⟨gb535, 0, none⟩ = some (.slice none 0 0) := (blk_cell BK535.out 0).trans rfl
                          have hcz88_1 : w73.cell? ⟨gb535, 1, none⟩ = some (.int .i64 0) := (blk_cell BK535.out 1).trans rfl
                          have hcz88_2 : w73.cell? ⟨gb535, 2, none⟩ = some (.int .i64 0) := (blk_cell BK535.out 2).trans rfl
                          have hfz88_0 := blk_frozen BK535.out 0
                          have hfz88_1 := blk_frozen BK535.out 1
                          have hfz88_2 := blk_frozen BK535.out 2
                          have hnb89 := NB504_514.out
                          have hnc89 := NB514_504.out
                          have hcz90_0 : w73.cell? ⟨gb504, 0, none⟩ = some (.slice Ao13 t498.length co13) := (blk_cell BK504.out 0).trans rfl
                          have hcz90_1 : w73.cell? ⟨gb504, 1, none⟩ = some (.int .i64 t501) := (blk_cell BK504.out 1).trans rfl
                          have hcz90_2 : w73.cell? ⟨gb504, 2, none⟩ = some (.int .i64 t502) := (blk_cell BK504.out 2).trans rfl
                          have hfz90_0 := blk_frozen BK504.out 0
                          have hfz90_1 := blk_frozen BK504.out 1
                          have hfz90_2 := blk_frozen BK504.out 2
                          go_wp2_with (first | ((with_reducible refine gate_callee (f := 30) rfl ?_); refine goesL_ (some 83) rfl rfl Try.func30 (by kernel_rfl) rfl #[.agg #[.slice Ao74 t529.length co74, .int .i64 t532, .int .i64 t533], .agg #[.slice Ao13 t498.length co13, .int .i64 t501, .int .i64 t502]] rfl (by (try simp only [List.map_toArray, List.map_cons, List.map_nil]); first | done | rfl | (simp only [List.length_drop, List.length_take]; rfl)) ?_; (with_reducible refine (laws_eqPuzzle.calls kj36 _ _ t529 t532 t533 _ _ t498 t501 t502 false _ ?side1 ?side2 ?side3 ?side4 A78.out).mono ?_); (case side1 => refine (Kd.R_reads' (e := 3) (base := w.heap.size) (ok := fun k_ => (((True ∧ some k_ ≠ (.slice Ao13 t498.length co13 : Value).ownBlock) ∧ some k_ ≠ (.slice Ao19 t508.length co19 : Value).ownBlock) ∧ some k_ ≠ (.slice Ao71 t526.length co71 : Value).ownBlock)) (n := t529.length) (c := co74) ?_).2.2; exact (by (with_reducible repeat (first | apply Kd.R_alloc | apply Kd.R_drewN | apply Kd.R_drew)); exact (Kd.R_mono (Kd.R_far (p := ⟨gb535, 2, none⟩) (Kd.R_far (p := ⟨gb535, 1, none⟩) (Kd.R_far (p := ⟨gb535, 0, none⟩) (Kd.R_types HO531.out BK535.out (by decide)) (fun _ hk => hk.2) (.slice Ao74 t529.length co74)) (fun _ hk => hk.2) (.int .i64 t532)) (fun _ hk => hk.2) (.int .i64 t533)) (fun _ h_ => h_.1)))); (case side2 => exact (Kd.R_reads' HO531.out).2.1); (case side3 => refine (Kd.R_reads' (e := 3) (base := w.heap.size) (ok := fun k_ => ((some k_ ≠ (.slice Ao19 t508.length co19 : Value).ownBlock ∧ some k_ ≠ (.slice Ao71 t526.length co71 : Value).ownBlock) ∧ some k_ ≠ (.slice Ao74 t529.length co74 : Value).ownBlock)) (n := t498.length) (c := co13) ?_).2.2; exact (by (with_reducible repeat (first | apply Kd.R_alloc | apply Kd.R_drewN | apply Kd.R_drew)); exact (Kd.R_mono (Kd.R_far (p := ⟨gb535, 2, none⟩) (Kd.R_far (p := ⟨gb535, 1, none⟩) (Kd.R_far (p := ⟨gb535, 0, none⟩) (Kd.R_types HO_505000.out BK535.out (by decide)) (fun _ hk => hk.2) (.slice Ao74 t529.length co74)) (fun _ hk => hk.2) (.int .i64 t532)) (fun _ hk => hk.2) (.int .i64 t533)) (fun _ h_ => h_.1)))); (case side4 => exact (Kd.R_reads' HO_505000.out).2.1); rintro e w91 ⟨rfl, hb⟩; refine ⟨_, rfl, ?_⟩; have n0_ := Aside0.mk (Kd.R_below (by (with_reducible repeat (first | apply Kd.R_alloc | apply Kd.R_drewN | apply Kd.R_drew)); exact (Kd.R_mono (Kd.R_far (p := ⟨gb535, 2, none⟩) (Kd.R_far (p := ⟨gb535, 1, none⟩) (Kd.R_far (p := ⟨gb535, 0, none⟩) (Kd.R_types HO_505000.out BK535.out (by decide)) (fun _ hk => hk.2) (.slice Ao74 t529.length co74)) (fun _ hk => hk.2) (.int .i64 t532)) (fun _ hk => hk.2) (.int .i64 t533)) (fun _ h_ => h_.1))) hb); have n1_ := Aside0.mk (Kd.R_below (by (with_reducible repeat (first | apply Kd.R_alloc | apply Kd.R_drewN | apply Kd.R_drew)); exact (Kd.R_mono (Kd.R_far (p := ⟨gb535, 2, none⟩) (Kd.R_far (p := ⟨gb535, 1, none⟩) (Kd.R_far (p := ⟨gb535, 0, none⟩) (Kd.R_types HO_515000.out BK535.out (by decide)) (fun _ hk => hk.2) (.slice Ao74 t529.length co74)) (fun _ hk => hk.2) (.int .i64 t532)) (fun _ hk => hk.2) (.int .i64 t533)) (fun _ h_ => h_.1))) hb); have n2_ := Aside0.mk (Kd.R_below (by (with_reducible repeat (first | apply Kd.R_alloc | apply Kd.R_drewN | apply Kd.R_drew)); exact (Kd.R_mono (Kd.R_far (p := ⟨gb535, 2, none⟩) (Kd.R_far (p := ⟨gb535, 1, none⟩) (Kd.R_far (p := ⟨gb535, 0, none⟩) (Kd.R_types HO528.out BK535.out (by decide)) (fun _ hk => hk.2) (.slice Ao74 t529.length co74)) (fun _ hk => hk.2) (.int .i64 t532)) (fun _ hk => hk.2) (.int .i64 t533)) (fun _ h_ => h_.1))) hb); have n3_ := Aside0.mk (Kd.R_below (by (with_reducible repeat (first | apply Kd.R_alloc | apply Kd.R_drewN | apply Kd.R_drew)); exact (Kd.R_mono (Kd.R_far (p := ⟨gb535, 2, none⟩) (Kd.R_far (p := ⟨gb535, 1, none⟩) (Kd.R_far (p := ⟨gb535, 0, none⟩) (Kd.R_types HO531.out BK535.out (by decide)) (fun _ hk => hk.2) (.slice Ao74 t529.length co74)) (fun _ hk => hk.2) (.int .i64 t532)) (fun _ hk => hk.2) (.int .i64 t533)) (fun _ h_ => h_.1))) hb); have n4_ := Aside0.mk (blk_below (g := gb504) (o := .cells #[.slice Ao13 t498.length co13, .int .i64 t501, .int .i64 t502] 40 (0, 0)) (by (with_reducible repeat (first | refine blk_drewN ?_ _ | refine blk_drew ?_ | refine blk_alloc ?_ _)); refine blk_far ?_ NB504_535.out _; (with_reducible repeat (first | refine blk_drewN ?_ _ | refine blk_drew ?_ | refine blk_alloc ?_ _)); refine blk_far ?_ NB504_535.out _; (with_reducible repeat (first | refine blk_drewN ?_ _ | refine blk_drew ?_ | refine blk_alloc ?_ _)); refine blk_far ?_ NB504_535.out _; (with_reducible repeat (first | refine blk_drewN ?_ _ | refine blk_drew ?_ | refine blk_alloc ?_ _)); exact BK504.out) hb); have n5_ := Aside0.mk (blk_below (g := gb514) (o := .cells #[.slice Ao19 t508.length co19, .int .i64 t511, .int .i64 t512] 40 (0, 0)) (by (with_reducible repeat (first | refine blk_drewN ?_ _ | refine blk_drew ?_ | refine blk_alloc ?_ _)); refine blk_far ?_ NB514_535.out _; (with_reducible repeat (first | refine blk_drewN ?_ _ | refine blk_drew ?_ | refine blk_alloc ?_ _)); refine blk_far ?_ NB514_535.out _; (with_reducible repeat (first | refine blk_drewN ?_ _ | refine blk_drew ?_ | refine blk_alloc ?_ _)); refine blk_far ?_ NB514_535.out _; (with_reducible repeat (first | refine blk_drewN ?_ _ | refine blk_drew ?_ | refine blk_alloc ?_ _)); exact BK514.out) hb); have n6_ := Aside0.mk (blk_below (g := gb535) (o := .cells #[.slice Ao74 t529.length co74, .int .i64 t532, .int .i64 t533] 40 (0, 0)) (by (with_reducible repeat (first | refine blk_drewN ?_ _ | refine blk_drew ?_ | refine blk_alloc ?_ _)); refine blk_put (cs := #[.slice Ao74 t529.length co74, .int .i64 t532, .int .i64 0]) ?_ 2 _ rfl; (with_reducible repeat (first | refine blk_drewN ?_ _ | refine blk_drew ?_ | refine blk_alloc ?_ _)); refine blk_put (cs := #[.slice Ao74 t529.length co74, .int .i64 0, .int .i64 0]) ?_ 1 _ rfl; (with_reducible repeat (first | refine blk_drewN ?_ _ | refine blk_drew ?_ | refine blk_alloc ?_ _)); refine blk_put (cs := #[.slice none 0 0, .int .i64 0, .int .i64 0]) ?_ 0 _ rfl; (with_reducible repeat (first | refine blk_drewN ?_ _ | refine blk_drew ?_ | refine blk_alloc ?_ _)); exact BK535.out) hb); have n7_ := Aside0.mk (below_step (by repeat (first | (with_reducible first | exact HB.out | apply below_alloc | apply pw_below_drewN | apply below_drew1 | refine below_set ?_ GE504.out | refine below_set ?_ GE514.out | refine below_set ?_ GE535.out) | exact HB.out)) hb); clear HO_505000; clear HO_515000; clear HO528; clear HO531; clear BK504; clear BK514; clear BK535; clear HB; have HO_505000 := n0_; have HO_515000 := n1_; have HO528 := n2_; have HO531 := n3_; have BK504 := n4_; have BK514 := n5_; have BK535 := n6_; have HB := n7_; clear n0_ n1_ n2_ n3_ n4_ n5_ n6_ n7_; (try clear hb); (try clear hb2); (try clear hk); (try clear hi)))
                          go_meet
                          case rel => exact ⟨_, (true), (by first | rfl | (simp; done) | (simp [*]; done)), H', ⟨by have := HJ7.out; have := HJ36.out; first | omega | exact Nat.le_refl _⟩, ⟨by (with_reducible repeat (first | apply Kd.R_alloc | apply Kd.R_drewN | apply Kd.R_drew)); exact Kd.R_mono HO_505000.out (fun _ hk => ⟨hk.1.1, hk.2⟩)⟩, ⟨by (with_reducible repeat (first | apply Kd.R_alloc | apply Kd.R_drewN | apply Kd.R_drew)); exact Kd.R_mono HO_515000.out (fun _ hk => ⟨hk.1.1, hk.2⟩)⟩, ⟨by (with_reducible repeat (first | apply Kd.R_alloc | apply Kd.R_drewN | apply Kd.R_drew)); exact Kd.R_mono HO531.out (fun _ hk => ⟨hk.1.1.2, hk.1.2⟩)⟩, ⟨by (with_reducible repeat (first | refine blk_drewN ?_ _ | refine blk_drew ?_ | refine blk_alloc ?_ _)); exact BK504.out⟩, ⟨by (with_reducible repeat (first | refine blk_drewN ?_ _ | refine blk_drew ?_ | refine blk_alloc ?_ _)); exact BK514.out⟩, ⟨by (with_reducible repeat (first | refine blk_drewN ?_ _ | refine blk_drew ?_ | refine blk_alloc ?_ _)); exact BK535.out⟩, ⟨by repeat (first | (with_reducible first | exact HB.out | apply below_alloc | apply pw_below_drewN | apply below_drew1 | refine below_set ?_ GE504.out | refine below_set ?_ GE514.out | refine below_set ?_ GE535.out) | exact HB.out)⟩⟩
                      case rest =>
                        clear HC64
                        try clear c2
                        try clear p2
                        try clear c3
                        try clear c3b0
                        try clear c3b1
                        try clear c4
                        try clear c5
                        try clear c6
                        try clear c7
                        try clear c8
                        try clear c20
                        try clear c21
                        try clear c23
                        try clear c24
                        try clear c28
                        try clear c29
                        try clear c30
                        try clear c31
                        try clear c32
                        try clear c35
                        try clear c41
                        try clear c41b0
                        try clear c43
                        try clear c44
                        try clear c48
                        try clear c52
                        try clear c55
                        try clear c55b0
                        try clear c56
                        try clear c61
                        try clear c61b0
                        try clear c61b1
                        try clear c65
                        try clear c75
                        try clear c76
                        try clear c79
                        try clear c80
                        try clear c81
                        try clear c83
                        try clear c86
                        try clear c87
                        try clear c89
                        try clear hcz14_0
                        try clear hcz14_1
                        try clear hcz14_2
                        try clear hcz21_0
                        try clear hcz21_1
                        try clear hcz21_2
                        try clear hcz25_0
                        try clear hcz25_1
                        try clear hcz25_2
                        try clear hcz26_0
                        try clear hcz26_1
                        try clear hcz26_2
                        try clear hcz29_0
                        try clear hcz29_1
                        try clear hcz29_2
                        try clear hcz30_0
                        try clear hcz30_1
                        try clear hcz30_2
                        try clear hcz45_0
                        try clear hcz45_1
                        try clear hcz45_2
                        try clear hcz46_0
                        try clear hcz46_1
                        try clear hcz46_2
                        try clear hcz49_0
                        try clear hcz49_1
                        try clear hcz49_2
                        try clear hcz50_0
                        try clear hcz50_1
                        try clear hcz50_2
                        try clear hcz57_0
                        try clear hcz57_1
                        try clear hcz57_2
                        try clear hcz59_0
                        try clear hcz59_1
                        try clear hcz59_2
                        try clear hcz66_0
                        try clear hcz66_1
                        try clear hcz66_2
                        try clear hcz68_0
                        try clear hcz68_1
                        try clear hcz68_2
                        try clear hcz77_0
                        try clear hcz77_1
                        try clear hcz77_2
                        try clear hcz82_0
                        try clear hcz82_1
                        try clear hcz82_2
                        try clear hcz84_0
                        try clear hcz84_1
                        try clear hcz84_2
                        try clear hcz88_0
                        try clear hcz88_1
                        try clear hcz88_2
                        try clear hcz90_0
                        try clear hcz90_1
                        try clear hcz90_2
                        try clear hfz14_0
                        try clear hfz14_1
                        try clear hfz14_2
                        try clear hfz21_0
                        try clear hfz21_1
                        try clear hfz21_2
                        try clear hfz25_0
                        try clear hfz25_1
                        try clear hfz25_2
                        try clear hfz26_0
                        try clear hfz26_1
                        try clear hfz26_2
                        try clear hfz29_0
                        try clear hfz29_1
                        try clear hfz29_2
                        try clear hfz30_0
                        try clear hfz30_1
                        try clear hfz30_2
                        try clear hfz45_0
                        try clear hfz45_1
                        try clear hfz45_2
                        try clear hfz46_0
                        try clear hfz46_1
                        try clear hfz46_2
                        try clear hfz49_0
                        try clear hfz49_1
                        try clear hfz49_2
                        try clear hfz50_0
                        try clear hfz50_1
                        try clear hfz50_2
                        try clear hfz57_0
                        try clear hfz57_1
                        try clear hfz57_2
                        try clear hfz59_0
                        try clear hfz59_1
                        try clear hfz59_2
                        try clear hfz66_0
                        try clear hfz66_1
                        try clear hfz66_2
                        try clear hfz68_0
                        try clear hfz68_1
                        try clear hfz68_2
                        try clear hfz77_0
                        try clear hfz77_1
                        try clear hfz77_2
                        try clear hfz82_0
                        try clear hfz82_1
                        try clear hfz82_2
                        try clear hfz84_0
                        try clear hfz84_1
                        try clear hfz84_2
                        try clear hfz88_0
                        try clear hfz88_1
                        try clear hfz88_2
                        try clear hfz90_0
                        try clear hfz90_1
                        try clear hfz90_2
                        try clear p2
                        obtain ⟨kq, x89_63, rfl, HA, HJ63, HO_505000, HO_515000, HO_536000, BK504, BK514, BK535, HB⟩ := hcut
                        have hl515000_63 := (Kd.R_reads' HO_515000.out).1
                        rw [hl515000_63] at HO_515000
                        (try simp only [hl515000_63])
                        (try simp only [hl515000_63] at BK504)
                        (try simp only [hl515000_63] at BK514)
                        (try simp only [hl515000_63] at BK535)
                        (try simp only [hl515000_63] at HO_505000)
                        (try simp only [hl515000_63] at HO_536000)
                        cases kq with
                        | zero => exact absurd HA.out (by simp [laws_FnExactPuzzleOfRow.j2])
                        | succ kj63 =>
                          have H := HA.out
                          clear HA
                          simp only [laws_FnExactPuzzleOfRow.j2] at H
                          by_cases c92 : x89_63 = true
                          · subst c92
                            have H1 : (some false) = some r := by rw [if_pos rfl] at H; exact H
                            clear H
                            have H := H1
                            clear H1
                            obtain rfl := Option.some.inj H
                            go_wp2
                            go_ret
                            exact ⟨by first | rfl | (simp [errW_none, errW_some] <;> rfl) | (simp [*, errW_none, errW_some] <;> rfl), by repeat (first | (with_reducible first | exact HB.out | apply below_alloc | apply pw_below_drewN | apply below_drew1 | refine below_set ?_ GE504.out | refine below_set ?_ GE514.out | refine below_set ?_ GE535.out) | exact HB.out)⟩
                          · replace c92 := Bool.eq_false_iff.mpr c92
                            subst c92
                            have H1 : ((laws_heldPuzzle.f kj63 t524 t511 t512 1).bind fun t537 => (if t537 < 0 then (some false) else (if t537 = t523 then (some true) else (some false)))) = some r := by rw [if_neg (show ¬ (false = true) by decide)] at H; exact H
                            clear H
                            have H := H1
                            clear H1
                            replace H := Option.bind_eq_some_iff.mp H
                            obtain ⟨t537, A930, H⟩ := H
                            replace H : (if t537 < 0 then (some false) else (if t537 = t523 then (some true) else (some false))) = some r := H
                            have A93 := Aside0.mk A930
                            clear A930
                            by_cases c94 : t537 < 0
                            · rw [if_pos c94] at H
                              have c94b0 : decide (t537 < 0) = true := decide_eq_true c94
                              clear c94
                              obtain rfl := Option.some.inj H
                              have hnb95 := NB514_504.out
                              have hnc95 := NB504_514.out
                              have hnb96 := NB514_535.out
                              have hnc96 := NB535_514.out
                              have hcz97_0 : wc.cell? ⟨gb514, 0, none⟩ = some (.slice Ao19 t524.length co19) := (blk_cell BK514.out 0).trans rfl
                              have hcz97_1 : wc.cell? ⟨gb514, 1, none⟩ = some (.int .i64 t511) := (blk_cell BK514.out 1).trans rfl
                              have hcz97_2 : wc.cell? ⟨gb514, 2, none⟩ = some (.int .i64 t512) := (blk_cell BK514.out 2).trans rfl
                              have hfz97_0 := blk_frozen BK514.out 0
                              have hfz97_1 := blk_frozen BK514.out 1
                              have hfz97_2 := blk_frozen BK514.out 2
                              go_wp2_with (first | ((with_reducible refine gate_callee (f := 32) rfl ?_); refine goesL_ (some 92) rfl rfl Try.func32 (by kernel_rfl) rfl #[.agg #[.slice Ao19 t524.length co19, .int .i64 t511, .int .i64 t512], .int .i64 1] rfl (by (try simp only [List.map_toArray, List.map_cons, List.map_nil]); first | done | rfl | (simp only [List.length_drop, List.length_take]; rfl)) ?_; (with_reducible refine (laws_heldPuzzle.calls kj63 _ _ t524 t511 t512 1 t537 _ ?side1 ?side2 A93.out).mono ?_); (case side1 => repeat (first | exact (Kd.R_reads' HO_515000.out).2.2 | (with_reducible refine Kd.C_alloc ?_ _) | (with_reducible refine Kd.C_drewN ?_ _) | (with_reducible refine Kd.C_drew ?_))); (case side2 => exact (Kd.R_reads' HO_515000.out).2.1); rintro e w98 ⟨rfl, hb⟩; refine ⟨_, rfl, ?_⟩; have n0_ := Aside0.mk (Kd.R_below (by (with_reducible repeat (first | apply Kd.R_alloc | apply Kd.R_drewN | apply Kd.R_drew)); exact HO_505000.out) hb); have n1_ := Aside0.mk (Kd.R_below (by (with_reducible repeat (first | apply Kd.R_alloc | apply Kd.R_drewN | apply Kd.R_drew)); exact HO_515000.out) hb); have n2_ := Aside0.mk (Kd.R_below (by (with_reducible repeat (first | apply Kd.R_alloc | apply Kd.R_drewN | apply Kd.R_drew)); exact HO_536000.out) hb); have n3_ := Aside0.mk (blk_below (g := gb504) (o := .cells #[.slice Ao13 t498.length co13, .int .i64 t501, .int .i64 t502] 40 (0, 0)) (by (with_reducible repeat (first | refine blk_drewN ?_ _ | refine blk_drew ?_ | refine blk_alloc ?_ _)); exact BK504.out) hb); have n4_ := Aside0.mk (blk_below (g := gb514) (o := .cells #[.slice Ao19 t524.length co19, .int .i64 t511, .int .i64 t512] 40 (0, 0)) (by (with_reducible repeat (first | refine blk_drewN ?_ _ | refine blk_drew ?_ | refine blk_alloc ?_ _)); exact BK514.out) hb); have n5_ := Aside0.mk (blk_below (g := gb535) (o := .cells #[.slice Ao74 t529.length co74, .int .i64 t532, .int .i64 t533] 40 (0, 0)) (by (with_reducible repeat (first | refine blk_drewN ?_ _ | refine blk_drew ?_ | refine blk_alloc ?_ _)); exact BK535.out) hb); have n6_ := Aside0.mk (below_step (by repeat (first | (with_reducible first | exact HB.out | apply below_alloc | apply pw_below_drewN | apply below_drew1 | refine below_set ?_ GE504.out | refine below_set ?_ GE514.out | refine below_set ?_ GE535.out) | exact HB.out)) hb); clear HO_505000; clear HO_515000; clear HO_536000; clear BK504; clear BK514; clear BK535; clear HB; have HO_505000 := n0_; have HO_515000 := n1_; have HO_536000 := n2_; have BK504 := n3_; have BK514 := n4_; have BK535 := n5_; have HB := n6_; clear n0_ n1_ n2_ n3_ n4_ n5_ n6_; (try clear hb); (try clear hb2); (try clear hk); (try clear hi)))
                              go_ret
                              exact ⟨by first | rfl | (simp [errW_none, errW_some] <;> rfl) | (simp [*, errW_none, errW_some] <;> rfl), by repeat (first | (with_reducible first | exact HB.out | apply below_alloc | apply pw_below_drewN | apply below_drew1 | refine below_set ?_ GE504.out | refine below_set ?_ GE514.out | refine below_set ?_ GE535.out) | exact HB.out)⟩
                            · rw [if_neg c94] at H
                              have c94b0 : decide (t537 < 0) = false := decide_eq_false c94
                              clear c94
                              by_cases c99 : t537 = t523
                              · rw [if_pos c99] at H
                                have c99b0 : (t537 == t523) = true := beq_iff_eq.mpr c99
                                have c99b1 : (t537 != t523) = false := bne_eq_false_iff_eq.mpr c99
                                clear c99
                                obtain rfl := Option.some.inj H
                                have hnb100 := NB514_504.out
                                have hnc100 := NB504_514.out
                                have hnb101 := NB514_535.out
                                have hnc101 := NB535_514.out
                                have hcz102_0 : wc.cell? ⟨gb514, 0, none⟩ = some (.slice Ao19 t524.length co19) := (blk_cell BK514.out 0).trans rfl
                                have hcz102_1 : wc.cell? ⟨gb514, 1, none⟩ = some (.int .i64 t511) := (blk_cell BK514.out 1).trans rfl
                                have hcz102_2 : wc.cell? ⟨gb514, 2, none⟩ = some (.int .i64 t512) := (blk_cell BK514.out 2).trans rfl
                                have hfz102_0 := blk_frozen BK514.out 0
                                have hfz102_1 := blk_frozen BK514.out 1
                                have hfz102_2 := blk_frozen BK514.out 2
                                go_wp2_with (first | ((with_reducible refine gate_callee (f := 32) rfl ?_); refine goesL_ (some 92) rfl rfl Try.func32 (by kernel_rfl) rfl #[.agg #[.slice Ao19 t524.length co19, .int .i64 t511, .int .i64 t512], .int .i64 1] rfl (by (try simp only [List.map_toArray, List.map_cons, List.map_nil]); first | done | rfl | (simp only [List.length_drop, List.length_take]; rfl)) ?_; (with_reducible refine (laws_heldPuzzle.calls kj63 _ _ t524 t511 t512 1 t537 _ ?side1 ?side2 A93.out).mono ?_); (case side1 => repeat (first | exact (Kd.R_reads' HO_515000.out).2.2 | (with_reducible refine Kd.C_alloc ?_ _) | (with_reducible refine Kd.C_drewN ?_ _) | (with_reducible refine Kd.C_drew ?_))); (case side2 => exact (Kd.R_reads' HO_515000.out).2.1); rintro e w103 ⟨rfl, hb⟩; refine ⟨_, rfl, ?_⟩; have n0_ := Aside0.mk (Kd.R_below (by (with_reducible repeat (first | apply Kd.R_alloc | apply Kd.R_drewN | apply Kd.R_drew)); exact HO_505000.out) hb); have n1_ := Aside0.mk (Kd.R_below (by (with_reducible repeat (first | apply Kd.R_alloc | apply Kd.R_drewN | apply Kd.R_drew)); exact HO_515000.out) hb); have n2_ := Aside0.mk (Kd.R_below (by (with_reducible repeat (first | apply Kd.R_alloc | apply Kd.R_drewN | apply Kd.R_drew)); exact HO_536000.out) hb); have n3_ := Aside0.mk (blk_below (g := gb504) (o := .cells #[.slice Ao13 t498.length co13, .int .i64 t501, .int .i64 t502] 40 (0, 0)) (by (with_reducible repeat (first | refine blk_drewN ?_ _ | refine blk_drew ?_ | refine blk_alloc ?_ _)); exact BK504.out) hb); have n4_ := Aside0.mk (blk_below (g := gb514) (o := .cells #[.slice Ao19 t524.length co19, .int .i64 t511, .int .i64 t512] 40 (0, 0)) (by (with_reducible repeat (first | refine blk_drewN ?_ _ | refine blk_drew ?_ | refine blk_alloc ?_ _)); exact BK514.out) hb); have n5_ := Aside0.mk (blk_below (g := gb535) (o := .cells #[.slice Ao74 t529.length co74, .int .i64 t532, .int .i64 t533] 40 (0, 0)) (by (with_reducible repeat (first | refine blk_drewN ?_ _ | refine blk_drew ?_ | refine blk_alloc ?_ _)); exact BK535.out) hb); have n6_ := Aside0.mk (below_step (by repeat (first | (with_reducible first | exact HB.out | apply below_alloc | apply pw_below_drewN | apply below_drew1 | refine below_set ?_ GE504.out | refine below_set ?_ GE514.out | refine below_set ?_ GE535.out) | exact HB.out)) hb); clear HO_505000; clear HO_515000; clear HO_536000; clear BK504; clear BK514; clear BK535; clear HB; have HO_505000 := n0_; have HO_515000 := n1_; have HO_536000 := n2_; have BK504 := n3_; have BK514 := n4_; have BK535 := n5_; have HB := n6_; clear n0_ n1_ n2_ n3_ n4_ n5_ n6_; (try clear hb); (try clear hb2); (try clear hk); (try clear hi)))
                                go_ret
                                exact ⟨by first | rfl | (simp [errW_none, errW_some] <;> rfl) | (simp [*, errW_none, errW_some] <;> rfl), by repeat (first | (with_reducible first | exact HB.out | apply below_alloc | apply pw_below_drewN | apply below_drew1 | refine below_set ?_ GE504.out | refine below_set ?_ GE514.out | refine below_set ?_ GE535.out) | exact HB.out)⟩
                              · rw [if_neg c99] at H
                                have c99b0 : (t537 == t523) = false := beq_eq_false_iff_ne.mpr c99
                                have c99b1 : (t537 != t523) = true := bne_iff_ne.mpr c99
                                obtain rfl := Option.some.inj H
                                have hnb104 := NB514_504.out
                                have hnc104 := NB504_514.out
                                have hnb105 := NB514_535.out
                                have hnc105 := NB535_514.out
                                have hcz106_0 : wc.cell? ⟨gb514, 0, none⟩ = some (.slice Ao19 t524.length co19) := (blk_cell BK514.out 0).trans rfl
                                have hcz106_1 : wc.cell? ⟨gb514, 1, none⟩ = some (.int .i64 t511) := (blk_cell BK514.out 1).trans rfl
                                have hcz106_2 : wc.cell? ⟨gb514, 2, none⟩ = some (.int .i64 t512) := (blk_cell BK514.out 2).trans rfl
                                have hfz106_0 := blk_frozen BK514.out 0
                                have hfz106_1 := blk_frozen BK514.out 1
                                have hfz106_2 := blk_frozen BK514.out 2
                                go_wp2_with (first | ((with_reducible refine gate_callee (f := 32) rfl ?_); refine goesL_ (some 92) rfl rfl Try.func32 (by kernel_rfl) rfl #[.agg #[.slice Ao19 t524.length co19, .int .i64 t511, .int .i64 t512], .int .i64 1] rfl (by (try simp only [List.map_toArray, List.map_cons, List.map_nil]); first | done | rfl | (simp only [List.length_drop, List.length_take]; rfl)) ?_; (with_reducible refine (laws_heldPuzzle.calls kj63 _ _ t524 t511 t512 1 t537 _ ?side1 ?side2 A93.out).mono ?_); (case side1 => repeat (first | exact (Kd.R_reads' HO_515000.out).2.2 | (with_reducible refine Kd.C_alloc ?_ _) | (with_reducible refine Kd.C_drewN ?_ _) | (with_reducible refine Kd.C_drew ?_))); (case side2 => exact (Kd.R_reads' HO_515000.out).2.1); rintro e w107 ⟨rfl, hb⟩; refine ⟨_, rfl, ?_⟩; have n0_ := Aside0.mk (Kd.R_below (by (with_reducible repeat (first | apply Kd.R_alloc | apply Kd.R_drewN | apply Kd.R_drew)); exact HO_505000.out) hb); have n1_ := Aside0.mk (Kd.R_below (by (with_reducible repeat (first | apply Kd.R_alloc | apply Kd.R_drewN | apply Kd.R_drew)); exact HO_515000.out) hb); have n2_ := Aside0.mk (Kd.R_below (by (with_reducible repeat (first | apply Kd.R_alloc | apply Kd.R_drewN | apply Kd.R_drew)); exact HO_536000.out) hb); have n3_ := Aside0.mk (blk_below (g := gb504) (o := .cells #[.slice Ao13 t498.length co13, .int .i64 t501, .int .i64 t502] 40 (0, 0)) (by (with_reducible repeat (first | refine blk_drewN ?_ _ | refine blk_drew ?_ | refine blk_alloc ?_ _)); exact BK504.out) hb); have n4_ := Aside0.mk (blk_below (g := gb514) (o := .cells #[.slice Ao19 t524.length co19, .int .i64 t511, .int .i64 t512] 40 (0, 0)) (by (with_reducible repeat (first | refine blk_drewN ?_ _ | refine blk_drew ?_ | refine blk_alloc ?_ _)); exact BK514.out) hb); have n5_ := Aside0.mk (blk_below (g := gb535) (o := .cells #[.slice Ao74 t529.length co74, .int .i64 t532, .int .i64 t533] 40 (0, 0)) (by (with_reducible repeat (first | refine blk_drewN ?_ _ | refine blk_drew ?_ | refine blk_alloc ?_ _)); exact BK535.out) hb); have n6_ := Aside0.mk (below_step (by repeat (first | (with_reducible first | exact HB.out | apply below_alloc | apply pw_below_drewN | apply below_drew1 | refine below_set ?_ GE504.out | refine below_set ?_ GE514.out | refine below_set ?_ GE535.out) | exact HB.out)) hb); clear HO_505000; clear HO_515000; clear HO_536000; clear BK504; clear BK514; clear BK535; clear HB; have HO_505000 := n0_; have HO_515000 := n1_; have HO_536000 := n2_; have BK504 := n3_; have BK514 := n4_; have BK535 := n5_; have HB := n6_; clear n0_ n1_ n2_ n3_ n4_ n5_ n6_; (try clear hb); (try clear hb2); (try clear hk); (try clear hi)))
                                go_ret
                                exact ⟨by first | rfl | (simp [errW_none, errW_some] <;> rfl) | (simp [*, errW_none, errW_some] <;> rfl), by repeat (first | (with_reducible first | exact HB.out | apply below_alloc | apply pw_below_drewN | apply below_drew1 | refine below_set ?_ GE504.out | refine below_set ?_ GE514.out | refine below_set ?_ GE535.out) | exact HB.out)⟩
                    · rw [if_neg c61] at H
                      have c61b0 : (t525 == t523) = false := beq_eq_false_iff_ne.mpr c61
                      have c61b1 : (t525 != t523) = true := bne_iff_ne.mpr c61
                      obtain rfl := Option.some.inj H
                      have hnb108 := NB514_504.out
                      have hnc108 := NB504_514.out
                      have hcz109_0 : wc.cell? ⟨gb514, 0, none⟩ = some (.slice Ao19 t508.length co19) := (blk_cell BK514.out 0).trans rfl
                      have hcz109_1 : wc.cell? ⟨gb514, 1, none⟩ = some (.int .i64 t511) := (blk_cell BK514.out 1).trans rfl
                      have hcz109_2 : wc.cell? ⟨gb514, 2, none⟩ = some (.int .i64 t512) := (blk_cell BK514.out 2).trans rfl
                      have hfz109_0 := blk_frozen BK514.out 0
                      have hfz109_1 := blk_frozen BK514.out 1
                      have hfz109_2 := blk_frozen BK514.out 2
                      go_wp2_with (first | ((with_reducible refine gate_callee (f := 31) rfl ?_); refine goesL_ (some 65) rfl rfl Try.func31 (by kernel_rfl) rfl #[.agg #[.slice Ao19 t508.length co19, .int .i64 t511, .int .i64 t512], .int .i64 1] rfl (by (try simp only [List.map_toArray, List.map_cons, List.map_nil]); first | done | rfl | (simp only [List.length_drop, List.length_take]; rfl)) ?_; (with_reducible refine (laws_markPuzzle.calls kj36 (fun k_ => some k_ = (.slice Ao19 t508.length co19 : Value).ownBlock) (.slice Ao19 t508.length co19) t508 t511 t512 1 t523 t524 w _ ?side1 ?side2 A53.out).mono ?_); (case side1 => repeat (first | (with_reducible first | exact HB.out | apply below_alloc | apply pw_below_drewN | apply below_drew1 | refine below_set ?_ GE504.out | refine below_set ?_ GE514.out) | exact HB.out)); (case side2 => exact Kd.R_tight rfl HO_515000.out); rintro e w110 ⟨rfl, hy0, hb, hkp⟩; refine ⟨_, rfl, ?_⟩; have n0_ := Aside0.mk (Kd.R_mono (ok' := fun k_ => some k_ ≠ (.slice Ao19 t508.length co19 : Value).ownBlock) (Kd.R_keptB (HO_505000.out) hkp (fun k_ hk_ hs_ => (hk_) hs_)) (fun k_ hk_ => hk_.1)); have n1_ := Aside0.mk (Kd.R_reok rfl hy0 (fun k_ e_ => HO_515000.out.1 k_ e_)); have n2_ := Aside0.mk (blk_kept (by (with_reducible repeat (first | refine blk_drewN ?_ _ | refine blk_drew ?_ | refine blk_alloc ?_ _)); exact BK504.out) hkp (fun hs_ => (fun e_ => (Kd.R_ne HO_515000.out BK504.out (by decide)) e_) hs_)); have n3_ := Aside0.mk (blk_kept (by (with_reducible repeat (first | refine blk_drewN ?_ _ | refine blk_drew ?_ | refine blk_alloc ?_ _)); exact BK514.out) hkp (fun hs_ => (fun e_ => (Kd.R_ne HO_515000.out BK514.out (by decide)) e_) hs_)); have n4_ := Aside0.mk (hb); clear HO_505000; clear HO_515000; clear BK504; clear BK514; clear HB; have HO_505000 := n0_; have HO_515000 := n1_; have BK504 := n2_; have BK514 := n3_; have HB := n4_; clear n0_ n1_ n2_ n3_ n4_; (try clear hb); (try clear hkp); (try clear hy0); have hcz111_0 : w110.cell? ⟨gb514, 0, none⟩ = some (.slice Ao19 t508.length co19) := (blk_cell BK514.out 0).trans rfl; have hcz111_1 : w110.cell? ⟨gb514, 1, none⟩ = some (.int .i64 t511) := (blk_cell BK514.out 1).trans rfl; have hcz111_2 : w110.cell? ⟨gb514, 2, none⟩ = some (.int .i64 t512) := (blk_cell BK514.out 2).trans rfl; have hfz111_0 := blk_frozen BK514.out 0; have hfz111_1 := blk_frozen BK514.out 1; have hfz111_2 := blk_frozen BK514.out 2) | ((with_reducible refine gate_callee (f := 32) rfl ?_); refine goesL_ (some 68) rfl rfl Try.func32 (by kernel_rfl) rfl #[.agg #[.slice Ao19 t524.length co19, .int .i64 t511, .int .i64 t512], .int .i64 1] rfl (by (try simp only [List.map_toArray, List.map_cons, List.map_nil]); first | done | (rw [show t524.length = t508.length from (Kd.R_reads' HO_515000.out).1.symm] <;> rfl) | rfl | (simp only [List.length_drop, List.length_take]; rfl)) ?_; (with_reducible refine (laws_heldPuzzle.calls kj36 _ _ t524 t511 t512 1 t525 _ ?side1 ?side2 A54.out).mono ?_); (case side1 => repeat (first | exact (Kd.R_reads' HO_515000.out).2.2 | (with_reducible refine Kd.C_alloc ?_ _) | (with_reducible refine Kd.C_drewN ?_ _) | (with_reducible refine Kd.C_drew ?_))); (case side2 => rw [show t524.length = t508.length from (Kd.R_reads' HO_515000.out).1.symm]; exact (Kd.R_reads' HO_515000.out).2.1); rintro e w112 ⟨rfl, hb⟩; refine ⟨_, rfl, ?_⟩; have n0_ := Aside0.mk (Kd.R_below (by (with_reducible repeat (first | apply Kd.R_alloc | apply Kd.R_drewN | apply Kd.R_drew)); exact HO_505000.out) hb); have n1_ := Aside0.mk (Kd.R_below (by (with_reducible repeat (first | apply Kd.R_alloc | apply Kd.R_drewN | apply Kd.R_drew)); exact HO_515000.out) hb); have n2_ := Aside0.mk (blk_below (g := gb504) (o := .cells #[.slice Ao13 t498.length co13, .int .i64 t501, .int .i64 t502] 40 (0, 0)) (by (with_reducible repeat (first | refine blk_drewN ?_ _ | refine blk_drew ?_ | refine blk_alloc ?_ _)); exact BK504.out) hb); have n3_ := Aside0.mk (blk_below (g := gb514) (o := .cells #[.slice Ao19 t508.length co19, .int .i64 t511, .int .i64 t512] 40 (0, 0)) (by (with_reducible repeat (first | refine blk_drewN ?_ _ | refine blk_drew ?_ | refine blk_alloc ?_ _)); exact BK514.out) hb); have n4_ := Aside0.mk (below_step (by repeat (first | (with_reducible first | exact HB.out | apply below_alloc | apply pw_below_drewN | apply below_drew1 | refine below_set ?_ GE504.out | refine below_set ?_ GE514.out) | exact HB.out)) hb); clear HO_505000; clear HO_515000; clear BK504; clear BK514; clear HB; have HO_505000 := n0_; have HO_515000 := n1_; have BK504 := n2_; have BK514 := n3_; have HB := n4_; clear n0_ n1_ n2_ n3_ n4_; (try clear hb); (try clear hb2); (try clear hk); (try clear hi)))
                      go_ret
                      exact ⟨by first | rfl | (simp [errW_none, errW_some] <;> rfl) | (simp [*, errW_none, errW_some] <;> rfl), by repeat (first | (with_reducible first | exact HB.out | apply below_alloc | apply pw_below_drewN | apply below_drew1 | refine below_set ?_ GE504.out | refine below_set ?_ GE514.out) | exact HB.out)⟩
          · replace c35 := Bool.eq_false_iff.mpr c35
            subst c35
            have H1 : (some false) = some r := by rw [if_neg (show ¬ (false = true) by decide)] at H; exact H
            clear H
            have H := H1
            clear H1
            obtain rfl := Option.some.inj H
            go_wp2_with (first | ((with_reducible refine gate_callee (f := 21) rfl ?_); refine goesL_ (some 44) rfl rfl Try.func21 (by kernel_rfl) rfl #[.slice A0 l0.length c0] rfl (by (try simp only [List.map_toArray, List.map_cons, List.map_nil]); first | done | rfl | (simp only [List.length_drop, List.length_take]; rfl)) ?_; (with_reducible refine (laws_toIntS.calls kj7 _ _ l0 t516 _ ?side1 ?side2 A33.out).mono ?_); (case side1 => repeat (first | exact (Kd.C_below HR0.out HB.out) | (with_reducible refine Kd.C_alloc ?_ _) | (with_reducible refine Kd.C_drewN ?_ _) | (with_reducible refine Kd.C_drew ?_))); (case side2 => exact HC0.out); rintro e w113 ⟨v517, rfl, ho0, hb⟩; refine ⟨_, rfl, ?_⟩; have n0_ := Aside0.mk (Kd.R_elder' (by (with_reducible repeat (first | apply Kd.R_alloc | apply Kd.R_drewN | apply Kd.R_drew)); exact HO_7.out) (Kd.R_base ho0) hb); have n1_ := Aside0.mk (Kd.R_elder' (by (with_reducible repeat (first | apply Kd.R_alloc | apply Kd.R_drewN | apply Kd.R_drew)); exact HO_505000.out) (Kd.R_base ho0) hb); have n2_ := Aside0.mk (Kd.R_elder' (by (with_reducible repeat (first | apply Kd.R_alloc | apply Kd.R_drewN | apply Kd.R_drew)); exact HO_515000.out) (Kd.R_base ho0) hb); have n3_ := Aside0.mk (Kd.R_lower (Kd.R_new' (Kd.R_new' (Kd.R_new' ho0 (Kd.R_lt (by (with_reducible repeat (first | apply Kd.R_alloc | apply Kd.R_drewN | apply Kd.R_drew)); exact HO_7.out))) (Kd.R_lt (by (with_reducible repeat (first | apply Kd.R_alloc | apply Kd.R_drewN | apply Kd.R_drew)); exact HO_505000.out))) (Kd.R_lt (by (with_reducible repeat (first | apply Kd.R_alloc | apply Kd.R_drewN | apply Kd.R_drew)); exact HO_515000.out))) (below_size (by repeat (first | (with_reducible first | exact HB.out | apply below_alloc | apply pw_below_drewN | apply below_drew1 | refine below_set ?_ GE504.out | refine below_set ?_ GE514.out) | exact HB.out)))); have n4_ := Aside0.mk (blk_below (g := gb504) (o := .cells #[.slice Ao13 t498.length co13, .int .i64 t501, .int .i64 t502] 40 (0, 0)) (by (with_reducible repeat (first | refine blk_drewN ?_ _ | refine blk_drew ?_ | refine blk_alloc ?_ _)); exact BK504.out) hb); have n5_ := Aside0.mk (blk_below (g := gb514) (o := .cells #[.slice Ao19 t508.length co19, .int .i64 t511, .int .i64 t512] 40 (0, 0)) (by (with_reducible repeat (first | refine blk_drewN ?_ _ | refine blk_drew ?_ | refine blk_alloc ?_ _)); exact BK514.out) hb); have n6_ := Aside0.mk (below_step (by repeat (first | (with_reducible first | exact HB.out | apply below_alloc | apply pw_below_drewN | apply below_drew1 | refine below_set ?_ GE504.out | refine below_set ?_ GE514.out) | exact HB.out)) hb); clear HO_7; clear HO_505000; clear HO_515000; clear BK504; clear BK514; clear HB; have HO_7 := n0_; have HO_505000 := n1_; have HO_515000 := n2_; have HO518 := n3_; have BK504 := n4_; have BK514 := n5_; have HB := n6_; clear n0_ n1_ n2_ n3_ n4_ n5_ n6_; (try clear hb); (try clear hb2); (try clear hk); (try clear hi); (try clear ho0); obtain ⟨Ao114, co114, eo114⟩ := Kd.R_slice HO518.out; subst eo114) | ((with_reducible refine gate_callee (f := 23) rfl ?_); refine goesL_ (some 45) rfl rfl Try.func23 (by kernel_rfl) rfl #[.slice Ao16 t505.length co16, .slice Ao114 t516.length co114] rfl (by (try simp only [List.map_toArray, List.map_cons, List.map_nil]); first | done | rfl | (simp only [List.length_drop, List.length_take]; rfl)) ?_; (with_reducible refine (laws_eqIntS.calls kj7 _ _ t505 _ _ t516 false _ ?side1 ?side2 ?side3 ?side4 A34.out).mono ?_); (case side1 => repeat (first | exact (Kd.R_reads' HO_7.out).2.2 | (with_reducible refine Kd.C_alloc ?_ _) | (with_reducible refine Kd.C_drewN ?_ _) | (with_reducible refine Kd.C_drew ?_))); (case side2 => exact (Kd.R_reads' HO_7.out).2.1); (case side3 => repeat (first | exact (Kd.R_reads' HO518.out).2.2 | (with_reducible refine Kd.C_alloc ?_ _) | (with_reducible refine Kd.C_drewN ?_ _) | (with_reducible refine Kd.C_drew ?_))); (case side4 => exact (Kd.R_reads' HO518.out).2.1); rintro e w' ⟨rfl, ⟨nd, rfl⟩⟩; refine ⟨_, rfl, ?_⟩))
            go_ret
            exact ⟨by first | rfl | (simp [errW_none, errW_some] <;> rfl) | (simp [*, errW_none, errW_some] <;> rfl), by repeat (first | (with_reducible first | exact HB.out | apply below_alloc | apply pw_below_drewN | apply below_drew1 | refine below_set ?_ GE504.out | refine below_set ?_ GE514.out) | exact HB.out)⟩

/-- The statement of laws_FnExactPuzzleOfRow over numbers and lists. -/
def laws_FnExactPuzzleOfRow.Pure : Prop := ∀ (l0 : List Int) (a1 : Int), l0.length ≤ maxLen → l0.length * 8 ≤ 140737488351232 → (∀ x ∈ l0, (Lit.int .i64 x).wf = true) → (Lit.int .i64 a1).wf = true → ∃ k, laws_FnExactPuzzleOfRow.f k l0 a1 = some true
theorem laws_FnExactPuzzleOfRow.walk (P : laws_FnExactPuzzleOfRow.Pure) (a0 : Option Addr) (len0 cap0 : Nat) (z0 : List Int) (a1 : Int) (w : World) (w0 : (a0 = none ∧ len0 = 0 ∧ cap0 = 0 ∧ z0 = []) ∨ ∃ x, a0 = some x ∧ len0 ≤ cap0 ∧ cap0 ≤ maxLen ∧ z0.length = cap0 ∧ (∀ i, i < z0.length → w.cell? (x.add i) = some (.int .i64 (z0.getD i 0))) ∧ ∀ n ∈ z0, (Lit.int .i64 n).wf = true) (y0 : len0 * 8 ≤ 140737488351232) (w1 : (Lit.int .i64 a1).wf = true) :
    Calls Try.prog 7 #[.slice a0 len0 cap0, .int .i64 a1] w fun e w' => e = .returned (.bool true) ∧ Below w.heap.size w w' := by
  obtain ⟨l0, rfl, hr0, hm0, hw0, hc0⟩ := ReadsInt.ofRowC w0
  obtain ⟨k, h⟩ := P l0 a1 hm0 y0 hw0 w1
  refine (laws_FnExactPuzzleOfRow.calls k _ _ l0 a1 true w (Kd.C_of_reads (d := (0 : Int)) (h1 := fun _ => rfl) hr0) hc0 h).mono ?_
  rintro e w' ⟨rfl, hd⟩
  exact ⟨rfl, hd⟩

noncomputable def laws_FnExactPuzzleOfRow.J0 (x0 : List Int) (x1 : Int) (x6 : Bool) (x7 : List Int) (x9 : Bool) (x41 : Bool) (x505000 : List Int) (x505001 : Int) (x505002 : Int) (x515000 : List Int) (x515001 : Int) (x515002 : Int) : Option (Bool) := lim fun k => laws_FnExactPuzzleOfRow.j0 k x0 x1 x6 x7 x9 x41 x505000 x505001 x505002 x515000 x515001 x515002
theorem laws_FnExactPuzzleOfRow.J0_lim (x0 : List Int) (x1 : Int) (x6 : Bool) (x7 : List Int) (x9 : Bool) (x41 : Bool) (x505000 : List Int) (x505001 : Int) (x505002 : Int) (x515000 : List Int) (x515001 : Int) (x515002 : Int) : Lim (fun k => laws_FnExactPuzzleOfRow.j0 k x0 x1 x6 x7 x9 x41 x505000 x505001 x505002 x515000 x515001 x515002) (laws_FnExactPuzzleOfRow.J0 x0 x1 x6 x7 x9 x41 x505000 x505001 x505002 x515000 x515001 x515002) := Lim.of fun k => (laws_FnExactPuzzleOfRow.mono_l k).1 x0 x1 x6 x7 x9 x41 x505000 x505001 x505002 x515000 x515001 x515002
noncomputable def laws_FnExactPuzzleOfRow.J1 (x0 : List Int) (x1 : Int) (x6 : Bool) (x62 : Bool) (x505000 : List Int) (x505001 : Int) (x505002 : Int) (x515000 : List Int) (x515001 : Int) (x515002 : Int) : Option (Bool) := lim fun k => laws_FnExactPuzzleOfRow.j1 k x0 x1 x6 x62 x505000 x505001 x505002 x515000 x515001 x515002
theorem laws_FnExactPuzzleOfRow.J1_lim (x0 : List Int) (x1 : Int) (x6 : Bool) (x62 : Bool) (x505000 : List Int) (x505001 : Int) (x505002 : Int) (x515000 : List Int) (x515001 : Int) (x515002 : Int) : Lim (fun k => laws_FnExactPuzzleOfRow.j1 k x0 x1 x6 x62 x505000 x505001 x505002 x515000 x515001 x515002) (laws_FnExactPuzzleOfRow.J1 x0 x1 x6 x62 x505000 x505001 x505002 x515000 x515001 x515002) := Lim.of fun k => (laws_FnExactPuzzleOfRow.mono_l k).2.1 x0 x1 x6 x62 x505000 x505001 x505002 x515000 x515001 x515002
noncomputable def laws_FnExactPuzzleOfRow.J2 (x11 : Int) (x89 : Bool) (x515000 : List Int) (x515001 : Int) (x515002 : Int) : Option (Bool) := lim fun k => laws_FnExactPuzzleOfRow.j2 k x11 x89 x515000 x515001 x515002
theorem laws_FnExactPuzzleOfRow.J2_lim (x11 : Int) (x89 : Bool) (x515000 : List Int) (x515001 : Int) (x515002 : Int) : Lim (fun k => laws_FnExactPuzzleOfRow.j2 k x11 x89 x515000 x515001 x515002) (laws_FnExactPuzzleOfRow.J2 x11 x89 x515000 x515001 x515002) := Lim.of fun k => (laws_FnExactPuzzleOfRow.mono_l k).2.2 x11 x89 x515000 x515001 x515002
noncomputable def laws_FnExactPuzzleOfRow.F (l0 : List Int) (a1 : Int) : Option (Bool) := lim fun k => laws_FnExactPuzzleOfRow.f k l0 a1
theorem laws_FnExactPuzzleOfRow.F_lim (l0 : List Int) (a1 : Int) : Lim (fun k => laws_FnExactPuzzleOfRow.f k l0 a1) (laws_FnExactPuzzleOfRow.F l0 a1) := Lim.of fun k => laws_FnExactPuzzleOfRow.mono l0 a1 k
theorem laws_FnExactPuzzleOfRow.J0_eq (x0 : List Int) (x1 : Int) (x6 : Bool) (x7 : List Int) (x9 : Bool) (x41 : Bool) (x505000 : List Int) (x505001 : Int) (x505002 : Int) (x515000 : List Int) (x515001 : Int) (x515002 : Int) : laws_FnExactPuzzleOfRow.J0 x0 x1 x6 x7 x9 x41 x505000 x505001 x505002 x515000 x515001 x515002 = (if x41 = true then (some false) else ((laws_toIntS.F x0).bind fun t516 => ((laws_eqIntS.F x7 t516).bind fun t519 => (if t519 = true then ((laws_markIntS.F x7 1).bind fun bt520 => (if bt520.1 < 0 then (laws_FnExactPuzzleOfRow.J1 x0 x1 x6 true x505000 x505001 x505002 x515000 x515001 x515002) else ((laws_eqPuzzle.F x515000 x515001 x515002 x505000 x505001 x505002).bind fun t522 => (if t522 = true then (laws_FnExactPuzzleOfRow.J1 x0 x1 x6 (x9 != x6) x505000 x505001 x505002 x515000 x515001 x515002) else (laws_FnExactPuzzleOfRow.J1 x0 x1 x6 true x505000 x505001 x505002 x515000 x515001 x515002))))) else (some false))))) :=
  Lim.step (f := fun k => (if x41 = true then (some false) else ((laws_toIntS.f k x0).bind fun t516 => ((laws_eqIntS.f k x7 t516).bind fun t519 => (if t519 = true then ((laws_markIntS.f k x7 1).bind fun bt520 => (if bt520.1 < 0 then (laws_FnExactPuzzleOfRow.j1 k x0 x1 x6 true x505000 x505001 x505002 x515000 x515001 x515002) else ((laws_eqPuzzle.f k x515000 x515001 x515002 x505000 x505001 x505002).bind fun t522 => (if t522 = true then (laws_FnExactPuzzleOfRow.j1 k x0 x1 x6 (x9 != x6) x505000 x505001 x505002 x515000 x515001 x515002) else (laws_FnExactPuzzleOfRow.j1 k x0 x1 x6 true x505000 x505001 x505002 x515000 x515001 x515002))))) else (some false)))))) (laws_FnExactPuzzleOfRow.J0_lim x0 x1 x6 x7 x9 x41 x505000 x505001 x505002 x515000 x515001 x515002) (fun k => by first | rfl | rw [laws_FnExactPuzzleOfRow.j0]) (by
    repeat' first
    | (with_reducible exact Lim.const _)
    | (with_reducible exact laws_FnExactPuzzleOfRow.J1_lim _ _ _ _ _ _ _ _ _ _)
    | (with_reducible exact laws_eqIntS.F_lim _ _)
    | (with_reducible exact laws_eqPuzzle.F_lim _ _ _ _ _ _)
    | (with_reducible exact laws_markIntS.F_lim _ _)
    | (with_reducible exact laws_toIntS.F_lim _)
    | (with_reducible refine Lim.ite ?_ ?_)
    | (with_reducible refine Lim.bind ?_ (fun _ => ?_)))
theorem laws_FnExactPuzzleOfRow.J1_eq (x0 : List Int) (x1 : Int) (x6 : Bool) (x62 : Bool) (x505000 : List Int) (x505001 : Int) (x505002 : Int) (x515000 : List Int) (x515001 : Int) (x515002 : Int) : laws_FnExactPuzzleOfRow.J1 x0 x1 x6 x62 x505000 x505001 x505002 x515000 x515001 x515002 = (if x62 = true then (some false) else ((laws_markPuzzle.F x515000 x515001 x515002 1).bind fun bt523 => ((laws_heldPuzzle.F bt523.2 x515001 x515002 1).bind fun t525 => (if t525 < 0 then (some false) else (if t525 = bt523.1 then ((laws_toIntS.F x0).bind fun t526 => ((impl_PuzzleOfRow.F t526 x1).bind fun bt529 => ((laws_eqPuzzle.F bt529.1 bt529.2.1 bt529.2.2.1 x505000 x505001 x505002).bind fun t536 => (if t536 = true then (laws_FnExactPuzzleOfRow.J2 bt523.1 (bt529.2.2.2 != x6) bt523.2 x515001 x515002) else (laws_FnExactPuzzleOfRow.J2 bt523.1 true bt523.2 x515001 x515002))))) else (some false)))))) :=
  Lim.step (f := fun k => (if x62 = true then (some false) else ((laws_markPuzzle.f k x515000 x515001 x515002 1).bind fun bt523 => ((laws_heldPuzzle.f k bt523.2 x515001 x515002 1).bind fun t525 => (if t525 < 0 then (some false) else (if t525 = bt523.1 then ((laws_toIntS.f k x0).bind fun t526 => ((impl_PuzzleOfRow.f k t526 x1).bind fun bt529 => ((laws_eqPuzzle.f k bt529.1 bt529.2.1 bt529.2.2.1 x505000 x505001 x505002).bind fun t536 => (if t536 = true then (laws_FnExactPuzzleOfRow.j2 k bt523.1 (bt529.2.2.2 != x6) bt523.2 x515001 x515002) else (laws_FnExactPuzzleOfRow.j2 k bt523.1 true bt523.2 x515001 x515002))))) else (some false))))))) (laws_FnExactPuzzleOfRow.J1_lim x0 x1 x6 x62 x505000 x505001 x505002 x515000 x515001 x515002) (fun k => by first | rfl | rw [laws_FnExactPuzzleOfRow.j1]) (by
    repeat' first
    | (with_reducible exact Lim.const _)
    | (with_reducible exact impl_PuzzleOfRow.F_lim _ _)
    | (with_reducible exact laws_FnExactPuzzleOfRow.J2_lim _ _ _ _ _)
    | (with_reducible exact laws_eqPuzzle.F_lim _ _ _ _ _ _)
    | (with_reducible exact laws_heldPuzzle.F_lim _ _ _ _)
    | (with_reducible exact laws_markPuzzle.F_lim _ _ _ _)
    | (with_reducible exact laws_toIntS.F_lim _)
    | (with_reducible refine Lim.ite ?_ ?_)
    | (with_reducible refine Lim.bind ?_ (fun _ => ?_)))
theorem laws_FnExactPuzzleOfRow.J2_eq (x11 : Int) (x89 : Bool) (x515000 : List Int) (x515001 : Int) (x515002 : Int) : laws_FnExactPuzzleOfRow.J2 x11 x89 x515000 x515001 x515002 = (if x89 = true then (some false) else ((laws_heldPuzzle.F x515000 x515001 x515002 1).bind fun t537 => (if t537 < 0 then (some false) else (if t537 = x11 then (some true) else (some false))))) :=
  Lim.step (f := fun k => (if x89 = true then (some false) else ((laws_heldPuzzle.f k x515000 x515001 x515002 1).bind fun t537 => (if t537 < 0 then (some false) else (if t537 = x11 then (some true) else (some false)))))) (laws_FnExactPuzzleOfRow.J2_lim x11 x89 x515000 x515001 x515002) (fun k => by first | rfl | rw [laws_FnExactPuzzleOfRow.j2]) (by
    repeat' first
    | (with_reducible exact Lim.const _)
    | (with_reducible exact laws_heldPuzzle.F_lim _ _ _ _)
    | (with_reducible refine Lim.ite ?_ ?_)
    | (with_reducible refine Lim.bind ?_ (fun _ => ?_)))
theorem laws_FnExactPuzzleOfRow.F_eq (l0 : List Int) (a1 : Int) : laws_FnExactPuzzleOfRow.F l0 a1 = (if (l0.length : Int) > 1048576 then (some true) else ((laws_toIntS.F l0).bind fun t495 => ((spec_PuzzleOfRow.F t495 a1).bind fun bt498 => ((laws_toIntS.F l0).bind fun t505 => ((impl_PuzzleOfRow.F t505 a1).bind fun bt508 => ((laws_eqPuzzle.F bt508.1 bt508.2.1 bt508.2.2.1 bt498.1 bt498.2.1 bt498.2.2.1).bind fun t515 => (if t515 = true then (laws_FnExactPuzzleOfRow.J0 l0 a1 bt498.2.2.2 t505 bt508.2.2.2 (bt508.2.2.2 != bt498.2.2.2) bt498.1 bt498.2.1 bt498.2.2.1 bt508.1 bt508.2.1 bt508.2.2.1) else (laws_FnExactPuzzleOfRow.J0 l0 a1 bt498.2.2.2 t505 bt508.2.2.2 true bt498.1 bt498.2.1 bt498.2.2.1 bt508.1 bt508.2.1 bt508.2.2.1)))))))) :=
  Lim.unique (laws_FnExactPuzzleOfRow.F_lim l0 a1) (by
    unfold laws_FnExactPuzzleOfRow.f
    repeat' first
    | (with_reducible exact Lim.const _)
    | (with_reducible exact impl_PuzzleOfRow.F_lim _ _)
    | (with_reducible exact laws_FnExactPuzzleOfRow.J0_lim _ _ _ _ _ _ _ _ _ _ _ _)
    | (with_reducible exact laws_eqPuzzle.F_lim _ _ _ _ _ _)
    | (with_reducible exact laws_toIntS.F_lim _)
    | (with_reducible exact spec_PuzzleOfRow.F_lim _ _)
    | (with_reducible refine Lim.ite ?_ ?_)
    | (with_reducible refine Lim.bind ?_ (fun _ => ?_)))

end Go.Proofs.Ytcbepfkfggpchaa.Fn
namespace Go.Proofs.Ytcbepfkfggpchaa.Fn
open Go.RowKit Go.Proofs.YtcbepfkfggpchaaW.PrintWords Go.Proofs.YtcbepfkfggpchaaW.PrintLast Go.Proofs.YtcbepfkfggpchaaW.PrintMore
set_option linter.unusedVariables false
set_option linter.unusedSimpArgs false
theorem laws_toIntS.L0_val : ∀ (suf pre junk : List Int), (pre ++ suf).length < 4611686018427387904 → junk.length = suf.length → laws_toIntS.L0 (pre ++ suf) (pre ++ junk) (pre.length : Int) = some (pre ++ suf)
  | [], pre, junk, h, hj => by
    obtain rfl : junk = [] := List.eq_nil_of_length_eq_zero hj
    rw [laws_toIntS.L0_eq, range_end]
  | x :: suf, pre, j :: junk, h, hj => by
    have hj' : junk.length = suf.length := by simpa using hj
    have h1 : (pre.length : Int) < ((pre ++ x :: suf).length : Int) := by rw [List.length_append, List.length_cons]; omega
    have h2 : (pre.length : Int) < ((pre ++ j :: junk).length : Int) := by rw [List.length_append, List.length_cons]; omega
    have ih := laws_toIntS.L0_val suf (pre ++ [x]) junk (by simpa using h) hj'
    rw [laws_toIntS.L0_eq, if_pos h1, if_pos (by omega), if_pos h2, rd_mid, wrap_mid h]
    have e : (pre ++ j :: junk).set ((pre.length : Int)).toNat x = (pre ++ [x]) ++ junk := by simp
    rw [e, app_mid]
    exact ih
theorem laws_toIntS.F_val (l : List Int) (h : l.length ≤ 35184372088832) : laws_toIntS.F l = some l := by
  rw [laws_toIntS.F_eq, if_pos (by omega), if_pos (by simpa using h)]
  have := laws_toIntS.L0_val l [] (List.replicate l.length 0) (by simp; omega) (by simp)
  simpa using this
theorem laws_eqIntS.L0_val : ∀ (sa pre sb : List Int), (pre ++ sa).length < 4611686018427387904 → sa.length = sb.length → laws_eqIntS.L0 (pre ++ sa) (pre ++ sb) (pre.length : Int) = some (decide (sa = sb))
  | [], pre, sb, h, hj => by
    obtain rfl : sb = [] := List.eq_nil_of_length_eq_zero hj.symm
    rw [laws_eqIntS.L0_eq, range_end]
    simp
  | x :: sa, pre, y :: sb, h, hj => by
    have h1 : (pre.length : Int) < ((pre ++ x :: sa).length : Int) := by rw [List.length_append, List.length_cons]; omega
    have h2 : (pre.length : Int) < ((pre ++ y :: sb).length : Int) := by rw [List.length_append, List.length_cons]; omega
    rw [laws_eqIntS.L0_eq, if_pos h1, if_pos (by omega), if_pos h2, rd_mid, rd_mid, wrap_mid h]
    by_cases e : x = y
    · subst e
      rw [if_pos rfl, app_mid pre x sa, app_mid pre x sb, laws_eqIntS.L0_val sa (pre ++ [x]) sb (by simpa using h) (by simpa using hj)]
      simp
    · rw [if_neg e]
      simp [e]
theorem laws_eqIntS.F_val (a b : List Int) (h : a.length < 4611686018427387904) : laws_eqIntS.F a b = some (decide (a = b)) := by
  rw [laws_eqIntS.F_eq]
  by_cases e : (a.length : Int) = (b.length : Int)
  · rw [if_pos e]
    have := laws_eqIntS.L0_val a [] b (by simpa using h) (by omega)
    simpa using this
  · rw [if_neg e]
    have : ¬ a = b := fun hab => e (by rw [hab])
    simp [this]
theorem laws_eqIntS.F_same (a : List Int) (h : a.length < 4611686018427387904) : laws_eqIntS.F a a = some true := by
  rw [laws_eqIntS.F_val a a h]
  simp
/-- The numbers k, k + 1, .., n of them. -/
def marks : Nat → Int → List Int
  | 0, _ => []
  | n + 1, k => k :: marks n (k + 1)
theorem marks_length : ∀ n k, (marks n k).length = n
  | 0, _ => rfl
  | n + 1, k => by simp [marks, marks_length n]
theorem laws_markIntS.L0_val : ∀ (suf pre : List Int) (k : Int), (pre ++ suf).length < 4611686018427387904 → 0 ≤ k → k + suf.length < 4611686018427387904 → laws_markIntS.L0 (pre ++ suf) k (pre.length : Int) = some (k + suf.length, pre ++ marks suf.length k)
  | [], pre, k, h, h0, hk => by
    rw [laws_markIntS.L0_eq, range_end]
    simp [marks]
  | x :: suf, pre, k, h, h0, hk => by
    have h1 : (pre.length : Int) < ((pre ++ x :: suf).length : Int) := by rw [List.length_append, List.length_cons]; omega
    have hk' : k + (suf.length + 1 : Nat) < 4611686018427387904 := by simpa using hk
    rw [laws_markIntS.L0_eq, if_pos h1, if_pos (by omega), wrap_mid h, wrap_in (n := k + 1) (by omega) (by omega)]
    have e : (pre ++ x :: suf).set ((pre.length : Int)).toNat k = (pre ++ [k]) ++ suf := by simp
    have el : ((pre ++ [x]).length : Int) = ((pre ++ [k]).length : Int) := by simp
    rw [e, el, laws_markIntS.L0_val suf (pre ++ [k]) (k + 1) (by simpa using h) (by omega) (by omega)]
    simp [marks]
    omega
theorem laws_markIntS.F_val (l : List Int) (k : Int) (h0 : 0 ≤ k) (hk : k + l.length < 4611686018427387904) : laws_markIntS.F l k = some (k + l.length, marks l.length k) := by
  rw [laws_markIntS.F_eq]
  have := laws_markIntS.L0_val l [] k (by simp; omega) h0 hk
  simpa using this
theorem laws_heldIntS.L0_val : ∀ (n : Nat) (pre : List Int) (k : Int), pre.length + n < 4611686018427387904 → 0 ≤ k → k + n < 4611686018427387904 → laws_heldIntS.L0 (pre ++ marks n k) k (pre.length : Int) = some (k + n)
  | 0, pre, k, h, h0, hk => by
    rw [laws_heldIntS.L0_eq, marks, range_end]
    simp
  | n + 1, pre, k, h, h0, hk => by
    have h1 : (pre.length : Int) < ((pre ++ k :: marks n (k + 1)).length : Int) := by rw [List.length_append, List.length_cons]; omega
    have h2 : (pre ++ k :: marks n (k + 1)).length < 4611686018427387904 := by rw [List.length_append, List.length_cons, marks_length]; omega
    rw [laws_heldIntS.L0_eq, marks, if_pos h1, if_pos (by omega), rd_mid, if_pos rfl, wrap_mid h2, wrap_in (n := k + 1) (by omega) (by omega), app_mid, laws_heldIntS.L0_val n (pre ++ [k]) (k + 1) (by simp; omega) (by omega) (by omega)]
    congr 1
    omega
theorem laws_heldIntS.F_val (n : Nat) (k : Int) (h0 : 0 ≤ k) (hk : k + n < 4611686018427387904) : laws_heldIntS.F (marks n k) k = some (k + n) := by
  rw [laws_heldIntS.F_eq]
  have := laws_heldIntS.L0_val n [] k (by simp; omega) h0 hk
  simpa using this
end Go.Proofs.Ytcbepfkfggpchaa.Fn
namespace Go.Proofs.Ytcbepfkfggpchaa.Fn
open Go.RowKit Go.Proofs.YtcbepfkfggpchaaW.PrintWords Go.Proofs.YtcbepfkfggpchaaW.PrintLast Go.Proofs.YtcbepfkfggpchaaW.PrintMore
set_option linter.unusedVariables false
set_option linter.unusedSimpArgs false
/-- A list of at most 40 numbers in 0..20. -/
def isRow (l : List Int) : Bool := decide (l.length ≤ 40) && l.all (fun x => decide (0 ≤ x) && decide (x ≤ 20))
theorem isRow_len {l : List Int} (h : isRow l = true) : l.length ≤ 40 := by
  unfold isRow at h
  simp only [Bool.and_eq_true, decide_eq_true_eq] at h
  exact h.1
theorem isRow_mem {l : List Int} (h : isRow l = true) {x : Int} (hx : x ∈ l) : 0 ≤ x ∧ x ≤ 20 := by
  unfold isRow at h
  simp only [Bool.and_eq_true, decide_eq_true_eq, List.all_eq_true] at h
  exact h.2 x hx
theorem slices_Clone_int_int.f_val (l : List Int) (h : l.length < 17592186044416) : slices_Clone_int_int.f l = some l := by
  unfold slices_Clone_int_int.f
  rw [if_pos h]
theorem spec_l1Own.f_val (l : List Int) (h : l.length < 17592186044416) : spec_l1Own.f l = some l := by
  unfold spec_l1Own.f
  simp [h]
theorem spec_l1In.f_val (a b c : Int) : spec_l1In.f a b c = some (decide (b ≤ a) && decide (a ≤ c)) := by
  unfold spec_l1In.f
  by_cases h : a ≥ b
  · rw [if_pos h]
    simp [show b ≤ a from h]
  · rw [if_neg h]
    simp [show ¬ b ≤ a from h]
theorem impl_IsRow.L0_val (l : List Int) : ∀ (suf pre : List Int), (pre ++ suf).length < 4611686018427387904 → impl_IsRow.L0 l (pre ++ suf) ((pre ++ suf).length : Int) (pre.length : Int) = some (suf.all (fun x => decide (0 ≤ x) && decide (x ≤ 20)) && decide (l.length ≤ 40))
  | [], pre, h => by
    rw [impl_IsRow.L0_eq, range_end]
    simp
    omega
  | x :: suf, pre, h => by
    rw [impl_IsRow.L0_eq, range_step, rd_mid, wrap_mid h]
    by_cases h1 : x < 0
    · have : ¬ 0 ≤ x := by omega
      rw [if_pos h1]
      simp [this]
    · have h1' : 0 ≤ x := by omega
      rw [if_neg h1]
      by_cases h2 : x > 20
      · have : ¬ x ≤ 20 := by omega
        rw [if_pos h2]
        simp [this]
      · have h2' : x ≤ 20 := by omega
        rw [if_neg h2, app_mid, impl_IsRow.L0_val l suf (pre ++ [x]) (by simpa using h)]
        simp [h1', h2']
theorem impl_IsRow.F_val (l : List Int) (h : l.length < 4611686018427387904) : impl_IsRow.F l = some (isRow l) := by
  rw [impl_IsRow.F_eq]
  have := impl_IsRow.L0_val l l [] (by simpa using h)
  simp only [List.nil_append, List.length_nil] at this
  rw [isRow, Bool.and_comm]
  exact this
theorem spec_l1All.L0_val (a b : Int) : ∀ (suf pre : List Int), (pre ++ suf).length < 4611686018427387904 → spec_l1All.L0 a b (pre ++ suf) ((pre ++ suf).length : Int) (pre.length : Int) = some (suf.all (fun x => decide (a ≤ x) && decide (x ≤ b)))
  | [], pre, h => by
    rw [spec_l1All.L0_eq, range_end]
    simp
  | x :: suf, pre, h => by
    rw [spec_l1All.L0_eq, range_step, rd_mid, wrap_mid h, spec_l1In.f_val]
    simp only [Option.bind_some]
    by_cases h1 : (decide (a ≤ x) && decide (x ≤ b)) = true
    · rw [if_pos h1, app_mid, spec_l1All.L0_val a b suf (pre ++ [x]) (by simpa using h)]
      simp only [List.all_cons, h1, Bool.true_and]
    · rw [if_neg h1]
      simp only [List.all_cons, Bool.not_eq_true] at h1 ⊢
      rw [h1, Bool.false_and]
theorem spec_l1All.F_val (l : List Int) (a b : Int) (h : l.length < 4611686018427387904) : spec_l1All.F l a b = some (l.all (fun x => decide (a ≤ x) && decide (x ≤ b))) := by
  rw [spec_l1All.F_eq]
  have := spec_l1All.L0_val a b l [] (by simpa using h)
  simpa using this
theorem spec_roGood.F_val (l : List Int) (h : l.length < 4611686018427387904) : spec_roGood.F l = some (isRow l) := by
  rw [spec_roGood.F_eq]
  unfold isRow
  by_cases h1 : (l.length : Int) ≤ 40
  · rw [if_pos h1, spec_l1All.F_val l 0 20 h]
    have : l.length ≤ 40 := by omega
    simp [this]
  · rw [if_neg h1]
    have : ¬ l.length ≤ 40 := by omega
    simp [this]
end Go.Proofs.Ytcbepfkfggpchaa.Fn
namespace Go.Proofs.Ytcbepfkfggpchaa.Fn
open Go.RowKit Go.Proofs.YtcbepfkfggpchaaW.PrintWords Go.Proofs.YtcbepfkfggpchaaW.PrintLast Go.Proofs.YtcbepfkfggpchaaW.PrintMore
set_option linter.unusedVariables false
set_option linter.unusedSimpArgs false
theorem placesFrom_count (n : Int) : ∀ (l : List Int) (i : Nat), (placesFrom n i l).length = l.count n
  | [], i => by simp [placesFrom]
  | x :: l, i => by
    have ih := placesFrom_count n l (i + 1)
    by_cases h : x = n
    · subst h
      simp [placesFrom, ih]
    · simp [placesFrom, h, ih]
theorem placesOf_count (l : List Int) (n : Int) : (placesOf l n).length = l.count n := placesFrom_count n l 0
theorem pairsOk_eq (l : List Int) : pairsOk l = (List.range' 1 20).all fun k => (placesOf l (k : Nat)).length == 0 || (placesOf l (k : Nat)).length == 2 := by
  unfold pairsOk
  rw [show List.range 21 = 0 :: List.range' 1 20 from rfl, List.all_cons]
  simp only [atOf, if_true, List.length_nil, beq_self_eq_true, Bool.true_or, Bool.true_and]
  rw [Bool.eq_iff_iff, List.all_eq_true, List.all_eq_true]
  have hk : ∀ k, k ∈ List.range' 1 20 → ¬ k = 0 := fun k hk => by have := List.mem_range'_1.1 hk; omega
  exact ⟨fun H k h => by have := H k h; rw [if_neg (hk k h)] at this; exact this, fun H k h => by rw [if_neg (hk k h)]; exact H k h⟩
theorem pairsOk_count {l : List Int} (h : pairsOk l = true) (k : Nat) (h1 : 1 ≤ k) (h2 : k ≤ 20) : l.count (k : Int) = 0 ∨ l.count (k : Int) = 2 := by
  rw [pairsOk_eq, List.all_eq_true] at h
  have := h k (List.mem_range'_1.2 (by omega))
  rw [placesOf_count] at this
  simpa using this
/-- The numbers of a row, from n on, m of them looked at. -/
def numbersFrom (l : List Int) (n m : Nat) : List Int := ((List.range' n m).filter (fun k : Nat => decide ((k : Int) ∈ l))).map (fun k : Nat => (k : Int))
def numbersOf (l : List Int) : List Int := numbersFrom l 1 20
theorem numbersFrom_length (l : List Int) (n m : Nat) : (numbersFrom l n m).length ≤ m := by
  unfold numbersFrom
  have := List.length_filter_le (fun k : Nat => decide ((k : Int) ∈ l)) (List.range' n m)
  simp at this ⊢
  exact this
theorem mem_numbersOf (l : List Int) (v : Int) : v ∈ numbersOf l ↔ v ∈ l ∧ 1 ≤ v ∧ v ≤ 20 := by
  simp only [numbersOf, numbersFrom, List.mem_map, List.mem_filter, List.mem_range'_1, decide_eq_true_eq]
  constructor
  · rintro ⟨k, ⟨hi, hk⟩, rfl⟩
    exact ⟨hk, by omega, by omega⟩
  · rintro ⟨h, h1, h2⟩
    refine ⟨v.toNat, ⟨by omega, ?_⟩, by omega⟩
    rwa [Int.toNat_of_nonneg (by omega)]
theorem fitsAt_eq (l : List Int) (s : Int) (h : pairsOk l = true) : fitsAt l s = (numbersOf l).all fun v => wrap64 (rd (placesOf l v) 1 - rd (placesOf l v) 0) == wrap64 (v + s) := by
  unfold fitsAt
  rw [Bool.eq_iff_iff, List.all_eq_true, List.all_eq_true]
  constructor
  · intro H v hv
    obtain ⟨h1, h2, h3⟩ := (mem_numbersOf l v).1 hv
    obtain ⟨k, rfl⟩ : ∃ k : Nat, v = (k : Int) := ⟨v.toNat, by omega⟩
    have hk := H k (by simp; omega)
    have hz : ¬ k = 0 := by omega
    rw [atOf, if_neg hz, placesOf_count] at hk
    have h5 : 0 < l.count (k : Int) := List.count_pos_iff.2 h1
    rcases pairsOk_count h k (by omega) (by omega) with h4 | h4
    · omega
    · rw [h4] at hk
      simpa using hk
  · intro H k hk
    by_cases hz : k = 0
    · subst hz
      rfl
    · rw [atOf, if_neg hz, placesOf_count]
      by_cases h4 : l.count (k : Int) = 2
      · have h5 : (k : Int) ∈ l := List.count_pos_iff.1 (by omega)
        have := H k ((mem_numbersOf l k).2 ⟨h5, by omega, by simp at hk; omega⟩)
        rw [h4]
        simpa using this
      · rw [beq_false_of_ne h4]
        rfl
/-- A row in which each number stands twice or not at all. -/
def isPairs (l : List Int) : Bool := isRow l && pairsOk l
theorem isPairs_row {l : List Int} (h : isPairs l = true) : isRow l = true := by
  unfold isPairs at h
  exact (Bool.and_eq_true_iff.1 h).1
theorem isPairs_ok {l : List Int} (h : isPairs l = true) : pairsOk l = true := by
  unfold isPairs at h
  exact (Bool.and_eq_true_iff.1 h).2
theorem spec_roPlaces.L0_val (n : Int) : ∀ (suf pre acc : List Int), (pre ++ suf).length < 4611686018427387904 → acc.length + suf.length < 17592186044416 → spec_roPlaces.L0 n acc (pre ++ suf) ((pre ++ suf).length : Int) (pre.length : Int) = some (acc ++ placesFrom n pre.length suf)
  | [], pre, acc, h, ha => by
    rw [spec_roPlaces.L0_eq, range_end]
    simp [placesFrom]
  | x :: suf, pre, acc, h, ha => by
    have ha' : acc.length + (suf.length + 1) < 17592186044416 := by simpa using ha
    have e : (pre ++ [x]).length = pre.length + 1 := by simp
    rw [spec_roPlaces.L0_eq, range_step, rd_mid, wrap_mid h, app_mid pre x suf]
    by_cases h1 : x = n
    · rw [if_pos h1, if_pos (by omega), spec_roPlaces.L0_val n suf (pre ++ [x]) _ (by simpa using h) (by simp; omega), e]
      simp [placesFrom, h1]
    · rw [if_neg h1, spec_roPlaces.L0_val n suf (pre ++ [x]) _ (by simpa using h) (by omega), e]
      simp [placesFrom, h1]
theorem spec_roPlaces.F_val (l : List Int) (n : Int) (h : l.length < 17592186044416) : spec_roPlaces.F l n = some (placesOf l n) := by
  rw [spec_roPlaces.F_eq]
  have := spec_roPlaces.L0_val n l [] [] (by simp; omega) (by simpa using h)
  simpa [placesOf] using this
theorem spec_roPairs.L0_val (l : List Int) (hl : l.length < 17592186044416) : ∀ (m n : Nat), n + m = 21 → spec_roPairs.L0 l (n : Int) = some ((List.range' n m).all fun k => (placesOf l (k : Nat)).length == 0 || (placesOf l (k : Nat)).length == 2)
  | 0, n, h => by
    rw [spec_roPairs.L0_eq, if_neg (by omega)]
    rfl
  | m + 1, n, h => by
    have e : wrap64 ((n : Int) + 1) = ((n + 1 : Nat) : Int) := by rw [wrap_in (by omega) (by omega)]; omega
    rw [spec_roPairs.L0_eq, if_pos (by omega), spec_roPlaces.F_val l n hl]
    simp only [Option.bind_some]
    rw [e, spec_roPairs.L0_val l hl m (n + 1) (by omega), List.range'_succ, List.all_cons]
    by_cases h0 : (placesOf l n).length = 0
    · rw [if_pos (by omega), beq_iff_eq.2 h0]
      rfl
    · rw [if_neg (by omega), beq_false_of_ne h0]
      by_cases h2 : (placesOf l n).length = 2
      · rw [if_pos (by omega), beq_iff_eq.2 h2]
        rfl
      · rw [if_neg (by omega), beq_false_of_ne h2]
        rfl
theorem spec_roPairs.F_val (l : List Int) (hl : l.length < 17592186044416) : spec_roPairs.F l = some (pairsOk l) := by
  rw [spec_roPairs.F_eq, pairsOk_eq]
  exact spec_roPairs.L0_val l hl 20 1 (by omega)
theorem spec_roIs.F_val (l : List Int) (h : l.length < 17592186044416) : spec_roIs.F l = some (isPairs l) := by
  rw [spec_roIs.F_eq, spec_roGood.F_val l (by omega)]
  simp only [Option.bind_some]
  unfold isPairs
  by_cases h1 : isRow l = true
  · rw [if_pos h1, spec_roPairs.F_val l h, h1]
    rfl
  · rw [if_neg h1, Bool.eq_false_iff.2 h1]
    rfl
theorem impl_isPairs.F_val (l : List Int) (h : l.length < 4611686018427387904) : impl_isPairs.F l = some (isPairs l) := by
  rw [impl_isPairs.F_eq, impl_IsRow.F_val l h]
  simp only [Option.bind_some]
  unfold isPairs
  by_cases h1 : isRow l = true
  · rw [if_pos h1, h1]
    rfl
  · rw [if_neg h1, Bool.eq_false_iff.2 h1]
    rfl
theorem impl_fits.F_val (l : List Int) (s : Int) (h : l.length < 4611686018427387904) : impl_fits.F l s = some (isPairs l && fitsAt l s) := by
  rw [impl_fits.F_eq, impl_isPairs.F_val l h]
  simp only [Option.bind_some]
  by_cases h1 : isPairs l = true
  · rw [if_pos h1, h1]
    rfl
  · rw [if_neg h1, Bool.eq_false_iff.2 h1]
    rfl
theorem spec_l1Has.L0_val (n : Int) : ∀ (suf pre : List Int), (pre ++ suf).length < 4611686018427387904 → spec_l1Has.L0 n (pre ++ suf) ((pre ++ suf).length : Int) (pre.length : Int) = some (decide (n ∈ suf))
  | [], pre, h => by
    rw [spec_l1Has.L0_eq, range_end]
    simp
  | x :: suf, pre, h => by
    rw [spec_l1Has.L0_eq, range_step, rd_mid, wrap_mid h, app_mid pre x suf, spec_l1Has.L0_val n suf (pre ++ [x]) (by simpa using h)]
    by_cases h1 : x = n
    · rw [if_pos h1]
      simp [h1]
    · rw [if_neg h1]
      have : ¬ n = x := fun h => h1 h.symm
      simp [this]
theorem spec_l1Has.F_val (l : List Int) (n : Int) (h : l.length < 4611686018427387904) : spec_l1Has.F l n = some (decide (n ∈ l)) := by
  rw [spec_l1Has.F_eq]
  have := spec_l1Has.L0_val n l [] (by simpa using h)
  simpa using this
/-- The first place of a number, the first one counted as i; -1 where it does not stand. -/
def indexFrom (n : Int) : Nat → List Int → Int
  | _, [] => -1
  | i, x :: l => if n = x then (i : Int) else indexFrom n (i + 1) l
theorem indexFrom_mem (n : Int) : ∀ (l : List Int) (i : Nat), 0 ≤ indexFrom n i l ↔ n ∈ l
  | [], i => by simp [indexFrom]
  | x :: l, i => by
    have ih := indexFrom_mem n l (i + 1)
    by_cases h : n = x
    · simp [indexFrom, h]
    · simp [indexFrom, h, ih]
theorem slices_Index_int_int.L0_val (n : Int) : ∀ (suf pre : List Int), (pre ++ suf).length < 4611686018427387904 → slices_Index_int_int.L0 (pre ++ suf) n ((pre ++ suf).length : Int) (pre.length : Int) = some (indexFrom n pre.length suf)
  | [], pre, h => by
    rw [slices_Index_int_int.L0_eq, range_end]
    rfl
  | x :: suf, pre, h => by
    have e : (pre ++ [x]).length = pre.length + 1 := by simp
    rw [slices_Index_int_int.L0_eq, range_step, rd_mid, wrap_mid h, app_mid pre x suf, slices_Index_int_int.L0_val n suf (pre ++ [x]) (by simpa using h), e, indexFrom]
    split <;> rfl
theorem slices_Index_int_int.F_val (l : List Int) (n : Int) (h : l.length < 4611686018427387904) : slices_Index_int_int.F l n = some (indexFrom n 0 l) := by
  rw [slices_Index_int_int.F_eq]
  have := slices_Index_int_int.L0_val n l [] (by simpa using h)
  simpa using this
theorem slices_Contains_int_int.F_val (l : List Int) (n : Int) (h : l.length < 4611686018427387904) : slices_Contains_int_int.F l n = some (decide (n ∈ l)) := by
  rw [slices_Contains_int_int.F_eq, slices_Index_int_int.F_val l n h]
  simp only [Option.bind_some]
  have := indexFrom_mem n l 0
  congr 1
  rw [decide_eq_decide]
  exact this
theorem spec_roNumbers.L0_val (l : List Int) (hl : l.length < 4611686018427387904) : ∀ (m n : Nat) (acc : List Int), n + m = 21 → acc.length + m < 100 → spec_roNumbers.L0 l acc (n : Int) = some (acc ++ numbersFrom l n m)
  | 0, n, acc, h, ha => by
    rw [spec_roNumbers.L0_eq, if_neg (by omega)]
    simp [numbersFrom]
  | m + 1, n, acc, h, ha => by
    have e : wrap64 ((n : Int) + 1) = ((n + 1 : Nat) : Int) := by rw [wrap_in (by omega) (by omega)]; omega
    rw [spec_roNumbers.L0_eq, if_pos (by omega), spec_l1Has.F_val l n hl]
    simp only [Option.bind_some]
    by_cases h1 : (n : Int) ∈ l
    · rw [if_pos (by simpa using h1), if_pos (by omega), e, spec_roNumbers.L0_val l hl m (n + 1) _ (by omega) (by simp; omega)]
      simp [numbersFrom, List.range'_succ, h1]
    · rw [if_neg (by simpa using h1), e, spec_roNumbers.L0_val l hl m (n + 1) _ (by omega) (by omega)]
      simp [numbersFrom, List.range'_succ, h1]
theorem spec_roNumbers.F_val (l : List Int) (hl : l.length < 4611686018427387904) : spec_roNumbers.F l = some (numbersOf l) := by
  rw [spec_roNumbers.F_eq]
  exact spec_roNumbers.L0_val l hl 20 1 [] (by omega) (by simp)
theorem impl_numbers.L0_val (l : List Int) (hl : l.length < 4611686018427387904) : ∀ (m n : Nat) (acc : List Int), n + m = 21 → acc.length + m < 100 → impl_numbers.L0 l acc (n : Int) = some (acc ++ numbersFrom l n m)
  | 0, n, acc, h, ha => by
    rw [impl_numbers.L0_eq, if_neg (by omega)]
    simp [numbersFrom]
  | m + 1, n, acc, h, ha => by
    have e : wrap64 ((n : Int) + 1) = ((n + 1 : Nat) : Int) := by rw [wrap_in (by omega) (by omega)]; omega
    rw [impl_numbers.L0_eq, if_pos (by omega), slices_Contains_int_int.F_val l n hl]
    simp only [Option.bind_some]
    by_cases h1 : (n : Int) ∈ l
    · rw [if_pos (by simpa using h1), if_pos (by omega), e, impl_numbers.L0_val l hl m (n + 1) _ (by omega) (by simp; omega)]
      simp [numbersFrom, List.range'_succ, h1]
    · rw [if_neg (by simpa using h1), e, impl_numbers.L0_val l hl m (n + 1) _ (by omega) (by omega)]
      simp [numbersFrom, List.range'_succ, h1]
theorem impl_numbers.F_val (l : List Int) (hl : l.length < 4611686018427387904) : impl_numbers.F l = some (numbersOf l) := by
  rw [impl_numbers.F_eq]
  exact impl_numbers.L0_val l hl 20 1 [] (by omega) (by simp)
theorem spec_roFits.L0_val (l : List Int) (s : Int) (hl : l.length < 17592186044416) : ∀ (suf pre : List Int), (pre ++ suf).length < 4611686018427387904 → (∀ v ∈ suf, (placesOf l v).length = 2) → spec_roFits.L0 l s (pre ++ suf) ((pre ++ suf).length : Int) (pre.length : Int) = some (suf.all fun v => wrap64 (rd (placesOf l v) 1 - rd (placesOf l v) 0) == wrap64 (v + s))
  | [], pre, h, hv => by
    rw [spec_roFits.L0_eq, range_end]
    simp
  | x :: suf, pre, h, hv => by
    have h2 := hv x (by simp)
    rw [spec_roFits.L0_eq, range_step, rd_mid, wrap_mid h, app_mid pre x suf, spec_roPlaces.F_val l x hl]
    simp only [Option.bind_some]
    rw [if_pos (by omega), if_pos (by omega), spec_roFits.L0_val l s hl suf (pre ++ [x]) (by simpa using h) (fun v h => hv v (by simp [h])), List.all_cons]
    by_cases h1 : wrap64 (rd (placesOf l x) 1 - rd (placesOf l x) 0) = wrap64 (x + s)
    · rw [if_pos h1, beq_iff_eq.2 h1]
      rfl
    · rw [if_neg h1, beq_false_of_ne h1]
      rfl
theorem numbersOf_two {l : List Int} (h : pairsOk l = true) {v : Int} (hv : v ∈ numbersOf l) : (placesOf l v).length = 2 := by
  obtain ⟨h1, h2, h3⟩ := (mem_numbersOf l v).1 hv
  obtain ⟨k, rfl⟩ : ∃ k : Nat, v = (k : Int) := ⟨v.toNat, by omega⟩
  have h5 : 0 < l.count (k : Int) := List.count_pos_iff.2 h1
  rw [placesOf_count]
  rcases pairsOk_count h k (by omega) (by omega) with h4 | h4 <;> omega
theorem spec_roFits.F_val (l : List Int) (s : Int) (hl : l.length < 17592186044416) (h : pairsOk l = true) : spec_roFits.F l s = some (fitsAt l s) := by
  rw [spec_roFits.F_eq, spec_roNumbers.F_val l (by omega)]
  simp only [Option.bind_some]
  rw [fitsAt_eq l s h]
  have hn := numbersFrom_length l 1 20
  have := spec_roFits.L0_val l s hl (numbersOf l) [] (by simp only [List.nil_append, numbersOf]; omega) (fun v hv => numbersOf_two h hv)
  simpa using this
end Go.Proofs.Ytcbepfkfggpchaa.Fn
namespace Go.Proofs.Ytcbepfkfggpchaa.Fn
open Go.RowKit Go.Proofs.YtcbepfkfggpchaaW.PrintWords Go.Proofs.YtcbepfkfggpchaaW.PrintLast Go.Proofs.YtcbepfkfggpchaaW.PrintMore
set_option linter.unusedVariables false
set_option linter.unusedSimpArgs false
/-- Each number m of a list is as great as its place and k together. -/
def fromOf (k : Int) : Nat → List Int → Bool
  | _, [] => true
  | i, x :: l => decide (x = k + (i : Int)) && fromOf k (i + 1) l
/-- The first hole's place; -1 where there is none. -/
def holeFrom : Nat → List Int → Int
  | _, [] => -1
  | i, x :: l => if x = 0 then (i : Int) else holeFrom (i + 1) l
theorem holeFrom_places : ∀ (l : List Int) (i : Nat), 0 < (placesFrom 0 i l).length → holeFrom i l = rd (placesFrom 0 i l) 0
  | [], i, h => by simp [placesFrom] at h
  | x :: l, i, h => by
    by_cases hx : x = 0
    · simp [placesFrom, holeFrom, hx, rd]
    · simp only [placesFrom, holeFrom, hx, if_false] at h ⊢
      exact holeFrom_places l (i + 1) h
/-- The row's order, if its numbers are those from 1 on. -/
def orderOf (l : List Int) : Int := if fromOf 1 0 (numbersOf l) = true then ((numbersOf l).length : Int) else 0
/-- A row with one hole whose pairs fit. -/
def oneHole (l : List Int) : Bool := isPairs l && fitsAt l 0 && decide ((placesOf l 0).length = 1)
def extendedOf (l : List Int) : Int × Int := if oneHole l = true then (orderOf l, rd (placesOf l 0) 0) else (0, 0)
theorem fromOf_mem (k : Int) : ∀ (l : List Int) (i : Nat) (x : Int), fromOf k i l = true → x ∈ l → x < k + (i : Int) + l.length
  | [], i, x, h, hx => by cases hx
  | y :: l, i, x, h, hx => by
    simp only [fromOf, Bool.and_eq_true, decide_eq_true_eq] at h
    rcases List.mem_cons.1 hx with rfl | hx
    · rw [List.length_cons]
      omega
    · have := fromOf_mem k l (i + 1) x h.2 hx
      rw [List.length_cons]
      omega
/-- Numbers that grow, from k + i on, and none of them behind the last place: each is as great as its place. -/
theorem fromOf_of (k : Int) : ∀ (l : List Int) (i : Nat), (l.Pairwise (· < ·)) → (∀ x ∈ l, k + (i : Int) ≤ x ∧ x < k + (i : Int) + l.length) → fromOf k i l = true
  | [], i, hp, hx => rfl
  | y :: l, i, hp, hx => by
    obtain ⟨h1, h2⟩ := List.pairwise_cons.1 hp
    have hy := hx y (by simp)
    have hall : ∀ x ∈ l, k + ((i + 1 : Nat) : Int) ≤ x ∧ x < k + ((i + 1 : Nat) : Int) + l.length := fun x hxl => by
      have a := h1 x hxl
      have b := hx x (by simp [hxl])
      rw [List.length_cons] at b
      omega
    have hrec := fromOf_of k l (i + 1) h2 hall
    simp only [fromOf, hrec, Bool.and_true, decide_eq_true_eq]
    -- the first one: were it greater, the others had no room
    have room : ∀ (l : List Int) (b : Int), l.Pairwise (· < ·) → (∀ x ∈ l, b < x) → ∀ x ∈ l, ∀ c, (∀ x ∈ l, x < c) → b + l.length < c := by
      intro l
      induction l with
      | nil => intro b _ _ x hx; cases hx
      | cons z t ih =>
        intro b hp hb x _ c hc
        obtain ⟨g1, g2⟩ := List.pairwise_cons.1 hp
        have hz := hb z (by simp)
        cases t with
        | nil => have := hc z (by simp); simp; omega
        | cons u v =>
          have := ih z g2 g1 u (by simp) c (fun x hx => hc x (by simp [hx]))
          simp at this ⊢
          omega
    cases l with
    | nil => simp at hy; omega
    | cons u v =>
      have := room (u :: v) y h2 h1 u (by simp) (k + (i : Int) + ((y :: u :: v).length : Nat)) (fun x hxl => (hx x (by simp [hxl])).2)
      simp at this
      omega
theorem numbersOf_sorted (l : List Int) : (numbersOf l).Pairwise (· < ·) := by
  unfold numbersOf numbersFrom
  rw [List.pairwise_map]
  exact (List.Pairwise.filter _ (List.pairwise_lt_range' (s := 1) (n := 20))).imp (fun h => by omega)
theorem numbersFrom_count (l : List Int) : ∀ (m n : Nat), (∀ k, n ≤ k → k < n + m → l.count (k : Int) = 0 ∨ l.count (k : Int) = 2) → ((List.range' n m).map fun k : Nat => l.count (k : Int)).sum = 2 * (numbersFrom l n m).length
  | 0, n, h => rfl
  | m + 1, n, h => by
    have ih := numbersFrom_count l m (n + 1) (fun k h1 h2 => h k (by omega) (by omega))
    rw [List.range'_succ, List.map_cons, List.sum_cons, ih]
    have e : numbersFrom l n (m + 1) = (if (n : Int) ∈ l then [(n : Int)] else []) ++ numbersFrom l (n + 1) m := by
      unfold numbersFrom
      rw [List.range'_succ]
      by_cases hn : (n : Int) ∈ l <;> simp [hn]
    rw [e, List.length_append]
    by_cases hn : (n : Int) ∈ l
    · have h5 : 0 < l.count (n : Int) := List.count_pos_iff.2 hn
      rcases h n (by omega) (by omega) with h4 | h4
      · omega
      · rw [if_pos hn, h4]
        simp
        omega
    · have h5 : l.count (n : Int) = 0 := List.count_eq_zero.2 hn
      rw [if_neg hn, h5]
      simp
theorem count_sum : ∀ (l : List Int) (m n : Nat), (∀ x ∈ l, (n : Int) ≤ x ∧ x < (n : Int) + m) → ((List.range' n m).map fun k : Nat => l.count (k : Int)).sum = l.length
  | [], m, n, h => by
    have : ∀ ks : List Nat, (ks.map fun k : Nat => ([] : List Int).count (k : Int)).sum = 0 := fun ks => by induction ks with | nil => rfl | cons a t ih => rw [List.map_cons, List.sum_cons, ih]; rfl
    exact this _
  | x :: l, m, n, h => by
    have ih := count_sum l m n (fun y hy => h y (by simp [hy]))
    have hx := h x (by simp)
    have key : ∀ (m n : Nat), ((n : Int) ≤ x ∧ x < (n : Int) + m → ((List.range' n m).map fun k : Nat => (x :: l).count (k : Int)).sum = ((List.range' n m).map fun k : Nat => l.count (k : Int)).sum + 1) ∧ (¬ ((n : Int) ≤ x ∧ x < (n : Int) + m) → ((List.range' n m).map fun k : Nat => (x :: l).count (k : Int)).sum = ((List.range' n m).map fun k : Nat => l.count (k : Int)).sum) := by
      intro m
      induction m with
      | zero => intro n; exact ⟨fun h => by omega, fun _ => rfl⟩
      | succ m ih =>
        intro n
        obtain ⟨i1, i2⟩ := ih (n + 1)
        rw [List.range'_succ, List.map_cons, List.sum_cons, List.map_cons, List.sum_cons, List.count_cons]
        by_cases hn : x = (n : Int)
        · have := i2 (by omega)
          have hb : (x == (n : Int)) = true := by simpa using hn
          rw [this, hb]
          exact ⟨fun _ => by rw [if_pos rfl]; omega, fun hh => absurd ⟨by omega, by omega⟩ hh⟩
        · have hb : (x == (n : Int)) = false := by simpa using hn
          rw [hb]
          constructor
          · intro hh
            rw [i1 (by omega)]
            simp
            omega
          · intro hh
            rw [i2 (by omega)]
            simp
    rw [(key m n).1 hx, ih, List.length_cons]
/-- A row's length: its holes and twice its numbers. -/
theorem row_length {l : List Int} (h : isPairs l = true) : l.length = l.count 0 + 2 * (numbersOf l).length := by
  have h1 := count_sum l 21 0 (fun x hx => by have := isRow_mem (isPairs_row h) hx; omega)
  have h2 := numbersFrom_count l 20 1 (fun k h3 h4 => pairsOk_count (isPairs_ok h) k h3 (by omega))
  rw [show List.range' 0 21 = 0 :: List.range' 1 20 from rfl, List.map_cons, List.sum_cons, h2] at h1
  unfold numbersOf
  simp at h1
  omega
/-- What the law's own form of an extended row asks: an odd length of three or more, one hole, no number above half of it. -/
def extendedSpec (l : List Int) : Bool := decide (3 ≤ l.length) && decide (l.length % 2 = 1) && fitsAt l 0 && decide (l.count 0 = 1) && l.all (fun x => decide (x ≤ (l.length : Int) / 2))
theorem extended_same {l : List Int} (h : isPairs l = true) : extendedSpec l = decide ((extendedOf l).1 > 0) := by
  have hlen := row_length h
  have hc : (placesOf l 0).length = l.count 0 := placesOf_count l 0
  unfold extendedSpec extendedOf oneHole
  rw [h, Bool.true_and, hc]
  by_cases hf : fitsAt l 0 = true
  · by_cases h1 : l.count 0 = 1
    · have e1 : (fitsAt l 0 && decide (l.count 0 = 1)) = true := by simp [hf, h1]
      rw [if_pos e1, hf]
      simp only [h1, decide_true, Bool.and_true]
      have hsort := numbersOf_sorted l
      by_cases hn : (numbersOf l).length = 0
      · have hl3 : ¬ 3 ≤ l.length := by omega
        have ho : orderOf l = 0 := by unfold orderOf; rw [hn]; split <;> rfl
        rw [ho]
        simp [hl3]
      · have hl3 : 3 ≤ l.length := by omega
        have hodd : l.length % 2 = 1 := by omega
        have hhalf : (l.length : Int) / 2 = ((numbersOf l).length : Int) := by omega
        simp only [hl3, hodd, decide_true, Bool.true_and, hhalf]
        rw [Bool.eq_iff_iff, List.all_eq_true, decide_eq_true_eq]
        constructor
        · intro H
          have hfr : fromOf 1 0 (numbersOf l) = true := fromOf_of 1 _ 0 hsort (fun x hx => by
            obtain ⟨g1, g2, g3⟩ := (mem_numbersOf l x).1 hx
            have := H x g1
            simp only [decide_eq_true_eq] at this
            omega)
          unfold orderOf
          rw [if_pos hfr]
          omega
        · intro H x hx
          by_cases hfr : fromOf 1 0 (numbersOf l) = true
          · have hr := isRow_mem (isPairs_row h) hx
            simp only [decide_eq_true_eq]
            by_cases hx0 : x = 0
            · omega
            · have := fromOf_mem 1 _ 0 x hfr ((mem_numbersOf l x).2 ⟨hx, by omega, by omega⟩)
              omega
          · unfold orderOf at H
            rw [if_neg hfr] at H
            exact absurd H (by decide)
    · have e1 : ¬ (fitsAt l 0 && decide (l.count 0 = 1)) = true := by simp [h1]
      rw [if_neg e1]
      simp [h1]
  · have e1 : ¬ (fitsAt l 0 && decide (l.count 0 = 1)) = true := by simp [hf]
    rw [if_neg e1]
    simp [hf]
theorem extendedOf_pos {l : List Int} (h : ¬ (extendedOf l).1 = 0) : oneHole l = true ∧ (extendedOf l).1 > 0 ∧ (extendedOf l).2 = rd (placesOf l 0) 0 := by
  unfold extendedOf at h ⊢
  by_cases h1 : oneHole l = true
  · rw [if_pos h1] at h ⊢
    refine ⟨h1, ?_, rfl⟩
    simp only [orderOf] at h ⊢
    split at h
    · rename_i h2
      rw [if_pos h2]
      omega
    · exact absurd rfl h
  · rw [if_neg h1] at h
    exact absurd rfl h
theorem oneHole_pairs {l : List Int} (h : oneHole l = true) : isPairs l = true ∧ fitsAt l 0 = true ∧ (placesOf l 0).length = 1 := by
  unfold oneHole at h
  simpa [and_assoc] using h
theorem impl_holes.L0_val : ∀ (suf pre acc : List Int), (pre ++ suf).length < 4611686018427387904 → acc.length + suf.length < 17592186044416 → impl_holes.L0 acc (pre ++ suf) ((pre ++ suf).length : Int) (pre.length : Int) = some (acc ++ placesFrom 0 pre.length suf)
  | [], pre, acc, h, ha => by
    rw [impl_holes.L0_eq, range_end]
    simp [placesFrom]
  | x :: suf, pre, acc, h, ha => by
    have ha' : acc.length + (suf.length + 1) < 17592186044416 := by simpa using ha
    have e : (pre ++ [x]).length = pre.length + 1 := by simp
    rw [impl_holes.L0_eq, range_step, rd_mid, wrap_mid h, app_mid pre x suf]
    by_cases h1 : x = 0
    · rw [if_pos h1, if_pos (by omega), impl_holes.L0_val suf (pre ++ [x]) _ (by simpa using h) (by simp; omega), e]
      simp [placesFrom, h1]
    · rw [if_neg h1, impl_holes.L0_val suf (pre ++ [x]) _ (by simpa using h) (by omega), e]
      simp [placesFrom, h1]
theorem impl_holes.F_val (l : List Int) (h : l.length < 17592186044416) : impl_holes.F l = some (placesOf l 0) := by
  rw [impl_holes.F_eq]
  have := impl_holes.L0_val l [] [] (by simp; omega) (by simpa using h)
  simpa [placesOf] using this
theorem impl_isFrom.L0_val (k : Int) (hk : -1000 ≤ k ∧ k ≤ 1000) (ns : List Int) : ∀ (suf pre : List Int), (pre ++ suf).length ≤ 1000 → impl_isFrom.L0 k ns (pre ++ suf) ((pre ++ suf).length : Int) (pre.length : Int) = some (if fromOf k pre.length suf = true then ((ns.length : Int), decide ((ns.length : Int) > 0)) else (0, false))
  | [], pre, h => by
    rw [impl_isFrom.L0_eq, range_end]
    rfl
  | x :: suf, pre, h => by
    have h' : pre.length + (suf.length + 1) ≤ 1000 := by simpa using h
    have e : (pre ++ [x]).length = pre.length + 1 := by simp
    rw [impl_isFrom.L0_eq, range_step, rd_mid, wrap_mid (pre := pre) (x := x) (suf := suf) (by omega), app_mid pre x suf, wrap_in (n := k + (pre.length : Int)) (by omega) (by omega), impl_isFrom.L0_val k hk ns suf (pre ++ [x]) (by simpa using h), e, fromOf]
    by_cases h1 : x = k + (pre.length : Int)
    · rw [if_pos h1]
      simp [h1]
    · rw [if_neg h1]
      simp [h1]
theorem impl_isFrom.F_val (l : List Int) (k : Int) (hk : -1000 ≤ k ∧ k ≤ 1000) (h : l.length < 4611686018427387904) : impl_isFrom.F l k = some (if fromOf k 0 (numbersOf l) = true then (((numbersOf l).length : Int), decide (((numbersOf l).length : Int) > 0)) else (0, false)) := by
  rw [impl_isFrom.F_eq, impl_numbers.F_val l h]
  simp only [Option.bind_some]
  have hn := numbersFrom_length l 1 20
  have := impl_isFrom.L0_val k hk (numbersOf l) (numbersOf l) [] (by simp only [List.nil_append, numbersOf]; omega)
  simpa using this
theorem spec_roFrom.L0_val (k : Int) (hk : -1000 ≤ k ∧ k ≤ 1000) (ns : List Int) : ∀ (suf pre : List Int), (pre ++ suf).length ≤ 1000 → spec_roFrom.L0 k ns (pre ++ suf) ((pre ++ suf).length : Int) (pre.length : Int) = some (fromOf k pre.length suf && decide ((ns.length : Int) > 0))
  | [], pre, h => by
    rw [spec_roFrom.L0_eq, range_end]
    rfl
  | x :: suf, pre, h => by
    have h' : pre.length + (suf.length + 1) ≤ 1000 := by simpa using h
    have e : (pre ++ [x]).length = pre.length + 1 := by simp
    rw [spec_roFrom.L0_eq, range_step, rd_mid, wrap_mid (pre := pre) (x := x) (suf := suf) (by omega), app_mid pre x suf, wrap_in (n := k + (pre.length : Int)) (by omega) (by omega), spec_roFrom.L0_val k hk ns suf (pre ++ [x]) (by simpa using h), e, fromOf]
    by_cases h1 : x = k + (pre.length : Int)
    · rw [if_pos h1]
      simp [h1]
    · rw [if_neg h1]
      simp [h1]
theorem spec_roFrom.F_val (l : List Int) (k : Int) (hk : -1000 ≤ k ∧ k ≤ 1000) (h : l.length < 4611686018427387904) : spec_roFrom.F l k = some (fromOf k 0 (numbersOf l) && decide (((numbersOf l).length : Int) > 0)) := by
  rw [spec_roFrom.F_eq, spec_roNumbers.F_val l h]
  simp only [Option.bind_some]
  have hn := numbersFrom_length l 1 20
  have := spec_roFrom.L0_val k hk (numbersOf l) (numbersOf l) [] (by simp only [List.nil_append, numbersOf]; omega)
  simpa using this
end Go.Proofs.Ytcbepfkfggpchaa.Fn
namespace Go.Proofs.Ytcbepfkfggpchaa.Fn
open Go.RowKit Go.Proofs.YtcbepfkfggpchaaW.PrintWords Go.Proofs.YtcbepfkfggpchaaW.PrintLast Go.Proofs.YtcbepfkfggpchaaW.PrintMore
set_option linter.unusedVariables false
set_option linter.unusedSimpArgs false
theorem laws_eqPuzzle.F_same (l : List Int) (a s : Int) (h : l.length < 4611686018427387904) : laws_eqPuzzle.F l a s l a s = some true := by
  rw [laws_eqPuzzle.F_eq, laws_eqIntS.F_same l h]
  simp only [Option.bind_some, if_true]
theorem laws_markPuzzle.F_val (l : List Int) (a s : Int) (k : Int) (h0 : 0 ≤ k) (hk : k + l.length < 4611686018427387904) : laws_markPuzzle.F l a s k = some (k + l.length, marks l.length k) := by
  rw [laws_markPuzzle.F_eq, laws_markIntS.F_val l k h0 hk]
  rfl
theorem laws_heldPuzzle.F_val (n : Nat) (a s : Int) (k : Int) (h0 : 0 ≤ k) (hk : k + n < 4611686018427387904) : laws_heldPuzzle.F (marks n k) a s k = some (k + n) := by
  rw [laws_heldPuzzle.F_eq, laws_heldIntS.F_val n k h0 hk]
  simp only [Option.bind_some]
  rw [if_neg (by omega)]
end Go.Proofs.Ytcbepfkfggpchaa.Fn
namespace Go.Proofs.Ytcbepfkfggpchaa.Fn
open Go.RowKit Go.Proofs.YtcbepfkfggpchaaW.PrintWords Go.Proofs.YtcbepfkfggpchaaW.PrintLast Go.Proofs.YtcbepfkfggpchaaW.PrintMore
set_option linter.unusedVariables false
set_option linter.unusedSimpArgs false
/-- A row with no hole whose pairs fit, and the order of its numbers from 1 on; 0 where it is none. -/
def skolemOf (l : List Int) : Int := if isPairs l = true ∧ fitsAt l 0 = true ∧ l.count 0 = 0 then (if fromOf 1 0 (numbersOf l) = true then ((numbersOf l).length : Int) else 0) else 0
theorem skolemOf_no {l : List Int} (h : ¬ (isPairs l = true ∧ fitsAt l 0 = true ∧ l.count 0 = 0)) : skolemOf l = 0 := if_neg h
theorem skolemOf_yes {l : List Int} (h1 : isPairs l = true) (h2 : fitsAt l 0 = true) (h3 : l.count 0 = 0) : skolemOf l = if fromOf 1 0 (numbersOf l) = true then ((numbersOf l).length : Int) else 0 := if_pos ⟨h1, h2, h3⟩
theorem skolemOf_pos {l : List Int} (h : ¬ skolemOf l = 0) : isPairs l = true ∧ fitsAt l 0 = true ∧ l.count 0 = 0 ∧ fromOf 1 0 (numbersOf l) = true ∧ ¬ (numbersOf l).length = 0 ∧ skolemOf l = ((l.length / 2 : Nat) : Int) := by
  unfold skolemOf at h ⊢
  by_cases h1 : isPairs l = true ∧ fitsAt l 0 = true ∧ l.count 0 = 0
  · rw [if_pos h1] at h ⊢
    by_cases h2 : fromOf 1 0 (numbersOf l) = true
    · rw [if_pos h2] at h ⊢
      have := row_length h1.1
      exact ⟨h1.1, h1.2.1, h1.2.2, h2, by omega, by omega⟩
    · rw [if_neg h2] at h
      exact absurd rfl h
  · rw [if_neg h1] at h
    exact absurd rfl h
/-- A row with no hole whose pairs lie one further apart, and its first number; 0 where it is none. -/
def langfordOf (l : List Int) : Int := if isPairs l = true ∧ fitsAt l 1 = true ∧ l.count 0 = 0 ∧ fromOf (rd (numbersOf l) 0) 0 (numbersOf l) = true ∧ ¬ (numbersOf l).length = 0 then rd (numbersOf l) 0 else 0
theorem rd_mem (l : List Int) (h : ¬ l.length = 0) : rd l 0 ∈ l := by
  cases l with
  | nil => exact absurd rfl h
  | cons x t => simp [rd]
theorem langfordOf_pos {l : List Int} (h : ¬ langfordOf l = 0) : isPairs l = true ∧ fitsAt l 1 = true ∧ l.count 0 = 0 ∧ fromOf (rd (numbersOf l) 0) 0 (numbersOf l) = true ∧ ¬ (numbersOf l).length = 0 ∧ langfordOf l = rd (numbersOf l) 0 := by
  unfold langfordOf at h ⊢
  by_cases h1 : isPairs l = true ∧ fitsAt l 1 = true ∧ l.count 0 = 0 ∧ fromOf (rd (numbersOf l) 0) 0 (numbersOf l) = true ∧ ¬ (numbersOf l).length = 0
  · rw [if_pos h1]
    exact ⟨h1.1, h1.2.1, h1.2.2.1, h1.2.2.2.1, h1.2.2.2.2, rfl⟩
  · rw [if_neg h1] at h
    exact absurd rfl h
theorem first_number {l : List Int} (h : ¬ (numbersOf l).length = 0) : 1 ≤ rd (numbersOf l) 0 ∧ rd (numbersOf l) 0 ≤ 20 := ((mem_numbersOf l _).1 (rd_mem _ h)).2
/-- What a Langford row asks, on a list of pairs. -/
def isLangford (l : List Int) : Prop := fitsAt l 1 = true ∧ l.count 0 = 0 ∧ fromOf (rd (numbersOf l) 0) 0 (numbersOf l) = true ∧ ¬ (numbersOf l).length = 0
theorem langfordOf_eq {l : List Int} (h : isPairs l = true) : (isLangford l → langfordOf l = rd (numbersOf l) 0 ∧ ¬ langfordOf l = 0) ∧ (¬ isLangford l → langfordOf l = 0) := by
  refine ⟨fun h1 => ?_, fun h1 => ?_⟩
  · have e : langfordOf l = rd (numbersOf l) 0 := if_pos ⟨h, h1⟩
    have := first_number h1.2.2.2
    exact ⟨e, by omega⟩
  · exact if_neg (fun h2 => h1 h2.2)
theorem impl_skolem.F_val (l : List Int) (h : l.length < 17592186044416) : impl_skolem.F l = some (skolemOf l) := by
  rw [impl_skolem.F_eq, impl_fits.F_val l 0 (by omega), impl_holes.F_val l h, impl_isFrom.F_val l 1 (by omega) (by omega)]
  simp only [Option.bind_some, placesOf_count]
  by_cases h1 : isPairs l = true
  · by_cases h2 : fitsAt l 0 = true
    · rw [if_pos (by simp [h1, h2])]
      by_cases h3 : l.count 0 = 0
      · rw [if_neg (by omega), skolemOf_yes h1 h2 h3]
        by_cases h4 : fromOf 1 0 (numbersOf l) = true
        · simp only [h4, if_true]
        · simp only [h4, if_false]
          rfl
      · rw [skolemOf_no (fun h => h3 h.2.2), if_pos (by omega)]
    · rw [if_neg (by simp [h2]), skolemOf_no (fun h => h2 h.2.1)]
  · rw [if_neg (by simp [h1]), skolemOf_no (fun h => h1 h.1)]
theorem spec_roSkolem.F_val (l : List Int) (h : isPairs l = true) : spec_roSkolem.F l = some (decide (¬ skolemOf l = 0)) := by
  have hl := isRow_len (isPairs_row h)
  rw [spec_roSkolem.F_eq, spec_roFits.F_val l 0 (by omega) (isPairs_ok h), spec_roFrom.F_val l 1 (by omega) (by omega), spec_roPlaces.F_val l 0 (by omega)]
  simp only [Option.bind_some, placesOf_count]
  by_cases h2 : fitsAt l 0 = true
  · rw [if_pos h2]
    by_cases h3 : l.count 0 = 0
    · rw [skolemOf_yes h h2 h3, h3]
      by_cases h4 : fromOf 1 0 (numbersOf l) = true
      · by_cases h5 : (numbersOf l).length = 0
        · simp only [h4, h5, if_true]
          rfl
        · have h6 : decide (((numbersOf l).length : Int) > 0) = true := decide_eq_true (by omega)
          have h7 : ¬ ((numbersOf l).length : Int) = 0 := by omega
          simp only [h4, h6, h7, Bool.and_self, if_true, not_false_eq_true, decide_true]
          rfl
      · simp only [h4, Bool.false_and, Bool.false_eq_true, if_false]
        rfl
    · have hz : (((l.count 0 : Nat) : Int) == 0) = false := beq_false_of_ne (by omega)
      rw [skolemOf_no (fun h => h3 h.2.2), hz]
      split <;> rfl
  · rw [if_neg h2, skolemOf_no (fun h => h2 h.2.1)]
    rfl
end Go.Proofs.Ytcbepfkfggpchaa.Fn
namespace Go.Proofs.Ytcbepfkfggpchaa.Fn
open Go.RowKit Go.Proofs.YtcbepfkfggpchaaW.PrintWords Go.Proofs.YtcbepfkfggpchaaW.PrintLast Go.Proofs.YtcbepfkfggpchaaW.PrintMore
set_option linter.unusedVariables false
set_option linter.unusedSimpArgs false
def nextDraw (x : Int) : Int := Int.tmod (wrap64 (wrap64 (137 * x) + 4409)) 20011
/-- The row with some places made holes, as the draws say. -/
def blanked : Nat → Nat → Int → List Int → List Int
  | 0, _, _, l => l
  | m + 1, i, x, l => if Int.tmod (nextDraw x) 4 = 0 then blanked m (i + 1) (nextDraw x) l else blanked m (i + 1) (nextDraw x) (l.set i 0)
theorem blanked_length : ∀ (m i : Nat) (x : Int) (l : List Int), (blanked m i x l).length = l.length
  | 0, i, x, l => rfl
  | m + 1, i, x, l => by
    unfold blanked
    split
    · exact blanked_length m _ _ _
    · rw [blanked_length m _ _ _, List.length_set]
theorem impl_PuzzleOfRow.L0_val : ∀ (m i : Nat) (x : Int) (l : List Int), i + m = l.length → l.length ≤ 1000 → impl_PuzzleOfRow.L0 l x (l.length : Int) (i : Int) = some (blanked m i x l, 1, 0, true)
  | 0, i, x, l, h, hl => by
    rw [impl_PuzzleOfRow.L0_eq, if_neg (by omega)]
    rfl
  | m + 1, i, x, l, h, hl => by
    have e : Int.tmod (wrap64 (wrap64 (x * 137) + 4409)) 20011 = nextDraw x := by rw [Int.mul_comm]; rfl
    have w : wrap64 ((i : Int) + 1) = ((i + 1 : Nat) : Int) := by rw [wrap_in (by omega) (by omega)]; omega
    rw [impl_PuzzleOfRow.L0_eq, if_pos (by omega), e, w, blanked]
    by_cases h1 : Int.tmod (nextDraw x) 4 = 0
    · rw [if_pos h1, if_pos h1, impl_PuzzleOfRow.L0_val m (i + 1) _ l (by omega) hl]
    · have := impl_PuzzleOfRow.L0_val m (i + 1) (nextDraw x) (l.set i 0) (by simp; omega) (by simpa using hl)
      rw [List.length_set] at this
      rw [if_neg h1, if_neg h1, if_pos (by omega), if_pos (by omega), Int.toNat_natCast]
      exact this
def puzzleOfRow (l : List Int) (n : Int) : List Int × Int × Int × Bool := if ¬ skolemOf l = 0 ∧ skolemOf l ≤ 9 ∧ 0 ≤ n ∧ n ≤ 9999 then (blanked l.length 0 n l, 1, 0, true) else ([], 0, 0, false)
theorem puzzleOfRow_no {l : List Int} {n : Int} (h : ¬ (¬ skolemOf l = 0 ∧ skolemOf l ≤ 9 ∧ 0 ≤ n ∧ n ≤ 9999)) : puzzleOfRow l n = ([], 0, 0, false) := if_neg h
theorem puzzleOfRow_yes {l : List Int} {n : Int} (h : ¬ skolemOf l = 0 ∧ skolemOf l ≤ 9 ∧ 0 ≤ n ∧ n ≤ 9999) : puzzleOfRow l n = (blanked l.length 0 n l, 1, 0, true) := if_pos h
theorem puzzleOfRow_len (l : List Int) (n : Int) : (puzzleOfRow l n).1.length ≤ l.length := by
  unfold puzzleOfRow
  split
  · simp [blanked_length]
  · simp
theorem impl_PuzzleOfRow.F_val (l : List Int) (n : Int) (h : l.length < 17592186044416) : impl_PuzzleOfRow.F l n = some (puzzleOfRow l n) := by
  have jt : impl_PuzzleOfRow.J0 l n true = some ([], 0, 0, false) := by rw [impl_PuzzleOfRow.J0_eq, if_pos rfl]
  have es : impl_sought.f (skolemOf l) = some (decide (skolemOf l ≥ 1 ∧ skolemOf l ≤ 9)) := by
    unfold impl_sought.f
    by_cases h1 : skolemOf l ≥ 1
    · rw [if_pos h1]
      congr 1
      rw [decide_eq_decide]
      omega
    · rw [if_neg h1, decide_eq_false (by omega)]
  rw [impl_PuzzleOfRow.F_eq, impl_skolem.F_val l h]
  simp only [Option.bind_some, jt, es]
  by_cases h1 : skolemOf l = 0
  · rw [if_neg (by simp [h1]), puzzleOfRow_no (fun h => h.1 h1)]
  · obtain ⟨k1, _, _, _, k5, k6⟩ := skolemOf_pos h1
    have hl := isRow_len (isPairs_row k1)
    by_cases h2 : skolemOf l ≤ 9
    · rw [if_pos (by simp; omega)]
      by_cases h3 : n < 0
      · rw [if_pos h3, puzzleOfRow_no (by omega)]
      · rw [if_neg h3]
        by_cases h4 : n > 9999
        · rw [decide_eq_true h4, jt, puzzleOfRow_no (by omega)]
        · rw [decide_eq_false h4, impl_PuzzleOfRow.J0_eq, if_neg (by decide), slices_Clone_int_int.f_val l h, puzzleOfRow_yes ⟨h1, h2, by omega, by omega⟩]
          exact impl_PuzzleOfRow.L0_val l.length 0 n l (by omega) (by omega)
    · rw [if_neg (by simp; omega), puzzleOfRow_no (fun h => h2 h.2.1)]
theorem spec_PuzzleOfRow.L0_val : ∀ (m i : Nat) (x : Int) (l : List Int), i + m = l.length → l.length ≤ 1000 → spec_PuzzleOfRow.L0 x (l.length : Int) (i : Int) l 1 0 = some (blanked m i x l, 1, 0, true)
  | 0, i, x, l, h, hl => by
    rw [spec_PuzzleOfRow.L0_eq, if_neg (by omega)]
    rfl
  | m + 1, i, x, l, h, hl => by
    have e : Int.tmod (wrap64 (wrap64 (137 * x) + 4409)) 20011 = nextDraw x := rfl
    have w : wrap64 ((i : Int) + 1) = ((i + 1 : Nat) : Int) := by rw [wrap_in (by omega) (by omega)]; omega
    rw [spec_PuzzleOfRow.L0_eq, if_pos (by omega), e, w, blanked]
    by_cases h1 : Int.tmod (nextDraw x) 4 = 0
    · rw [if_pos h1, if_pos h1, spec_PuzzleOfRow.L0_val m (i + 1) _ l (by omega) hl]
    · have := spec_PuzzleOfRow.L0_val m (i + 1) (nextDraw x) (l.set i 0) (by simp; omega) (by simpa using hl)
      rw [List.length_set] at this
      rw [if_neg h1, if_neg h1, if_pos (by omega), if_pos (by omega), Int.toNat_natCast]
      exact this
theorem spec_seIs.F_val (l : List Int) (h : l.length < 17592186044416) : spec_seIs.F l = some (decide (¬ skolemOf l = 0 ∧ skolemOf l ≤ 9)) := by
  rw [spec_seIs.F_eq, spec_roIs.F_val l h]
  simp only [Option.bind_some]
  by_cases k1 : isPairs l = true
  · rw [if_pos k1, spec_roSkolem.F_val l k1]
    simp only [Option.bind_some]
    by_cases h1 : skolemOf l = 0
    · rw [if_neg (by simp [h1]), decide_eq_false (fun h => h.1 h1)]
    · have e := (skolemOf_pos h1).2.2.2.2.2
      have w : wrap64 ((l.length : Int) / 2) = skolemOf l := by rw [wrap_in (by omega) (by omega), e]; omega
      rw [if_pos (by simpa using h1), w]
      congr 1
      rw [decide_eq_decide]
      exact ⟨fun h => ⟨h1, h⟩, fun h => h.2⟩
  · rw [if_neg k1, decide_eq_false (fun h => k1 (skolemOf_pos h.1).1)]
theorem spec_PuzzleOfRow.F_val (l : List Int) (n : Int) (h : l.length < 17592186044416) : spec_PuzzleOfRow.F l n = some (puzzleOfRow l n) := by
  have jt : spec_PuzzleOfRow.J0 l n true = some ([], 0, 0, false) := by rw [spec_PuzzleOfRow.J0_eq, if_pos rfl]
  rw [spec_PuzzleOfRow.F_eq, spec_seIs.F_val l h, spec_l1In.f_val]
  simp only [Option.bind_some, jt]
  by_cases h1 : ¬ skolemOf l = 0 ∧ skolemOf l ≤ 9
  · obtain ⟨k1, _, _, _, k5, k6⟩ := skolemOf_pos h1.1
    have hl := isRow_len (isPairs_row k1)
    rw [if_pos (by simpa using h1)]
    by_cases h2 : 0 ≤ n ∧ n ≤ 9999
    · have e : (!(decide (0 ≤ n) && decide (n ≤ 9999))) = false := by simp; omega
      rw [e, spec_PuzzleOfRow.J0_eq, if_neg (by decide), spec_l1Own.f_val l h, puzzleOfRow_yes ⟨h1.1, h1.2, h2⟩]
      exact spec_PuzzleOfRow.L0_val l.length 0 n l (by omega) (by omega)
    · have e : (!(decide (0 ≤ n) && decide (n ≤ 9999))) = true := by simp; omega
      rw [e, jt, puzzleOfRow_no (fun h => h2 h.2.2)]
  · rw [if_neg (by simpa using h1), puzzleOfRow_no (fun h => h1 ⟨h.1, h.2.1⟩)]
end Go.Proofs.Ytcbepfkfggpchaa.Fn
namespace Go.Proofs.Ytcbepfkfggpchaa.Pure
open Go.RowKit Go.Proofs.Ytcbepfkfggpchaa.Fn Go.Proofs.YtcbepfkfggpchaaW.PrintWords Go.Proofs.YtcbepfkfggpchaaW.PrintLast Go.Proofs.YtcbepfkfggpchaaW.PrintMore
set_option linter.unusedVariables false
set_option linter.unusedSimpArgs false
theorem FnExactPuzzleOfRow : laws_FnExactPuzzleOfRow.Pure := by
  intro l0 a1 _ _ _ _
  refine Lim.rounds (laws_FnExactPuzzleOfRow.F_lim l0 a1) ?_
  rw [laws_FnExactPuzzleOfRow.F_eq]
  by_cases h0 : (l0.length : Int) > 1048576
  · rw [if_pos h0]
  have e0 := laws_toIntS.F_val l0 (by omega)
  have s := spec_PuzzleOfRow.F_val l0 a1 (by omega)
  have i := impl_PuzzleOfRow.F_val l0 a1 (by omega)
  have hr := puzzleOfRow_len l0 a1
  have q0 := laws_eqIntS.F_same l0 (by omega)
  have m0 := laws_markIntS.F_val l0 1 (by omega) (by omega)
  have q := fun a s => laws_eqPuzzle.F_same (puzzleOfRow l0 a1).1 a s (by omega)
  have m := fun a s => laws_markPuzzle.F_val (puzzleOfRow l0 a1).1 a s 1 (by omega) (by omega)
  have g := fun a s => laws_heldPuzzle.F_val (puzzleOfRow l0 a1).1.length a s 1 (by omega) (by omega)
  have n1 : ¬ ((1 : Int) + l0.length < 0) := by omega
  have n2 : ¬ ((1 : Int) + (puzzleOfRow l0 a1).1.length < 0) := by omega
  rw [if_neg h0]
  simp only [e0, s, i, q0, q, m0, m, g, n1, n2, Option.bind_some, if_true, bne_self_eq_false, if_false, Bool.false_eq_true, laws_FnExactPuzzleOfRow.J0_eq, laws_FnExactPuzzleOfRow.J1_eq, laws_FnExactPuzzleOfRow.J2_eq]
end Go.Proofs.Ytcbepfkfggpchaa.Pure
