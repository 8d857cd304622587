/- The machine's side and plain lemmas for FnExactFirstSolution: texts of this session, merged by its program (part 2). -/
import Derived.Test.YtjfhcddahahdfaaMFnExactFirstSolution0
import Derived.Test.YtjfhcddahahdfaaMFnExactFirstSolution1
namespace Go.Proofs.Ytjfhcddahahdfaa.Fn
open Go.RowKit Go.Proofs.YtjfhcddahahdfaaW.PrintWords Go.Proofs.YtjfhcddahahdfaaW.PrintLast Go.Proofs.YtjfhcddahahdfaaW.PrintMore
attribute [local go_sem] max2_int min2_int max_two min_two max_three min_three max_four min_four   -- for this text's walks alone
set_option linter.unusedVariables false
set_option linter.unusedSimpArgs false

/-! ### laws_FnExactFirstSolution: function 10 -/
mutual
def laws_FnExactFirstSolution.j0 : Nat → List Int → Bool → List Int → Bool → Bool → List Int → Int → Int → List Int → Int → Int → Option (Bool)
  | 0, _, _, _, _, _, _, _, _, _, _, _ => none
  | k + 1, x4, x5, x7, x8, x40, x584000, x584001, x584002, x600000, x600001, x600002 => if x40 = true then (some false) else ((laws_toPuzzle.f k x584000 x584001 x584002).bind fun bt605 => ((laws_eqPuzzle.f k x600000 x600001 x600002 bt605.1 bt605.2.1 bt605.2.2).bind fun t610 => (if t610 = true then ((laws_markPuzzle.f k x600000 x600001 x600002 1).bind fun bt611 => (if bt611.1 < 0 then (laws_FnExactFirstSolution.j1 k x4 x5 x7 true x584000 x584001 x584002) else ((laws_eqIntS.f k x7 x4).bind fun t613 => (if t613 = true then (laws_FnExactFirstSolution.j1 k x4 x5 x7 (x8 != x5) x584000 x584001 x584002) else (laws_FnExactFirstSolution.j1 k x4 x5 x7 true x584000 x584001 x584002))))) else (some false))))
def laws_FnExactFirstSolution.j1 : Nat → List Int → Bool → List Int → Bool → List Int → Int → Int → Option (Bool)
  | 0, _, _, _, _, _, _, _ => none
  | k + 1, x4, x5, x7, x61, x584000, x584001, x584002 => if x61 = true then (some false) else ((laws_markIntS.f k x7 1).bind fun bt614 => ((laws_heldIntS.f k bt614.2 1).bind fun t616 => (if t616 < 0 then (some false) else (if t616 = bt614.1 then ((laws_toPuzzle.f k x584000 x584001 x584002).bind fun bt617 => ((impl_FirstSolution.f k bt617.1 bt617.2.1 bt617.2.2).bind fun bt622 => ((laws_eqIntS.f k bt622.1 x4).bind fun t626 => (if t626 = true then (laws_FnExactFirstSolution.j2 k bt614.2 bt614.1 (bt622.2 != x5)) else (laws_FnExactFirstSolution.j2 k bt614.2 bt614.1 true))))) else (some false)))))
def laws_FnExactFirstSolution.j2 : Nat → List Int → Int → Bool → Option (Bool)
  | 0, _, _, _ => none
  | k + 1, x7, x10, x87 => if x87 = true then (some false) else ((laws_heldIntS.f k x7 1).bind fun t627 => (if t627 < 0 then (some false) else (if t627 = x10 then (some true) else (some false))))
end
def laws_FnExactFirstSolution.f (k : Nat) (l0_0 : List Int) (a0_1 : Int) (a0_2 : Int) : Option (Bool) := (laws_szPuzzle.f l0_0 a0_1 a0_2 1048576).bind fun t584 => (if t584 < 0 then (some true) else ((laws_toPuzzle.f k l0_0 a0_1 a0_2).bind fun bt585 => ((spec_FirstSolution.f k bt585.1 bt585.2.1 bt585.2.2).bind fun bt590 => ((laws_toPuzzle.f k l0_0 a0_1 a0_2).bind fun bt594 => ((impl_FirstSolution.f k bt594.1 bt594.2.1 bt594.2.2).bind fun bt600 => ((laws_eqIntS.f k bt600.1 bt590.1).bind fun t604 => (if t604 = true then (laws_FnExactFirstSolution.j0 k bt590.1 bt590.2 bt600.1 bt600.2 (bt600.2 != bt590.2) l0_0 a0_1 a0_2 bt594.1 bt594.2.1 bt594.2.2) else (laws_FnExactFirstSolution.j0 k bt590.1 bt590.2 bt600.1 bt600.2 true l0_0 a0_1 a0_2 bt594.1 bt594.2.1 bt594.2.2))))))))
theorem laws_FnExactFirstSolution.mono_l : ∀ k, (∀ y0 y1 y2 y3 y4 y5 y6 y7 y8 y9 y10, LeO (laws_FnExactFirstSolution.j0 k y0 y1 y2 y3 y4 y5 y6 y7 y8 y9 y10) (laws_FnExactFirstSolution.j0 (k + 1) y0 y1 y2 y3 y4 y5 y6 y7 y8 y9 y10)) ∧ (∀ y0 y1 y2 y3 y4 y5 y6, LeO (laws_FnExactFirstSolution.j1 k y0 y1 y2 y3 y4 y5 y6) (laws_FnExactFirstSolution.j1 (k + 1) y0 y1 y2 y3 y4 y5 y6)) ∧ (∀ y0 y1 y2, LeO (laws_FnExactFirstSolution.j2 k y0 y1 y2) (laws_FnExactFirstSolution.j2 (k + 1) y0 y1 y2))
  | 0 => ⟨fun _ _ _ _ _ _ _ _ _ _ _ r h => by simp [laws_FnExactFirstSolution.j0] at h, fun _ _ _ _ _ _ _ r h => by simp [laws_FnExactFirstSolution.j1] at h, fun _ _ _ r h => by simp [laws_FnExactFirstSolution.j2] at h⟩
  | k + 1 => by
    obtain ⟨ih0, ih1, ih2⟩ := laws_FnExactFirstSolution.mono_l k
    refine ⟨?_, ?_, ?_⟩
    · intro y0 y1 y2 y3 y4 y5 y6 y7 y8 y9 y10
      unfold laws_FnExactFirstSolution.j0
      repeat' first
      | (with_reducible exact ih0 _ _ _ _ _ _ _ _ _ _ _)
      | (with_reducible exact ih1 _ _ _ _ _ _ _)
      | (with_reducible exact ih2 _ _ _)
      | (with_reducible exact impl_FirstSolution.mono _ _ _ _)
      | (with_reducible exact laws_eqIntS.mono _ _ _)
      | (with_reducible exact laws_eqPuzzle.mono _ _ _ _ _ _ _)
      | (with_reducible exact laws_heldIntS.mono _ _ _)
      | (with_reducible exact laws_markIntS.mono _ _ _)
      | (with_reducible exact laws_markPuzzle.mono _ _ _ _ _)
      | (with_reducible exact laws_toPuzzle.mono _ _ _ _)
      | (with_reducible exact spec_FirstSolution.mono _ _ _ _)
      | (with_reducible exact LeO.refl _)
      | (with_reducible exact LeO.none _)
      | (with_reducible refine LeO.ite ?_ ?_)
      | (with_reducible refine LeO.bind ?_ (fun _ => ?_))
      | exact ih0 _ _ _ _ _ _ _ _ _ _ _
      | exact ih1 _ _ _ _ _ _ _
      | exact ih2 _ _ _
      | exact impl_FirstSolution.mono _ _ _ _
      | exact laws_eqIntS.mono _ _ _
      | exact laws_eqPuzzle.mono _ _ _ _ _ _ _
      | exact laws_heldIntS.mono _ _ _
      | exact laws_markIntS.mono _ _ _
      | exact laws_markPuzzle.mono _ _ _ _ _
      | exact laws_toPuzzle.mono _ _ _ _
      | exact spec_FirstSolution.mono _ _ _ _
      | exact LeO.none _
      | refine LeO.ite ?_ ?_
      | refine LeO.bind ?_ (fun _ => ?_)
    · intro y0 y1 y2 y3 y4 y5 y6
      unfold laws_FnExactFirstSolution.j1
      repeat' first
      | (with_reducible exact ih0 _ _ _ _ _ _ _ _ _ _ _)
      | (with_reducible exact ih1 _ _ _ _ _ _ _)
      | (with_reducible exact ih2 _ _ _)
      | (with_reducible exact impl_FirstSolution.mono _ _ _ _)
      | (with_reducible exact laws_eqIntS.mono _ _ _)
      | (with_reducible exact laws_eqPuzzle.mono _ _ _ _ _ _ _)
      | (with_reducible exact laws_heldIntS.mono _ _ _)
      | (with_reducible exact laws_markIntS.mono _ _ _)
      | (with_reducible exact laws_markPuzzle.mono _ _ _ _ _)
      | (with_reducible exact laws_toPuzzle.mono _ _ _ _)
      | (with_reducible exact spec_FirstSolution.mono _ _ _ _)
      | (with_reducible exact LeO.refl _)
      | (with_reducible exact LeO.none _)
      | (with_reducible refine LeO.ite ?_ ?_)
      | (with_reducible refine LeO.bind ?_ (fun _ => ?_))
      | exact ih0 _ _ _ _ _ _ _ _ _ _ _
      | exact ih1 _ _ _ _ _ _ _
      | exact ih2 _ _ _
      | exact impl_FirstSolution.mono _ _ _ _
      | exact laws_eqIntS.mono _ _ _
      | exact laws_eqPuzzle.mono _ _ _ _ _ _ _
      | exact laws_heldIntS.mono _ _ _
      | exact laws_markIntS.mono _ _ _
      | exact laws_markPuzzle.mono _ _ _ _ _
      | exact laws_toPuzzle.mono _ _ _ _
      | exact spec_FirstSolution.mono _ _ _ _
      | exact LeO.none _
      | refine LeO.ite ?_ ?_
      | refine LeO.bind ?_ (fun _ => ?_)
    · intro y0 y1 y2
      unfold laws_FnExactFirstSolution.j2
      repeat' first
      | (with_reducible exact ih0 _ _ _ _ _ _ _ _ _ _ _)
      | (with_reducible exact ih1 _ _ _ _ _ _ _)
      | (with_reducible exact ih2 _ _ _)
      | (with_reducible exact impl_FirstSolution.mono _ _ _ _)
      | (with_reducible exact laws_eqIntS.mono _ _ _)
      | (with_reducible exact laws_eqPuzzle.mono _ _ _ _ _ _ _)
      | (with_reducible exact laws_heldIntS.mono _ _ _)
      | (with_reducible exact laws_markIntS.mono _ _ _)
      | (with_reducible exact laws_markPuzzle.mono _ _ _ _ _)
      | (with_reducible exact laws_toPuzzle.mono _ _ _ _)
      | (with_reducible exact spec_FirstSolution.mono _ _ _ _)
      | (with_reducible exact LeO.refl _)
      | (with_reducible exact LeO.none _)
      | (with_reducible refine LeO.ite ?_ ?_)
      | (with_reducible refine LeO.bind ?_ (fun _ => ?_))
      | exact ih0 _ _ _ _ _ _ _ _ _ _ _
      | exact ih1 _ _ _ _ _ _ _
      | exact ih2 _ _ _
      | exact impl_FirstSolution.mono _ _ _ _
      | exact laws_eqIntS.mono _ _ _
      | exact laws_eqPuzzle.mono _ _ _ _ _ _ _
      | exact laws_heldIntS.mono _ _ _
      | exact laws_markIntS.mono _ _ _
      | exact laws_markPuzzle.mono _ _ _ _ _
      | exact laws_toPuzzle.mono _ _ _ _
      | exact spec_FirstSolution.mono _ _ _ _
      | exact LeO.none _
      | refine LeO.ite ?_ ?_
      | refine LeO.bind ?_ (fun _ => ?_)
theorem laws_FnExactFirstSolution.mono : ∀ a0 a1 a2 k, LeO (laws_FnExactFirstSolution.f k a0 a1 a2) (laws_FnExactFirstSolution.f (k + 1) a0 a1 a2) := by
  intro a0 a1 a2 k
  obtain ⟨ih0, ih1, ih2⟩ := laws_FnExactFirstSolution.mono_l k
  unfold laws_FnExactFirstSolution.f
  repeat' first
      | (with_reducible exact ih0 _ _ _ _ _ _ _ _ _ _ _)
      | (with_reducible exact ih1 _ _ _ _ _ _ _)
      | (with_reducible exact ih2 _ _ _)
      | (with_reducible exact impl_FirstSolution.mono _ _ _ _)
      | (with_reducible exact laws_eqIntS.mono _ _ _)
      | (with_reducible exact laws_eqPuzzle.mono _ _ _ _ _ _ _)
      | (with_reducible exact laws_heldIntS.mono _ _ _)
      | (with_reducible exact laws_markIntS.mono _ _ _)
      | (with_reducible exact laws_markPuzzle.mono _ _ _ _ _)
      | (with_reducible exact laws_toPuzzle.mono _ _ _ _)
      | (with_reducible exact spec_FirstSolution.mono _ _ _ _)
      | (with_reducible exact LeO.refl _)
      | (with_reducible exact LeO.none _)
      | (with_reducible refine LeO.ite ?_ ?_)
      | (with_reducible refine LeO.bind ?_ (fun _ => ?_))
      | exact ih0 _ _ _ _ _ _ _ _ _ _ _
      | exact ih1 _ _ _ _ _ _ _
      | exact ih2 _ _ _
      | exact impl_FirstSolution.mono _ _ _ _
      | exact laws_eqIntS.mono _ _ _
      | exact laws_eqPuzzle.mono _ _ _ _ _ _ _
      | exact laws_heldIntS.mono _ _ _
      | exact laws_markIntS.mono _ _ _
      | exact laws_markPuzzle.mono _ _ _ _ _
      | exact laws_toPuzzle.mono _ _ _ _
      | exact spec_FirstSolution.mono _ _ _ _
      | exact LeO.none _
      | refine LeO.ite ?_ ?_
      | refine LeO.bind ?_ (fun _ => ?_)
set_option maxHeartbeats 8000000 in
set_option maxRecDepth 100000 in
theorem laws_FnExactFirstSolution.calls (k : Nat) (A0_0 : Option Addr) (c0_0 : Nat) (l0_0 : List Int) (a0_1 : Int) (a0_2 : Int) (r : Bool) (w : World) (hr0_0 : Kd.C (Kd.int .i64) w A0_0 l0_0.length l0_0) (hc0_0 : l0_0.length ≤ c0_0) (h : laws_FnExactFirstSolution.f k l0_0 a0_1 a0_2 = some r) :
    Calls Try.prog 10 #[.agg #[.slice A0_0 l0_0.length c0_0, .int .i64 a0_1, .int .i64 a0_2]] w fun e w' => e = .returned (.bool r) ∧ Below w.heap.size w w' := by
  have hu24 := Try.underlying24
  have hu27 := Try.underlying27
  have HR0_0 := Aside0.mk hr0_0
  have HC0_0 := Aside0.mk hc0_0
  clear hr0_0 hc0_0
  have HB := Aside0.mk (Below.refl w.heap.size w)
  have H : ((laws_szPuzzle.f l0_0 a0_1 a0_2 1048576).bind fun t584 => (if t584 < 0 then (some true) else ((laws_toPuzzle.f k l0_0 a0_1 a0_2).bind fun bt585 => ((spec_FirstSolution.f k bt585.1 bt585.2.1 bt585.2.2).bind fun bt590 => ((laws_toPuzzle.f k l0_0 a0_1 a0_2).bind fun bt594 => ((impl_FirstSolution.f k bt594.1 bt594.2.1 bt594.2.2).bind fun bt600 => ((laws_eqIntS.f k bt600.1 bt590.1).bind fun t604 => (if t604 = true then (laws_FnExactFirstSolution.j0 k bt590.1 bt590.2 bt600.1 bt600.2 (bt600.2 != bt590.2) l0_0 a0_1 a0_2 bt594.1 bt594.2.1 bt594.2.2) else (laws_FnExactFirstSolution.j0 k bt590.1 bt590.2 bt600.1 bt600.2 true l0_0 a0_1 a0_2 bt594.1 bt594.2.1 bt594.2.2))))))))) = some r := h
  clear h
  replace H := Option.bind_eq_some_iff.mp H
  obtain ⟨t584, A20, H⟩ := H
  replace H : (if t584 < 0 then (some true) else ((laws_toPuzzle.f k l0_0 a0_1 a0_2).bind fun bt585 => ((spec_FirstSolution.f k bt585.1 bt585.2.1 bt585.2.2).bind fun bt590 => ((laws_toPuzzle.f k l0_0 a0_1 a0_2).bind fun bt594 => ((impl_FirstSolution.f k bt594.1 bt594.2.1 bt594.2.2).bind fun bt600 => ((laws_eqIntS.f k bt600.1 bt590.1).bind fun t604 => (if t604 = true then (laws_FnExactFirstSolution.j0 k bt590.1 bt590.2 bt600.1 bt600.2 (bt600.2 != bt590.2) l0_0 a0_1 a0_2 bt594.1 bt594.2.1 bt594.2.2) else (laws_FnExactFirstSolution.j0 k bt590.1 bt590.2 bt600.1 bt600.2 true l0_0 a0_1 a0_2 bt594.1 bt594.2.1 bt594.2.2)))))))) = some r := H
  have A2 := Aside0.mk A20
  clear A20
  by_cases c3 : t584 < 0
  · rw [if_pos c3] at H
    have c3b0 : decide (t584 < 0) = true := decide_eq_true c3
    clear c3
    obtain rfl := Option.some.inj H
    go_enter Try.func10, Try.ntmps10
    go_wp2_with (first | ((with_reducible refine gate_dst (N := 1) rfl ?_); refine box_event ?hg (N := 1) ?hd (cs := #[.slice A0_0 l0_0.length c0_0, .int .i64 a0_1, .int .i64 a0_2]) (t := 24) ?hr ?_; (case hd => rfl); (case hg => rfl); (case hr => first | (go_simp; done) | (go_simp; rfl)); intro gb583 hg w4 hbox hb; have n0_ := Aside0.mk (below_step (by repeat (first | (with_reducible first | exact HB.out | apply below_alloc | apply pw_below_drewN | apply below_drew1) | exact HB.out)) hb); have n1_ := Aside0.mk (hbox); have n2_ := Aside0.mk ((by rw [hg]; exact (below_size (by repeat (first | (with_reducible first | exact HB.out | apply below_alloc | apply pw_below_drewN | apply below_drew1) | exact HB.out))) : w.heap.size ≤ gb583)); have n3_ := Aside0.mk ((by rw [hg]; exact (below_size (by repeat (first | (with_reducible first | exact HB.out | apply below_alloc | apply pw_below_drewN | apply below_drew1) | exact HB.out))) : w.heap.size ≤ gb583)); clear HB; have HB := n0_; have BK583 := n1_; have GW583 := n2_; have GE583 := n3_; clear n0_ n1_ n2_ n3_; clear hb hbox hg; have hcz5_0 : w4.cell? ⟨gb583, 0, none⟩ = some (.slice A0_0 l0_0.length c0_0) := (blk_cell BK583.out 0).trans rfl; have hcz5_1 : w4.cell? ⟨gb583, 1, none⟩ = some (.int .i64 a0_1) := (blk_cell BK583.out 1).trans rfl; have hcz5_2 : w4.cell? ⟨gb583, 2, none⟩ = some (.int .i64 a0_2) := (blk_cell BK583.out 2).trans rfl; have hfz5_0 := blk_frozen BK583.out 0; have hfz5_1 := blk_frozen BK583.out 1; have hfz5_2 := blk_frozen BK583.out 2) | ((with_reducible refine gate_callee (f := 15) rfl ?_); refine goesL_ (some 16) rfl rfl Try.func15 (by kernel_rfl) rfl #[.agg #[.slice A0_0 l0_0.length c0_0, .int .i64 a0_1, .int .i64 a0_2], .int .i64 1048576] rfl (by (try simp only [List.map_toArray, List.map_cons, List.map_nil]); first | done | rfl | (simp only [List.length_drop, List.length_take]; rfl)) ?_; (with_reducible refine (laws_szPuzzle.calls _ _ l0_0 a0_1 a0_2 1048576 t584 _ ?side1 ?side2 A2.out).mono ?_); (case side1 => repeat (first | exact (Kd.C_below HR0_0.out HB.out) | (with_reducible refine Kd.C_alloc ?_ _) | (with_reducible refine Kd.C_drewN ?_ _) | (with_reducible refine Kd.C_drew ?_))); (case side2 => exact HC0_0.out); rintro e w6 ⟨rfl, hb⟩; refine ⟨_, rfl, ?_⟩; have n0_ := Aside0.mk (blk_below (g := gb583) (o := .cells #[.slice A0_0 l0_0.length c0_0, .int .i64 a0_1, .int .i64 a0_2] 24 (0, 0)) (by (with_reducible repeat (first | refine blk_drewN ?_ _ | refine blk_drew ?_ | refine blk_alloc ?_ _)); exact BK583.out) hb); have n1_ := Aside0.mk (below_step (by repeat (first | (with_reducible first | exact HB.out | apply below_alloc | apply pw_below_drewN | apply below_drew1 | refine below_set ?_ GE583.out) | exact HB.out)) hb); clear BK583; clear HB; have BK583 := n0_; have HB := n1_; clear n0_ n1_; (try clear hb); (try clear hb2); (try clear hk); (try clear hi)))
    go_ret
    exact ⟨by first | rfl | (simp [errW_none, errW_some] <;> rfl) | (simp [*, errW_none, errW_some] <;> rfl), by repeat (first | (with_reducible first | exact HB.out | apply below_alloc | apply pw_below_drewN | apply below_drew1 | refine below_set ?_ GE583.out) | exact HB.out)⟩
  · rw [if_neg c3] at H
    have c3b0 : decide (t584 < 0) = false := decide_eq_false c3
    clear c3
    replace H := Option.bind_eq_some_iff.mp H
    obtain ⟨⟨t585, t588, t589⟩, A70, H⟩ := H
    replace H : ((spec_FirstSolution.f k t585 t588 t589).bind fun bt590 => ((laws_toPuzzle.f k l0_0 a0_1 a0_2).bind fun bt594 => ((impl_FirstSolution.f k bt594.1 bt594.2.1 bt594.2.2).bind fun bt600 => ((laws_eqIntS.f k bt600.1 bt590.1).bind fun t604 => (if t604 = true then (laws_FnExactFirstSolution.j0 k bt590.1 bt590.2 bt600.1 bt600.2 (bt600.2 != bt590.2) l0_0 a0_1 a0_2 bt594.1 bt594.2.1 bt594.2.2) else (laws_FnExactFirstSolution.j0 k bt590.1 bt590.2 bt600.1 bt600.2 true l0_0 a0_1 a0_2 bt594.1 bt594.2.1 bt594.2.2)))))) = some r := H
    have A7 := Aside0.mk A70
    clear A70
    replace H := Option.bind_eq_some_iff.mp H
    obtain ⟨⟨t590, t593⟩, A80, H⟩ := H
    replace H : ((laws_toPuzzle.f k l0_0 a0_1 a0_2).bind fun bt594 => ((impl_FirstSolution.f k bt594.1 bt594.2.1 bt594.2.2).bind fun bt600 => ((laws_eqIntS.f k bt600.1 t590).bind fun t604 => (if t604 = true then (laws_FnExactFirstSolution.j0 k t590 t593 bt600.1 bt600.2 (bt600.2 != t593) l0_0 a0_1 a0_2 bt594.1 bt594.2.1 bt594.2.2) else (laws_FnExactFirstSolution.j0 k t590 t593 bt600.1 bt600.2 true l0_0 a0_1 a0_2 bt594.1 bt594.2.1 bt594.2.2))))) = some r := H
    have A8 := Aside0.mk A80
    clear A80
    replace H := Option.bind_eq_some_iff.mp H
    obtain ⟨⟨t594, t597, t598⟩, A90, H⟩ := H
    replace H : ((impl_FirstSolution.f k t594 t597 t598).bind fun bt600 => ((laws_eqIntS.f k bt600.1 t590).bind fun t604 => (if t604 = true then (laws_FnExactFirstSolution.j0 k t590 t593 bt600.1 bt600.2 (bt600.2 != t593) l0_0 a0_1 a0_2 t594 t597 t598) else (laws_FnExactFirstSolution.j0 k t590 t593 bt600.1 bt600.2 true l0_0 a0_1 a0_2 t594 t597 t598)))) = some r := H
    have A9 := Aside0.mk A90
    clear A90
    replace H := Option.bind_eq_some_iff.mp H
    obtain ⟨⟨t600, t603⟩, A100, H⟩ := H
    replace H : ((laws_eqIntS.f k t600 t590).bind fun t604 => (if t604 = true then (laws_FnExactFirstSolution.j0 k t590 t593 t600 t603 (t603 != t593) l0_0 a0_1 a0_2 t594 t597 t598) else (laws_FnExactFirstSolution.j0 k t590 t593 t600 t603 true l0_0 a0_1 a0_2 t594 t597 t598))) = some r := H
    have A10 := Aside0.mk A100
    clear A100
    have HC11 := Aside0.mk H
    clear H
    go_enter Try.func10, Try.ntmps10
    go_upto_region 8 with (first | ((with_reducible refine gate_dst (N := 1) rfl ?_); refine box_event ?hg (N := 1) ?hd (cs := #[.slice A0_0 l0_0.length c0_0, .int .i64 a0_1, .int .i64 a0_2]) (t := 24) ?hr ?_; (case hd => rfl); (case hg => rfl); (case hr => first | (go_simp; done) | (go_simp; rfl)); intro gb583 hg w12 hbox hb; have n0_ := Aside0.mk (below_step (by repeat (first | (with_reducible first | exact HB.out | apply below_alloc | apply pw_below_drewN | apply below_drew1) | exact HB.out)) hb); have n1_ := Aside0.mk (hbox); have n2_ := Aside0.mk ((by rw [hg]; exact (below_size (by repeat (first | (with_reducible first | exact HB.out | apply below_alloc | apply pw_below_drewN | apply below_drew1) | exact HB.out))) : w.heap.size ≤ gb583)); have n3_ := Aside0.mk ((by rw [hg]; exact (below_size (by repeat (first | (with_reducible first | exact HB.out | apply below_alloc | apply pw_below_drewN | apply below_drew1) | exact HB.out))) : w.heap.size ≤ gb583)); clear HB; have HB := n0_; have BK583 := n1_; have GW583 := n2_; have GE583 := n3_; clear n0_ n1_ n2_ n3_; clear hb hbox hg; have hcz13_0 : w12.cell? ⟨gb583, 0, none⟩ = some (.slice A0_0 l0_0.length c0_0) := (blk_cell BK583.out 0).trans rfl; have hcz13_1 : w12.cell? ⟨gb583, 1, none⟩ = some (.int .i64 a0_1) := (blk_cell BK583.out 1).trans rfl; have hcz13_2 : w12.cell? ⟨gb583, 2, none⟩ = some (.int .i64 a0_2) := (blk_cell BK583.out 2).trans rfl; have hfz13_0 := blk_frozen BK583.out 0; have hfz13_1 := blk_frozen BK583.out 1; have hfz13_2 := blk_frozen BK583.out 2) | ((with_reducible refine gate_callee (f := 15) rfl ?_); refine goesL_ (some 16) rfl rfl Try.func15 (by kernel_rfl) rfl #[.agg #[.slice A0_0 l0_0.length c0_0, .int .i64 a0_1, .int .i64 a0_2], .int .i64 1048576] rfl (by (try simp only [List.map_toArray, List.map_cons, List.map_nil]); first | done | rfl | (simp only [List.length_drop, List.length_take]; rfl)) ?_; (with_reducible refine (laws_szPuzzle.calls _ _ l0_0 a0_1 a0_2 1048576 t584 _ ?side1 ?side2 A2.out).mono ?_); (case side1 => repeat (first | exact (Kd.C_below HR0_0.out HB.out) | (with_reducible refine Kd.C_alloc ?_ _) | (with_reducible refine Kd.C_drewN ?_ _) | (with_reducible refine Kd.C_drew ?_))); (case side2 => exact HC0_0.out); rintro e w14 ⟨rfl, hb⟩; refine ⟨_, rfl, ?_⟩; have n0_ := Aside0.mk (blk_below (g := gb583) (o := .cells #[.slice A0_0 l0_0.length c0_0, .int .i64 a0_1, .int .i64 a0_2] 24 (0, 0)) (by (with_reducible repeat (first | refine blk_drewN ?_ _ | refine blk_drew ?_ | refine blk_alloc ?_ _)); exact BK583.out) hb); have n1_ := Aside0.mk (below_step (by repeat (first | (with_reducible first | exact HB.out | apply below_alloc | apply pw_below_drewN | apply below_drew1 | refine below_set ?_ GE583.out) | exact HB.out)) hb); clear BK583; clear HB; have BK583 := n0_; have HB := n1_; clear n0_ n1_; (try clear hb); (try clear hb2); (try clear hk); (try clear hi); have hcz15_0 : w14.cell? ⟨gb583, 0, none⟩ = some (.slice A0_0 l0_0.length c0_0) := (blk_cell BK583.out 0).trans rfl; have hcz15_1 : w14.cell? ⟨gb583, 1, none⟩ = some (.int .i64 a0_1) := (blk_cell BK583.out 1).trans rfl; have hcz15_2 : w14.cell? ⟨gb583, 2, none⟩ = some (.int .i64 a0_2) := (blk_cell BK583.out 2).trans rfl; have hfz15_0 := blk_frozen BK583.out 0; have hfz15_1 := blk_frozen BK583.out 1; have hfz15_2 := blk_frozen BK583.out 2) | ((with_reducible refine gate_callee (f := 17) rfl ?_); refine goesL_ (some 21) rfl rfl Try.func17 (by kernel_rfl) rfl #[.agg #[.slice A0_0 l0_0.length c0_0, .int .i64 a0_1, .int .i64 a0_2]] rfl (by (try simp only [List.map_toArray, List.map_cons, List.map_nil]); first | done | rfl | (simp only [List.length_drop, List.length_take]; rfl)) ?_; (with_reducible refine (laws_toPuzzle.calls k _ _ l0_0 a0_1 a0_2 t585 t588 t589 _ ?side1 ?side2 A7.out).mono ?_); (case side1 => repeat (first | exact (Kd.C_below HR0_0.out HB.out) | (with_reducible refine Kd.C_alloc ?_ _) | (with_reducible refine Kd.C_drewN ?_ _) | (with_reducible refine Kd.C_drew ?_))); (case side2 => exact HC0_0.out); rintro e w16 ⟨v586, rfl, ho0, hb⟩; refine ⟨_, rfl, ?_⟩; have n0_ := Aside0.mk (Kd.R_lower ho0 (below_size (by repeat (first | (with_reducible first | exact HB.out | apply below_alloc | apply pw_below_drewN | apply below_drew1 | refine below_set ?_ GE583.out) | exact HB.out)))); have n1_ := Aside0.mk (blk_below (g := gb583) (o := .cells #[.slice A0_0 l0_0.length c0_0, .int .i64 a0_1, .int .i64 a0_2] 24 (0, 0)) (by (with_reducible repeat (first | refine blk_drewN ?_ _ | refine blk_drew ?_ | refine blk_alloc ?_ _)); exact BK583.out) hb); have n2_ := Aside0.mk (below_step (by repeat (first | (with_reducible first | exact HB.out | apply below_alloc | apply pw_below_drewN | apply below_drew1 | refine below_set ?_ GE583.out) | exact HB.out)) hb); clear BK583; clear HB; have HO587 := n0_; have BK583 := n1_; have HB := n2_; clear n0_ n1_ n2_; (try clear hb); (try clear hb2); (try clear hk); (try clear hi); (try clear ho0); obtain ⟨Ao17, co17, eo17⟩ := Kd.R_slice HO587.out; subst eo17) | ((with_reducible refine gate_callee (f := 36) rfl ?_); refine goesL_ (some 22) rfl rfl Try.func36 (by kernel_rfl) rfl #[.agg #[.slice Ao17 t585.length co17, .int .i64 t588, .int .i64 t589]] rfl (by (try simp only [List.map_toArray, List.map_cons, List.map_nil]); first | done | rfl | (simp only [List.length_drop, List.length_take]; rfl)) ?_; (with_reducible refine (spec_FirstSolution.calls k _ _ t585 t588 t589 t590 t593 _ ?side1 ?side2 A8.out).mono ?_); (case side1 => repeat (first | exact (Kd.R_reads' HO587.out).2.2 | (with_reducible refine Kd.C_alloc ?_ _) | (with_reducible refine Kd.C_drewN ?_ _) | (with_reducible refine Kd.C_drew ?_))); (case side2 => exact (Kd.R_reads' HO587.out).2.1); rintro e w18 ⟨v591, rfl, ho0, hb⟩; refine ⟨_, rfl, ?_⟩; have n0_ := Aside0.mk (Kd.R_elder' (by (with_reducible repeat (first | apply Kd.R_alloc | apply Kd.R_drewN | apply Kd.R_drew)); exact HO587.out) (Kd.R_base ho0) hb); have n1_ := Aside0.mk (Kd.R_lower (Kd.R_new' ho0 (Kd.R_lt (by (with_reducible repeat (first | apply Kd.R_alloc | apply Kd.R_drewN | apply Kd.R_drew)); exact HO587.out))) (below_size (by repeat (first | (with_reducible first | exact HB.out | apply below_alloc | apply pw_below_drewN | apply below_drew1 | refine below_set ?_ GE583.out) | exact HB.out)))); have n2_ := Aside0.mk (blk_below (g := gb583) (o := .cells #[.slice A0_0 l0_0.length c0_0, .int .i64 a0_1, .int .i64 a0_2] 24 (0, 0)) (by (with_reducible repeat (first | refine blk_drewN ?_ _ | refine blk_drew ?_ | refine blk_alloc ?_ _)); exact BK583.out) hb); have n3_ := Aside0.mk (below_step (by repeat (first | (with_reducible first | exact HB.out | apply below_alloc | apply pw_below_drewN | apply below_drew1 | refine below_set ?_ GE583.out) | exact HB.out)) hb); clear HO587; clear BK583; clear HB; have HO587 := n0_; have HO592 := n1_; have BK583 := n2_; have HB := n3_; clear n0_ n1_ n2_ n3_; (try clear hb); (try clear hb2); (try clear hk); (try clear hi); (try clear ho0); have hcz19_0 : w18.cell? ⟨gb583, 0, none⟩ = some (.slice A0_0 l0_0.length c0_0) := (blk_cell BK583.out 0).trans rfl; have hcz19_1 : w18.cell? ⟨gb583, 1, none⟩ = some (.int .i64 a0_1) := (blk_cell BK583.out 1).trans rfl; have hcz19_2 : w18.cell? ⟨gb583, 2, none⟩ = some (.int .i64 a0_2) := (blk_cell BK583.out 2).trans rfl; have hfz19_0 := blk_frozen BK583.out 0; have hfz19_1 := blk_frozen BK583.out 1; have hfz19_2 := blk_frozen BK583.out 2) | ((with_reducible refine gate_callee (f := 17) rfl ?_); refine goesL_ (some 26) rfl rfl Try.func17 (by kernel_rfl) rfl #[.agg #[.slice A0_0 l0_0.length c0_0, .int .i64 a0_1, .int .i64 a0_2]] rfl (by (try simp only [List.map_toArray, List.map_cons, List.map_nil]); first | done | rfl | (simp only [List.length_drop, List.length_take]; rfl)) ?_; (with_reducible refine (laws_toPuzzle.calls k _ _ l0_0 a0_1 a0_2 t594 t597 t598 _ ?side1 ?side2 A9.out).mono ?_); (case side1 => repeat (first | exact (Kd.C_below HR0_0.out HB.out) | (with_reducible refine Kd.C_alloc ?_ _) | (with_reducible refine Kd.C_drewN ?_ _) | (with_reducible refine Kd.C_drew ?_))); (case side2 => exact HC0_0.out); rintro e w20 ⟨v595, rfl, ho0, hb⟩; refine ⟨_, rfl, ?_⟩; have n0_ := Aside0.mk (Kd.R_elder' (by (with_reducible repeat (first | apply Kd.R_alloc | apply Kd.R_drewN | apply Kd.R_drew)); exact HO587.out) (Kd.R_base ho0) hb); have n1_ := Aside0.mk (Kd.R_elder' (by (with_reducible repeat (first | apply Kd.R_alloc | apply Kd.R_drewN | apply Kd.R_drew)); exact HO592.out) (Kd.R_base ho0) hb); have n2_ := Aside0.mk (Kd.R_lower (Kd.R_new' (Kd.R_new' ho0 (Kd.R_lt (by (with_reducible repeat (first | apply Kd.R_alloc | apply Kd.R_drewN | apply Kd.R_drew)); exact HO587.out))) (Kd.R_lt (by (with_reducible repeat (first | apply Kd.R_alloc | apply Kd.R_drewN | apply Kd.R_drew)); exact HO592.out))) (below_size (by repeat (first | (with_reducible first | exact HB.out | apply below_alloc | apply pw_below_drewN | apply below_drew1 | refine below_set ?_ GE583.out) | exact HB.out)))); have n3_ := Aside0.mk (blk_below (g := gb583) (o := .cells #[.slice A0_0 l0_0.length c0_0, .int .i64 a0_1, .int .i64 a0_2] 24 (0, 0)) (by (with_reducible repeat (first | refine blk_drewN ?_ _ | refine blk_drew ?_ | refine blk_alloc ?_ _)); exact BK583.out) hb); have n4_ := Aside0.mk (below_step (by repeat (first | (with_reducible first | exact HB.out | apply below_alloc | apply pw_below_drewN | apply below_drew1 | refine below_set ?_ GE583.out) | exact HB.out)) hb); clear HO587; clear HO592; clear BK583; clear HB; have HO587 := n0_; have HO592 := n1_; have HO596 := n2_; have BK583 := n3_; have HB := n4_; clear n0_ n1_ n2_ n3_ n4_; (try clear hb); (try clear hb2); (try clear hk); (try clear hi); (try clear ho0)) | ((with_reducible refine gate_dst (N := 6) rfl ?_); refine box_event ?hg (N := 6) ?hd (cs := #[.slice none 0 0, .int .i64 0, .int .i64 0]) (t := 27) ?hr ?_; (case hd => rfl); (case hg => rfl); (case hr => first | (go_simp; done) | (go_simp; rfl)); intro gb599 hg w21 hbox hb; have n0_ := Aside0.mk (Kd.R_below (by (with_reducible repeat (first | apply Kd.R_alloc | apply Kd.R_drewN | apply Kd.R_drew)); exact HO587.out) hb); have n1_ := Aside0.mk (Kd.R_below (by (with_reducible repeat (first | apply Kd.R_alloc | apply Kd.R_drewN | apply Kd.R_drew)); exact HO592.out) hb); have n2_ := Aside0.mk (Kd.R_below (by (with_reducible repeat (first | apply Kd.R_alloc | apply Kd.R_drewN | apply Kd.R_drew)); exact HO596.out) hb); have n3_ := Aside0.mk (blk_below (g := gb583) (o := .cells #[.slice A0_0 l0_0.length c0_0, .int .i64 a0_1, .int .i64 a0_2] 24 (0, 0)) (by (with_reducible repeat (first | refine blk_drewN ?_ _ | refine blk_drew ?_ | refine blk_alloc ?_ _)); exact BK583.out) hb); have n4_ := Aside0.mk (below_step (by repeat (first | (with_reducible first | exact HB.out | apply below_alloc | apply pw_below_drewN | apply below_drew1 | refine below_set ?_ GE583.out) | exact HB.out)) hb); have n5_ := Aside0.mk (hbox); have n6_ := Aside0.mk ((by rw [hg]; exact (below_size (by repeat (first | (with_reducible first | exact HB.out | apply below_alloc | apply pw_below_drewN | apply below_drew1 | refine below_set ?_ GE583.out) | exact HB.out))) : w.heap.size ≤ gb599)); have n7_ := Aside0.mk ((by rw [hg]; exact (below_size (by repeat (first | (with_reducible first | exact HB.out | apply below_alloc | apply pw_below_drewN | apply below_drew1 | refine below_set ?_ GE583.out) | exact HB.out))) : w.heap.size ≤ gb599)); have n8_ := Aside0.mk ((by rw [hg]; exact Nat.ne_of_lt (blk_lt (g := gb583) (o := .cells #[.slice A0_0 l0_0.length c0_0, .int .i64 a0_1, .int .i64 a0_2] 24 (0, 0)) (by (with_reducible repeat (first | refine blk_drewN ?_ _ | refine blk_drew ?_ | refine blk_alloc ?_ _)); exact BK583.out)) : gb583 ≠ gb599)); have n9_ := Aside0.mk ((by rw [hg]; exact Nat.ne_of_gt (blk_lt (g := gb583) (o := .cells #[.slice A0_0 l0_0.length c0_0, .int .i64 a0_1, .int .i64 a0_2] 24 (0, 0)) (by (with_reducible repeat (first | refine blk_drewN ?_ _ | refine blk_drew ?_ | refine blk_alloc ?_ _)); exact BK583.out)) : gb599 ≠ gb583)); clear HO587; clear HO592; clear HO596; clear BK583; clear HB; have HO587 := n0_; have HO592 := n1_; have HO596 := n2_; have BK583 := n3_; have HB := n4_; have BK599 := n5_; have GW599 := n6_; have GE599 := n7_; have NB583_599 := n8_; have NB599_583 := n9_; clear n0_ n1_ n2_ n3_ n4_ n5_ n6_ n7_ n8_ n9_; clear hb hbox hg; obtain ⟨Ao22, co22, eo22⟩ := Kd.R_slice HO596.out; subst eo22; have hnb23 := NB599_583.out; have hnc23 := NB583_599.out; have hcz24_0 : w21.cell? ⟨gb599, 0, none⟩ = some (.slice none 0 0) := (blk_cell BK599.out 0).trans rfl; have hcz24_1 : w21.cell? ⟨gb599, 1, none⟩ = some (.int .i64 0) := (blk_cell BK599.out 1).trans rfl; have hcz24_2 : w21.cell? ⟨gb599, 2, none⟩ = some (.int .i64 0) := (blk_cell BK599.out 2).trans rfl; have hfz24_0 := blk_frozen BK599.out 0; have hfz24_1 := blk_frozen BK599.out 1; have hfz24_2 := blk_frozen BK599.out 2) | ((with_reducible refine gate_callee (f := 37) rfl ?_); refine goesL_ (some 29) rfl rfl Try.func37 (by kernel_rfl) rfl #[.agg #[.slice Ao22 t594.length co22, .int .i64 t597, .int .i64 t598]] rfl (by (try simp only [List.map_toArray, List.map_cons, List.map_nil]); first | done | rfl | (simp only [List.length_drop, List.length_take]; rfl)) ?_; (with_reducible refine (impl_FirstSolution.calls k _ _ t594 t597 t598 t600 t603 _ ?side1 ?side2 A10.out).mono ?_); (case side1 => refine (Kd.R_reads' (e := 3) (base := w.heap.size) (ok := fun k_ => ((True ∧ some k_ ≠ (.slice Ao17 t585.length co17 : Value).ownBlock) ∧ some k_ ≠ (v591 : Value).ownBlock)) (n := t594.length) (c := co22) ?_).2.2; exact (by (with_reducible repeat (first | apply Kd.R_alloc | apply Kd.R_drewN | apply Kd.R_drew)); exact (Kd.R_mono (Kd.R_far (p := ⟨gb599, 2, none⟩) (Kd.R_far (p := ⟨gb599, 1, none⟩) (Kd.R_far (p := ⟨gb599, 0, none⟩) (Kd.R_types HO596.out BK599.out (by decide)) (fun _ hk => hk.2) (.slice Ao22 t594.length co22)) (fun _ hk => hk.2) (.int .i64 t597)) (fun _ hk => hk.2) (.int .i64 t598)) (fun _ h_ => h_.1)))); (case side2 => exact (Kd.R_reads' HO596.out).2.1); rintro e w25 ⟨v601, rfl, ho0, hb⟩; refine ⟨_, rfl, ?_⟩; have n0_ := Aside0.mk (Kd.R_elder' (by (with_reducible repeat (first | apply Kd.R_alloc | apply Kd.R_drewN | apply Kd.R_drew)); exact (Kd.R_mono (Kd.R_far (p := ⟨gb599, 2, none⟩) (Kd.R_far (p := ⟨gb599, 1, none⟩) (Kd.R_far (p := ⟨gb599, 0, none⟩) (Kd.R_types HO587.out BK599.out (by decide)) (fun _ hk => hk.2) (.slice Ao22 t594.length co22)) (fun _ hk => hk.2) (.int .i64 t597)) (fun _ hk => hk.2) (.int .i64 t598)) (fun _ h_ => h_.1))) (Kd.R_base ho0) hb); have n1_ := Aside0.mk (Kd.R_elder' (by (with_reducible repeat (first | apply Kd.R_alloc | apply Kd.R_drewN | apply Kd.R_drew)); exact (Kd.R_mono (Kd.R_far (p := ⟨gb599, 2, none⟩) (Kd.R_far (p := ⟨gb599, 1, none⟩) (Kd.R_far (p := ⟨gb599, 0, none⟩) (Kd.R_types HO592.out BK599.out (by decide)) (fun _ hk => hk.2) (.slice Ao22 t594.length co22)) (fun _ hk => hk.2) (.int .i64 t597)) (fun _ hk => hk.2) (.int .i64 t598)) (fun _ h_ => h_.1))) (Kd.R_base ho0) hb); have n2_ := Aside0.mk (Kd.R_elder' (by (with_reducible repeat (first | apply Kd.R_alloc | apply Kd.R_drewN | apply Kd.R_drew)); exact (Kd.R_mono (Kd.R_far (p := ⟨gb599, 2, none⟩) (Kd.R_far (p := ⟨gb599, 1, none⟩) (Kd.R_far (p := ⟨gb599, 0, none⟩) (Kd.R_types HO596.out BK599.out (by decide)) (fun _ hk => hk.2) (.slice Ao22 t594.length co22)) (fun _ hk => hk.2) (.int .i64 t597)) (fun _ hk => hk.2) (.int .i64 t598)) (fun _ h_ => h_.1))) (Kd.R_base ho0) hb); have n3_ := Aside0.mk (Kd.R_lower (Kd.R_new' (Kd.R_new' (Kd.R_new' ho0 (Kd.R_lt (by (with_reducible repeat (first | apply Kd.R_alloc | apply Kd.R_drewN | apply Kd.R_drew)); exact (Kd.R_mono (Kd.R_far (p := ⟨gb599, 2, none⟩) (Kd.R_far (p := ⟨gb599, 1, none⟩) (Kd.R_far (p := ⟨gb599, 0, none⟩) (Kd.R_types HO587.out BK599.out (by decide)) (fun _ hk => hk.2) (.slice Ao22 t594.length co22)) (fun _ hk => hk.2) (.int .i64 t597)) (fun _ hk => hk.2) (.int .i64 t598)) (fun _ h_ => h_.1))))) (Kd.R_lt (by (with_reducible repeat (first | apply Kd.R_alloc | apply Kd.R_drewN | apply Kd.R_drew)); exact (Kd.R_mono (Kd.R_far (p := ⟨gb599, 2, none⟩) (Kd.R_far (p := ⟨gb599, 1, none⟩) (Kd.R_far (p := ⟨gb599, 0, none⟩) (Kd.R_types HO592.out BK599.out (by decide)) (fun _ hk => hk.2) (.slice Ao22 t594.length co22)) (fun _ hk => hk.2) (.int .i64 t597)) (fun _ hk => hk.2) (.int .i64 t598)) (fun _ h_ => h_.1))))) (Kd.R_lt (by (with_reducible repeat (first | apply Kd.R_alloc | apply Kd.R_drewN | apply Kd.R_drew)); exact (Kd.R_mono (Kd.R_far (p := ⟨gb599, 2, none⟩) (Kd.R_far (p := ⟨gb599, 1, none⟩) (Kd.R_far (p := ⟨gb599, 0, none⟩) (Kd.R_types HO596.out BK599.out (by decide)) (fun _ hk => hk.2) (.slice Ao22 t594.length co22)) (fun _ hk => hk.2) (.int .i64 t597)) (fun _ hk => hk.2) (.int .i64 t598)) (fun _ h_ => h_.1))))) (below_size (by repeat (first | (with_reducible first | exact HB.out | apply below_alloc | apply pw_below_drewN | apply below_drew1 | refine below_set ?_ GE583.out | refine below_set ?_ GE599.out) | exact HB.out)))); have n4_ := Aside0.mk (blk_below (g := gb583) (o := .cells #[.slice A0_0 l0_0.length c0_0, .int .i64 a0_1, .int .i64 a0_2] 24 (0, 0)) (by (with_reducible repeat (first | refine blk_drewN ?_ _ | refine blk_drew ?_ | refine blk_alloc ?_ _)); refine blk_far ?_ NB583_599.out _; (with_reducible repeat (first | refine blk_drewN ?_ _ | refine blk_drew ?_ | refine blk_alloc ?_ _)); refine blk_far ?_ NB583_599.out _; (with_reducible repeat (first | refine blk_drewN ?_ _ | refine blk_drew ?_ | refine blk_alloc ?_ _)); refine blk_far ?_ NB583_599.out _; (with_reducible repeat (first | refine blk_drewN ?_ _ | refine blk_drew ?_ | refine blk_alloc ?_ _)); exact BK583.out) hb); have n5_ := Aside0.mk (blk_below (g := gb599) (o := .cells #[.slice Ao22 t594.length co22, .int .i64 t597, .int .i64 t598] 27 (0, 0)) (by (with_reducible repeat (first | refine blk_drewN ?_ _ | refine blk_drew ?_ | refine blk_alloc ?_ _)); refine blk_put (cs := #[.slice Ao22 t594.length co22, .int .i64 t597, .int .i64 0]) ?_ 2 _ rfl; (with_reducible repeat (first | refine blk_drewN ?_ _ | refine blk_drew ?_ | refine blk_alloc ?_ _)); refine blk_put (cs := #[.slice Ao22 t594.length co22, .int .i64 0, .int .i64 0]) ?_ 1 _ rfl; (with_reducible repeat (first | refine blk_drewN ?_ _ | refine blk_drew ?_ | refine blk_alloc ?_ _)); refine blk_put (cs := #[.slice none 0 0, .int .i64 0, .int .i64 0]) ?_ 0 _ rfl; (with_reducible repeat (first | refine blk_drewN ?_ _ | refine blk_drew ?_ | refine blk_alloc ?_ _)); exact BK599.out) hb); have n6_ := Aside0.mk (below_step (by repeat (first | (with_reducible first | exact HB.out | apply below_alloc | apply pw_below_drewN | apply below_drew1 | refine below_set ?_ GE583.out | refine below_set ?_ GE599.out) | exact HB.out)) hb); clear HO587; clear HO592; clear HO596; clear BK583; clear BK599; clear HB; have HO587 := n0_; have HO592 := n1_; have HO596 := n2_; have HO602 := n3_; have BK583 := n4_; have BK599 := n5_; have HB := n6_; clear n0_ n1_ n2_ n3_ n4_ n5_ n6_; (try clear hb); (try clear hb2); (try clear hk); (try clear hi); (try clear ho0)))
    (try simp only [Act.put, List.setIfInBounds_toArray, List.set_cons_zero, List.set_cons_succ])
    go_cut [40] (fun v40 wc => ∃ (kq : Nat) (x40_10 : Bool), v40 = .bool x40_10 ∧ Aside0 (laws_FnExactFirstSolution.j0 kq t590 t593 t600 t603 x40_10 l0_0 a0_1 a0_2 t594 t597 t598 = some r) ∧ Aside0 (kq ≤ k) ∧ Aside0 (Kd.R (Kd.int .i64) 3 wc w.heap.size (fun k_ => some k_ ≠ (v601 : Value).ownBlock ∧ some k_ ≠ ((.slice Ao22 t594.length co22) : Value).ownBlock) v591 t590) ∧ Aside0 (Kd.R (Kd.int .i64) 3 wc w.heap.size (fun k_ => some k_ ≠ (v591 : Value).ownBlock ∧ some k_ ≠ ((.slice Ao22 t594.length co22) : Value).ownBlock) v601 t600) ∧ Aside0 (Kd.R (Kd.int .i64) 3 wc w.heap.size (fun k_ => some k_ ≠ (v591 : Value).ownBlock ∧ some k_ ≠ (v601 : Value).ownBlock) (.slice Ao22 t594.length co22) t594) ∧ Aside0 (wc.heap[gb583]? = some (.cells #[(.slice A0_0 l0_0.length c0_0), .int .i64 a0_1, .int .i64 a0_2] 24 (0, 0))) ∧ Aside0 (wc.heap[gb599]? = some (.cells #[(.slice Ao22 t594.length co22), .int .i64 t597, .int .i64 t598] 27 (0, 0))) ∧ Aside0 (Below w.heap.size w wc))
    case first =>
      have H := HC11.out
      clear HC11
      replace H := Option.bind_eq_some_iff.mp H
      obtain ⟨t604, A260, H⟩ := H
      replace H : (if t604 = true then (laws_FnExactFirstSolution.j0 k t590 t593 t600 t603 (t603 != t593) l0_0 a0_1 a0_2 t594 t597 t598) else (laws_FnExactFirstSolution.j0 k t590 t593 t600 t603 true l0_0 a0_1 a0_2 t594 t597 t598)) = some r := H
      have A26 := Aside0.mk A260
      clear A260
      by_cases c27 : t604 = true
      · subst c27
        have H1 : (laws_FnExactFirstSolution.j0 k t590 t593 t600 t603 (t603 != t593) l0_0 a0_1 a0_2 t594 t597 t598) = some r := by rw [if_pos rfl] at H; exact H
        clear H
        have H := H1
        clear H1
        have H' := Aside0.mk H
        clear H
        obtain ⟨Ao28, co28, eo28⟩ := Kd.R_slice HO602.out
        subst eo28
        obtain ⟨Ao29, co29, eo29⟩ := Kd.R_slice HO592.out
        subst eo29
        go_wp2_with (first | ((with_reducible refine gate_callee (f := 35) rfl ?_); refine goesL_ (some 34) rfl rfl Try.func35 (by kernel_rfl) rfl #[.slice Ao28 t600.length co28, .slice Ao29 t590.length co29] rfl (by (try simp only [List.map_toArray, List.map_cons, List.map_nil]); first | done | rfl | (simp only [List.length_drop, List.length_take]; rfl)) ?_; (with_reducible refine (laws_eqIntS.calls k _ _ t600 _ _ t590 true _ ?side1 ?side2 ?side3 ?side4 A26.out).mono ?_); (case side1 => repeat (first | exact (Kd.R_reads' HO602.out).2.2 | (with_reducible refine Kd.C_alloc ?_ _) | (with_reducible refine Kd.C_drewN ?_ _) | (with_reducible refine Kd.C_drew ?_))); (case side2 => exact (Kd.R_reads' HO602.out).2.1); (case side3 => repeat (first | exact (Kd.R_reads' HO592.out).2.2 | (with_reducible refine Kd.C_alloc ?_ _) | (with_reducible refine Kd.C_drewN ?_ _) | (with_reducible refine Kd.C_drew ?_))); (case side4 => exact (Kd.R_reads' HO592.out).2.1); rintro e w' ⟨rfl, ⟨nd, rfl⟩⟩; refine ⟨_, rfl, ?_⟩))
        go_meet
        case rel => exact ⟨_, ((t603 != t593)), (by first | rfl | (simp; done) | (simp [*]; done)), H', ⟨by first | omega | exact Nat.le_refl _⟩, ⟨by (with_reducible repeat (first | apply Kd.R_alloc | apply Kd.R_drewN | apply Kd.R_drew)); exact Kd.R_mono HO592.out (fun _ hk => ⟨hk.2, hk.1.2⟩)⟩, ⟨by (with_reducible repeat (first | apply Kd.R_alloc | apply Kd.R_drewN | apply Kd.R_drew)); exact Kd.R_mono HO602.out (fun _ hk => ⟨hk.1.2, hk.2⟩)⟩, ⟨by (with_reducible repeat (first | apply Kd.R_alloc | apply Kd.R_drewN | apply Kd.R_drew)); exact Kd.R_mono HO596.out (fun _ hk => ⟨hk.1.2, hk.2⟩)⟩, ⟨by (with_reducible repeat (first | refine blk_drewN ?_ _ | refine blk_drew ?_ | refine blk_alloc ?_ _)); exact BK583.out⟩, ⟨by (with_reducible repeat (first | refine blk_drewN ?_ _ | refine blk_drew ?_ | refine blk_alloc ?_ _)); exact BK599.out⟩, ⟨by repeat (first | (with_reducible first | exact HB.out | apply below_alloc | apply pw_below_drewN | apply below_drew1 | refine below_set ?_ GE583.out | refine below_set ?_ GE599.out) | exact HB.out)⟩⟩
      · replace c27 := Bool.eq_false_iff.mpr c27
        subst c27
        have H1 : (laws_FnExactFirstSolution.j0 k t590 t593 t600 t603 true l0_0 a0_1 a0_2 t594 t597 t598) = some r := by rw [if_neg (show ¬ (false = true) by decide)] at H; exact H
        clear H
        have H := H1
        clear H1
        have H' := Aside0.mk H
        clear H
        obtain ⟨Ao30, co30, eo30⟩ := Kd.R_slice HO602.out
        subst eo30
        obtain ⟨Ao31, co31, eo31⟩ := Kd.R_slice HO592.out
        subst eo31
        go_wp2_with (first | ((with_reducible refine gate_callee (f := 35) rfl ?_); refine goesL_ (some 34) rfl rfl Try.func35 (by kernel_rfl) rfl #[.slice Ao30 t600.length co30, .slice Ao31 t590.length co31] rfl (by (try simp only [List.map_toArray, List.map_cons, List.map_nil]); first | done | rfl | (simp only [List.length_drop, List.length_take]; rfl)) ?_; (with_reducible refine (laws_eqIntS.calls k _ _ t600 _ _ t590 false _ ?side1 ?side2 ?side3 ?side4 A26.out).mono ?_); (case side1 => repeat (first | exact (Kd.R_reads' HO602.out).2.2 | (with_reducible refine Kd.C_alloc ?_ _) | (with_reducible refine Kd.C_drewN ?_ _) | (with_reducible refine Kd.C_drew ?_))); (case side2 => exact (Kd.R_reads' HO602.out).2.1); (case side3 => repeat (first | exact (Kd.R_reads' HO592.out).2.2 | (with_reducible refine Kd.C_alloc ?_ _) | (with_reducible refine Kd.C_drewN ?_ _) | (with_reducible refine Kd.C_drew ?_))); (case side4 => exact (Kd.R_reads' HO592.out).2.1); rintro e w' ⟨rfl, ⟨nd, rfl⟩⟩; refine ⟨_, rfl, ?_⟩))
        go_meet
        case rel => exact ⟨_, (true), (by first | rfl | (simp; done) | (simp [*]; done)), H', ⟨by first | omega | exact Nat.le_refl _⟩, ⟨by (with_reducible repeat (first | apply Kd.R_alloc | apply Kd.R_drewN | apply Kd.R_drew)); exact Kd.R_mono HO592.out (fun _ hk => ⟨hk.2, hk.1.2⟩)⟩, ⟨by (with_reducible repeat (first | apply Kd.R_alloc | apply Kd.R_drewN | apply Kd.R_drew)); exact Kd.R_mono HO602.out (fun _ hk => ⟨hk.1.2, hk.2⟩)⟩, ⟨by (with_reducible repeat (first | apply Kd.R_alloc | apply Kd.R_drewN | apply Kd.R_drew)); exact Kd.R_mono HO596.out (fun _ hk => ⟨hk.1.2, hk.2⟩)⟩, ⟨by (with_reducible repeat (first | refine blk_drewN ?_ _ | refine blk_drew ?_ | refine blk_alloc ?_ _)); exact BK583.out⟩, ⟨by (with_reducible repeat (first | refine blk_drewN ?_ _ | refine blk_drew ?_ | refine blk_alloc ?_ _)); exact BK599.out⟩, ⟨by repeat (first | (with_reducible first | exact HB.out | apply below_alloc | apply pw_below_drewN | apply below_drew1 | refine below_set ?_ GE583.out | refine below_set ?_ GE599.out) | exact HB.out)⟩⟩
    case rest =>
      clear HC11
      try clear c1
      try clear c2
      try clear p2
      try clear c3
      try clear c3b0
      try clear c10
      try clear c15
      try clear c17
      try clear c23
      try clear c27
      try clear hcz13_0
      try clear hcz13_1
      try clear hcz13_2
      try clear hcz15_0
      try clear hcz15_1
      try clear hcz15_2
      try clear hcz19_0
      try clear hcz19_1
      try clear hcz19_2
      try clear hcz24_0
      try clear hcz24_1
      try clear hcz24_2
      try clear hcz5_0
      try clear hcz5_1
      try clear hcz5_2
      try clear hfz13_0
      try clear hfz13_1
      try clear hfz13_2
      try clear hfz15_0
      try clear hfz15_1
      try clear hfz15_2
      try clear hfz19_0
      try clear hfz19_1
      try clear hfz19_2
      try clear hfz24_0
      try clear hfz24_1
      try clear hfz24_2
      try clear hfz5_0
      try clear hfz5_1
      try clear hfz5_2
      obtain ⟨kq, x40_10, rfl, HA, HJ10, HO_4, HO_7, HO_600000, BK583, BK599, HB⟩ := hcut
      cases kq with
      | zero => exact absurd HA.out (by simp [laws_FnExactFirstSolution.j0])
      | succ kj10 =>
        have H := HA.out
        clear HA
        simp only [laws_FnExactFirstSolution.j0] at H
        by_cases c32 : x40_10 = true
        · subst c32
          have H1 : (some false) = some r := by rw [if_pos rfl] at H; exact H
          clear H
          have H := H1
          clear H1
          obtain rfl := Option.some.inj H
          go_wp2
          go_ret
          exact ⟨by first | rfl | (simp [errW_none, errW_some] <;> rfl) | (simp [*, errW_none, errW_some] <;> rfl), by repeat (first | (with_reducible first | exact HB.out | apply below_alloc | apply pw_below_drewN | apply below_drew1 | refine below_set ?_ GE583.out | refine below_set ?_ GE599.out) | exact HB.out)⟩
        · replace c32 := Bool.eq_false_iff.mpr c32
          subst c32
          have H1 : ((laws_toPuzzle.f kj10 l0_0 a0_1 a0_2).bind fun bt605 => ((laws_eqPuzzle.f kj10 t594 t597 t598 bt605.1 bt605.2.1 bt605.2.2).bind fun t610 => (if t610 = true then ((laws_markPuzzle.f kj10 t594 t597 t598 1).bind fun bt611 => (if bt611.1 < 0 then (laws_FnExactFirstSolution.j1 kj10 t590 t593 t600 true l0_0 a0_1 a0_2) else ((laws_eqIntS.f kj10 t600 t590).bind fun t613 => (if t613 = true then (laws_FnExactFirstSolution.j1 kj10 t590 t593 t600 (t603 != t593) l0_0 a0_1 a0_2) else (laws_FnExactFirstSolution.j1 kj10 t590 t593 t600 true l0_0 a0_1 a0_2))))) else (some false)))) = some r := by rw [if_neg (show ¬ (false = true) by decide)] at H; exact H
          clear H
          have H := H1
          clear H1
          replace H := Option.bind_eq_some_iff.mp H
          obtain ⟨⟨t605, t608, t609⟩, A330, H⟩ := H
          replace H : ((laws_eqPuzzle.f kj10 t594 t597 t598 t605 t608 t609).bind fun t610 => (if t610 = true then ((laws_markPuzzle.f kj10 t594 t597 t598 1).bind fun bt611 => (if bt611.1 < 0 then (laws_FnExactFirstSolution.j1 kj10 t590 t593 t600 true l0_0 a0_1 a0_2) else ((laws_eqIntS.f kj10 t600 t590).bind fun t613 => (if t613 = true then (laws_FnExactFirstSolution.j1 kj10 t590 t593 t600 (t603 != t593) l0_0 a0_1 a0_2) else (laws_FnExactFirstSolution.j1 kj10 t590 t593 t600 true l0_0 a0_1 a0_2))))) else (some false))) = some r := H
          have A33 := Aside0.mk A330
          clear A330
          replace H := Option.bind_eq_some_iff.mp H
          obtain ⟨t610, A340, H⟩ := H
          replace H : (if t610 = true then ((laws_markPuzzle.f kj10 t594 t597 t598 1).bind fun bt611 => (if bt611.1 < 0 then (laws_FnExactFirstSolution.j1 kj10 t590 t593 t600 true l0_0 a0_1 a0_2) else ((laws_eqIntS.f kj10 t600 t590).bind fun t613 => (if t613 = true then (laws_FnExactFirstSolution.j1 kj10 t590 t593 t600 (t603 != t593) l0_0 a0_1 a0_2) else (laws_FnExactFirstSolution.j1 kj10 t590 t593 t600 true l0_0 a0_1 a0_2))))) else (some false)) = some r := H
          have A34 := Aside0.mk A340
          clear A340
          by_cases c35 : t610 = true
          · subst c35
            have H1 : ((laws_markPuzzle.f kj10 t594 t597 t598 1).bind fun bt611 => (if bt611.1 < 0 then (laws_FnExactFirstSolution.j1 kj10 t590 t593 t600 true l0_0 a0_1 a0_2) else ((laws_eqIntS.f kj10 t600 t590).bind fun t613 => (if t613 = true then (laws_FnExactFirstSolution.j1 kj10 t590 t593 t600 (t603 != t593) l0_0 a0_1 a0_2) else (laws_FnExactFirstSolution.j1 kj10 t590 t593 t600 true l0_0 a0_1 a0_2))))) = some r := by rw [if_pos rfl] at H; exact H
            clear H
            have H := H1
            clear H1
            replace H := Option.bind_eq_some_iff.mp H
            obtain ⟨⟨t611, t612⟩, A360, H⟩ := H
            replace H : (if t611 < 0 then (laws_FnExactFirstSolution.j1 kj10 t590 t593 t600 true l0_0 a0_1 a0_2) else ((laws_eqIntS.f kj10 t600 t590).bind fun t613 => (if t613 = true then (laws_FnExactFirstSolution.j1 kj10 t590 t593 t600 (t603 != t593) l0_0 a0_1 a0_2) else (laws_FnExactFirstSolution.j1 kj10 t590 t593 t600 true l0_0 a0_1 a0_2)))) = some r := H
            have A36 := Aside0.mk A360
            clear A360
            have HC37 := Aside0.mk H
            clear H
            try go_wp2
            have n0_ := Aside0.mk (Kd.R_drew HO_4.out)
            have n1_ := Aside0.mk (Kd.R_drew HO_7.out)
            have n2_ := Aside0.mk (Kd.R_drew HO_600000.out)
            have n3_ := Aside0.mk (blk_drew BK583.out)
            have n4_ := Aside0.mk (blk_drew BK599.out)
            have n5_ := Aside0.mk (below_drew1 HB.out)
            clear HO_4
            clear HO_7
            clear HO_600000
            clear BK583
            clear BK599
            clear HB
            have HO_4 := n0_
            have HO_7 := n1_
            have HO_600000 := n2_
            have BK583 := n3_
            have BK599 := n4_
            have HB := n5_
            clear n0_ n1_ n2_ n3_ n4_ n5_
            refine start_ (n := 5) (S := fun w' => w'.cell? ⟨gb599, 0, none⟩ = some (.slice Ao22 t594.length co22) ∧ w'.cell? ⟨gb599, 1, none⟩ = some (.int .i64 t597) ∧ w'.cell? ⟨gb599, 2, none⟩ = some (.int .i64 t598) ∧ w'.cell? ⟨gb583, 0, none⟩ = some (.slice A0_0 l0_0.length c0_0) ∧ w'.cell? ⟨gb583, 1, none⟩ = some (.int .i64 a0_1) ∧ w'.cell? ⟨gb583, 2, none⟩ = some (.int .i64 a0_2)) (ds := []) #[false, false, false, false, false] (by kernel_rfl) rfl rfl ⟨(blk_cell BK599.out 0).trans rfl, (blk_cell BK599.out 1).trans rfl, (blk_cell BK599.out 2).trans rfl, (blk_cell BK583.out 0).trans rfl, (blk_cell BK583.out 1).trans rfl, (blk_cell BK583.out 2).trans rfl⟩ (fun hHeld => ?_)
            generalize wc.drew = w38 at HO_4 HO_7 HO_600000 BK583 BK599 HB hHeld ⊢
            refine take_ (i := 0) (N := some 41) (v := ?_) (a' := ?_) #[true, false, false, false, false] rfl rfl (by kernel_rfl) (fun _ _ _ h => h) (Or.inl ⟨by rfl, ?_⟩) hHeld ?_ ?_
            rotate_left
            · rintro w' ⟨s0, s1, s2, s3, s4, s5⟩
              go_simp
              with_reducible rfl
            rotate_left
            · simp only [Act.put, List.setIfInBounds_toArray, List.set_cons_zero, List.set_cons_succ, i64_w, i32_w]
              rfl
            refine take_ (i := 1) (N := some 42) (v := ?_) (a' := ?_) #[true, true, false, false, false] rfl rfl (by kernel_rfl) (fun _ _ _ h => h) (Or.inl ⟨by rfl, ?_⟩) hHeld ?_ ?_
            rotate_left
            · rintro w' ⟨s0, s1, s2, s3, s4, s5⟩
              go_simp
              with_reducible rfl
            rotate_left
            · simp only [Act.put, List.setIfInBounds_toArray, List.set_cons_zero, List.set_cons_succ, i64_w, i32_w]
              rfl
            refine one_ (i := 2) (N := some 43) #[true, true, true, false, false] rfl rfl (by kernel_rfl) (by decide) (fun K hK => ?_)
            refine goes_ Try.func17 (by kernel_rfl) rfl #[.agg #[.slice A0_0 l0_0.length c0_0, .int .i64 a0_1, .int .i64 a0_2]] (by rfl) rfl rfl (by (try simp only [List.map_toArray, List.map_cons, List.map_nil]); first | done | rfl | (simp only [List.length_drop, List.length_take]; rfl)) ?_
            with_reducible refine (laws_toPuzzle.calls kj10 _ _ l0_0 a0_1 a0_2 t605 t608 t609 _ ?side1 ?side2 A33.out).mono ?_
            (case side1 => repeat (first | exact (Kd.C_below HR0_0.out HB.out) | (with_reducible refine Kd.C_alloc ?_ _) | (with_reducible refine Kd.C_drewN ?_ _) | (with_reducible refine Kd.C_drew ?_)))
            (case side2 => exact HC0_0.out)
            rintro e w39 ⟨v606, rfl, ho0, hb⟩
            refine ⟨_, rfl, ?_⟩
            have n0_ := Aside0.mk (Kd.R_elder' (by (with_reducible repeat (first | apply Kd.R_alloc | apply Kd.R_drewN | apply Kd.R_drew)); exact HO_4.out) (Kd.R_base ho0) hb)
            have n1_ := Aside0.mk (Kd.R_elder' (by (with_reducible repeat (first | apply Kd.R_alloc | apply Kd.R_drewN | apply Kd.R_drew)); exact HO_7.out) (Kd.R_base ho0) hb)
            have n2_ := Aside0.mk (Kd.R_elder' (by (with_reducible repeat (first | apply Kd.R_alloc | apply Kd.R_drewN | apply Kd.R_drew)); exact HO_600000.out) (Kd.R_base ho0) hb)
            have n3_ := Aside0.mk (Kd.R_lower (Kd.R_new' (Kd.R_new' (Kd.R_new' ho0 (Kd.R_lt (by (with_reducible repeat (first | apply Kd.R_alloc | apply Kd.R_drewN | apply Kd.R_drew)); exact HO_4.out))) (Kd.R_lt (by (with_reducible repeat (first | apply Kd.R_alloc | apply Kd.R_drewN | apply Kd.R_drew)); exact HO_7.out))) (Kd.R_lt (by (with_reducible repeat (first | apply Kd.R_alloc | apply Kd.R_drewN | apply Kd.R_drew)); exact HO_600000.out))) (below_size (by repeat (first | (with_reducible first | exact HB.out | apply below_alloc | apply pw_below_drewN | apply below_drew1 | refine below_set ?_ GE583.out | refine below_set ?_ GE599.out) | exact HB.out))))
            have n4_ := Aside0.mk (blk_below (g := gb583) (o := .cells #[.slice A0_0 l0_0.length c0_0, .int .i64 a0_1, .int .i64 a0_2] 24 (0, 0)) (by (with_reducible repeat (first | refine blk_drewN ?_ _ | refine blk_drew ?_ | refine blk_alloc ?_ _)); exact BK583.out) hb)
            have n5_ := Aside0.mk (blk_below (g := gb599) (o := .cells #[.slice Ao22 t594.length co22, .int .i64 t597, .int .i64 t598] 27 (0, 0)) (by (with_reducible repeat (first | refine blk_drewN ?_ _ | refine blk_drew ?_ | refine blk_alloc ?_ _)); exact BK599.out) hb)
            have n6_ := Aside0.mk (below_step (by repeat (first | (with_reducible first | exact HB.out | apply below_alloc | apply pw_below_drewN | apply below_drew1 | refine below_set ?_ GE583.out | refine below_set ?_ GE599.out) | exact HB.out)) hb)
            clear HO_4
            clear HO_7
            clear HO_600000
            clear BK583
            clear BK599
            clear HB
            have HO_4 := n0_
            have HO_7 := n1_
            have HO_600000 := n2_
            have HO607 := n3_
            have BK583 := n4_
            have BK599 := n5_
            have HB := n6_
            clear n0_ n1_ n2_ n3_ n4_ n5_ n6_
            (try clear hb)
            (try clear hb2)
            (try clear hk)
            (try clear hi)
            (try clear ho0)
            obtain ⟨Ao40, co40, eo40⟩ := Kd.R_slice HO607.out
            (first | subst eo40 | (injection eo40 with f1_ f2_ f3_; have f4_ := f1_.symm; have f5_ := f3_.symm; clear f1_ f2_ f3_; subst f4_; subst f5_))
            refine hK.out _ _ ⟨(blk_cell BK599.out 0).trans rfl, (blk_cell BK599.out 1).trans rfl, (blk_cell BK599.out 2).trans rfl, (blk_cell BK583.out 0).trans rfl, (blk_cell BK583.out 1).trans rfl, (blk_cell BK583.out 2).trans rfl⟩ (fun hHeld => ?_)
            clear hK K
            refine norm_ (a' := ?_) ?_ ?_
            rotate_left
            · show Act.put _ (some 43) _ = _
              simp only [Act.put, List.setIfInBounds_toArray, List.set_cons_zero, List.set_cons_succ, i64_w, i32_w]
              rfl
            refine one_ (i := 3) (N := some 44) #[true, true, true, true, false] rfl rfl (by kernel_rfl) (by decide) (fun K hK => ?_)
            refine goes_ Try.func19 (by kernel_rfl) rfl #[.agg #[.slice Ao22 t594.length co22, .int .i64 t597, .int .i64 t598], .agg #[.slice Ao40 t605.length co40, .int .i64 t608, .int .i64 t609]] (by rfl) rfl rfl (by (try simp only [List.map_toArray, List.map_cons, List.map_nil]); first | done | rfl | (simp only [List.length_drop, List.length_take]; rfl)) ?_
            with_reducible refine (laws_eqPuzzle.calls kj10 _ _ t594 t597 t598 _ _ t605 t608 t609 true _ ?side1 ?side2 ?side3 ?side4 A34.out).mono ?_
            (case side1 => repeat (first | exact (Kd.R_reads' HO_600000.out).2.2 | (with_reducible refine Kd.C_alloc ?_ _) | (with_reducible refine Kd.C_drewN ?_ _) | (with_reducible refine Kd.C_drew ?_)))
            (case side2 => exact (Kd.R_reads' HO_600000.out).2.1)
            (case side3 => repeat (first | exact (Kd.R_reads' HO607.out).2.2 | (with_reducible refine Kd.C_alloc ?_ _) | (with_reducible refine Kd.C_drewN ?_ _) | (with_reducible refine Kd.C_drew ?_)))
            (case side4 => exact (Kd.R_reads' HO607.out).2.1)
            rintro e w41 ⟨rfl, hb⟩
            refine ⟨_, rfl, ?_⟩
            have n0_ := Aside0.mk (Kd.R_below (by (with_reducible repeat (first | apply Kd.R_alloc | apply Kd.R_drewN | apply Kd.R_drew)); exact HO_4.out) hb)
            have n1_ := Aside0.mk (Kd.R_below (by (with_reducible repeat (first | apply Kd.R_alloc | apply Kd.R_drewN | apply Kd.R_drew)); exact HO_7.out) hb)
            have n2_ := Aside0.mk (Kd.R_below (by (with_reducible repeat (first | apply Kd.R_alloc | apply Kd.R_drewN | apply Kd.R_drew)); exact HO_600000.out) hb)
            have n3_ := Aside0.mk (Kd.R_below (by (with_reducible repeat (first | apply Kd.R_alloc | apply Kd.R_drewN | apply Kd.R_drew)); exact HO607.out) hb)
            have n4_ := Aside0.mk (blk_below (g := gb583) (o := .cells #[.slice A0_0 l0_0.length c0_0, .int .i64 a0_1, .int .i64 a0_2] 24 (0, 0)) (by (with_reducible repeat (first | refine blk_drewN ?_ _ | refine blk_drew ?_ | refine blk_alloc ?_ _)); exact BK583.out) hb)
            have n5_ := Aside0.mk (blk_below (g := gb599) (o := .cells #[.slice Ao22 t594.length co22, .int .i64 t597, .int .i64 t598] 27 (0, 0)) (by (with_reducible repeat (first | refine blk_drewN ?_ _ | refine blk_drew ?_ | refine blk_alloc ?_ _)); exact BK599.out) hb)
            have n6_ := Aside0.mk (below_step (by repeat (first | (with_reducible first | exact HB.out | apply below_alloc | apply pw_below_drewN | apply below_drew1 | refine below_set ?_ GE583.out | refine below_set ?_ GE599.out) | exact HB.out)) hb)
            clear HO_4
            clear HO_7
            clear HO_600000
            clear HO607
            clear BK583
            clear BK599
            clear HB
            have HO_4 := n0_
            have HO_7 := n1_
            have HO_600000 := n2_
            have HO607 := n3_
            have BK583 := n4_
            have BK599 := n5_
            have HB := n6_
            clear n0_ n1_ n2_ n3_ n4_ n5_ n6_
            (try clear hb)
            (try clear hb2)
            (try clear hk)
            (try clear hi)
            refine hK.out _ _ ⟨(blk_cell BK599.out 0).trans rfl, (blk_cell BK599.out 1).trans rfl, (blk_cell BK599.out 2).trans rfl, (blk_cell BK583.out 0).trans rfl, (blk_cell BK583.out 1).trans rfl, (blk_cell BK583.out 2).trans rfl⟩ (fun hHeld => ?_)
            clear hK K
            refine norm_ (a' := ?_) ?_ ?_
            rotate_left
            · show Act.put _ (some 44) _ = _
              simp only [Act.put, List.setIfInBounds_toArray, List.set_cons_zero, List.set_cons_succ, i64_w, i32_w]
              rfl
            refine pure_ (i := 4) (N := some 45) (v := ?_) (a' := ?_) #[true, true, true, true, true] rfl rfl (by kernel_rfl) (fun _ _ _ h => h) (Or.inl ⟨by rfl, ?_⟩) ?_ ?_
            rotate_left
            · intro w'
              go_simp
              with_reducible rfl
            rotate_left
            · simp only [Act.put, List.setIfInBounds_toArray, List.set_cons_zero, List.set_cons_succ, i64_w, i32_w]
              rfl
            refine done_ (by kernel_rfl) ?_
            have hnb42 := NB599_583.out
            have hnc42 := NB583_599.out
            have hcz43_0 : w41.cell? ⟨gb599, 0, none⟩ = some (.slice Ao22 t594.length co22) := (blk_cell BK599.out 0).trans rfl
            have hcz43_1 : w41.cell? ⟨gb599, 1, none⟩ = some (.int .i64 t597) := (blk_cell BK599.out 1).trans rfl
            have hcz43_2 : w41.cell? ⟨gb599, 2, none⟩ = some (.int .i64 t598) := (blk_cell BK599.out 2).trans rfl
            have hfz43_0 := blk_frozen BK599.out 0
            have hfz43_1 := blk_frozen BK599.out 1
            have hfz43_2 := blk_frozen BK599.out 2
            go_upto_region 14 with (first | ((with_reducible refine gate_callee (f := 24) rfl ?_); refine goesL_ (some 48) rfl rfl Try.func24 (by kernel_rfl) rfl #[.agg #[.slice Ao22 t594.length co22, .int .i64 t597, .int .i64 t598], .int .i64 1] rfl (by (try simp only [List.map_toArray, List.map_cons, List.map_nil]); first | done | rfl | (simp only [List.length_drop, List.length_take]; rfl)) ?_; (with_reducible refine (laws_markPuzzle.calls kj10 (fun k_ => some k_ = (.slice Ao22 t594.length co22 : Value).ownBlock) (.slice Ao22 t594.length co22) t594 t597 t598 1 t611 t612 w _ ?side1 ?side2 A36.out).mono ?_); (case side1 => repeat (first | (with_reducible first | exact HB.out | apply below_alloc | apply pw_below_drewN | apply below_drew1 | refine below_set ?_ GE583.out | refine below_set ?_ GE599.out) | exact HB.out)); (case side2 => exact Kd.R_tight rfl HO_600000.out); rintro e w44 ⟨rfl, hy0, hb, hkp⟩; refine ⟨_, rfl, ?_⟩; have n0_ := Aside0.mk (Kd.R_mono (ok' := fun k_ => some k_ ≠ (v601 : Value).ownBlock ∧ some k_ ≠ (.slice Ao22 t594.length co22 : Value).ownBlock ∧ some k_ ≠ (.slice Ao40 t605.length co40 : Value).ownBlock) (Kd.R_keptB (HO_4.out) hkp (fun k_ hk_ hs_ => (hk_.1.2) hs_)) (fun k_ hk_ => ⟨hk_.1.1.1, hk_.1.1.2, hk_.1.2⟩)); have n1_ := Aside0.mk (Kd.R_mono (ok' := fun k_ => some k_ ≠ (v591 : Value).ownBlock ∧ some k_ ≠ (.slice Ao22 t594.length co22 : Value).ownBlock ∧ some k_ ≠ (.slice Ao40 t605.length co40 : Value).ownBlock) (Kd.R_keptB (HO_7.out) hkp (fun k_ hk_ hs_ => (hk_.1.2) hs_)) (fun k_ hk_ => ⟨hk_.1.1.1, hk_.1.1.2, hk_.1.2⟩)); have n2_ := Aside0.mk (Kd.R_reok rfl hy0 (fun k_ e_ => HO_600000.out.1 k_ e_)); have n3_ := Aside0.mk (blk_kept (by (with_reducible repeat (first | refine blk_drewN ?_ _ | refine blk_drew ?_ | refine blk_alloc ?_ _)); exact BK583.out) hkp (fun hs_ => (fun e_ => (Kd.R_ne HO_600000.out BK583.out (by decide)) e_) hs_)); have n4_ := Aside0.mk (blk_kept (by (with_reducible repeat (first | refine blk_drewN ?_ _ | refine blk_drew ?_ | refine blk_alloc ?_ _)); exact BK599.out) hkp (fun hs_ => (fun e_ => (Kd.R_ne HO_600000.out BK599.out (by decide)) e_) hs_)); have n5_ := Aside0.mk (Kd.R_mono (ok' := fun k_ => some k_ ≠ (v591 : Value).ownBlock ∧ some k_ ≠ (v601 : Value).ownBlock ∧ some k_ ≠ (.slice Ao22 t594.length co22 : Value).ownBlock) (Kd.R_keptB (HO607.out) hkp (fun k_ hk_ hs_ => (hk_.2) hs_)) (fun k_ hk_ => ⟨hk_.1.1.1.2, hk_.1.1.2, hk_.1.2⟩)); have n6_ := Aside0.mk (hb); clear HO_4; clear HO_7; clear HO_600000; clear BK583; clear BK599; clear HO607; clear HB; have HO_4 := n0_; have HO_7 := n1_; have HO_600000 := n2_; have BK583 := n3_; have BK599 := n4_; have HO607 := n5_; have HB := n6_; clear n0_ n1_ n2_ n3_ n4_ n5_ n6_; (try clear hb); (try clear hkp); (try clear hy0)))
            (try simp only [Act.put, List.setIfInBounds_toArray, List.set_cons_zero, List.set_cons_succ])
            go_cut [61] (fun v61 wc => ∃ (kq : Nat) (x61_36 : Bool), v61 = .bool x61_36 ∧ Aside0 (laws_FnExactFirstSolution.j1 kq t590 t593 t600 x61_36 l0_0 a0_1 a0_2 = some r) ∧ Aside0 (kq ≤ kj10) ∧ Aside0 (Kd.R (Kd.int .i64) 3 wc w.heap.size (fun k_ => some k_ ≠ (v601 : Value).ownBlock ∧ some k_ ≠ ((.slice Ao22 t594.length co22) : Value).ownBlock) v591 t590) ∧ Aside0 (Kd.R (Kd.int .i64) 3 wc w.heap.size (fun k_ => some k_ ≠ (v591 : Value).ownBlock ∧ some k_ ≠ ((.slice Ao22 t594.length co22) : Value).ownBlock) v601 t600) ∧ Aside0 (Kd.R (Kd.int .i64) 3 wc w.heap.size (fun k_ => some k_ ≠ (v591 : Value).ownBlock ∧ some k_ ≠ (v601 : Value).ownBlock) (.slice Ao22 t594.length co22) t612) ∧ Aside0 (wc.heap[gb583]? = some (.cells #[(.slice A0_0 l0_0.length c0_0), .int .i64 a0_1, .int .i64 a0_2] 24 (0, 0))) ∧ Aside0 (wc.heap[gb599]? = some (.cells #[(.slice Ao22 t594.length co22), .int .i64 t597, .int .i64 t598] 27 (0, 0))) ∧ Aside0 (Below w.heap.size w wc))
            case first =>
              have H := HC37.out
              clear HC37
              by_cases c45 : t611 < 0
              · rw [if_pos c45] at H
                have c45b0 : decide (t611 < 0) = true := decide_eq_true c45
                clear c45
                (first | rw [c45b0] | (simp only [i64_w, i32_w]; rw [c45b0]) | skip)
                have H' := Aside0.mk H
                clear H
                go_wp2
                go_meet
                case rel => exact ⟨_, (true), (by first | rfl | (simp; done) | (simp [*]; done)), H', ⟨by have := HJ10.out; first | omega | exact Nat.le_refl _⟩, ⟨by (with_reducible repeat (first | apply Kd.R_alloc | apply Kd.R_drewN | apply Kd.R_drew)); exact Kd.R_mono HO_4.out (fun _ hk => ⟨hk.1, hk.2.1⟩)⟩, ⟨by (with_reducible repeat (first | apply Kd.R_alloc | apply Kd.R_drewN | apply Kd.R_drew)); exact Kd.R_mono HO_7.out (fun _ hk => ⟨hk.1, hk.2.1⟩)⟩, ⟨by (with_reducible repeat (first | apply Kd.R_alloc | apply Kd.R_drewN | apply Kd.R_drew)); exact Kd.R_mono HO_600000.out (fun _ hk => ⟨hk.1.1, hk.1.2⟩)⟩, ⟨by (with_reducible repeat (first | refine blk_drewN ?_ _ | refine blk_drew ?_ | refine blk_alloc ?_ _)); exact BK583.out⟩, ⟨by (with_reducible repeat (first | refine blk_drewN ?_ _ | refine blk_drew ?_ | refine blk_alloc ?_ _)); exact BK599.out⟩, ⟨by repeat (first | (with_reducible first | exact HB.out | apply below_alloc | apply pw_below_drewN | apply below_drew1 | refine below_set ?_ GE583.out | refine below_set ?_ GE599.out) | exact HB.out)⟩⟩
              · rw [if_neg c45] at H
                have c45b0 : decide (t611 < 0) = false := decide_eq_false c45
                clear c45
                (first | rw [c45b0] | (simp only [i64_w, i32_w]; rw [c45b0]) | skip)
                replace H := Option.bind_eq_some_iff.mp H
                obtain ⟨t613, A460, H⟩ := H
                replace H : (if t613 = true then (laws_FnExactFirstSolution.j1 kj10 t590 t593 t600 (t603 != t593) l0_0 a0_1 a0_2) else (laws_FnExactFirstSolution.j1 kj10 t590 t593 t600 true l0_0 a0_1 a0_2)) = some r := H
                have A46 := Aside0.mk A460
                clear A460
                by_cases c47 : t613 = true
                · subst c47
                  have H1 : (laws_FnExactFirstSolution.j1 kj10 t590 t593 t600 (t603 != t593) l0_0 a0_1 a0_2) = some r := by rw [if_pos rfl] at H; exact H
                  clear H
                  have H := H1
                  clear H1
                  have H' := Aside0.mk H
                  clear H
                  obtain ⟨Ao48, co48, eo48⟩ := Kd.R_slice HO_7.out
                  subst eo48
                  obtain ⟨Ao49, co49, eo49⟩ := Kd.R_slice HO_4.out
                  subst eo49
                  go_wp2_with (first | (go_at_call 35; (with_reducible refine (laws_eqIntS.calls kj10 _ _ t600 _ _ t590 true _ ?side1 ?side2 ?side3 ?side4 A46.out).mono ?_); (case side1 => repeat (first | exact (Kd.R_reads' HO_7.out).2.2 | (with_reducible refine Kd.C_alloc ?_ _) | (with_reducible refine Kd.C_drewN ?_ _) | (with_reducible refine Kd.C_drew ?_))); (case side2 => exact (Kd.R_reads' HO_7.out).2.1); (case side3 => repeat (first | exact (Kd.R_reads' HO_4.out).2.2 | (with_reducible refine Kd.C_alloc ?_ _) | (with_reducible refine Kd.C_drewN ?_ _) | (with_reducible refine Kd.C_drew ?_))); (case side4 => exact (Kd.R_reads' HO_4.out).2.1); rintro e w' ⟨rfl, ⟨nd, rfl⟩⟩))
                  go_meet
                  case rel => exact ⟨_, ((t603 != t593)), (by first | rfl | (simp; done) | (simp [*]; done)), H', ⟨by have := HJ10.out; first | omega | exact Nat.le_refl _⟩, ⟨by (with_reducible repeat (first | apply Kd.R_alloc | apply Kd.R_drewN | apply Kd.R_drew)); exact Kd.R_mono HO_4.out (fun _ hk => ⟨hk.1, hk.2.1⟩)⟩, ⟨by (with_reducible repeat (first | apply Kd.R_alloc | apply Kd.R_drewN | apply Kd.R_drew)); exact Kd.R_mono HO_7.out (fun _ hk => ⟨hk.1, hk.2.1⟩)⟩, ⟨by (with_reducible repeat (first | apply Kd.R_alloc | apply Kd.R_drewN | apply Kd.R_drew)); exact Kd.R_mono HO_600000.out (fun _ hk => ⟨hk.1.1, hk.1.2⟩)⟩, ⟨by (with_reducible repeat (first | refine blk_drewN ?_ _ | refine blk_drew ?_ | refine blk_alloc ?_ _)); exact BK583.out⟩, ⟨by (with_reducible repeat (first | refine blk_drewN ?_ _ | refine blk_drew ?_ | refine blk_alloc ?_ _)); exact BK599.out⟩, ⟨by repeat (first | (with_reducible first | exact HB.out | apply below_alloc | apply pw_below_drewN | apply below_drew1 | refine below_set ?_ GE583.out | refine below_set ?_ GE599.out) | exact HB.out)⟩⟩
                · replace c47 := Bool.eq_false_iff.mpr c47
                  subst c47
                  have H1 : (laws_FnExactFirstSolution.j1 kj10 t590 t593 t600 true l0_0 a0_1 a0_2) = some r := by rw [if_neg (show ¬ (false = true) by decide)] at H; exact H
                  clear H
                  have H := H1
                  clear H1
                  have H' := Aside0.mk H
                  clear H
                  obtain ⟨Ao50, co50, eo50⟩ := Kd.R_slice HO_7.out
                  subst eo50
                  obtain ⟨Ao51, co51, eo51⟩ := Kd.R_slice HO_4.out
                  subst eo51
                  go_wp2_with (first | (go_at_call 35; (with_reducible refine (laws_eqIntS.calls kj10 _ _ t600 _ _ t590 false _ ?side1 ?side2 ?side3 ?side4 A46.out).mono ?_); (case side1 => repeat (first | exact (Kd.R_reads' HO_7.out).2.2 | (with_reducible refine Kd.C_alloc ?_ _) | (with_reducible refine Kd.C_drewN ?_ _) | (with_reducible refine Kd.C_drew ?_))); (case side2 => exact (Kd.R_reads' HO_7.out).2.1); (case side3 => repeat (first | exact (Kd.R_reads' HO_4.out).2.2 | (with_reducible refine Kd.C_alloc ?_ _) | (with_reducible refine Kd.C_drewN ?_ _) | (with_reducible refine Kd.C_drew ?_))); (case side4 => exact (Kd.R_reads' HO_4.out).2.1); rintro e w' ⟨rfl, ⟨nd, rfl⟩⟩))
                  go_meet
                  case rel => exact ⟨_, (true), (by first | rfl | (simp; done) | (simp [*]; done)), H', ⟨by have := HJ10.out; first | omega | exact Nat.le_refl _⟩, ⟨by (with_reducible repeat (first | apply Kd.R_alloc | apply Kd.R_drewN | apply Kd.R_drew)); exact Kd.R_mono HO_4.out (fun _ hk => ⟨hk.1, hk.2.1⟩)⟩, ⟨by (with_reducible repeat (first | apply Kd.R_alloc | apply Kd.R_drewN | apply Kd.R_drew)); exact Kd.R_mono HO_7.out (fun _ hk => ⟨hk.1, hk.2.1⟩)⟩, ⟨by (with_reducible repeat (first | apply Kd.R_alloc | apply Kd.R_drewN | apply Kd.R_drew)); exact Kd.R_mono HO_600000.out (fun _ hk => ⟨hk.1.1, hk.1.2⟩)⟩, ⟨by (with_reducible repeat (first | refine blk_drewN ?_ _ | refine blk_drew ?_ | refine blk_alloc ?_ _)); exact BK583.out⟩, ⟨by (with_reducible repeat (first | refine blk_drewN ?_ _ | refine blk_drew ?_ | refine blk_alloc ?_ _)); exact BK599.out⟩, ⟨by repeat (first | (with_reducible first | exact HB.out | apply below_alloc | apply pw_below_drewN | apply below_drew1 | refine below_set ?_ GE583.out | refine below_set ?_ GE599.out) | exact HB.out)⟩⟩
            case rest =>
              clear HC37
              try clear c1
              try clear c2
              try clear p2
              try clear c3
              try clear c3b0
              try clear c4
              try clear c10
              try clear c15
              try clear c17
              try clear c19
              try clear c23
              try clear c24
              try clear c27
              try clear c32
              try clear c35
              try clear c36
              try clear c37
              try clear c42
              try clear c45
              try clear c45b0
              try clear c47
              try clear hcz13_0
              try clear hcz13_1
              try clear hcz13_2
              try clear hcz15_0
              try clear hcz15_1
              try clear hcz15_2
              try clear hcz19_0
              try clear hcz19_1
              try clear hcz19_2
              try clear hcz24_0
              try clear hcz24_1
              try clear hcz24_2
              try clear hcz43_0
              try clear hcz43_1
              try clear hcz43_2
              try clear hcz5_0
              try clear hcz5_1
              try clear hcz5_2
              try clear hfz13_0
              try clear hfz13_1
              try clear hfz13_2
              try clear hfz15_0
              try clear hfz15_1
              try clear hfz15_2
              try clear hfz19_0
              try clear hfz19_1
              try clear hfz19_2
              try clear hfz24_0
              try clear hfz24_1
              try clear hfz24_2
              try clear hfz43_0
              try clear hfz43_1
              try clear hfz43_2
              try clear hfz5_0
              try clear hfz5_1
              try clear hfz5_2
              try clear p2
              obtain ⟨kq, x61_36, rfl, HA, HJ36, HO_4, HO_7, HO_600000, BK583, BK599, HB⟩ := hcut
              have hl600000_36 := (Kd.R_reads' HO_600000.out).1
              rw [hl600000_36] at HO_600000
              (try simp only [hl600000_36])
              (try simp only [hl600000_36] at BK583)
              (try simp only [hl600000_36] at BK599)
              (try simp only [hl600000_36] at HO_4)
              (try simp only [hl600000_36] at HO_7)
              cases kq with
              | zero => exact absurd HA.out (by simp [laws_FnExactFirstSolution.j1])
              | succ kj36 =>
                have H := HA.out
                clear HA
                simp only [laws_FnExactFirstSolution.j1] at H
                by_cases c52 : x61_36 = true
                · subst c52
                  have H1 : (some false) = some r := by rw [if_pos rfl] at H; exact H
                  clear H
                  have H := H1
                  clear H1
                  obtain rfl := Option.some.inj H
                  go_wp2
                  go_ret
                  exact ⟨by first | rfl | (simp [errW_none, errW_some] <;> rfl) | (simp [*, errW_none, errW_some] <;> rfl), by repeat (first | (with_reducible first | exact HB.out | apply below_alloc | apply pw_below_drewN | apply below_drew1 | refine below_set ?_ GE583.out | refine below_set ?_ GE599.out) | exact HB.out)⟩
                · replace c52 := Bool.eq_false_iff.mpr c52
                  subst c52
                  have H1 : ((laws_markIntS.f kj36 t600 1).bind fun bt614 => ((laws_heldIntS.f kj36 bt614.2 1).bind fun t616 => (if t616 < 0 then (some false) else (if t616 = bt614.1 then ((laws_toPuzzle.f kj36 l0_0 a0_1 a0_2).bind fun bt617 => ((impl_FirstSolution.f kj36 bt617.1 bt617.2.1 bt617.2.2).bind fun bt622 => ((laws_eqIntS.f kj36 bt622.1 t590).bind fun t626 => (if t626 = true then (laws_FnExactFirstSolution.j2 kj36 bt614.2 bt614.1 (bt622.2 != t593)) else (laws_FnExactFirstSolution.j2 kj36 bt614.2 bt614.1 true))))) else (some false))))) = some r := by rw [if_neg (show ¬ (false = true) by decide)] at H; exact H
                  clear H
                  have H := H1
                  clear H1
                  replace H := Option.bind_eq_some_iff.mp H
                  obtain ⟨⟨t614, t615⟩, A530, H⟩ := H
                  replace H : ((laws_heldIntS.f kj36 t615 1).bind fun t616 => (if t616 < 0 then (some false) else (if t616 = t614 then ((laws_toPuzzle.f kj36 l0_0 a0_1 a0_2).bind fun bt617 => ((impl_FirstSolution.f kj36 bt617.1 bt617.2.1 bt617.2.2).bind fun bt622 => ((laws_eqIntS.f kj36 bt622.1 t590).bind fun t626 => (if t626 = true then (laws_FnExactFirstSolution.j2 kj36 t615 t614 (bt622.2 != t593)) else (laws_FnExactFirstSolution.j2 kj36 t615 t614 true))))) else (some false)))) = some r := H
                  have A53 := Aside0.mk A530
                  clear A530
                  replace H := Option.bind_eq_some_iff.mp H
                  obtain ⟨t616, A540, H⟩ := H
                  replace H : (if t616 < 0 then (some false) else (if t616 = t614 then ((laws_toPuzzle.f kj36 l0_0 a0_1 a0_2).bind fun bt617 => ((impl_FirstSolution.f kj36 bt617.1 bt617.2.1 bt617.2.2).bind fun bt622 => ((laws_eqIntS.f kj36 bt622.1 t590).bind fun t626 => (if t626 = true then (laws_FnExactFirstSolution.j2 kj36 t615 t614 (bt622.2 != t593)) else (laws_FnExactFirstSolution.j2 kj36 t615 t614 true))))) else (some false))) = some r := H
                  have A54 := Aside0.mk A540
                  clear A540
                  by_cases c55 : t616 < 0
                  · rw [if_pos c55] at H
                    have c55b0 : decide (t616 < 0) = true := decide_eq_true c55
                    clear c55
                    obtain rfl := Option.some.inj H
                    obtain ⟨Ao56, co56, eo56⟩ := Kd.R_slice HO_7.out
                    subst eo56
                    go_wp2_with (first | ((with_reducible refine gate_callee (f := 38) rfl ?_); refine goesL_ (some 64) rfl rfl Try.func38 (by kernel_rfl) rfl #[.slice Ao56 t600.length co56, .int .i64 1] rfl (by (try simp only [List.map_toArray, List.map_cons, List.map_nil]); first | done | rfl | (simp only [List.length_drop, List.length_take]; rfl)) ?_; (with_reducible refine (laws_markIntS.calls kj36 (fun k_ => some k_ = (.slice Ao56 t600.length co56 : Value).ownBlock) (.slice Ao56 t600.length co56) t600 1 t614 t615 w _ ?side1 ?side2 A53.out).mono ?_); (case side1 => repeat (first | (with_reducible first | exact HB.out | apply below_alloc | apply pw_below_drewN | apply below_drew1 | refine below_set ?_ GE583.out | refine below_set ?_ GE599.out) | exact HB.out)); (case side2 => exact Kd.R_tight rfl HO_7.out); rintro e w57 ⟨rfl, hy0, hb, hkp⟩; refine ⟨_, rfl, ?_⟩; have n0_ := Aside0.mk (Kd.R_mono (ok' := fun k_ => some k_ ≠ (.slice Ao56 t600.length co56 : Value).ownBlock ∧ some k_ ≠ (.slice Ao22 t612.length co22 : Value).ownBlock) (Kd.R_keptB (HO_4.out) hkp (fun k_ hk_ hs_ => (hk_.1) hs_)) (fun k_ hk_ => ⟨hk_.1.1, hk_.1.2⟩)); have n1_ := Aside0.mk (Kd.R_reok rfl hy0 (fun k_ e_ => HO_7.out.1 k_ e_)); have n2_ := Aside0.mk (Kd.R_mono (ok' := fun k_ => some k_ ≠ (v591 : Value).ownBlock ∧ some k_ ≠ (.slice Ao56 t600.length co56 : Value).ownBlock) (Kd.R_keptB (HO_600000.out) hkp (fun k_ hk_ hs_ => (hk_.2) hs_)) (fun k_ hk_ => ⟨hk_.1.1, hk_.1.2⟩)); have n3_ := Aside0.mk (blk_kept (by (with_reducible repeat (first | refine blk_drewN ?_ _ | refine blk_drew ?_ | refine blk_alloc ?_ _)); exact BK583.out) hkp (fun hs_ => (fun e_ => (Kd.R_ne HO_7.out BK583.out (by decide)) e_) hs_)); have n4_ := Aside0.mk (blk_kept (by (with_reducible repeat (first | refine blk_drewN ?_ _ | refine blk_drew ?_ | refine blk_alloc ?_ _)); exact BK599.out) hkp (fun hs_ => (fun e_ => (Kd.R_ne HO_7.out BK599.out (by decide)) e_) hs_)); have n5_ := Aside0.mk (hb); clear HO_4; clear HO_7; clear HO_600000; clear BK583; clear BK599; clear HB; have HO_4 := n0_; have HO_7 := n1_; have HO_600000 := n2_; have BK583 := n3_; have BK599 := n4_; have HB := n5_; clear n0_ n1_ n2_ n3_ n4_ n5_; (try clear hb); (try clear hkp); (try clear hy0)) | ((with_reducible refine gate_callee (f := 39) rfl ?_); refine goesL_ (some 67) rfl rfl Try.func39 (by kernel_rfl) rfl #[.slice Ao56 t615.length co56, .int .i64 1] rfl (by (try simp only [List.map_toArray, List.map_cons, List.map_nil]); first | done | (rw [show t615.length = t600.length from (Kd.R_reads' HO_7.out).1.symm] <;> rfl) | rfl | (simp only [List.length_drop, List.length_take]; rfl)) ?_; (with_reducible refine (laws_heldIntS.calls kj36 _ _ t615 1 t616 _ ?side1 ?side2 A54.out).mono ?_); (case side1 => repeat (first | exact (Kd.R_reads' HO_7.out).2.2 | (with_reducible refine Kd.C_alloc ?_ _) | (with_reducible refine Kd.C_drewN ?_ _) | (with_reducible refine Kd.C_drew ?_))); (case side2 => rw [show t615.length = t600.length from (Kd.R_reads' HO_7.out).1.symm]; exact (Kd.R_reads' HO_7.out).2.1); rintro e w' ⟨rfl, ⟨nd, rfl⟩⟩; refine ⟨_, rfl, ?_⟩))
                    go_ret
                    exact ⟨by first | rfl | (simp [errW_none, errW_some] <;> rfl) | (simp [*, errW_none, errW_some] <;> rfl), by repeat (first | (with_reducible first | exact HB.out | apply below_alloc | apply pw_below_drewN | apply below_drew1 | refine below_set ?_ GE583.out | refine below_set ?_ GE599.out) | exact HB.out)⟩
                  · rw [if_neg c55] at H
                    have c55b0 : decide (t616 < 0) = false := decide_eq_false c55
                    clear c55
                    by_cases c58 : t616 = t614
                    · rw [if_pos c58] at H
                      have c58b0 : (t616 == t614) = true := beq_iff_eq.mpr c58
                      have c58b1 : (t616 != t614) = false := bne_eq_false_iff_eq.mpr c58
                      clear c58
                      replace H := Option.bind_eq_some_iff.mp H
                      obtain ⟨⟨t617, t620, t621⟩, A590, H⟩ := H
                      replace H : ((impl_FirstSolution.f kj36 t617 t620 t621).bind fun bt622 => ((laws_eqIntS.f kj36 bt622.1 t590).bind fun t626 => (if t626 = true then (laws_FnExactFirstSolution.j2 kj36 t615 t614 (bt622.2 != t593)) else (laws_FnExactFirstSolution.j2 kj36 t615 t614 true)))) = some r := H
                      have A59 := Aside0.mk A590
                      clear A590
                      replace H := Option.bind_eq_some_iff.mp H
                      obtain ⟨⟨t622, t625⟩, A600, H⟩ := H
                      replace H : ((laws_eqIntS.f kj36 t622 t590).bind fun t626 => (if t626 = true then (laws_FnExactFirstSolution.j2 kj36 t615 t614 (t625 != t593)) else (laws_FnExactFirstSolution.j2 kj36 t615 t614 true))) = some r := H
                      have A60 := Aside0.mk A600
                      clear A600
                      have HC61 := Aside0.mk H
                      clear H
                      obtain ⟨Ao62, co62, eo62⟩ := Kd.R_slice HO_7.out
                      subst eo62
                      go_upto_region 25 with (first | ((with_reducible refine gate_callee (f := 38) rfl ?_); refine goesL_ (some 64) rfl rfl Try.func38 (by kernel_rfl) rfl #[.slice Ao62 t600.length co62, .int .i64 1] rfl (by (try simp only [List.map_toArray, List.map_cons, List.map_nil]); first | done | rfl | (simp only [List.length_drop, List.length_take]; rfl)) ?_; (with_reducible refine (laws_markIntS.calls kj36 (fun k_ => some k_ = (.slice Ao62 t600.length co62 : Value).ownBlock) (.slice Ao62 t600.length co62) t600 1 t614 t615 w _ ?side1 ?side2 A53.out).mono ?_); (case side1 => repeat (first | (with_reducible first | exact HB.out | apply below_alloc | apply pw_below_drewN | apply below_drew1 | refine below_set ?_ GE583.out | refine below_set ?_ GE599.out) | exact HB.out)); (case side2 => exact Kd.R_tight rfl HO_7.out); rintro e w63 ⟨rfl, hy0, hb, hkp⟩; refine ⟨_, rfl, ?_⟩; have n0_ := Aside0.mk (Kd.R_mono (ok' := fun k_ => some k_ ≠ (.slice Ao62 t600.length co62 : Value).ownBlock ∧ some k_ ≠ (.slice Ao22 t612.length co22 : Value).ownBlock) (Kd.R_keptB (HO_4.out) hkp (fun k_ hk_ hs_ => (hk_.1) hs_)) (fun k_ hk_ => ⟨hk_.1.1, hk_.1.2⟩)); have n1_ := Aside0.mk (Kd.R_reok rfl hy0 (fun k_ e_ => HO_7.out.1 k_ e_)); have n2_ := Aside0.mk (Kd.R_mono (ok' := fun k_ => some k_ ≠ (v591 : Value).ownBlock ∧ some k_ ≠ (.slice Ao62 t600.length co62 : Value).ownBlock) (Kd.R_keptB (HO_600000.out) hkp (fun k_ hk_ hs_ => (hk_.2) hs_)) (fun k_ hk_ => ⟨hk_.1.1, hk_.1.2⟩)); have n3_ := Aside0.mk (blk_kept (by (with_reducible repeat (first | refine blk_drewN ?_ _ | refine blk_drew ?_ | refine blk_alloc ?_ _)); exact BK583.out) hkp (fun hs_ => (fun e_ => (Kd.R_ne HO_7.out BK583.out (by decide)) e_) hs_)); have n4_ := Aside0.mk (blk_kept (by (with_reducible repeat (first | refine blk_drewN ?_ _ | refine blk_drew ?_ | refine blk_alloc ?_ _)); exact BK599.out) hkp (fun hs_ => (fun e_ => (Kd.R_ne HO_7.out BK599.out (by decide)) e_) hs_)); have n5_ := Aside0.mk (hb); clear HO_4; clear HO_7; clear HO_600000; clear BK583; clear BK599; clear HB; have HO_4 := n0_; have HO_7 := n1_; have HO_600000 := n2_; have BK583 := n3_; have BK599 := n4_; have HB := n5_; clear n0_ n1_ n2_ n3_ n4_ n5_; (try clear hb); (try clear hkp); (try clear hy0)) | ((with_reducible refine gate_callee (f := 39) rfl ?_); refine goesL_ (some 67) rfl rfl Try.func39 (by kernel_rfl) rfl #[.slice Ao62 t615.length co62, .int .i64 1] rfl (by (try simp only [List.map_toArray, List.map_cons, List.map_nil]); first | done | (rw [show t615.length = t600.length from (Kd.R_reads' HO_7.out).1.symm] <;> rfl) | rfl | (simp only [List.length_drop, List.length_take]; rfl)) ?_; (with_reducible refine (laws_heldIntS.calls kj36 _ _ t615 1 t616 _ ?side1 ?side2 A54.out).mono ?_); (case side1 => repeat (first | exact (Kd.R_reads' HO_7.out).2.2 | (with_reducible refine Kd.C_alloc ?_ _) | (with_reducible refine Kd.C_drewN ?_ _) | (with_reducible refine Kd.C_drew ?_))); (case side2 => rw [show t615.length = t600.length from (Kd.R_reads' HO_7.out).1.symm]; exact (Kd.R_reads' HO_7.out).2.1); rintro e w' ⟨rfl, ⟨nd, rfl⟩⟩; refine ⟨_, rfl, ?_⟩; have hnb64 := NB583_599.out; have hnc64 := NB599_583.out; have hcz65_0 : w63.cell? ⟨gb583, 0, none⟩ = some (.slice A0_0 l0_0.length c0_0) := (blk_cell BK583.out 0).trans rfl; have hcz65_1 : w63.cell? ⟨gb583, 1, none⟩ = some (.int .i64 a0_1) := (blk_cell BK583.out 1).trans rfl; have hcz65_2 : w63.cell? ⟨gb583, 2, none⟩ = some (.int .i64 a0_2) := (blk_cell BK583.out 2).trans rfl; have hfz65_0 := blk_frozen BK583.out 0; have hfz65_1 := blk_frozen BK583.out 1; have hfz65_2 := blk_frozen BK583.out 2) | ((with_reducible refine gate_callee (f := 17) rfl ?_); refine goesL_ (some 75) rfl rfl Try.func17 (by kernel_rfl) rfl #[.agg #[.slice A0_0 l0_0.length c0_0, .int .i64 a0_1, .int .i64 a0_2]] rfl (by (try simp only [List.map_toArray, List.map_cons, List.map_nil]); first | done | rfl | (simp only [List.length_drop, List.length_take]; rfl)) ?_; (with_reducible refine (laws_toPuzzle.calls kj36 _ _ l0_0 a0_1 a0_2 t617 t620 t621 _ ?side1 ?side2 A59.out).mono ?_); (case side1 => repeat (first | exact (Kd.C_below HR0_0.out (by repeat (first | (with_reducible first | exact HB.out | apply below_alloc | apply pw_below_drewN | apply below_drew1 | refine below_set ?_ GE583.out | refine below_set ?_ GE599.out) | exact HB.out))) | (with_reducible refine Kd.C_alloc ?_ _) | (with_reducible refine Kd.C_drewN ?_ _) | (with_reducible refine Kd.C_drew ?_))); (case side2 => exact HC0_0.out); rintro e w66 ⟨v618, rfl, ho0, hb⟩; refine ⟨_, rfl, ?_⟩; have n0_ := Aside0.mk (Kd.R_elder' (by (with_reducible repeat (first | apply Kd.R_alloc | apply Kd.R_drewN | apply Kd.R_drew)); exact HO_4.out) (Kd.R_base ho0) hb); have n1_ := Aside0.mk (Kd.R_elder' (by (with_reducible repeat (first | apply Kd.R_alloc | apply Kd.R_drewN | apply Kd.R_drew)); exact HO_7.out) (Kd.R_base ho0) hb); have n2_ := Aside0.mk (Kd.R_elder' (by (with_reducible repeat (first | apply Kd.R_alloc | apply Kd.R_drewN | apply Kd.R_drew)); exact HO_600000.out) (Kd.R_base ho0) hb); have n3_ := Aside0.mk (Kd.R_lower (Kd.R_new' (Kd.R_new' (Kd.R_new' ho0 (Kd.R_lt (by (with_reducible repeat (first | apply Kd.R_alloc | apply Kd.R_drewN | apply Kd.R_drew)); exact HO_4.out))) (Kd.R_lt (by (with_reducible repeat (first | apply Kd.R_alloc | apply Kd.R_drewN | apply Kd.R_drew)); exact HO_7.out))) (Kd.R_lt (by (with_reducible repeat (first | apply Kd.R_alloc | apply Kd.R_drewN | apply Kd.R_drew)); exact HO_600000.out))) (below_size (by repeat (first | (with_reducible first | exact HB.out | apply below_alloc | apply pw_below_drewN | apply below_drew1 | refine below_set ?_ GE583.out | refine below_set ?_ GE599.out) | exact HB.out)))); have n4_ := Aside0.mk (blk_below (g := gb583) (o := .cells #[.slice A0_0 l0_0.length c0_0, .int .i64 a0_1, .int .i64 a0_2] 24 (0, 0)) (by (with_reducible repeat (first | refine blk_drewN ?_ _ | refine blk_drew ?_ | refine blk_alloc ?_ _)); exact BK583.out) hb); have n5_ := Aside0.mk (blk_below (g := gb599) (o := .cells #[.slice Ao22 t612.length co22, .int .i64 t597, .int .i64 t598] 27 (0, 0)) (by (with_reducible repeat (first | refine blk_drewN ?_ _ | refine blk_drew ?_ | refine blk_alloc ?_ _)); exact BK599.out) hb); have n6_ := Aside0.mk (below_step (by repeat (first | (with_reducible first | exact HB.out | apply below_alloc | apply pw_below_drewN | apply below_drew1 | refine below_set ?_ GE583.out | refine below_set ?_ GE599.out) | exact HB.out)) hb); clear HO_4; clear HO_7; clear HO_600000; clear BK583; clear BK599; clear HB; have HO_4 := n0_; have HO_7 := n1_; have HO_600000 := n2_; have HO619 := n3_; have BK583 := n4_; have BK599 := n5_; have HB := n6_; clear n0_ n1_ n2_ n3_ n4_ n5_ n6_; (try clear hb); (try clear hb2); (try clear hk); (try clear hi); (try clear ho0); obtain ⟨Ao67, co67, eo67⟩ := Kd.R_slice HO619.out; subst eo67) | ((with_reducible refine gate_callee (f := 37) rfl ?_); refine goesL_ (some 76) rfl rfl Try.func37 (by kernel_rfl) rfl #[.agg #[.slice Ao67 t617.length co67, .int .i64 t620, .int .i64 t621]] rfl (by (try simp only [List.map_toArray, List.map_cons, List.map_nil]); first | done | rfl | (simp only [List.length_drop, List.length_take]; rfl)) ?_; (with_reducible refine (impl_FirstSolution.calls kj36 _ _ t617 t620 t621 t622 t625 _ ?side1 ?side2 A60.out).mono ?_); (case side1 => repeat (first | exact (Kd.R_reads' HO619.out).2.2 | (with_reducible refine Kd.C_alloc ?_ _) | (with_reducible refine Kd.C_drewN ?_ _) | (with_reducible refine Kd.C_drew ?_))); (case side2 => exact (Kd.R_reads' HO619.out).2.1); rintro e w68 ⟨v623, rfl, ho0, hb⟩; refine ⟨_, rfl, ?_⟩; have n0_ := Aside0.mk (Kd.R_elder' (by (with_reducible repeat (first | apply Kd.R_alloc | apply Kd.R_drewN | apply Kd.R_drew)); exact HO_4.out) (Kd.R_base ho0) hb); have n1_ := Aside0.mk (Kd.R_elder' (by (with_reducible repeat (first | apply Kd.R_alloc | apply Kd.R_drewN | apply Kd.R_drew)); exact HO_7.out) (Kd.R_base ho0) hb); have n2_ := Aside0.mk (Kd.R_elder' (by (with_reducible repeat (first | apply Kd.R_alloc | apply Kd.R_drewN | apply Kd.R_drew)); exact HO_600000.out) (Kd.R_base ho0) hb); have n3_ := Aside0.mk (Kd.R_elder' (by (with_reducible repeat (first | apply Kd.R_alloc | apply Kd.R_drewN | apply Kd.R_drew)); exact HO619.out) (Kd.R_base ho0) hb); have n4_ := Aside0.mk (Kd.R_lower (Kd.R_new' (Kd.R_new' (Kd.R_new' (Kd.R_new' ho0 (Kd.R_lt (by (with_reducible repeat (first | apply Kd.R_alloc | apply Kd.R_drewN | apply Kd.R_drew)); exact HO_4.out))) (Kd.R_lt (by (with_reducible repeat (first | apply Kd.R_alloc | apply Kd.R_drewN | apply Kd.R_drew)); exact HO_7.out))) (Kd.R_lt (by (with_reducible repeat (first | apply Kd.R_alloc | apply Kd.R_drewN | apply Kd.R_drew)); exact HO_600000.out))) (Kd.R_lt (by (with_reducible repeat (first | apply Kd.R_alloc | apply Kd.R_drewN | apply Kd.R_drew)); exact HO619.out))) (below_size (by repeat (first | (with_reducible first | exact HB.out | apply below_alloc | apply pw_below_drewN | apply below_drew1 | refine below_set ?_ GE583.out | refine below_set ?_ GE599.out) | exact HB.out)))); have n5_ := Aside0.mk (blk_below (g := gb583) (o := .cells #[.slice A0_0 l0_0.length c0_0, .int .i64 a0_1, .int .i64 a0_2] 24 (0, 0)) (by (with_reducible repeat (first | refine blk_drewN ?_ _ | refine blk_drew ?_ | refine blk_alloc ?_ _)); exact BK583.out) hb); have n6_ := Aside0.mk (blk_below (g := gb599) (o := .cells #[.slice Ao22 t612.length co22, .int .i64 t597, .int .i64 t598] 27 (0, 0)) (by (with_reducible repeat (first | refine blk_drewN ?_ _ | refine blk_drew ?_ | refine blk_alloc ?_ _)); exact BK599.out) hb); have n7_ := Aside0.mk (below_step (by repeat (first | (with_reducible first | exact HB.out | apply below_alloc | apply pw_below_drewN | apply below_drew1 | refine below_set ?_ GE583.out | refine below_set ?_ GE599.out) | exact HB.out)) hb); clear HO_4; clear HO_7; clear HO_600000; clear HO619; clear BK583; clear BK599; clear HB; have HO_4 := n0_; have HO_7 := n1_; have HO_600000 := n2_; have HO619 := n3_; have HO624 := n4_; have BK583 := n5_; have BK599 := n6_; have HB := n7_; clear n0_ n1_ n2_ n3_ n4_ n5_ n6_ n7_; (try clear hb); (try clear hb2); (try clear hk); (try clear hi); (try clear ho0)))
                      (try simp only [Act.put, List.setIfInBounds_toArray, List.set_cons_zero, List.set_cons_succ])
                      go_cut [87] (fun v87 wc => ∃ (kq : Nat) (x87_60 : Bool), v87 = .bool x87_60 ∧ Aside0 (laws_FnExactFirstSolution.j2 kq t615 t614 x87_60 = some r) ∧ Aside0 (kq ≤ kj36) ∧ Aside0 (Kd.R (Kd.int .i64) 3 wc w.heap.size (fun k_ => some k_ ≠ ((.slice Ao22 t612.length co22) : Value).ownBlock) (.slice Ao62 t600.length co62) t615) ∧ Aside0 (Kd.R (Kd.int .i64) 3 wc w.heap.size (fun k_ => some k_ ≠ ((.slice Ao62 t600.length co62) : Value).ownBlock) (.slice Ao22 t612.length co22) t612) ∧ Aside0 (wc.heap[gb583]? = some (.cells #[(.slice A0_0 l0_0.length c0_0), .int .i64 a0_1, .int .i64 a0_2] 24 (0, 0))) ∧ Aside0 (wc.heap[gb599]? = some (.cells #[(.slice Ao22 t612.length co22), .int .i64 t597, .int .i64 t598] 27 (0, 0))) ∧ Aside0 (Below w.heap.size w wc))
                      case first =>
                        have H := HC61.out
                        clear HC61
                        replace H := Option.bind_eq_some_iff.mp H
                        obtain ⟨t626, A690, H⟩ := H
                        replace H : (if t626 = true then (laws_FnExactFirstSolution.j2 kj36 t615 t614 (t625 != t593)) else (laws_FnExactFirstSolution.j2 kj36 t615 t614 true)) = some r := H
                        have A69 := Aside0.mk A690
                        clear A690
                        by_cases c70 : t626 = true
                        · subst c70
                          have H1 : (laws_FnExactFirstSolution.j2 kj36 t615 t614 (t625 != t593)) = some r := by rw [if_pos rfl] at H; exact H
                          clear H
                          have H := H1
                          clear H1
                          have H' := Aside0.mk H
                          clear H
                          obtain ⟨Ao71, co71, eo71⟩ := Kd.R_slice HO624.out
                          subst eo71
                          obtain ⟨Ao72, co72, eo72⟩ := Kd.R_slice HO_4.out
                          subst eo72
                          go_wp2_with (first | ((with_reducible refine gate_callee (f := 35) rfl ?_); refine goesL_ (some 81) rfl rfl Try.func35 (by kernel_rfl) rfl #[.slice Ao71 t622.length co71, .slice Ao72 t590.length co72] rfl (by (try simp only [List.map_toArray, List.map_cons, List.map_nil]); first | done | rfl | (simp only [List.length_drop, List.length_take]; rfl)) ?_; (with_reducible refine (laws_eqIntS.calls kj36 _ _ t622 _ _ t590 true _ ?side1 ?side2 ?side3 ?side4 A69.out).mono ?_); (case side1 => repeat (first | exact (Kd.R_reads' HO624.out).2.2 | (with_reducible refine Kd.C_alloc ?_ _) | (with_reducible refine Kd.C_drewN ?_ _) | (with_reducible refine Kd.C_drew ?_))); (case side2 => exact (Kd.R_reads' HO624.out).2.1); (case side3 => repeat (first | exact (Kd.R_reads' HO_4.out).2.2 | (with_reducible refine Kd.C_alloc ?_ _) | (with_reducible refine Kd.C_drewN ?_ _) | (with_reducible refine Kd.C_drew ?_))); (case side4 => exact (Kd.R_reads' HO_4.out).2.1); rintro e w' ⟨rfl, ⟨nd, rfl⟩⟩; refine ⟨_, rfl, ?_⟩))
                          go_meet
                          case rel => exact ⟨_, ((t625 != t593)), (by first | rfl | (simp; done) | (simp [*]; done)), H', ⟨by have := HJ10.out; have := HJ36.out; first | omega | exact Nat.le_refl _⟩, ⟨by (try simp only [hl600000_36]); (with_reducible repeat (first | apply Kd.R_alloc | apply Kd.R_drewN | apply Kd.R_drew)); exact Kd.R_mono HO_7.out (fun _ hk => hk.1.1.2)⟩, ⟨by (try simp only [hl600000_36]); (with_reducible repeat (first | apply Kd.R_alloc | apply Kd.R_drewN | apply Kd.R_drew)); exact Kd.R_mono HO_600000.out (fun _ hk => hk.1.1.2)⟩, ⟨by (try simp only [hl600000_36]); (with_reducible repeat (first | refine blk_drewN ?_ _ | refine blk_drew ?_ | refine blk_alloc ?_ _)); exact BK583.out⟩, ⟨by (try simp only [hl600000_36]); (with_reducible repeat (first | refine blk_drewN ?_ _ | refine blk_drew ?_ | refine blk_alloc ?_ _)); exact BK599.out⟩, ⟨by repeat (first | (with_reducible first | exact HB.out | apply below_alloc | apply pw_below_drewN | apply below_drew1 | refine below_set ?_ GE583.out | refine below_set ?_ GE599.out) | exact HB.out)⟩⟩
                        · replace c70 := Bool.eq_false_iff.mpr c70
                          subst c70
                          have H1 : (laws_FnExactFirstSolution.j2 kj36 t615 t614 true) = some r := by rw [if_neg (show ¬ (false = true) by decide)] at H; exact H
                          clear H
                          have H := H1
                          clear H1
                          have H' := Aside0.mk H
                          clear H
                          obtain ⟨Ao73, co73, eo73⟩ := Kd.R_slice HO624.out
                          subst eo73
                          obtain ⟨Ao74, co74, eo74⟩ := Kd.R_slice HO_4.out
                          subst eo74
                          go_wp2_with (first | ((with_reducible refine gate_callee (f := 35) rfl ?_); refine goesL_ (some 81) rfl rfl Try.func35 (by kernel_rfl) rfl #[.slice Ao73 t622.length co73, .slice Ao74 t590.length co74] rfl (by (try simp only [List.map_toArray, List.map_cons, List.map_nil]); first | done | rfl | (simp only [List.length_drop, List.length_take]; rfl)) ?_; (with_reducible refine (laws_eqIntS.calls kj36 _ _ t622 _ _ t590 false _ ?side1 ?side2 ?side3 ?side4 A69.out).mono ?_); (case side1 => repeat (first | exact (Kd.R_reads' HO624.out).2.2 | (with_reducible refine Kd.C_alloc ?_ _) | (with_reducible refine Kd.C_drewN ?_ _) | (with_reducible refine Kd.C_drew ?_))); (case side2 => exact (Kd.R_reads' HO624.out).2.1); (case side3 => repeat (first | exact (Kd.R_reads' HO_4.out).2.2 | (with_reducible refine Kd.C_alloc ?_ _) | (with_reducible refine Kd.C_drewN ?_ _) | (with_reducible refine Kd.C_drew ?_))); (case side4 => exact (Kd.R_reads' HO_4.out).2.1); rintro e w' ⟨rfl, ⟨nd, rfl⟩⟩; refine ⟨_, rfl, ?_⟩))
                          go_meet
                          case rel => exact ⟨_, (true), (by first | rfl | (simp; done) | (simp [*]; done)), H', ⟨by have := HJ10.out; have := HJ36.out; first | omega | exact Nat.le_refl _⟩, ⟨by (try simp only [hl600000_36]); (with_reducible repeat (first | apply Kd.R_alloc | apply Kd.R_drewN | apply Kd.R_drew)); exact Kd.R_mono HO_7.out (fun _ hk => hk.1.1.2)⟩, ⟨by (try simp only [hl600000_36]); (with_reducible repeat (first | apply Kd.R_alloc | apply Kd.R_drewN | apply Kd.R_drew)); exact Kd.R_mono HO_600000.out (fun _ hk => hk.1.1.2)⟩, ⟨by (try simp only [hl600000_36]); (with_reducible repeat (first | refine blk_drewN ?_ _ | refine blk_drew ?_ | refine blk_alloc ?_ _)); exact BK583.out⟩, ⟨by (try simp only [hl600000_36]); (with_reducible repeat (first | refine blk_drewN ?_ _ | refine blk_drew ?_ | refine blk_alloc ?_ _)); exact BK599.out⟩, ⟨by repeat (first | (with_reducible first | exact HB.out | apply below_alloc | apply pw_below_drewN | apply below_drew1 | refine below_set ?_ GE583.out | refine below_set ?_ GE599.out) | exact HB.out)⟩⟩
                      case rest =>
                        clear HC61
                        try clear c1
                        try clear c2
                        try clear p2
                        try clear c3
                        try clear c3b0
                        try clear c4
                        try clear c5
                        try clear c6
                        try clear c7
                        try clear c10
                        try clear c15
                        try clear c17
                        try clear c19
                        try clear c23
                        try clear c24
                        try clear c27
                        try clear c32
                        try clear c35
                        try clear c36
                        try clear c37
                        try clear c38
                        try clear c39
                        try clear c42
                        try clear c45
                        try clear c45b0
                        try clear c47
                        try clear c52
                        try clear c55
                        try clear c55b0
                        try clear c58
                        try clear c58b0
                        try clear c58b1
                        try clear c64
                        try clear c70
                        try clear hcz13_0
                        try clear hcz13_1
                        try clear hcz13_2
                        try clear hcz15_0
                        try clear hcz15_1
                        try clear hcz15_2
                        try clear hcz19_0
                        try clear hcz19_1
                        try clear hcz19_2
                        try clear hcz24_0
                        try clear hcz24_1
                        try clear hcz24_2
                        try clear hcz43_0
                        try clear hcz43_1
                        try clear hcz43_2
                        try clear hcz5_0
                        try clear hcz5_1
                        try clear hcz5_2
                        try clear hcz65_0
                        try clear hcz65_1
                        try clear hcz65_2
                        try clear hfz13_0
                        try clear hfz13_1
                        try clear hfz13_2
                        try clear hfz15_0
                        try clear hfz15_1
                        try clear hfz15_2
                        try clear hfz19_0
                        try clear hfz19_1
                        try clear hfz19_2
                        try clear hfz24_0
                        try clear hfz24_1
                        try clear hfz24_2
                        try clear hfz43_0
                        try clear hfz43_1
                        try clear hfz43_2
                        try clear hfz5_0
                        try clear hfz5_1
                        try clear hfz5_2
                        try clear hfz65_0
                        try clear hfz65_1
                        try clear hfz65_2
                        try clear p2
                        obtain ⟨kq, x87_60, rfl, HA, HJ60, HO_7, HO_600000, BK583, BK599, HB⟩ := hcut
                        have hl7_60 := (Kd.R_reads' HO_7.out).1
                        rw [hl7_60] at HO_7
                        (try simp only [hl7_60])
                        (try simp only [hl7_60] at BK583)
                        (try simp only [hl7_60] at BK599)
                        (try simp only [hl7_60] at HO_600000)
                        cases kq with
                        | zero => exact absurd HA.out (by simp [laws_FnExactFirstSolution.j2])
                        | succ kj60 =>
                          have H := HA.out
                          clear HA
                          simp only [laws_FnExactFirstSolution.j2] at H
                          by_cases c75 : x87_60 = true
                          · subst c75
                            have H1 : (some false) = some r := by rw [if_pos rfl] at H; exact H
                            clear H
                            have H := H1
                            clear H1
                            obtain rfl := Option.some.inj H
                            go_wp2
                            go_ret
                            exact ⟨by first | rfl | (simp [errW_none, errW_some] <;> rfl) | (simp [*, errW_none, errW_some] <;> rfl), by repeat (first | (with_reducible first | exact HB.out | apply below_alloc | apply pw_below_drewN | apply below_drew1 | refine below_set ?_ GE583.out | refine below_set ?_ GE599.out) | exact HB.out)⟩
                          · replace c75 := Bool.eq_false_iff.mpr c75
                            subst c75
                            have H1 : ((laws_heldIntS.f kj60 t615 1).bind fun t627 => (if t627 < 0 then (some false) else (if t627 = t614 then (some true) else (some false)))) = some r := by rw [if_neg (show ¬ (false = true) by decide)] at H; exact H
                            clear H
                            have H := H1
                            clear H1
                            replace H := Option.bind_eq_some_iff.mp H
                            obtain ⟨t627, A760, H⟩ := H
                            replace H : (if t627 < 0 then (some false) else (if t627 = t614 then (some true) else (some false))) = some r := H
                            have A76 := Aside0.mk A760
                            clear A760
                            by_cases c77 : t627 < 0
                            · rw [if_pos c77] at H
                              have c77b0 : decide (t627 < 0) = true := decide_eq_true c77
                              clear c77
                              obtain rfl := Option.some.inj H
                              go_wp2_with (first | ((with_reducible refine gate_callee (f := 39) rfl ?_); refine goesL_ (some 90) rfl rfl Try.func39 (by kernel_rfl) rfl #[.slice Ao62 t615.length co62, .int .i64 1] rfl (by (try simp only [List.map_toArray, List.map_cons, List.map_nil]); first | done | rfl | (simp only [List.length_drop, List.length_take]; rfl)) ?_; (with_reducible refine (laws_heldIntS.calls kj60 _ _ t615 1 t627 _ ?side1 ?side2 A76.out).mono ?_); (case side1 => repeat (first | exact (Kd.R_reads' HO_7.out).2.2 | (with_reducible refine Kd.C_alloc ?_ _) | (with_reducible refine Kd.C_drewN ?_ _) | (with_reducible refine Kd.C_drew ?_))); (case side2 => exact (Kd.R_reads' HO_7.out).2.1); rintro e w' ⟨rfl, ⟨nd, rfl⟩⟩; refine ⟨_, rfl, ?_⟩))
                              go_ret
                              exact ⟨by first | rfl | (simp [errW_none, errW_some] <;> rfl) | (simp [*, errW_none, errW_some] <;> rfl), by repeat (first | (with_reducible first | exact HB.out | apply below_alloc | apply pw_below_drewN | apply below_drew1 | refine below_set ?_ GE583.out | refine below_set ?_ GE599.out) | exact HB.out)⟩
                            · rw [if_neg c77] at H
                              have c77b0 : decide (t627 < 0) = false := decide_eq_false c77
                              clear c77
                              by_cases c78 : t627 = t614
                              · rw [if_pos c78] at H
                                have c78b0 : (t627 == t614) = true := beq_iff_eq.mpr c78
                                have c78b1 : (t627 != t614) = false := bne_eq_false_iff_eq.mpr c78
                                clear c78
                                obtain rfl := Option.some.inj H
                                go_wp2_with (first | ((with_reducible refine gate_callee (f := 39) rfl ?_); refine goesL_ (some 90) rfl rfl Try.func39 (by kernel_rfl) rfl #[.slice Ao62 t615.length co62, .int .i64 1] rfl (by (try simp only [List.map_toArray, List.map_cons, List.map_nil]); first | done | rfl | (simp only [List.length_drop, List.length_take]; rfl)) ?_; (with_reducible refine (laws_heldIntS.calls kj60 _ _ t615 1 t627 _ ?side1 ?side2 A76.out).mono ?_); (case side1 => repeat (first | exact (Kd.R_reads' HO_7.out).2.2 | (with_reducible refine Kd.C_alloc ?_ _) | (with_reducible refine Kd.C_drewN ?_ _) | (with_reducible refine Kd.C_drew ?_))); (case side2 => exact (Kd.R_reads' HO_7.out).2.1); rintro e w' ⟨rfl, ⟨nd, rfl⟩⟩; refine ⟨_, rfl, ?_⟩))
                                go_ret
                                exact ⟨by first | rfl | (simp [errW_none, errW_some] <;> rfl) | (simp [*, errW_none, errW_some] <;> rfl), by repeat (first | (with_reducible first | exact HB.out | apply below_alloc | apply pw_below_drewN | apply below_drew1 | refine below_set ?_ GE583.out | refine below_set ?_ GE599.out) | exact HB.out)⟩
                              · rw [if_neg c78] at H
                                have c78b0 : (t627 == t614) = false := beq_eq_false_iff_ne.mpr c78
                                have c78b1 : (t627 != t614) = true := bne_iff_ne.mpr c78
                                obtain rfl := Option.some.inj H
                                go_wp2_with (first | ((with_reducible refine gate_callee (f := 39) rfl ?_); refine goesL_ (some 90) rfl rfl Try.func39 (by kernel_rfl) rfl #[.slice Ao62 t615.length co62, .int .i64 1] rfl (by (try simp only [List.map_toArray, List.map_cons, List.map_nil]); first | done | rfl | (simp only [List.length_drop, List.length_take]; rfl)) ?_; (with_reducible refine (laws_heldIntS.calls kj60 _ _ t615 1 t627 _ ?side1 ?side2 A76.out).mono ?_); (case side1 => repeat (first | exact (Kd.R_reads' HO_7.out).2.2 | (with_reducible refine Kd.C_alloc ?_ _) | (with_reducible refine Kd.C_drewN ?_ _) | (with_reducible refine Kd.C_drew ?_))); (case side2 => exact (Kd.R_reads' HO_7.out).2.1); rintro e w' ⟨rfl, ⟨nd, rfl⟩⟩; refine ⟨_, rfl, ?_⟩))
                                go_ret
                                exact ⟨by first | rfl | (simp [errW_none, errW_some] <;> rfl) | (simp [*, errW_none, errW_some] <;> rfl), by repeat (first | (with_reducible first | exact HB.out | apply below_alloc | apply pw_below_drewN | apply below_drew1 | refine below_set ?_ GE583.out | refine below_set ?_ GE599.out) | exact HB.out)⟩
                    · rw [if_neg c58] at H
                      have c58b0 : (t616 == t614) = false := beq_eq_false_iff_ne.mpr c58
                      have c58b1 : (t616 != t614) = true := bne_iff_ne.mpr c58
                      obtain rfl := Option.some.inj H
                      obtain ⟨Ao79, co79, eo79⟩ := Kd.R_slice HO_7.out
                      subst eo79
                      go_wp2_with (first | ((with_reducible refine gate_callee (f := 38) rfl ?_); refine goesL_ (some 64) rfl rfl Try.func38 (by kernel_rfl) rfl #[.slice Ao79 t600.length co79, .int .i64 1] rfl (by (try simp only [List.map_toArray, List.map_cons, List.map_nil]); first | done | rfl | (simp only [List.length_drop, List.length_take]; rfl)) ?_; (with_reducible refine (laws_markIntS.calls kj36 (fun k_ => some k_ = (.slice Ao79 t600.length co79 : Value).ownBlock) (.slice Ao79 t600.length co79) t600 1 t614 t615 w _ ?side1 ?side2 A53.out).mono ?_); (case side1 => repeat (first | (with_reducible first | exact HB.out | apply below_alloc | apply pw_below_drewN | apply below_drew1 | refine below_set ?_ GE583.out | refine below_set ?_ GE599.out) | exact HB.out)); (case side2 => exact Kd.R_tight rfl HO_7.out); rintro e w80 ⟨rfl, hy0, hb, hkp⟩; refine ⟨_, rfl, ?_⟩; have n0_ := Aside0.mk (Kd.R_mono (ok' := fun k_ => some k_ ≠ (.slice Ao79 t600.length co79 : Value).ownBlock ∧ some k_ ≠ (.slice Ao22 t612.length co22 : Value).ownBlock) (Kd.R_keptB (HO_4.out) hkp (fun k_ hk_ hs_ => (hk_.1) hs_)) (fun k_ hk_ => ⟨hk_.1.1, hk_.1.2⟩)); have n1_ := Aside0.mk (Kd.R_reok rfl hy0 (fun k_ e_ => HO_7.out.1 k_ e_)); have n2_ := Aside0.mk (Kd.R_mono (ok' := fun k_ => some k_ ≠ (v591 : Value).ownBlock ∧ some k_ ≠ (.slice Ao79 t600.length co79 : Value).ownBlock) (Kd.R_keptB (HO_600000.out) hkp (fun k_ hk_ hs_ => (hk_.2) hs_)) (fun k_ hk_ => ⟨hk_.1.1, hk_.1.2⟩)); have n3_ := Aside0.mk (blk_kept (by (with_reducible repeat (first | refine blk_drewN ?_ _ | refine blk_drew ?_ | refine blk_alloc ?_ _)); exact BK583.out) hkp (fun hs_ => (fun e_ => (Kd.R_ne HO_7.out BK583.out (by decide)) e_) hs_)); have n4_ := Aside0.mk (blk_kept (by (with_reducible repeat (first | refine blk_drewN ?_ _ | refine blk_drew ?_ | refine blk_alloc ?_ _)); exact BK599.out) hkp (fun hs_ => (fun e_ => (Kd.R_ne HO_7.out BK599.out (by decide)) e_) hs_)); have n5_ := Aside0.mk (hb); clear HO_4; clear HO_7; clear HO_600000; clear BK583; clear BK599; clear HB; have HO_4 := n0_; have HO_7 := n1_; have HO_600000 := n2_; have BK583 := n3_; have BK599 := n4_; have HB := n5_; clear n0_ n1_ n2_ n3_ n4_ n5_; (try clear hb); (try clear hkp); (try clear hy0)) | ((with_reducible refine gate_callee (f := 39) rfl ?_); refine goesL_ (some 67) rfl rfl Try.func39 (by kernel_rfl) rfl #[.slice Ao79 t615.length co79, .int .i64 1] rfl (by (try simp only [List.map_toArray, List.map_cons, List.map_nil]); first | done | (rw [show t615.length = t600.length from (Kd.R_reads' HO_7.out).1.symm] <;> rfl) | rfl | (simp only [List.length_drop, List.length_take]; rfl)) ?_; (with_reducible refine (laws_heldIntS.calls kj36 _ _ t615 1 t616 _ ?side1 ?side2 A54.out).mono ?_); (case side1 => repeat (first | exact (Kd.R_reads' HO_7.out).2.2 | (with_reducible refine Kd.C_alloc ?_ _) | (with_reducible refine Kd.C_drewN ?_ _) | (with_reducible refine Kd.C_drew ?_))); (case side2 => rw [show t615.length = t600.length from (Kd.R_reads' HO_7.out).1.symm]; exact (Kd.R_reads' HO_7.out).2.1); rintro e w' ⟨rfl, ⟨nd, rfl⟩⟩; refine ⟨_, rfl, ?_⟩))
                      go_ret
                      exact ⟨by first | rfl | (simp [errW_none, errW_some] <;> rfl) | (simp [*, errW_none, errW_some] <;> rfl), by repeat (first | (with_reducible first | exact HB.out | apply below_alloc | apply pw_below_drewN | apply below_drew1 | refine below_set ?_ GE583.out | refine below_set ?_ GE599.out) | exact HB.out)⟩
          · replace c35 := Bool.eq_false_iff.mpr c35
            subst c35
            have H1 : (some false) = some r := by rw [if_neg (show ¬ (false = true) by decide)] at H; exact H
            clear H
            have H := H1
            clear H1
            obtain rfl := Option.some.inj H
            try go_wp2
            have n0_ := Aside0.mk (Kd.R_drew HO_4.out)
            have n1_ := Aside0.mk (Kd.R_drew HO_7.out)
            have n2_ := Aside0.mk (Kd.R_drew HO_600000.out)
            have n3_ := Aside0.mk (blk_drew BK583.out)
            have n4_ := Aside0.mk (blk_drew BK599.out)
            have n5_ := Aside0.mk (below_drew1 HB.out)
            clear HO_4
            clear HO_7
            clear HO_600000
            clear BK583
            clear BK599
            clear HB
            have HO_4 := n0_
            have HO_7 := n1_
            have HO_600000 := n2_
            have BK583 := n3_
            have BK599 := n4_
            have HB := n5_
            clear n0_ n1_ n2_ n3_ n4_ n5_
            refine start_ (n := 5) (S := fun w' => w'.cell? ⟨gb599, 0, none⟩ = some (.slice Ao22 t594.length co22) ∧ w'.cell? ⟨gb599, 1, none⟩ = some (.int .i64 t597) ∧ w'.cell? ⟨gb599, 2, none⟩ = some (.int .i64 t598) ∧ w'.cell? ⟨gb583, 0, none⟩ = some (.slice A0_0 l0_0.length c0_0) ∧ w'.cell? ⟨gb583, 1, none⟩ = some (.int .i64 a0_1) ∧ w'.cell? ⟨gb583, 2, none⟩ = some (.int .i64 a0_2)) (ds := []) #[false, false, false, false, false] (by kernel_rfl) rfl rfl ⟨(blk_cell BK599.out 0).trans rfl, (blk_cell BK599.out 1).trans rfl, (blk_cell BK599.out 2).trans rfl, (blk_cell BK583.out 0).trans rfl, (blk_cell BK583.out 1).trans rfl, (blk_cell BK583.out 2).trans rfl⟩ (fun hHeld => ?_)
            generalize wc.drew = w81 at HO_4 HO_7 HO_600000 BK583 BK599 HB hHeld ⊢
            refine take_ (i := 0) (N := some 41) (v := ?_) (a' := ?_) #[true, false, false, false, false] rfl rfl (by kernel_rfl) (fun _ _ _ h => h) (Or.inl ⟨by rfl, ?_⟩) hHeld ?_ ?_
            rotate_left
            · rintro w' ⟨s0, s1, s2, s3, s4, s5⟩
              go_simp
              with_reducible rfl
            rotate_left
            · simp only [Act.put, List.setIfInBounds_toArray, List.set_cons_zero, List.set_cons_succ, i64_w, i32_w]
              rfl
            refine take_ (i := 1) (N := some 42) (v := ?_) (a' := ?_) #[true, true, false, false, false] rfl rfl (by kernel_rfl) (fun _ _ _ h => h) (Or.inl ⟨by rfl, ?_⟩) hHeld ?_ ?_
            rotate_left
            · rintro w' ⟨s0, s1, s2, s3, s4, s5⟩
              go_simp
              with_reducible rfl
            rotate_left
            · simp only [Act.put, List.setIfInBounds_toArray, List.set_cons_zero, List.set_cons_succ, i64_w, i32_w]
              rfl
            refine one_ (i := 2) (N := some 43) #[true, true, true, false, false] rfl rfl (by kernel_rfl) (by decide) (fun K hK => ?_)
            refine goes_ Try.func17 (by kernel_rfl) rfl #[.agg #[.slice A0_0 l0_0.length c0_0, .int .i64 a0_1, .int .i64 a0_2]] (by rfl) rfl rfl (by (try simp only [List.map_toArray, List.map_cons, List.map_nil]); first | done | rfl | (simp only [List.length_drop, List.length_take]; rfl)) ?_
            with_reducible refine (laws_toPuzzle.calls kj10 _ _ l0_0 a0_1 a0_2 t605 t608 t609 _ ?side1 ?side2 A33.out).mono ?_
            (case side1 => repeat (first | exact (Kd.C_below HR0_0.out HB.out) | (with_reducible refine Kd.C_alloc ?_ _) | (with_reducible refine Kd.C_drewN ?_ _) | (with_reducible refine Kd.C_drew ?_)))
            (case side2 => exact HC0_0.out)
            rintro e w82 ⟨v606, rfl, ho0, hb⟩
            refine ⟨_, rfl, ?_⟩
            have n0_ := Aside0.mk (Kd.R_elder' (by (with_reducible repeat (first | apply Kd.R_alloc | apply Kd.R_drewN | apply Kd.R_drew)); exact HO_4.out) (Kd.R_base ho0) hb)
            have n1_ := Aside0.mk (Kd.R_elder' (by (with_reducible repeat (first | apply Kd.R_alloc | apply Kd.R_drewN | apply Kd.R_drew)); exact HO_7.out) (Kd.R_base ho0) hb)
            have n2_ := Aside0.mk (Kd.R_elder' (by (with_reducible repeat (first | apply Kd.R_alloc | apply Kd.R_drewN | apply Kd.R_drew)); exact HO_600000.out) (Kd.R_base ho0) hb)
            have n3_ := Aside0.mk (Kd.R_lower (Kd.R_new' (Kd.R_new' (Kd.R_new' ho0 (Kd.R_lt (by (with_reducible repeat (first | apply Kd.R_alloc | apply Kd.R_drewN | apply Kd.R_drew)); exact HO_4.out))) (Kd.R_lt (by (with_reducible repeat (first | apply Kd.R_alloc | apply Kd.R_drewN | apply Kd.R_drew)); exact HO_7.out))) (Kd.R_lt (by (with_reducible repeat (first | apply Kd.R_alloc | apply Kd.R_drewN | apply Kd.R_drew)); exact HO_600000.out))) (below_size (by repeat (first | (with_reducible first | exact HB.out | apply below_alloc | apply pw_below_drewN | apply below_drew1 | refine below_set ?_ GE583.out | refine below_set ?_ GE599.out) | exact HB.out))))
            have n4_ := Aside0.mk (blk_below (g := gb583) (o := .cells #[.slice A0_0 l0_0.length c0_0, .int .i64 a0_1, .int .i64 a0_2] 24 (0, 0)) (by (with_reducible repeat (first | refine blk_drewN ?_ _ | refine blk_drew ?_ | refine blk_alloc ?_ _)); exact BK583.out) hb)
            have n5_ := Aside0.mk (blk_below (g := gb599) (o := .cells #[.slice Ao22 t594.length co22, .int .i64 t597, .int .i64 t598] 27 (0, 0)) (by (with_reducible repeat (first | refine blk_drewN ?_ _ | refine blk_drew ?_ | refine blk_alloc ?_ _)); exact BK599.out) hb)
            have n6_ := Aside0.mk (below_step (by repeat (first | (with_reducible first | exact HB.out | apply below_alloc | apply pw_below_drewN | apply below_drew1 | refine below_set ?_ GE583.out | refine below_set ?_ GE599.out) | exact HB.out)) hb)
            clear HO_4
            clear HO_7
            clear HO_600000
            clear BK583
            clear BK599
            clear HB
            have HO_4 := n0_
            have HO_7 := n1_
            have HO_600000 := n2_
            have HO607 := n3_
            have BK583 := n4_
            have BK599 := n5_
            have HB := n6_
            clear n0_ n1_ n2_ n3_ n4_ n5_ n6_
            (try clear hb)
            (try clear hb2)
            (try clear hk)
            (try clear hi)
            (try clear ho0)
            obtain ⟨Ao83, co83, eo83⟩ := Kd.R_slice HO607.out
            (first | subst eo83 | (injection eo83 with f1_ f2_ f3_; have f4_ := f1_.symm; have f5_ := f3_.symm; clear f1_ f2_ f3_; subst f4_; subst f5_))
            refine hK.out _ _ ⟨(blk_cell BK599.out 0).trans rfl, (blk_cell BK599.out 1).trans rfl, (blk_cell BK599.out 2).trans rfl, (blk_cell BK583.out 0).trans rfl, (blk_cell BK583.out 1).trans rfl, (blk_cell BK583.out 2).trans rfl⟩ (fun hHeld => ?_)
            clear hK K
            refine norm_ (a' := ?_) ?_ ?_
            rotate_left
            · show Act.put _ (some 43) _ = _
              simp only [Act.put, List.setIfInBounds_toArray, List.set_cons_zero, List.set_cons_succ, i64_w, i32_w]
              rfl
            refine one_ (i := 3) (N := some 44) #[true, true, true, true, false] rfl rfl (by kernel_rfl) (by decide) (fun K hK => ?_)
            refine goes_ Try.func19 (by kernel_rfl) rfl #[.agg #[.slice Ao22 t594.length co22, .int .i64 t597, .int .i64 t598], .agg #[.slice Ao83 t605.length co83, .int .i64 t608, .int .i64 t609]] (by rfl) rfl rfl (by (try simp only [List.map_toArray, List.map_cons, List.map_nil]); first | done | rfl | (simp only [List.length_drop, List.length_take]; rfl)) ?_
            with_reducible refine (laws_eqPuzzle.calls kj10 _ _ t594 t597 t598 _ _ t605 t608 t609 false _ ?side1 ?side2 ?side3 ?side4 A34.out).mono ?_
            (case side1 => repeat (first | exact (Kd.R_reads' HO_600000.out).2.2 | (with_reducible refine Kd.C_alloc ?_ _) | (with_reducible refine Kd.C_drewN ?_ _) | (with_reducible refine Kd.C_drew ?_)))
            (case side2 => exact (Kd.R_reads' HO_600000.out).2.1)
            (case side3 => repeat (first | exact (Kd.R_reads' HO607.out).2.2 | (with_reducible refine Kd.C_alloc ?_ _) | (with_reducible refine Kd.C_drewN ?_ _) | (with_reducible refine Kd.C_drew ?_)))
            (case side4 => exact (Kd.R_reads' HO607.out).2.1)
            rintro e w84 ⟨rfl, hb⟩
            refine ⟨_, rfl, ?_⟩
            have n0_ := Aside0.mk (Kd.R_below (by (with_reducible repeat (first | apply Kd.R_alloc | apply Kd.R_drewN | apply Kd.R_drew)); exact HO_4.out) hb)
            have n1_ := Aside0.mk (Kd.R_below (by (with_reducible repeat (first | apply Kd.R_alloc | apply Kd.R_drewN | apply Kd.R_drew)); exact HO_7.out) hb)
            have n2_ := Aside0.mk (Kd.R_below (by (with_reducible repeat (first | apply Kd.R_alloc | apply Kd.R_drewN | apply Kd.R_drew)); exact HO_600000.out) hb)
            have n3_ := Aside0.mk (Kd.R_below (by (with_reducible repeat (first | apply Kd.R_alloc | apply Kd.R_drewN | apply Kd.R_drew)); exact HO607.out) hb)
            have n4_ := Aside0.mk (blk_below (g := gb583) (o := .cells #[.slice A0_0 l0_0.length c0_0, .int .i64 a0_1, .int .i64 a0_2] 24 (0, 0)) (by (with_reducible repeat (first | refine blk_drewN ?_ _ | refine blk_drew ?_ | refine blk_alloc ?_ _)); exact BK583.out) hb)
            have n5_ := Aside0.mk (blk_below (g := gb599) (o := .cells #[.slice Ao22 t594.length co22, .int .i64 t597, .int .i64 t598] 27 (0, 0)) (by (with_reducible repeat (first | refine blk_drewN ?_ _ | refine blk_drew ?_ | refine blk_alloc ?_ _)); exact BK599.out) hb)
            have n6_ := Aside0.mk (below_step (by repeat (first | (with_reducible first | exact HB.out | apply below_alloc | apply pw_below_drewN | apply below_drew1 | refine below_set ?_ GE583.out | refine below_set ?_ GE599.out) | exact HB.out)) hb)
            clear HO_4
            clear HO_7
            clear HO_600000
            clear HO607
            clear BK583
            clear BK599
            clear HB
            have HO_4 := n0_
            have HO_7 := n1_
            have HO_600000 := n2_
            have HO607 := n3_
            have BK583 := n4_
            have BK599 := n5_
            have HB := n6_
            clear n0_ n1_ n2_ n3_ n4_ n5_ n6_
            (try clear hb)
            (try clear hb2)
            (try clear hk)
            (try clear hi)
            refine hK.out _ _ ⟨(blk_cell BK599.out 0).trans rfl, (blk_cell BK599.out 1).trans rfl, (blk_cell BK599.out 2).trans rfl, (blk_cell BK583.out 0).trans rfl, (blk_cell BK583.out 1).trans rfl, (blk_cell BK583.out 2).trans rfl⟩ (fun hHeld => ?_)
            clear hK K
            refine norm_ (a' := ?_) ?_ ?_
            rotate_left
            · show Act.put _ (some 44) _ = _
              simp only [Act.put, List.setIfInBounds_toArray, List.set_cons_zero, List.set_cons_succ, i64_w, i32_w]
              rfl
            refine pure_ (i := 4) (N := some 45) (v := ?_) (a' := ?_) #[true, true, true, true, true] rfl rfl (by kernel_rfl) (fun _ _ _ h => h) (Or.inl ⟨by rfl, ?_⟩) ?_ ?_
            rotate_left
            · intro w'
              go_simp
              with_reducible rfl
            rotate_left
            · simp only [Act.put, List.setIfInBounds_toArray, List.set_cons_zero, List.set_cons_succ, i64_w, i32_w]
              rfl
            refine done_ (by kernel_rfl) ?_
            try go_wp2
            go_ret
            exact ⟨by first | rfl | (simp [errW_none, errW_some] <;> rfl) | (simp [*, errW_none, errW_some] <;> rfl), by repeat (first | (with_reducible first | exact HB.out | apply below_alloc | apply pw_below_drewN | apply below_drew1 | refine below_set ?_ GE583.out | refine below_set ?_ GE599.out) | exact HB.out)⟩

/-- The statement of laws_FnExactFirstSolution over numbers and lists. -/
def laws_FnExactFirstSolution.Pure : Prop := ∀ (l0_0 : List Int) (a0_1 : Int) (a0_2 : Int), l0_0.length ≤ maxLen → l0_0.length * 8 ≤ 140737488351232 → (∀ x ∈ l0_0, (Lit.int .i64 x).wf = true) → (Lit.int .i64 a0_1).wf = true → (Lit.int .i64 a0_2).wf = true → ∃ k, laws_FnExactFirstSolution.f k l0_0 a0_1 a0_2 = some true
theorem laws_FnExactFirstSolution.walk (P : laws_FnExactFirstSolution.Pure) (a0_0 : Option Addr) (len0_0 cap0_0 : Nat) (z0_0 : List Int) (a0_1 : Int) (a0_2 : Int) (w : World) (w0_0 : (a0_0 = none ∧ len0_0 = 0 ∧ cap0_0 = 0 ∧ z0_0 = []) ∨ ∃ x, a0_0 = some x ∧ len0_0 ≤ cap0_0 ∧ cap0_0 ≤ maxLen ∧ z0_0.length = cap0_0 ∧ (∀ i, i < z0_0.length → w.cell? (x.add i) = some (.int .i64 (z0_0.getD i 0))) ∧ ∀ n ∈ z0_0, (Lit.int .i64 n).wf = true) (y0_0 : len0_0 * 8 ≤ 140737488351232) (w0_1 : (Lit.int .i64 a0_1).wf = true) (w0_2 : (Lit.int .i64 a0_2).wf = true) :
    Calls Try.prog 10 #[.agg #[.slice a0_0 len0_0 cap0_0, .int .i64 a0_1, .int .i64 a0_2]] w fun e w' => e = .returned (.bool true) ∧ Below w.heap.size w w' := by
  obtain ⟨l0_0, rfl, hr0_0, hm0_0, hw0_0, hc0_0⟩ := ReadsInt.ofRowC w0_0
  obtain ⟨k, h⟩ := P l0_0 a0_1 a0_2 hm0_0 y0_0 hw0_0 w0_1 w0_2
  refine (laws_FnExactFirstSolution.calls k _ _ l0_0 a0_1 a0_2 true w (Kd.C_of_reads (d := (0 : Int)) (h1 := fun _ => rfl) hr0_0) hc0_0 h).mono ?_
  rintro e w' ⟨rfl, hd⟩
  exact ⟨rfl, hd⟩

noncomputable def laws_FnExactFirstSolution.J0 (x4 : List Int) (x5 : Bool) (x7 : List Int) (x8 : Bool) (x40 : Bool) (x584000 : List Int) (x584001 : Int) (x584002 : Int) (x600000 : List Int) (x600001 : Int) (x600002 : Int) : Option (Bool) := lim fun k => laws_FnExactFirstSolution.j0 k x4 x5 x7 x8 x40 x584000 x584001 x584002 x600000 x600001 x600002
theorem laws_FnExactFirstSolution.J0_lim (x4 : List Int) (x5 : Bool) (x7 : List Int) (x8 : Bool) (x40 : Bool) (x584000 : List Int) (x584001 : Int) (x584002 : Int) (x600000 : List Int) (x600001 : Int) (x600002 : Int) : Lim (fun k => laws_FnExactFirstSolution.j0 k x4 x5 x7 x8 x40 x584000 x584001 x584002 x600000 x600001 x600002) (laws_FnExactFirstSolution.J0 x4 x5 x7 x8 x40 x584000 x584001 x584002 x600000 x600001 x600002) := Lim.of fun k => (laws_FnExactFirstSolution.mono_l k).1 x4 x5 x7 x8 x40 x584000 x584001 x584002 x600000 x600001 x600002
noncomputable def laws_FnExactFirstSolution.J1 (x4 : List Int) (x5 : Bool) (x7 : List Int) (x61 : Bool) (x584000 : List Int) (x584001 : Int) (x584002 : Int) : Option (Bool) := lim fun k => laws_FnExactFirstSolution.j1 k x4 x5 x7 x61 x584000 x584001 x584002
theorem laws_FnExactFirstSolution.J1_lim (x4 : List Int) (x5 : Bool) (x7 : List Int) (x61 : Bool) (x584000 : List Int) (x584001 : Int) (x584002 : Int) : Lim (fun k => laws_FnExactFirstSolution.j1 k x4 x5 x7 x61 x584000 x584001 x584002) (laws_FnExactFirstSolution.J1 x4 x5 x7 x61 x584000 x584001 x584002) := Lim.of fun k => (laws_FnExactFirstSolution.mono_l k).2.1 x4 x5 x7 x61 x584000 x584001 x584002
noncomputable def laws_FnExactFirstSolution.J2 (x7 : List Int) (x10 : Int) (x87 : Bool) : Option (Bool) := lim fun k => laws_FnExactFirstSolution.j2 k x7 x10 x87
theorem laws_FnExactFirstSolution.J2_lim (x7 : List Int) (x10 : Int) (x87 : Bool) : Lim (fun k => laws_FnExactFirstSolution.j2 k x7 x10 x87) (laws_FnExactFirstSolution.J2 x7 x10 x87) := Lim.of fun k => (laws_FnExactFirstSolution.mono_l k).2.2 x7 x10 x87
noncomputable def laws_FnExactFirstSolution.F (l0_0 : List Int) (a0_1 : Int) (a0_2 : Int) : Option (Bool) := lim fun k => laws_FnExactFirstSolution.f k l0_0 a0_1 a0_2
theorem laws_FnExactFirstSolution.F_lim (l0_0 : List Int) (a0_1 : Int) (a0_2 : Int) : Lim (fun k => laws_FnExactFirstSolution.f k l0_0 a0_1 a0_2) (laws_FnExactFirstSolution.F l0_0 a0_1 a0_2) := Lim.of fun k => laws_FnExactFirstSolution.mono l0_0 a0_1 a0_2 k
theorem laws_FnExactFirstSolution.J0_eq (x4 : List Int) (x5 : Bool) (x7 : List Int) (x8 : Bool) (x40 : Bool) (x584000 : List Int) (x584001 : Int) (x584002 : Int) (x600000 : List Int) (x600001 : Int) (x600002 : Int) : laws_FnExactFirstSolution.J0 x4 x5 x7 x8 x40 x584000 x584001 x584002 x600000 x600001 x600002 = (if x40 = true then (some false) else ((laws_toPuzzle.F x584000 x584001 x584002).bind fun bt605 => ((laws_eqPuzzle.F x600000 x600001 x600002 bt605.1 bt605.2.1 bt605.2.2).bind fun t610 => (if t610 = true then ((laws_markPuzzle.F x600000 x600001 x600002 1).bind fun bt611 => (if bt611.1 < 0 then (laws_FnExactFirstSolution.J1 x4 x5 x7 true x584000 x584001 x584002) else ((laws_eqIntS.F x7 x4).bind fun t613 => (if t613 = true then (laws_FnExactFirstSolution.J1 x4 x5 x7 (x8 != x5) x584000 x584001 x584002) else (laws_FnExactFirstSolution.J1 x4 x5 x7 true x584000 x584001 x584002))))) else (some false))))) :=
  Lim.step (f := fun k => (if x40 = true then (some false) else ((laws_toPuzzle.f k x584000 x584001 x584002).bind fun bt605 => ((laws_eqPuzzle.f k x600000 x600001 x600002 bt605.1 bt605.2.1 bt605.2.2).bind fun t610 => (if t610 = true then ((laws_markPuzzle.f k x600000 x600001 x600002 1).bind fun bt611 => (if bt611.1 < 0 then (laws_FnExactFirstSolution.j1 k x4 x5 x7 true x584000 x584001 x584002) else ((laws_eqIntS.f k x7 x4).bind fun t613 => (if t613 = true then (laws_FnExactFirstSolution.j1 k x4 x5 x7 (x8 != x5) x584000 x584001 x584002) else (laws_FnExactFirstSolution.j1 k x4 x5 x7 true x584000 x584001 x584002))))) else (some false)))))) (laws_FnExactFirstSolution.J0_lim x4 x5 x7 x8 x40 x584000 x584001 x584002 x600000 x600001 x600002) (fun k => by first | rfl | rw [laws_FnExactFirstSolution.j0]) (by
    repeat' first
    | (with_reducible exact Lim.const _)
    | (with_reducible exact laws_FnExactFirstSolution.J1_lim _ _ _ _ _ _ _)
    | (with_reducible exact laws_eqIntS.F_lim _ _)
    | (with_reducible exact laws_eqPuzzle.F_lim _ _ _ _ _ _)
    | (with_reducible exact laws_markPuzzle.F_lim _ _ _ _)
    | (with_reducible exact laws_toPuzzle.F_lim _ _ _)
    | (with_reducible refine Lim.ite ?_ ?_)
    | (with_reducible refine Lim.bind ?_ (fun _ => ?_)))
theorem laws_FnExactFirstSolution.J1_eq (x4 : List Int) (x5 : Bool) (x7 : List Int) (x61 : Bool) (x584000 : List Int) (x584001 : Int) (x584002 : Int) : laws_FnExactFirstSolution.J1 x4 x5 x7 x61 x584000 x584001 x584002 = (if x61 = true then (some false) else ((laws_markIntS.F x7 1).bind fun bt614 => ((laws_heldIntS.F bt614.2 1).bind fun t616 => (if t616 < 0 then (some false) else (if t616 = bt614.1 then ((laws_toPuzzle.F x584000 x584001 x584002).bind fun bt617 => ((impl_FirstSolution.F bt617.1 bt617.2.1 bt617.2.2).bind fun bt622 => ((laws_eqIntS.F bt622.1 x4).bind fun t626 => (if t626 = true then (laws_FnExactFirstSolution.J2 bt614.2 bt614.1 (bt622.2 != x5)) else (laws_FnExactFirstSolution.J2 bt614.2 bt614.1 true))))) else (some false)))))) :=
  Lim.step (f := fun k => (if x61 = true then (some false) else ((laws_markIntS.f k x7 1).bind fun bt614 => ((laws_heldIntS.f k bt614.2 1).bind fun t616 => (if t616 < 0 then (some false) else (if t616 = bt614.1 then ((laws_toPuzzle.f k x584000 x584001 x584002).bind fun bt617 => ((impl_FirstSolution.f k bt617.1 bt617.2.1 bt617.2.2).bind fun bt622 => ((laws_eqIntS.f k bt622.1 x4).bind fun t626 => (if t626 = true then (laws_FnExactFirstSolution.j2 k bt614.2 bt614.1 (bt622.2 != x5)) else (laws_FnExactFirstSolution.j2 k bt614.2 bt614.1 true))))) else (some false))))))) (laws_FnExactFirstSolution.J1_lim x4 x5 x7 x61 x584000 x584001 x584002) (fun k => by first | rfl | rw [laws_FnExactFirstSolution.j1]) (by
    repeat' first
    | (with_reducible exact Lim.const _)
    | (with_reducible exact impl_FirstSolution.F_lim _ _ _)
    | (with_reducible exact laws_FnExactFirstSolution.J2_lim _ _ _)
    | (with_reducible exact laws_eqIntS.F_lim _ _)
    | (with_reducible exact laws_heldIntS.F_lim _ _)
    | (with_reducible exact laws_markIntS.F_lim _ _)
    | (with_reducible exact laws_toPuzzle.F_lim _ _ _)
    | (with_reducible refine Lim.ite ?_ ?_)
    | (with_reducible refine Lim.bind ?_ (fun _ => ?_)))
theorem laws_FnExactFirstSolution.J2_eq (x7 : List Int) (x10 : Int) (x87 : Bool) : laws_FnExactFirstSolution.J2 x7 x10 x87 = (if x87 = true then (some false) else ((laws_heldIntS.F x7 1).bind fun t627 => (if t627 < 0 then (some false) else (if t627 = x10 then (some true) else (some false))))) :=
  Lim.step (f := fun k => (if x87 = true then (some false) else ((laws_heldIntS.f k x7 1).bind fun t627 => (if t627 < 0 then (some false) else (if t627 = x10 then (some true) else (some false)))))) (laws_FnExactFirstSolution.J2_lim x7 x10 x87) (fun k => by first | rfl | rw [laws_FnExactFirstSolution.j2]) (by
    repeat' first
    | (with_reducible exact Lim.const _)
    | (with_reducible exact laws_heldIntS.F_lim _ _)
    | (with_reducible refine Lim.ite ?_ ?_)
    | (with_reducible refine Lim.bind ?_ (fun _ => ?_)))
theorem laws_FnExactFirstSolution.F_eq (l0_0 : List Int) (a0_1 : Int) (a0_2 : Int) : laws_FnExactFirstSolution.F l0_0 a0_1 a0_2 = ((laws_szPuzzle.f l0_0 a0_1 a0_2 1048576).bind fun t584 => (if t584 < 0 then (some true) else ((laws_toPuzzle.F l0_0 a0_1 a0_2).bind fun bt585 => ((spec_FirstSolution.F bt585.1 bt585.2.1 bt585.2.2).bind fun bt590 => ((laws_toPuzzle.F l0_0 a0_1 a0_2).bind fun bt594 => ((impl_FirstSolution.F bt594.1 bt594.2.1 bt594.2.2).bind fun bt600 => ((laws_eqIntS.F bt600.1 bt590.1).bind fun t604 => (if t604 = true then (laws_FnExactFirstSolution.J0 bt590.1 bt590.2 bt600.1 bt600.2 (bt600.2 != bt590.2) l0_0 a0_1 a0_2 bt594.1 bt594.2.1 bt594.2.2) else (laws_FnExactFirstSolution.J0 bt590.1 bt590.2 bt600.1 bt600.2 true l0_0 a0_1 a0_2 bt594.1 bt594.2.1 bt594.2.2))))))))) :=
  Lim.unique (laws_FnExactFirstSolution.F_lim l0_0 a0_1 a0_2) (by
    unfold laws_FnExactFirstSolution.f
    repeat' first
    | (with_reducible exact Lim.const _)
    | (with_reducible exact impl_FirstSolution.F_lim _ _ _)
    | (with_reducible exact laws_FnExactFirstSolution.J0_lim _ _ _ _ _ _ _ _ _ _ _)
    | (with_reducible exact laws_eqIntS.F_lim _ _)
    | (with_reducible exact laws_toPuzzle.F_lim _ _ _)
    | (with_reducible exact spec_FirstSolution.F_lim _ _ _)
    | (with_reducible refine Lim.ite ?_ ?_)
    | (with_reducible refine Lim.bind ?_ (fun _ => ?_)))

end Go.Proofs.Ytjfhcddahahdfaa.Fn
namespace Go.Proofs.Ytjfhcddahahdfaa.Fn
open Go.RowKit Go.Proofs.YtjfhcddahahdfaaW.PrintWords Go.Proofs.YtjfhcddahahdfaaW.PrintLast Go.Proofs.YtjfhcddahahdfaaW.PrintMore
set_option linter.unusedVariables false
set_option linter.unusedSimpArgs false
theorem laws_toIntS.L0_val : ∀ (suf pre junk : List Int), (pre ++ suf).length < 4611686018427387904 → junk.length = suf.length → laws_toIntS.L0 (pre ++ suf) (pre ++ junk) (pre.length : Int) = some (pre ++ suf)
  | [], pre, junk, h, hj => by
    obtain rfl : junk = [] := List.eq_nil_of_length_eq_zero hj
    rw [laws_toIntS.L0_eq, range_end]
  | x :: suf, pre, j :: junk, h, hj => by
    have hj' : junk.length = suf.length := by simpa using hj
    have h1 : (pre.length : Int) < ((pre ++ x :: suf).length : Int) := by rw [List.length_append, List.length_cons]; omega
    have h2 : (pre.length : Int) < ((pre ++ j :: junk).length : Int) := by rw [List.length_append, List.length_cons]; omega
    have ih := laws_toIntS.L0_val suf (pre ++ [x]) junk (by simpa using h) hj'
    rw [laws_toIntS.L0_eq, if_pos h1, if_pos (by omega), if_pos h2, rd_mid, wrap_mid h]
    have e : (pre ++ j :: junk).set ((pre.length : Int)).toNat x = (pre ++ [x]) ++ junk := by simp
    rw [e, app_mid]
    exact ih
theorem laws_toIntS.F_val (l : List Int) (h : l.length ≤ 35184372088832) : laws_toIntS.F l = some l := by
  rw [laws_toIntS.F_eq, if_pos (by omega), if_pos (by simpa using h)]
  have := laws_toIntS.L0_val l [] (List.replicate l.length 0) (by simp; omega) (by simp)
  simpa using this
theorem laws_eqIntS.L0_val : ∀ (sa pre sb : List Int), (pre ++ sa).length < 4611686018427387904 → sa.length = sb.length → laws_eqIntS.L0 (pre ++ sa) (pre ++ sb) (pre.length : Int) = some (decide (sa = sb))
  | [], pre, sb, h, hj => by
    obtain rfl : sb = [] := List.eq_nil_of_length_eq_zero hj.symm
    rw [laws_eqIntS.L0_eq, range_end]
    simp
  | x :: sa, pre, y :: sb, h, hj => by
    have h1 : (pre.length : Int) < ((pre ++ x :: sa).length : Int) := by rw [List.length_append, List.length_cons]; omega
    have h2 : (pre.length : Int) < ((pre ++ y :: sb).length : Int) := by rw [List.length_append, List.length_cons]; omega
    rw [laws_eqIntS.L0_eq, if_pos h1, if_pos (by omega), if_pos h2, rd_mid, rd_mid, wrap_mid h]
    by_cases e : x = y
    · subst e
      rw [if_pos rfl, app_mid pre x sa, app_mid pre x sb, laws_eqIntS.L0_val sa (pre ++ [x]) sb (by simpa using h) (by simpa using hj)]
      simp
    · rw [if_neg e]
      simp [e]
theorem laws_eqIntS.F_val (a b : List Int) (h : a.length < 4611686018427387904) : laws_eqIntS.F a b = some (decide (a = b)) := by
  rw [laws_eqIntS.F_eq]
  by_cases e : (a.length : Int) = (b.length : Int)
  · rw [if_pos e]
    have := laws_eqIntS.L0_val a [] b (by simpa using h) (by omega)
    simpa using this
  · rw [if_neg e]
    have : ¬ a = b := fun hab => e (by rw [hab])
    simp [this]
theorem laws_eqIntS.F_same (a : List Int) (h : a.length < 4611686018427387904) : laws_eqIntS.F a a = some true := by
  rw [laws_eqIntS.F_val a a h]
  simp
/-- The numbers k, k + 1, .., n of them. -/
def marks : Nat → Int → List Int
  | 0, _ => []
  | n + 1, k => k :: marks n (k + 1)
theorem marks_length : ∀ n k, (marks n k).length = n
  | 0, _ => rfl
  | n + 1, k => by simp [marks, marks_length n]
theorem laws_markIntS.L0_val : ∀ (suf pre : List Int) (k : Int), (pre ++ suf).length < 4611686018427387904 → 0 ≤ k → k + suf.length < 4611686018427387904 → laws_markIntS.L0 (pre ++ suf) k (pre.length : Int) = some (k + suf.length, pre ++ marks suf.length k)
  | [], pre, k, h, h0, hk => by
    rw [laws_markIntS.L0_eq, range_end]
    simp [marks]
  | x :: suf, pre, k, h, h0, hk => by
    have h1 : (pre.length : Int) < ((pre ++ x :: suf).length : Int) := by rw [List.length_append, List.length_cons]; omega
    have hk' : k + (suf.length + 1 : Nat) < 4611686018427387904 := by simpa using hk
    rw [laws_markIntS.L0_eq, if_pos h1, if_pos (by omega), wrap_mid h, wrap_in (n := k + 1) (by omega) (by omega)]
    have e : (pre ++ x :: suf).set ((pre.length : Int)).toNat k = (pre ++ [k]) ++ suf := by simp
    have el : ((pre ++ [x]).length : Int) = ((pre ++ [k]).length : Int) := by simp
    rw [e, el, laws_markIntS.L0_val suf (pre ++ [k]) (k + 1) (by simpa using h) (by omega) (by omega)]
    simp [marks]
    omega
theorem laws_markIntS.F_val (l : List Int) (k : Int) (h0 : 0 ≤ k) (hk : k + l.length < 4611686018427387904) : laws_markIntS.F l k = some (k + l.length, marks l.length k) := by
  rw [laws_markIntS.F_eq]
  have := laws_markIntS.L0_val l [] k (by simp; omega) h0 hk
  simpa using this
theorem laws_heldIntS.L0_val : ∀ (n : Nat) (pre : List Int) (k : Int), pre.length + n < 4611686018427387904 → 0 ≤ k → k + n < 4611686018427387904 → laws_heldIntS.L0 (pre ++ marks n k) k (pre.length : Int) = some (k + n)
  | 0, pre, k, h, h0, hk => by
    rw [laws_heldIntS.L0_eq, marks, range_end]
    simp
  | n + 1, pre, k, h, h0, hk => by
    have h1 : (pre.length : Int) < ((pre ++ k :: marks n (k + 1)).length : Int) := by rw [List.length_append, List.length_cons]; omega
    have h2 : (pre ++ k :: marks n (k + 1)).length < 4611686018427387904 := by rw [List.length_append, List.length_cons, marks_length]; omega
    rw [laws_heldIntS.L0_eq, marks, if_pos h1, if_pos (by omega), rd_mid, if_pos rfl, wrap_mid h2, wrap_in (n := k + 1) (by omega) (by omega), app_mid, laws_heldIntS.L0_val n (pre ++ [k]) (k + 1) (by simp; omega) (by omega) (by omega)]
    congr 1
    omega
theorem laws_heldIntS.F_val (n : Nat) (k : Int) (h0 : 0 ≤ k) (hk : k + n < 4611686018427387904) : laws_heldIntS.F (marks n k) k = some (k + n) := by
  rw [laws_heldIntS.F_eq]
  have := laws_heldIntS.L0_val n [] k (by simp; omega) h0 hk
  simpa using this
end Go.Proofs.Ytjfhcddahahdfaa.Fn
namespace Go.Proofs.Ytjfhcddahahdfaa.Fn
open Go.RowKit Go.Proofs.YtjfhcddahahdfaaW.PrintWords Go.Proofs.YtjfhcddahahdfaaW.PrintLast Go.Proofs.YtjfhcddahahdfaaW.PrintMore
set_option linter.unusedVariables false
set_option linter.unusedSimpArgs false
theorem spec_l1In.f_val (a b c : Int) : spec_l1In.f a b c = some (decide (b ≤ a) && decide (a ≤ c)) := by
  unfold spec_l1In.f
  by_cases h : a ≥ b
  · rw [if_pos h]
    simp [show b ≤ a from h]
  · rw [if_neg h]
    simp [show ¬ b ≤ a from h]
end Go.Proofs.Ytjfhcddahahdfaa.Fn
namespace Go.Proofs.Ytjfhcddahahdfaa.Fn
open Go.RowKit Go.Proofs.YtjfhcddahahdfaaW.PrintWords Go.Proofs.YtjfhcddahahdfaaW.PrintLast Go.Proofs.YtjfhcddahahdfaaW.PrintMore
set_option linter.unusedVariables false
set_option linter.unusedSimpArgs false
theorem laws_szPuzzle.f_val (l : List Int) (a s : Int) (h : l.length ≤ 35184372088832) : laws_szPuzzle.f l a s 1048576 = some (if l.length ≤ 1048576 then 1048576 - (l.length : Int) else -1) := by
  unfold laws_szPuzzle.f laws_szIntS.f
  rw [wrap_in (by omega) (by omega)]
  by_cases h1 : l.length ≤ 1048576
  · rw [if_neg (by omega), if_pos h1]
    simp only [Option.bind_some]
    rw [if_neg (by omega)]
  · rw [if_pos (by omega), if_neg h1]
    rfl
theorem laws_toPuzzle.F_val (l : List Int) (a s : Int) (h : l.length ≤ 35184372088832) : laws_toPuzzle.F l a s = some (l, a, s) := by
  rw [laws_toPuzzle.F_eq, laws_toIntS.F_val l h]
  rfl
theorem laws_eqPuzzle.F_same (l : List Int) (a s : Int) (h : l.length < 4611686018427387904) : laws_eqPuzzle.F l a s l a s = some true := by
  rw [laws_eqPuzzle.F_eq, laws_eqIntS.F_same l h]
  simp only [Option.bind_some, if_true]
theorem laws_markPuzzle.F_val (l : List Int) (a s : Int) (k : Int) (h0 : 0 ≤ k) (hk : k + l.length < 4611686018427387904) : laws_markPuzzle.F l a s k = some (k + l.length, marks l.length k) := by
  rw [laws_markPuzzle.F_eq, laws_markIntS.F_val l k h0 hk]
  rfl
/-- What a puzzle's length, first number and shift must be. -/
def puzzleHead (n : Nat) (a s : Int) : Prop := n % 2 = 0 ∧ 1 ≤ n / 2 ∧ n / 2 ≤ 9 ∧ 1 ≤ a ∧ a ≤ 20 ∧ (s = 0 ∨ s = 1) ∧ a + ((n / 2 : Nat) : Int) ≤ 21
instance (n : Nat) (a s : Int) : Decidable (puzzleHead n a s) := by unfold puzzleHead; infer_instance
def amongOf (n : Nat) (a x : Int) : Bool := decide (a ≤ x) && decide (x < a + ((n / 2 : Nat) : Int))
def isPuzzle (l : List Int) (a s : Int) : Bool := decide (puzzleHead l.length a s) && l.all (fun x => decide (x = 0) || amongOf l.length a x)
theorem isPuzzle_head {l : List Int} {a s : Int} (h : isPuzzle l a s = true) : puzzleHead l.length a s := by
  unfold isPuzzle at h
  simp only [Bool.and_eq_true, decide_eq_true_eq] at h
  exact h.1
theorem isPuzzle_no {l : List Int} {a s : Int} (h : ¬ puzzleHead l.length a s) : isPuzzle l a s = false := by
  unfold isPuzzle
  rw [decide_eq_false h, Bool.false_and]
theorem isPuzzle_yes {l : List Int} {a s : Int} (h : puzzleHead l.length a s) : isPuzzle l a s = l.all (fun x => decide (x = 0) || amongOf l.length a x) := by
  unfold isPuzzle
  rw [decide_eq_true h, Bool.true_and]
theorem spec_pzGood.L0_val (l : List Int) (a s : Int) (n : Nat) (hn : n / 2 ≤ 9) (ha : 1 ≤ a ∧ a ≤ 20) : ∀ (suf pre : List Int), (pre ++ suf).length < 4611686018427387904 → spec_pzGood.L0 ((n / 2 : Nat) : Int) (pre ++ suf) ((pre ++ suf).length : Int) (pre.length : Int) l a s = some (suf.all (fun x => decide (x = 0) || amongOf n a x))
  | [], pre, h => by
    rw [spec_pzGood.L0_eq, range_end]
    rfl
  | x :: suf, pre, h => by
    have w : wrap64 (wrap64 (a + ((n / 2 : Nat) : Int)) - 1) = a + ((n / 2 : Nat) : Int) - 1 := by rw [wrap_in (n := a + _) (by omega) (by omega), wrap_in (by omega) (by omega)]
    rw [spec_pzGood.L0_eq, range_step, rd_mid, wrap_mid h, app_mid pre x suf, spec_pzGood.L0_val l a s n hn ha suf (pre ++ [x]) (by simpa using h), w, spec_l1In.f_val]
    simp only [Option.bind_some]
    by_cases h1 : x = 0
    · rw [if_pos h1]
      simp [h1]
    · rw [if_neg h1]
      have e : (decide (a ≤ x) && decide (x ≤ a + ((n / 2 : Nat) : Int) - 1)) = amongOf n a x := by
        unfold amongOf
        congr 1
        rw [decide_eq_decide]
        omega
      rw [e]
      by_cases h2 : amongOf n a x = true
      · rw [if_pos h2]
        simp [h1, h2]
      · rw [if_neg h2]
        simp [h1, h2]
theorem spec_pzGood.F_val (l : List Int) (a s : Int) (h : l.length < 4611686018427387904) : spec_pzGood.F l a s = some (isPuzzle l a s) := by
  have w : wrap64 ((l.length : Int) / 2) = ((l.length / 2 : Nat) : Int) := by rw [wrap_in (by omega) (by omega)]; omega
  rw [spec_pzGood.F_eq, w]
  simp only [spec_l1In.f_val, Option.bind_some, spec_pzGood.J0_eq]
  by_cases h1 : l.length % 2 = 0
  · rw [if_pos (show (l.length : Int) % 2 = 0 by omega)]
    by_cases h2 : 1 ≤ l.length / 2 ∧ l.length / 2 ≤ 9
    · have h2' : (decide ((1 : Int) ≤ ((l.length / 2 : Nat) : Int)) && decide (((l.length / 2 : Nat) : Int) ≤ 9)) = true := by simp; omega
      rw [if_pos h2']
      by_cases h3 : 1 ≤ a ∧ a ≤ 20
      · have h3' : (decide (1 ≤ a) && decide (a ≤ 20)) = true := by simp; omega
        have w2 : wrap64 (wrap64 (a + ((l.length / 2 : Nat) : Int)) - 1) = a + ((l.length / 2 : Nat) : Int) - 1 := by rw [wrap_in (n := a + _) (by omega) (by omega), wrap_in (by omega) (by omega)]
        rw [if_pos h3', w2]
        by_cases h4 : s = 0 ∨ s = 1
        · have h4' : (decide ((0 : Int) ≤ s) && decide (s ≤ 1)) = true := by simp; omega
          rw [if_pos h4']
          by_cases h5 : a + ((l.length / 2 : Nat) : Int) ≤ 21
          · have := spec_pzGood.L0_val l a s l.length h2.2 h3 l [] (by simpa using h)
            rw [if_neg (by simp; omega), isPuzzle_yes ⟨h1, h2.1, h2.2, h3.1, h3.2, h4, h5⟩]
            exact this
          · rw [if_pos (by simp; omega), isPuzzle_no (fun h => h5 h.2.2.2.2.2.2)]
        · have h4' : ¬ (decide ((0 : Int) ≤ s) && decide (s ≤ 1)) = true := by simp; omega
          rw [if_neg h4', if_pos (by trivial), isPuzzle_no (fun h => h4 h.2.2.2.2.2.1)]
      · have h3' : ¬ (decide (1 ≤ a) && decide (a ≤ 20)) = true := by simp; omega
        rw [if_neg h3', if_pos (by trivial), isPuzzle_no (fun h => h3 ⟨h.2.2.2.1, h.2.2.2.2.1⟩)]
    · have h2' : ¬ (decide ((1 : Int) ≤ ((l.length / 2 : Nat) : Int)) && decide (((l.length / 2 : Nat) : Int) ≤ 9)) = true := by simp; omega
      rw [if_neg h2', if_pos (by trivial), isPuzzle_no (fun h => h2 ⟨h.2.1, h.2.2.1⟩)]
  · rw [if_neg (show ¬ (l.length : Int) % 2 = 0 by omega), if_pos (by trivial), isPuzzle_no (fun h => h1 h.1)]
theorem impl_Puzzle_among.f_val (l : List Int) (a s x : Int) (hl : l.length < 4611686018427387904) (ha : 1 ≤ a ∧ a ≤ 20) : impl_Puzzle_among.f l a s x = some (amongOf l.length a x) := by
  have w : wrap64 ((l.length : Int) / 2) = ((l.length / 2 : Nat) : Int) := by rw [wrap_in (by omega) (by omega)]; omega
  unfold impl_Puzzle_among.f amongOf
  rw [w, wrap_in (n := a + _) (by omega) (by omega)]
  by_cases h : x ≥ a
  · rw [if_pos h, decide_eq_true (show a ≤ x from h), Bool.true_and]
  · rw [if_neg h, decide_eq_false (show ¬ a ≤ x from h), Bool.false_and]
theorem impl_IsPuzzle.L0_val (l : List Int) (a s : Int) (hl : l.length < 4611686018427387904) (ha : 1 ≤ a ∧ a ≤ 20) : ∀ (suf pre : List Int), (pre ++ suf).length < 4611686018427387904 → impl_IsPuzzle.L0 (pre ++ suf) ((pre ++ suf).length : Int) (pre.length : Int) l a s = some (suf.all (fun x => decide (x = 0) || amongOf l.length a x))
  | [], pre, h => by
    rw [impl_IsPuzzle.L0_eq, range_end]
    rfl
  | x :: suf, pre, h => by
    rw [impl_IsPuzzle.L0_eq, range_step, rd_mid, wrap_mid h, app_mid pre x suf, impl_IsPuzzle.L0_val l a s hl ha suf (pre ++ [x]) (by simpa using h), impl_Puzzle_among.f_val l a s x hl ha]
    simp only [Option.bind_some]
    by_cases h1 : x = 0
    · rw [if_pos h1]
      simp [h1]
    · rw [if_neg h1]
      by_cases h2 : amongOf l.length a x = true
      · rw [if_pos h2]
        simp [h1, h2]
      · rw [if_neg h2]
        simp [h1, h2]
theorem impl_IsPuzzle.F_val (l : List Int) (a s : Int) (h : l.length < 4611686018427387904) : impl_IsPuzzle.F l a s = some (isPuzzle l a s) := by
  have w : wrap64 ((l.length : Int) / 2) = ((l.length / 2 : Nat) : Int) := by rw [wrap_in (by omega) (by omega)]; omega
  have es : impl_sought.f ((l.length / 2 : Nat) : Int) = some (decide (1 ≤ l.length / 2 ∧ l.length / 2 ≤ 9)) := by
    unfold impl_sought.f
    by_cases h1 : ((l.length / 2 : Nat) : Int) ≥ 1
    · rw [if_pos h1]
      congr 1
      rw [decide_eq_decide]
      omega
    · rw [if_neg h1, decide_eq_false (by omega)]
  have ei : impl_isShift.f s = some (decide (s = 0 ∨ s = 1)) := by
    unfold impl_isShift.f
    by_cases h1 : s = 0
    · rw [if_pos h1]
      simp [h1]
    · rw [if_neg h1]
      simp [h1]
      rfl
  rw [impl_IsPuzzle.F_eq, w, es, ei]
  simp only [Option.bind_some, impl_IsPuzzle.J0_eq, decide_eq_true_eq]
  by_cases h1 : l.length % 2 = 0
  · rw [if_neg (show ¬ (l.length : Int) % 2 = 1 by omega)]
    by_cases h2 : 1 ≤ l.length / 2 ∧ l.length / 2 ≤ 9
    · rw [if_pos h2]
      by_cases h3 : a < 1
      · rw [if_pos h3, if_pos (by trivial), isPuzzle_no (fun h => by have := h.2.2.2.1; omega)]
      · rw [if_neg h3]
        by_cases h4 : a > 20
        · rw [if_pos h4, if_pos (by trivial), isPuzzle_no (fun h => by have := h.2.2.2.2.1; omega)]
        · have w2 : wrap64 (wrap64 (a + ((l.length / 2 : Nat) : Int)) - 1) = a + ((l.length / 2 : Nat) : Int) - 1 := by rw [wrap_in (n := a + _) (by omega) (by omega), wrap_in (by omega) (by omega)]
          rw [if_neg h4, w2]
          by_cases h5 : a + ((l.length / 2 : Nat) : Int) ≤ 21
          · rw [if_neg (show ¬ a + ((l.length / 2 : Nat) : Int) - 1 > 20 by omega)]
            by_cases h6 : s = 0 ∨ s = 1
            · have := impl_IsPuzzle.L0_val l a s h (by omega) l [] (by simpa using h)
              rw [if_neg (by simp [h6]), isPuzzle_yes ⟨h1, h2.1, h2.2, by omega, by omega, h6, h5⟩]
              exact this
            · rw [if_pos (by simp [h6]), isPuzzle_no (fun h => h6 h.2.2.2.2.2.1)]
          · rw [if_pos (show a + ((l.length / 2 : Nat) : Int) - 1 > 20 by omega), if_pos (by trivial), isPuzzle_no (fun h => h5 h.2.2.2.2.2.2)]
    · rw [if_neg h2, if_pos (by trivial), isPuzzle_no (fun h => h2 ⟨h.2.1, h.2.2.1⟩)]
  · rw [if_pos (show (l.length : Int) % 2 = 1 by omega), if_pos (by trivial), isPuzzle_no (fun h => h1 h.1)]
end Go.Proofs.Ytjfhcddahahdfaa.Fn
namespace Go.Proofs.Ytjfhcddahahdfaa.Fn
open Go.RowKit Go.Proofs.YtjfhcddahahdfaaW.PrintWords Go.Proofs.YtjfhcddahahdfaaW.PrintLast Go.Proofs.YtjfhcddahahdfaaW.PrintMore
set_option linter.unusedVariables false
set_option linter.unusedSimpArgs false
theorem zeroAt_rd : ∀ l : List Int, zeroAt l < l.length → rd l (zeroAt l) = 0
  | [], h => by simp at h
  | x :: l, h => by
    unfold zeroAt at h ⊢
    split
    · rename_i hx
      simp [rd, hx]
    · rename_i hx
      rw [if_neg hx] at h
      have := zeroAt_rd l (by simpa using h)
      simpa [rd] using this
/-- All solutions, in order. -/
def solsLoop (rec : List Int → Nat → List (List Int)) (prow row : List Int) (shift : Int) (used a : Nat) : Nat → Int → List (List Int)
  | 0, _ => []
  | m + 1, n => (if pzPassed row used n ((a : Int) + n + shift) ∨ pzWrong prow a n ((a : Int) + n + shift) then [] else rec ((row.set a n).set ((a : Int) + n + shift).toNat n) (used ||| 2 ^ n.toNat)) ++ solsLoop rec prow row shift used a m (n + 1)
def sols (prow : List Int) (from_ shift : Int) : Nat → List Int → Nat → List (List Int)
  | 0, _, _ => []
  | k + 1, row, used => if zeroAt row = row.length then [row] else solsLoop (sols prow from_ shift k) prow row shift used (zeroAt row) (row.length / 2) from_
theorem take_more {α : Type} (a b : List α) (n : Nat) : (a.take n ++ b).take n = (a ++ b).take n := by
  rcases Nat.le_total n a.length with h | h
  · rw [List.take_append_of_le_length (by rw [List.length_take]; omega), List.take_append_of_le_length h, List.take_take, Nat.min_self]
  · rw [List.take_of_length_le h]
theorem count_put {row : List Int} {a : Nat} {n : Int} (t : Nat) (ha : a < row.length) (h0 : rd row a = 0) (hn : n ≠ 0) : ((row.set a n).set t n).count 0 < row.count 0 := by
  have hmem : (0 : Int) ∈ row := by
    rw [rd_nat row a ha] at h0
    rw [← h0]
    exact List.getElem_mem ha
  have hpos := List.count_pos_iff.2 hmem
  have hb : ((n == (0 : Int)) = true) = False := by simp [hn]
  have h1 : (row.set a n).count 0 = row.count 0 - 1 := by
    rw [List.count_set ha]
    rw [rd_nat row a ha] at h0
    simp [h0, hn]
  rcases Nat.lt_or_ge t (row.set a n).length with h | h
  · rw [List.count_set h, h1]
    simp only [beq_iff_eq, hn, if_false, Nat.add_zero]
    omega
  · rw [List.set_eq_of_length_le h, h1]
    omega
theorem pzLoop_val {prow row : List Int} {shift : Int} {used a k : Nat} {rec : List (List Int) → List Int → Nat → Option (List (List Int))} {recS : List Int → Nat → List (List Int)} (hrec : ∀ xs row' used', row'.count 0 < k → xs.length ≤ 301 → rec xs row' used' = some ((xs ++ recS row' used').take 301)) (hk : row.count 0 < k + 1) (ha : a < row.length) (h0 : rd row a = 0) : ∀ (m : Nat) (n : Int) (xs : List (List Int)), 1 ≤ n → xs.length ≤ 301 → pzLoop rec prow row shift used a m n xs = some ((xs ++ solsLoop recS prow row shift used a m n).take 301)
  | 0, n, xs, hn, hx => by
    simp only [pzLoop, solsLoop, List.append_nil]
    rw [List.take_of_length_le hx]
  | m + 1, n, xs, hn, hx => by
    by_cases hp : pzPassed row used n ((a : Int) + n + shift) ∨ pzWrong prow a n ((a : Int) + n + shift)
    · rw [pzLoop_pass rfl hp, pzLoop_val hrec hk ha h0 m (n + 1) xs (by omega) hx, solsLoop, if_pos hp, List.nil_append]
    · have hc := count_put (((a : Int) + n + shift).toNat) ha h0 (show n ≠ 0 by omega)
      rw [pzLoop_put rfl hp, hrec xs _ _ (by omega) hx, solsLoop, if_neg hp, Option.bind_some, pzLoop_val hrec hk ha h0 m (n + 1) _ (by omega) (by rw [List.length_take]; omega), take_more, List.append_assoc]
theorem pzF_val (prow : List Int) (from_ shift : Int) (hf : 1 ≤ from_) : ∀ (k : Nat) (xs : List (List Int)) (row : List Int) (used : Nat), row.count 0 < k → xs.length ≤ 301 → pzF prow from_ shift k xs row used = some ((xs ++ sols prow from_ shift k row used).take 301)
  | 0, xs, row, used, h, hx => by omega
  | k + 1, xs, row, used, h, hx => by
    unfold pzF sols
    by_cases h1 : 300 < xs.length
    · rw [if_pos h1, List.take_append_of_le_length (by omega), List.take_of_length_le hx]
    · rw [if_neg h1]
      by_cases h2 : zeroAt row = row.length
      · rw [if_pos h2, if_pos h2, List.take_of_length_le (by simp; omega)]
      · have := zeroAt_le row
        rw [if_neg h2, if_neg h2]
        exact pzLoop_val (fun xs row' used' h hx => pzF_val prow from_ shift hf k xs row' used' h hx) h (by omega) (zeroAt_rd row (by omega)) _ _ _ hf hx
/-- The row as the program's search has it: its free places. -/
def toFree (row : List Int) : List Int := row.map fun x => if x = 0 then -1 else x
def leftOf (from_ : Int) (n used : Nat) : List Int := (List.range n).map fun i => if used.testBit (from_.toNat + i) = true then 0 else from_ + (i : Int)
theorem toFree_len (row : List Int) : (toFree row).length = row.length := by simp [toFree]
theorem toFree_rd {row : List Int} {t : Int} (h0 : 0 ≤ t) (h1 : t < row.length) : rd (toFree row) t = if rd row t = 0 then -1 else rd row t := by
  obtain ⟨i, rfl⟩ : ∃ i : Nat, t = i := ⟨t.toNat, by omega⟩
  have hi : i < row.length := by omega
  rw [rd_nat _ i (by rw [toFree_len]; exact hi), rd_nat row i hi]
  simp [toFree]
theorem toFree_free : ∀ row : List Int, (∀ x ∈ row, 0 ≤ x) → freeAt (toFree row) = zeroAt row
  | [], _ => rfl
  | x :: l, h => by
    have ih := toFree_free l (fun y hy => h y (by simp [hy]))
    have hx := h x (by simp)
    have e : toFree (x :: l) = (if x = 0 then -1 else x) :: toFree l := rfl
    rw [e]
    unfold freeAt zeroAt
    by_cases h0 : x = 0
    · simp [h0]
    · rw [if_neg h0, if_neg h0, if_neg (by omega), ih]
theorem toFree_set {row : List Int} {a t : Nat} {n : Int} (hn : n ≠ 0) : ((toFree row).set a n).set t n = toFree ((row.set a n).set t n) := by
  simp [toFree, List.map_set, hn]
theorem toFree_full : ∀ row : List Int, zeroAt row = row.length → toFree row = row
  | [], _ => rfl
  | x :: l, h => by
    by_cases h0 : x = 0
    · subst h0
      simp [zeroAt] at h
    · have h2 : zeroAt l = l.length := by simpa [zeroAt, h0] using h
      have ih := toFree_full l h2
      have e : toFree (x :: l) = (if x = 0 then -1 else x) :: toFree l := rfl
      rw [e, ih, if_neg h0]
theorem leftOf_len (from_ : Int) (n used : Nat) : (leftOf from_ n used).length = n := by simp [leftOf]
theorem leftOf_rd {from_ : Int} {n used i : Nat} (h : i < n) : rd (leftOf from_ n used) i = if used.testBit (from_.toNat + i) = true then 0 else from_ + (i : Int) := by
  rw [rd_nat _ i (by rw [leftOf_len]; exact h)]
  simp [leftOf]
theorem leftOf_set {from_ : Int} {n used i : Nat} (h : i < n) : (leftOf from_ n used).set i 0 = leftOf from_ n (used ||| 2 ^ (from_.toNat + i)) := by
  apply List.ext_getElem?
  intro j
  rw [List.getElem?_set, leftOf_len]
  by_cases hj : i = j
  · subst hj
    rw [if_pos rfl, if_pos h]
    simp [leftOf, h, Nat.testBit_or, Nat.testBit_two_pow]
  · rw [if_neg hj]
    rcases Nat.lt_or_ge j n with h2 | h2
    · simp [leftOf, h2, Nat.testBit_or, Nat.testBit_two_pow, hj]
    · rw [List.getElem?_eq_none (by rw [leftOf_len]; exact h2), List.getElem?_eq_none (by rw [leftOf_len]; exact h2)]
/-- So many of the rows, and whether there are more. -/
def upTo (most : Int) (xs : List (List Int)) : List (List Int) × Bool := (xs.take (most.toNat + 1), decide (most < (xs.length : Int)))
theorem fillLoop_val {prow row : List Int} {from_ shift most : Int} {used k : Nat} {rec : List (List Int) → List Int → List Int → Option (List (List Int) × Bool)} {recS : List Int → Nat → List (List Int)} (hm0 : 0 ≤ most) (hf : 1 ≤ from_) (hs : 0 ≤ shift) (hpos : ∀ x ∈ row, 0 ≤ x)
    (hrec : ∀ xs row' used', row'.count 0 < k → (∀ x ∈ row', 0 ≤ x) → row'.length = row.length → (xs.length : Int) ≤ most → rec xs (toFree row') (leftOf from_ (row.length / 2) used') = some (upTo most (xs ++ recS row' used'))) (hk : row.count 0 < k + 1) (ha : zeroAt row < row.length) :
    ∀ (m i : Nat) (xs : List (List Int)), i + m = row.length / 2 → (xs.length : Int) ≤ most → fillLoop rec (toFree row) prow (leftOf from_ (row.length / 2) used) shift m i xs = some (upTo most (xs ++ solsLoop recS prow row shift used (zeroAt row) m (from_ + (i : Int))))
  | 0, i, xs, hi, hx => by
    simp only [fillLoop, solsLoop, List.append_nil, upTo]
    rw [List.take_of_length_le (by omega), decide_eq_false (by omega)]
  | m + 1, i, xs, hi, hx => by
    have hfa := toFree_free row hpos
    have hn := leftOf_rd (from_ := from_) (n := row.length / 2) (used := used) (i := i) (by omega)
    have hnx : from_ + (i : Int) + 1 = from_ + ((i + 1 : Nat) : Int) := by omega
    have hb : (from_ + (i : Int)).toNat = from_.toNat + i := by omega
    by_cases hbit : used.testBit (from_.toNat + i) = true
    · rw [if_pos hbit] at hn
      have hp : pzPassed row used (from_ + (i : Int)) ((zeroAt row : Int) + (from_ + (i : Int)) + shift) := .inl (by rw [hb]; exact hbit)
      rw [fillLoop_pass hfa hn rfl (.inl rfl), fillLoop_val hm0 hf hs hpos hrec hk ha m (i + 1) xs (by omega) hx, solsLoop, if_pos (.inl hp), List.nil_append, hnx]
    · rw [if_neg hbit] at hn
      obtain ⟨n, hne⟩ : ∃ n, from_ + (i : Int) = n := ⟨_, rfl⟩
      rw [hne] at hn hnx hb ⊢
      obtain ⟨t, ht⟩ : ∃ t, (zeroAt row : Int) + n + shift = t := ⟨_, rfl⟩
      have hn1 : 1 ≤ n := by omega
      have ht0 : 0 ≤ t := by omega
      have hcond : passed (toFree row) prow (zeroAt row) n t ↔ (pzPassed row used n t ∨ pzWrong prow (zeroAt row) n t) := by
        have hb2 : ¬ used.testBit n.toNat = true := by rw [hb]; exact hbit
        have hrd : t < (row.length : Int) → (rd (toFree row) t ≠ -1 ↔ rd row t ≠ 0) := fun h => by
          rw [toFree_rd ht0 h]
          by_cases h3 : rd row t = 0
          · simp [h3]
          · rw [if_neg h3]
            have : 0 ≤ rd row t := by
              obtain ⟨j, rfl⟩ : ∃ j : Nat, t = j := ⟨t.toNat, by omega⟩
              rw [rd_nat row j (by omega)]
              exact hpos _ (List.getElem_mem _)
            constructor
            · intro _; exact h3
            · intro _ h4; omega
        unfold passed
        rw [toFree_len]
        constructor
        · rintro (h | h | h | h)
          · omega
          · exact .inl (.inr (.inl h))
          · by_cases h5 : (row.length : Int) ≤ t
            · exact .inl (.inr (.inl h5))
            · exact .inl (.inr (.inr ((hrd (by omega)).1 h)))
          · exact .inr h
        · rintro ((h | h | h) | h)
          · exact absurd h hb2
          · exact .inr (.inl h)
          · by_cases h5 : (row.length : Int) ≤ t
            · exact .inr (.inl h5)
            · exact .inr (.inr (.inl ((hrd (by omega)).2 h)))
          · exact .inr (.inr (.inr h))
      by_cases hp : pzPassed row used n t ∨ pzWrong prow (zeroAt row) n t
      · rw [fillLoop_pass hfa hn ht (hcond.2 hp), fillLoop_val hm0 hf hs hpos hrec hk ha m (i + 1) xs (by omega) hx, solsLoop, ht, if_pos hp, List.nil_append, hnx]
      · have hc := count_put t.toNat ha (zeroAt_rd row ha) (show n ≠ 0 by omega)
        rw [fillLoop_put hfa hn ht (fun h => hp (hcond.1 h)), toFree_set (show n ≠ 0 by omega), leftOf_set (show i < row.length / 2 by omega), hrec xs _ _ (by omega) (fun x hx => by
          rcases List.mem_or_eq_of_mem_set hx with hx | hx
          · rcases List.mem_or_eq_of_mem_set hx with hx | hx
            · exact hpos x hx
            · omega
          · omega) (by simp) hx, solsLoop, ht, if_neg hp, Option.bind_some, ← hb]
        generalize recS ((row.set (zeroAt row) n).set t.toNat n) (used ||| 2 ^ n.toNat) = S
        by_cases hfull : most < ((xs ++ S).length : Int)
        · simp only [upTo, decide_eq_true hfull, if_true]
          have hlen : (xs ++ S ++ solsLoop recS prow row shift used (zeroAt row) m (n + 1)).length = (xs ++ S).length + (solsLoop recS prow row shift used (zeroAt row) m (n + 1)).length := List.length_append
          rw [← List.append_assoc, decide_eq_true (show most < ((xs ++ S ++ solsLoop recS prow row shift used (zeroAt row) m (n + 1)).length : Int) by omega), List.take_append_of_le_length (l₁ := xs ++ S) (by omega)]
        · simp only [upTo, decide_eq_false hfull, Bool.false_eq_true, if_false]
          rw [List.take_of_length_le (by omega), fillLoop_val hm0 hf hs hpos hrec hk ha m (i + 1) (xs ++ S) (by omega) (by omega), hnx, List.append_assoc]
          rfl
theorem fillF_val (prow : List Int) (from_ shift most : Int) (hm0 : 0 ≤ most) (hm1 : most ≤ 1000000) (hf : 1 ≤ from_) (hs : 0 ≤ shift) : ∀ (k : Nat) (xs : List (List Int)) (row : List Int) (used : Nat), row.count 0 < k → (∀ x ∈ row, 0 ≤ x) → (xs.length : Int) ≤ most → fillF (eachAll most) prow shift k xs (toFree row) (leftOf from_ (row.length / 2) used) = some (upTo most (xs ++ sols prow from_ shift k row used))
  | 0, xs, row, used, h, hp, hx => by omega
  | k + 1, xs, row, used, h, hp, hx => by
    have hfa := toFree_free row hp
    unfold fillF sols
    rw [hfa, toFree_len]
    by_cases h2 : zeroAt row = row.length
    · rw [if_pos h2, if_pos h2, toFree_full row h2]
      unfold eachAll upTo
      rw [if_pos (by omega), List.take_of_length_le (by simp; omega)]
      simp
    · have := zeroAt_le row
      rw [if_neg h2, if_neg h2, leftOf_len, fillLoop_val hm0 hf hs hp (fun xs row' used' h1 h2 h3 h4 => by
        have := fillF_val prow from_ shift most hm0 hm1 hf hs k xs row' used' h1 h2 h4
        rwa [h3] at this) h (by omega) (row.length / 2) 0 xs (by omega) hx]
      simp
/-- All solutions of a puzzle. -/
def allSols (l : List Int) (a s : Int) : List (List Int) := sols l a s (l.length + 1) (List.replicate l.length 0) 0
theorem spec_pzAll.f_val (l : List Int) (a s : Int) (h : puzzleHead l.length a s) : spec_pzAll.f l a s = some ((allSols l a s).take 301, decide ((((allSols l a s).take 301).length : Int) ≤ 300)) := by
  obtain ⟨h1, h2, h3, h4, h5, h6, h7⟩ := h
  unfold spec_pzAll.f
  rw [if_pos (by omega), pzF_val l a s h4 _ _ _ _ (by simp) (by simp)]
  rfl
theorem solveAll_val (l : List Int) (a s most : Int) (h : puzzleHead l.length a s) (hm0 : 0 ≤ most) (hm1 : most ≤ 1000000) : solveAll l a s most = some (upTo most (allSols l a s)) := by
  obtain ⟨h1, h2, h3, h4, h5, h6, h7⟩ := h
  have := fillF_val l a s most hm0 hm1 h4 (by omega) (l.length + 1) [] (List.replicate l.length 0) 0 (by simp) (fun x hx => by have := List.eq_of_mem_replicate hx; omega) (by simpa using hm0)
  have e1 : toFree (List.replicate l.length 0) = List.replicate l.length (-1) := by simp [toFree]
  have e2 : leftOf a ((List.replicate l.length (0 : Int)).length / 2) 0 = numbersUp a (l.length / 2) := by simp [leftOf, numbersUp]
  rw [e1, e2, List.nil_append] at this
  exact this
/-- The solutions, if they are not too many. -/
def foundOf (l : List Int) (a s : Int) : List (List Int) × Bool := if isPuzzle l a s = true then (if (((allSols l a s).take 301).length : Int) ≤ 300 then (allSols l a s).take 301 else [], decide ((((allSols l a s).take 301).length : Int) ≤ 300)) else ([], false)
theorem impl_Puzzle_solutions.F_val (l : List Int) (a s : Int) (hl : l.length < 4611686018427387904) : impl_Puzzle_solutions.F l a s = some (foundOf l a s) := by
  rw [impl_Puzzle_solutions.F_eq, impl_IsPuzzle.F_val l a s hl]
  simp only [Option.bind_some]
  unfold foundOf
  by_cases h : isPuzzle l a s = true
  · have hh := isPuzzle_head h
    rw [if_pos h, if_pos h, solveAll_val l a s 300 hh (by omega) (by omega)]
    obtain ⟨h1, h2, h3, h4, h5, h6, h7⟩ := hh
    rw [if_pos (by omega)]
    rfl
  · rw [if_neg h, if_neg h]
theorem spec_pzAsked.F_val (l : List Int) (a s : Int) (hl : l.length < 4611686018427387904) : spec_pzAsked.F l a s = some (if isPuzzle l a s = true then ((allSols l a s).take 301, decide ((((allSols l a s).take 301).length : Int) ≤ 300)) else ([], false)) := by
  rw [spec_pzAsked.F_eq, spec_pzGood.F_val l a s hl]
  simp only [Option.bind_some]
  by_cases h : isPuzzle l a s = true
  · rw [if_pos h, if_pos h, spec_pzAll.f_val l a s (isPuzzle_head h)]
    rfl
  · rw [if_neg h, if_neg h]
def firstSolution (l : List Int) (a s : Int) : List Int × Bool := if (foundOf l a s).2 = true then (if (foundOf l a s).1 = [] then ([], false) else ((foundOf l a s).1.headD [], true)) else ([], false)
theorem rd_L1_head (x : List Int) (l : List (List Int)) : rd_L1 (x :: l) 0 = x := rfl
theorem impl_FirstSolution.F_val (l : List Int) (a s : Int) (hl : l.length < 4611686018427387904) : impl_FirstSolution.F l a s = some (firstSolution l a s) := by
  rw [impl_FirstSolution.F_eq, impl_Puzzle_solutions.F_val l a s hl]
  simp only [Option.bind_some]
  unfold firstSolution
  generalize foundOf l a s = p
  obtain ⟨xs, b⟩ := p
  cases b with
  | false => rfl
  | true =>
    cases xs with
    | nil => rfl
    | cons x xs =>
      simp only [if_true]
      rw [if_neg (by rw [List.length_cons]; omega), if_pos (by rw [List.length_cons]; omega), if_neg (by simp), rd_L1_head]
      rfl
theorem spec_FirstSolution.F_val (l : List Int) (a s : Int) (hl : l.length < 4611686018427387904) : spec_FirstSolution.F l a s = some (firstSolution l a s) := by
  rw [spec_FirstSolution.F_eq, spec_pzAsked.F_val l a s hl]
  simp only [Option.bind_some]
  unfold firstSolution foundOf
  by_cases h : isPuzzle l a s = true
  · rw [if_pos h, if_pos h]
    by_cases h2 : (((allSols l a s).take 301).length : Int) ≤ 300
    · simp only [h2, decide_true, if_true]
      generalize (allSols l a s).take 301 = xs
      cases xs with
      | nil => rfl
      | cons x xs =>
        rw [if_neg (by rw [List.length_cons]; omega), if_pos (by rw [List.length_cons]; omega), if_neg (by simp), rd_L1_head]
        rfl
    · simp only [h2, decide_false, if_false, Bool.false_eq_true]
  · rw [if_neg h, if_neg h]
    rfl
theorem solsLoop_mem {rec : List Int → Nat → List (List Int)} {prow row : List Int} {shift : Int} {used a L : Nat} (hrec : ∀ row' used' x, row'.length = L → x ∈ rec row' used' → x.length = L) (hL : row.length = L) : ∀ (m : Nat) (n : Int) (x : List Int), x ∈ solsLoop rec prow row shift used a m n → x.length = L
  | 0, n, x, h => by simp [solsLoop] at h
  | m + 1, n, x, h => by
    unfold solsLoop at h
    rcases List.mem_append.1 h with h | h
    · split at h
      · cases h
      · exact hrec _ _ x (by simpa using hL) h
    · exact solsLoop_mem hrec hL m (n + 1) x h
theorem sols_mem (prow : List Int) (from_ shift : Int) : ∀ (k : Nat) (row : List Int) (used : Nat) (x : List Int), x ∈ sols prow from_ shift k row used → x.length = row.length
  | 0, row, used, x, h => by simp [sols] at h
  | k + 1, row, used, x, h => by
    unfold sols at h
    split at h
    · rw [List.mem_singleton.1 h]
    · exact solsLoop_mem (fun row' used' x h1 h2 => (sols_mem prow from_ shift k row' used' x h2).trans h1) rfl _ _ x h
theorem allSols_mem {l : List Int} {a s : Int} {x : List Int} (h : x ∈ allSols l a s) : x.length = l.length := by
  have := sols_mem l a s _ _ _ x h
  simpa using this
theorem foundOf_mem {l : List Int} {a s : Int} {x : List Int} (h : x ∈ (foundOf l a s).1) : x.length = l.length := by
  unfold foundOf at h
  split at h
  · simp only at h
    split at h
    · exact allSols_mem (List.mem_of_mem_take h)
    · cases h
  · cases h
theorem firstSolution_len (l : List Int) (a s : Int) : (firstSolution l a s).1.length ≤ l.length := by
  have h := @foundOf_mem l a s
  unfold firstSolution
  generalize foundOf l a s = p at h
  obtain ⟨xs, b⟩ := p
  simp only at h ⊢
  split
  · split
    · simp
    · cases xs with
      | nil => simp
      | cons x xs =>
        have := h (x := x) (by simp)
        simp [this]
  · simp
end Go.Proofs.Ytjfhcddahahdfaa.Fn
namespace Go.Proofs.Ytjfhcddahahdfaa.Pure
open Go.RowKit Go.Proofs.Ytjfhcddahahdfaa.Fn Go.Proofs.YtjfhcddahahdfaaW.PrintWords Go.Proofs.YtjfhcddahahdfaaW.PrintLast Go.Proofs.YtjfhcddahahdfaaW.PrintMore
set_option linter.unusedVariables false
set_option linter.unusedSimpArgs false
theorem FnExactFirstSolution : laws_FnExactFirstSolution.Pure := by
  intro l0_0 a0_1 a0_2 hl _ _ _ _
  refine Lim.rounds (laws_FnExactFirstSolution.F_lim l0_0 a0_1 a0_2) ?_
  rw [laws_FnExactFirstSolution.F_eq]
  have hl' : l0_0.length ≤ 35184372088832 := by simp only [maxLen] at hl; omega
  have e1 := laws_szPuzzle.f_val l0_0 a0_1 a0_2 (by omega)
  by_cases h0 : l0_0.length ≤ 1048576
  case neg =>
    rw [if_neg h0] at e1
    rw [e1]
    rfl
  rw [if_pos h0] at e1
  have n0 : ¬ (1048576 - (l0_0.length : Int) < 0) := by omega
  have e0 := laws_toPuzzle.F_val l0_0 a0_1 a0_2 (by omega)
  have q0 := laws_eqPuzzle.F_same l0_0 a0_1 a0_2 (by omega)
  have s := spec_FirstSolution.F_val l0_0 a0_1 a0_2 (by omega)
  have i := impl_FirstSolution.F_val l0_0 a0_1 a0_2 (by omega)
  have hr := firstSolution_len l0_0 a0_1 a0_2
  have q := laws_eqIntS.F_same (firstSolution l0_0 a0_1 a0_2).1 (by omega)
  have m0 := laws_markPuzzle.F_val l0_0 a0_1 a0_2 1 (by omega) (by omega)
  have m := laws_markIntS.F_val (firstSolution l0_0 a0_1 a0_2).1 1 (by omega) (by omega)
  have g := laws_heldIntS.F_val (firstSolution l0_0 a0_1 a0_2).1.length 1 (by omega) (by omega)
  have n1 : ¬ ((1 : Int) + l0_0.length < 0) := by omega
  have n2 : ¬ ((1 : Int) + (firstSolution l0_0 a0_1 a0_2).1.length < 0) := by omega
  simp only [e1, n0, e0, s, i, q0, q, m0, m, g, n1, n2, Option.bind_some, if_true, bne_self_eq_false, if_false, Bool.false_eq_true, laws_FnExactFirstSolution.J0_eq, laws_FnExactFirstSolution.J1_eq, laws_FnExactFirstSolution.J2_eq]
end Go.Proofs.Ytjfhcddahahdfaa.Pure
