/- The machine's side and plain lemmas for FnExactHarderPuzzle: texts of this session, merged by its program (part 3). -/
import Derived.Test.YtjfhcddahahdfaaMFnExactHarderPuzzle0
import Derived.Test.YtjfhcddahahdfaaMFnExactHarderPuzzle1
import Derived.Test.YtjfhcddahahdfaaMFnExactHarderPuzzle2
namespace Go.Proofs.Ytjfhcddahahdfaa.Fn
open Go.RowKit Go.Proofs.YtjfhcddahahdfaaW.PrintWords Go.Proofs.YtjfhcddahahdfaaW.PrintLast Go.Proofs.YtjfhcddahahdfaaW.PrintMore
attribute [local go_sem] max2_int min2_int max_two min_two max_three min_three max_four min_four   -- for this text's walks alone
set_option linter.unusedVariables false
set_option linter.unusedSimpArgs false

/-! ### laws_FnExactHarderPuzzle: function 14 -/
mutual
def laws_FnExactHarderPuzzle.j0 : Nat → Bool → Bool → Bool → List Int → Int → Int → List Int → Int → Int → List Int → Int → Int → List Int → Int → Int → Option (Bool)
  | 0, _, _, _, _, _, _, _, _, _, _, _, _, _, _, _ => none
  | k + 1, x5, x8, x40, x820000, x820001, x820002, x833000, x833001, x833002, x839000, x839001, x839002, x846000, x846001, x846002 => if x40 = true then (some false) else ((laws_toPuzzle.f k x820000 x820001 x820002).bind fun bt847 => ((laws_eqPuzzle.f k x839000 x839001 x839002 bt847.1 bt847.2.1 bt847.2.2).bind fun t852 => (if t852 = true then ((laws_markPuzzle.f k x839000 x839001 x839002 1).bind fun bt853 => (if bt853.1 < 0 then (laws_FnExactHarderPuzzle.j1 k x5 true x820000 x820001 x820002 x833000 x833001 x833002 x846000 x846001 x846002) else ((laws_eqPuzzle.f k x846000 x846001 x846002 x833000 x833001 x833002).bind fun t855 => (if t855 = true then (laws_FnExactHarderPuzzle.j1 k x5 (x8 != x5) x820000 x820001 x820002 x833000 x833001 x833002 x846000 x846001 x846002) else (laws_FnExactHarderPuzzle.j1 k x5 true x820000 x820001 x820002 x833000 x833001 x833002 x846000 x846001 x846002))))) else (some false))))
def laws_FnExactHarderPuzzle.j1 : Nat → Bool → Bool → List Int → Int → Int → List Int → Int → Int → List Int → Int → Int → Option (Bool)
  | 0, _, _, _, _, _, _, _, _, _, _, _ => none
  | k + 1, x5, x61, x820000, x820001, x820002, x833000, x833001, x833002, x846000, x846001, x846002 => if x61 = true then (some false) else ((laws_markPuzzle.f k x846000 x846001 x846002 1).bind fun bt856 => ((laws_heldPuzzle.f k bt856.2 x846001 x846002 1).bind fun t858 => (if t858 < 0 then (some false) else (if t858 = bt856.1 then ((laws_toPuzzle.f k x820000 x820001 x820002).bind fun bt859 => ((impl_HarderPuzzle.f k bt859.1 bt859.2.1 bt859.2.2).bind fun bt864 => ((laws_eqPuzzle.f k bt864.1 bt864.2.1 bt864.2.2.1 x833000 x833001 x833002).bind fun t871 => (if t871 = true then (laws_FnExactHarderPuzzle.j2 k bt856.1 (bt864.2.2.2 != x5) bt856.2 x846001 x846002) else (laws_FnExactHarderPuzzle.j2 k bt856.1 true bt856.2 x846001 x846002))))) else (some false)))))
def laws_FnExactHarderPuzzle.j2 : Nat → Int → Bool → List Int → Int → Int → Option (Bool)
  | 0, _, _, _, _, _ => none
  | k + 1, x10, x87, x846000, x846001, x846002 => if x87 = true then (some false) else ((laws_heldPuzzle.f k x846000 x846001 x846002 1).bind fun t872 => (if t872 < 0 then (some false) else (if t872 = x10 then (some true) else (some false))))
end
def laws_FnExactHarderPuzzle.f (k : Nat) (l0_0 : List Int) (a0_1 : Int) (a0_2 : Int) : Option (Bool) := (laws_szPuzzle.f l0_0 a0_1 a0_2 1048576).bind fun t820 => (if t820 < 0 then (some true) else ((laws_toPuzzle.f k l0_0 a0_1 a0_2).bind fun bt821 => ((spec_HarderPuzzle.f k bt821.1 bt821.2.1 bt821.2.2).bind fun bt826 => ((laws_toPuzzle.f k l0_0 a0_1 a0_2).bind fun bt833 => ((impl_HarderPuzzle.f k bt833.1 bt833.2.1 bt833.2.2).bind fun bt839 => ((laws_eqPuzzle.f k bt839.1 bt839.2.1 bt839.2.2.1 bt826.1 bt826.2.1 bt826.2.2.1).bind fun t846 => (if t846 = true then (laws_FnExactHarderPuzzle.j0 k bt826.2.2.2 bt839.2.2.2 (bt839.2.2.2 != bt826.2.2.2) l0_0 a0_1 a0_2 bt826.1 bt826.2.1 bt826.2.2.1 bt833.1 bt833.2.1 bt833.2.2 bt839.1 bt839.2.1 bt839.2.2.1) else (laws_FnExactHarderPuzzle.j0 k bt826.2.2.2 bt839.2.2.2 true l0_0 a0_1 a0_2 bt826.1 bt826.2.1 bt826.2.2.1 bt833.1 bt833.2.1 bt833.2.2 bt839.1 bt839.2.1 bt839.2.2.1))))))))
theorem laws_FnExactHarderPuzzle.mono_l : ∀ k, (∀ y0 y1 y2 y3 y4 y5 y6 y7 y8 y9 y10 y11 y12 y13 y14, LeO (laws_FnExactHarderPuzzle.j0 k y0 y1 y2 y3 y4 y5 y6 y7 y8 y9 y10 y11 y12 y13 y14) (laws_FnExactHarderPuzzle.j0 (k + 1) y0 y1 y2 y3 y4 y5 y6 y7 y8 y9 y10 y11 y12 y13 y14)) ∧ (∀ y0 y1 y2 y3 y4 y5 y6 y7 y8 y9 y10, LeO (laws_FnExactHarderPuzzle.j1 k y0 y1 y2 y3 y4 y5 y6 y7 y8 y9 y10) (laws_FnExactHarderPuzzle.j1 (k + 1) y0 y1 y2 y3 y4 y5 y6 y7 y8 y9 y10)) ∧ (∀ y0 y1 y2 y3 y4, LeO (laws_FnExactHarderPuzzle.j2 k y0 y1 y2 y3 y4) (laws_FnExactHarderPuzzle.j2 (k + 1) y0 y1 y2 y3 y4))
  | 0 => ⟨fun _ _ _ _ _ _ _ _ _ _ _ _ _ _ _ r h => by simp [laws_FnExactHarderPuzzle.j0] at h, fun _ _ _ _ _ _ _ _ _ _ _ r h => by simp [laws_FnExactHarderPuzzle.j1] at h, fun _ _ _ _ _ r h => by simp [laws_FnExactHarderPuzzle.j2] at h⟩
  | k + 1 => by
    obtain ⟨ih0, ih1, ih2⟩ := laws_FnExactHarderPuzzle.mono_l k
    refine ⟨?_, ?_, ?_⟩
    · intro y0 y1 y2 y3 y4 y5 y6 y7 y8 y9 y10 y11 y12 y13 y14
      unfold laws_FnExactHarderPuzzle.j0
      repeat' first
      | (with_reducible exact ih0 _ _ _ _ _ _ _ _ _ _ _ _ _ _ _)
      | (with_reducible exact ih1 _ _ _ _ _ _ _ _ _ _ _)
      | (with_reducible exact ih2 _ _ _ _ _)
      | (with_reducible exact impl_HarderPuzzle.mono _ _ _ _)
      | (with_reducible exact laws_eqPuzzle.mono _ _ _ _ _ _ _)
      | (with_reducible exact laws_heldPuzzle.mono _ _ _ _ _)
      | (with_reducible exact laws_markPuzzle.mono _ _ _ _ _)
      | (with_reducible exact laws_toPuzzle.mono _ _ _ _)
      | (with_reducible exact spec_HarderPuzzle.mono _ _ _ _)
      | (with_reducible exact LeO.refl _)
      | (with_reducible exact LeO.none _)
      | (with_reducible refine LeO.ite ?_ ?_)
      | (with_reducible refine LeO.bind ?_ (fun _ => ?_))
      | exact ih0 _ _ _ _ _ _ _ _ _ _ _ _ _ _ _
      | exact ih1 _ _ _ _ _ _ _ _ _ _ _
      | exact ih2 _ _ _ _ _
      | exact impl_HarderPuzzle.mono _ _ _ _
      | exact laws_eqPuzzle.mono _ _ _ _ _ _ _
      | exact laws_heldPuzzle.mono _ _ _ _ _
      | exact laws_markPuzzle.mono _ _ _ _ _
      | exact laws_toPuzzle.mono _ _ _ _
      | exact spec_HarderPuzzle.mono _ _ _ _
      | exact LeO.none _
      | refine LeO.ite ?_ ?_
      | refine LeO.bind ?_ (fun _ => ?_)
    · intro y0 y1 y2 y3 y4 y5 y6 y7 y8 y9 y10
      unfold laws_FnExactHarderPuzzle.j1
      repeat' first
      | (with_reducible exact ih0 _ _ _ _ _ _ _ _ _ _ _ _ _ _ _)
      | (with_reducible exact ih1 _ _ _ _ _ _ _ _ _ _ _)
      | (with_reducible exact ih2 _ _ _ _ _)
      | (with_reducible exact impl_HarderPuzzle.mono _ _ _ _)
      | (with_reducible exact laws_eqPuzzle.mono _ _ _ _ _ _ _)
      | (with_reducible exact laws_heldPuzzle.mono _ _ _ _ _)
      | (with_reducible exact laws_markPuzzle.mono _ _ _ _ _)
      | (with_reducible exact laws_toPuzzle.mono _ _ _ _)
      | (with_reducible exact spec_HarderPuzzle.mono _ _ _ _)
      | (with_reducible exact LeO.refl _)
      | (with_reducible exact LeO.none _)
      | (with_reducible refine LeO.ite ?_ ?_)
      | (with_reducible refine LeO.bind ?_ (fun _ => ?_))
      | exact ih0 _ _ _ _ _ _ _ _ _ _ _ _ _ _ _
      | exact ih1 _ _ _ _ _ _ _ _ _ _ _
      | exact ih2 _ _ _ _ _
      | exact impl_HarderPuzzle.mono _ _ _ _
      | exact laws_eqPuzzle.mono _ _ _ _ _ _ _
      | exact laws_heldPuzzle.mono _ _ _ _ _
      | exact laws_markPuzzle.mono _ _ _ _ _
      | exact laws_toPuzzle.mono _ _ _ _
      | exact spec_HarderPuzzle.mono _ _ _ _
      | exact LeO.none _
      | refine LeO.ite ?_ ?_
      | refine LeO.bind ?_ (fun _ => ?_)
    · intro y0 y1 y2 y3 y4
      unfold laws_FnExactHarderPuzzle.j2
      repeat' first
      | (with_reducible exact ih0 _ _ _ _ _ _ _ _ _ _ _ _ _ _ _)
      | (with_reducible exact ih1 _ _ _ _ _ _ _ _ _ _ _)
      | (with_reducible exact ih2 _ _ _ _ _)
      | (with_reducible exact impl_HarderPuzzle.mono _ _ _ _)
      | (with_reducible exact laws_eqPuzzle.mono _ _ _ _ _ _ _)
      | (with_reducible exact laws_heldPuzzle.mono _ _ _ _ _)
      | (with_reducible exact laws_markPuzzle.mono _ _ _ _ _)
      | (with_reducible exact laws_toPuzzle.mono _ _ _ _)
      | (with_reducible exact spec_HarderPuzzle.mono _ _ _ _)
      | (with_reducible exact LeO.refl _)
      | (with_reducible exact LeO.none _)
      | (with_reducible refine LeO.ite ?_ ?_)
      | (with_reducible refine LeO.bind ?_ (fun _ => ?_))
      | exact ih0 _ _ _ _ _ _ _ _ _ _ _ _ _ _ _
      | exact ih1 _ _ _ _ _ _ _ _ _ _ _
      | exact ih2 _ _ _ _ _
      | exact impl_HarderPuzzle.mono _ _ _ _
      | exact laws_eqPuzzle.mono _ _ _ _ _ _ _
      | exact laws_heldPuzzle.mono _ _ _ _ _
      | exact laws_markPuzzle.mono _ _ _ _ _
      | exact laws_toPuzzle.mono _ _ _ _
      | exact spec_HarderPuzzle.mono _ _ _ _
      | exact LeO.none _
      | refine LeO.ite ?_ ?_
      | refine LeO.bind ?_ (fun _ => ?_)
theorem laws_FnExactHarderPuzzle.mono : ∀ a0 a1 a2 k, LeO (laws_FnExactHarderPuzzle.f k a0 a1 a2) (laws_FnExactHarderPuzzle.f (k + 1) a0 a1 a2) := by
  intro a0 a1 a2 k
  obtain ⟨ih0, ih1, ih2⟩ := laws_FnExactHarderPuzzle.mono_l k
  unfold laws_FnExactHarderPuzzle.f
  repeat' first
      | (with_reducible exact ih0 _ _ _ _ _ _ _ _ _ _ _ _ _ _ _)
      | (with_reducible exact ih1 _ _ _ _ _ _ _ _ _ _ _)
      | (with_reducible exact ih2 _ _ _ _ _)
      | (with_reducible exact impl_HarderPuzzle.mono _ _ _ _)
      | (with_reducible exact laws_eqPuzzle.mono _ _ _ _ _ _ _)
      | (with_reducible exact laws_heldPuzzle.mono _ _ _ _ _)
      | (with_reducible exact laws_markPuzzle.mono _ _ _ _ _)
      | (with_reducible exact laws_toPuzzle.mono _ _ _ _)
      | (with_reducible exact spec_HarderPuzzle.mono _ _ _ _)
      | (with_reducible exact LeO.refl _)
      | (with_reducible exact LeO.none _)
      | (with_reducible refine LeO.ite ?_ ?_)
      | (with_reducible refine LeO.bind ?_ (fun _ => ?_))
      | exact ih0 _ _ _ _ _ _ _ _ _ _ _ _ _ _ _
      | exact ih1 _ _ _ _ _ _ _ _ _ _ _
      | exact ih2 _ _ _ _ _
      | exact impl_HarderPuzzle.mono _ _ _ _
      | exact laws_eqPuzzle.mono _ _ _ _ _ _ _
      | exact laws_heldPuzzle.mono _ _ _ _ _
      | exact laws_markPuzzle.mono _ _ _ _ _
      | exact laws_toPuzzle.mono _ _ _ _
      | exact spec_HarderPuzzle.mono _ _ _ _
      | exact LeO.none _
      | refine LeO.ite ?_ ?_
      | refine LeO.bind ?_ (fun _ => ?_)
set_option maxHeartbeats 8000000 in
set_option maxRecDepth 100000 in
theorem laws_FnExactHarderPuzzle.calls (k : Nat) (A0_0 : Option Addr) (c0_0 : Nat) (l0_0 : List Int) (a0_1 : Int) (a0_2 : Int) (r : Bool) (w : World) (hr0_0 : Kd.C (Kd.int .i64) w A0_0 l0_0.length l0_0) (hc0_0 : l0_0.length ≤ c0_0) (h : laws_FnExactHarderPuzzle.f k l0_0 a0_1 a0_2 = some r) :
    Calls Try.prog 14 #[.agg #[.slice A0_0 l0_0.length c0_0, .int .i64 a0_1, .int .i64 a0_2]] w fun e w' => e = .returned (.bool r) ∧ Below w.heap.size w w' := by
  have hu24 := Try.underlying24
  have hu27 := Try.underlying27
  have HR0_0 := Aside0.mk hr0_0
  have HC0_0 := Aside0.mk hc0_0
  clear hr0_0 hc0_0
  have HB := Aside0.mk (Below.refl w.heap.size w)
  have H : ((laws_szPuzzle.f l0_0 a0_1 a0_2 1048576).bind fun t820 => (if t820 < 0 then (some true) else ((laws_toPuzzle.f k l0_0 a0_1 a0_2).bind fun bt821 => ((spec_HarderPuzzle.f k bt821.1 bt821.2.1 bt821.2.2).bind fun bt826 => ((laws_toPuzzle.f k l0_0 a0_1 a0_2).bind fun bt833 => ((impl_HarderPuzzle.f k bt833.1 bt833.2.1 bt833.2.2).bind fun bt839 => ((laws_eqPuzzle.f k bt839.1 bt839.2.1 bt839.2.2.1 bt826.1 bt826.2.1 bt826.2.2.1).bind fun t846 => (if t846 = true then (laws_FnExactHarderPuzzle.j0 k bt826.2.2.2 bt839.2.2.2 (bt839.2.2.2 != bt826.2.2.2) l0_0 a0_1 a0_2 bt826.1 bt826.2.1 bt826.2.2.1 bt833.1 bt833.2.1 bt833.2.2 bt839.1 bt839.2.1 bt839.2.2.1) else (laws_FnExactHarderPuzzle.j0 k bt826.2.2.2 bt839.2.2.2 true l0_0 a0_1 a0_2 bt826.1 bt826.2.1 bt826.2.2.1 bt833.1 bt833.2.1 bt833.2.2 bt839.1 bt839.2.1 bt839.2.2.1))))))))) = some r := h
  clear h
  replace H := Option.bind_eq_some_iff.mp H
  obtain ⟨t820, A20, H⟩ := H
  replace H : (if t820 < 0 then (some true) else ((laws_toPuzzle.f k l0_0 a0_1 a0_2).bind fun bt821 => ((spec_HarderPuzzle.f k bt821.1 bt821.2.1 bt821.2.2).bind fun bt826 => ((laws_toPuzzle.f k l0_0 a0_1 a0_2).bind fun bt833 => ((impl_HarderPuzzle.f k bt833.1 bt833.2.1 bt833.2.2).bind fun bt839 => ((laws_eqPuzzle.f k bt839.1 bt839.2.1 bt839.2.2.1 bt826.1 bt826.2.1 bt826.2.2.1).bind fun t846 => (if t846 = true then (laws_FnExactHarderPuzzle.j0 k bt826.2.2.2 bt839.2.2.2 (bt839.2.2.2 != bt826.2.2.2) l0_0 a0_1 a0_2 bt826.1 bt826.2.1 bt826.2.2.1 bt833.1 bt833.2.1 bt833.2.2 bt839.1 bt839.2.1 bt839.2.2.1) else (laws_FnExactHarderPuzzle.j0 k bt826.2.2.2 bt839.2.2.2 true l0_0 a0_1 a0_2 bt826.1 bt826.2.1 bt826.2.2.1 bt833.1 bt833.2.1 bt833.2.2 bt839.1 bt839.2.1 bt839.2.2.1)))))))) = some r := H
  have A2 := Aside0.mk A20
  clear A20
  by_cases c3 : t820 < 0
  · rw [if_pos c3] at H
    have c3b0 : decide (t820 < 0) = true := decide_eq_true c3
    clear c3
    obtain rfl := Option.some.inj H
    go_enter Try.func14, Try.ntmps14
    go_wp2_with (first | ((with_reducible refine gate_dst (N := 1) rfl ?_); refine box_event ?hg (N := 1) ?hd (cs := #[.slice A0_0 l0_0.length c0_0, .int .i64 a0_1, .int .i64 a0_2]) (t := 24) ?hr ?_; (case hd => rfl); (case hg => rfl); (case hr => first | (go_simp; done) | (go_simp; rfl)); intro gb819 hg w4 hbox hb; have n0_ := Aside0.mk (below_step (by repeat (first | (with_reducible first | exact HB.out | apply below_alloc | apply pw_below_drewN | apply below_drew1) | exact HB.out)) hb); have n1_ := Aside0.mk (hbox); have n2_ := Aside0.mk ((by rw [hg]; exact (below_size (by repeat (first | (with_reducible first | exact HB.out | apply below_alloc | apply pw_below_drewN | apply below_drew1) | exact HB.out))) : w.heap.size ≤ gb819)); have n3_ := Aside0.mk ((by rw [hg]; exact (below_size (by repeat (first | (with_reducible first | exact HB.out | apply below_alloc | apply pw_below_drewN | apply below_drew1) | exact HB.out))) : w.heap.size ≤ gb819)); clear HB; have HB := n0_; have BK819 := n1_; have GW819 := n2_; have GE819 := n3_; clear n0_ n1_ n2_ n3_; clear hb hbox hg; have hcz5_0 : w4.cell? ⟨gb819, 0, none⟩ = some (.slice A0_0 l0_0.length c0_0) := (blk_cell BK819.out 0).trans rfl; have hcz5_1 : w4.cell? ⟨gb819, 1, none⟩ = some (.int .i64 a0_1) := (blk_cell BK819.out 1).trans rfl; have hcz5_2 : w4.cell? ⟨gb819, 2, none⟩ = some (.int .i64 a0_2) := (blk_cell BK819.out 2).trans rfl; have hfz5_0 := blk_frozen BK819.out 0; have hfz5_1 := blk_frozen BK819.out 1; have hfz5_2 := blk_frozen BK819.out 2) | ((with_reducible refine gate_callee (f := 15) rfl ?_); refine goesL_ (some 16) rfl rfl Try.func15 (by kernel_rfl) rfl #[.agg #[.slice A0_0 l0_0.length c0_0, .int .i64 a0_1, .int .i64 a0_2], .int .i64 1048576] rfl (by (try simp only [List.map_toArray, List.map_cons, List.map_nil]); first | done | rfl | (simp only [List.length_drop, List.length_take]; rfl)) ?_; (with_reducible refine (laws_szPuzzle.calls _ _ l0_0 a0_1 a0_2 1048576 t820 _ ?side1 ?side2 A2.out).mono ?_); (case side1 => repeat (first | exact (Kd.C_below HR0_0.out HB.out) | (with_reducible refine Kd.C_alloc ?_ _) | (with_reducible refine Kd.C_drewN ?_ _) | (with_reducible refine Kd.C_drew ?_))); (case side2 => exact HC0_0.out); rintro e w6 ⟨rfl, hb⟩; refine ⟨_, rfl, ?_⟩; have n0_ := Aside0.mk (blk_below (g := gb819) (o := .cells #[.slice A0_0 l0_0.length c0_0, .int .i64 a0_1, .int .i64 a0_2] 24 (0, 0)) (by (with_reducible repeat (first | refine blk_drewN ?_ _ | refine blk_drew ?_ | refine blk_alloc ?_ _)); exact BK819.out) hb); have n1_ := Aside0.mk (below_step (by repeat (first | (with_reducible first | exact HB.out | apply below_alloc | apply pw_below_drewN | apply below_drew1 | refine below_set ?_ GE819.out) | exact HB.out)) hb); clear BK819; clear HB; have BK819 := n0_; have HB := n1_; clear n0_ n1_; (try clear hb); (try clear hb2); (try clear hk); (try clear hi)))
    go_ret
    exact ⟨by first | rfl | (simp [errW_none, errW_some] <;> rfl) | (simp [*, errW_none, errW_some] <;> rfl), by repeat (first | (with_reducible first | exact HB.out | apply below_alloc | apply pw_below_drewN | apply below_drew1 | refine below_set ?_ GE819.out) | exact HB.out)⟩
  · rw [if_neg c3] at H
    have c3b0 : decide (t820 < 0) = false := decide_eq_false c3
    clear c3
    replace H := Option.bind_eq_some_iff.mp H
    obtain ⟨⟨t821, t824, t825⟩, A70, H⟩ := H
    replace H : ((spec_HarderPuzzle.f k t821 t824 t825).bind fun bt826 => ((laws_toPuzzle.f k l0_0 a0_1 a0_2).bind fun bt833 => ((impl_HarderPuzzle.f k bt833.1 bt833.2.1 bt833.2.2).bind fun bt839 => ((laws_eqPuzzle.f k bt839.1 bt839.2.1 bt839.2.2.1 bt826.1 bt826.2.1 bt826.2.2.1).bind fun t846 => (if t846 = true then (laws_FnExactHarderPuzzle.j0 k bt826.2.2.2 bt839.2.2.2 (bt839.2.2.2 != bt826.2.2.2) l0_0 a0_1 a0_2 bt826.1 bt826.2.1 bt826.2.2.1 bt833.1 bt833.2.1 bt833.2.2 bt839.1 bt839.2.1 bt839.2.2.1) else (laws_FnExactHarderPuzzle.j0 k bt826.2.2.2 bt839.2.2.2 true l0_0 a0_1 a0_2 bt826.1 bt826.2.1 bt826.2.2.1 bt833.1 bt833.2.1 bt833.2.2 bt839.1 bt839.2.1 bt839.2.2.1)))))) = some r := H
    have A7 := Aside0.mk A70
    clear A70
    replace H := Option.bind_eq_some_iff.mp H
    obtain ⟨⟨t826, t829, t830, t831⟩, A80, H⟩ := H
    replace H : ((laws_toPuzzle.f k l0_0 a0_1 a0_2).bind fun bt833 => ((impl_HarderPuzzle.f k bt833.1 bt833.2.1 bt833.2.2).bind fun bt839 => ((laws_eqPuzzle.f k bt839.1 bt839.2.1 bt839.2.2.1 t826 t829 t830).bind fun t846 => (if t846 = true then (laws_FnExactHarderPuzzle.j0 k t831 bt839.2.2.2 (bt839.2.2.2 != t831) l0_0 a0_1 a0_2 t826 t829 t830 bt833.1 bt833.2.1 bt833.2.2 bt839.1 bt839.2.1 bt839.2.2.1) else (laws_FnExactHarderPuzzle.j0 k t831 bt839.2.2.2 true l0_0 a0_1 a0_2 t826 t829 t830 bt833.1 bt833.2.1 bt833.2.2 bt839.1 bt839.2.1 bt839.2.2.1))))) = some r := H
    have A8 := Aside0.mk A80
    clear A80
    replace H := Option.bind_eq_some_iff.mp H
    obtain ⟨⟨t833, t836, t837⟩, A90, H⟩ := H
    replace H : ((impl_HarderPuzzle.f k t833 t836 t837).bind fun bt839 => ((laws_eqPuzzle.f k bt839.1 bt839.2.1 bt839.2.2.1 t826 t829 t830).bind fun t846 => (if t846 = true then (laws_FnExactHarderPuzzle.j0 k t831 bt839.2.2.2 (bt839.2.2.2 != t831) l0_0 a0_1 a0_2 t826 t829 t830 t833 t836 t837 bt839.1 bt839.2.1 bt839.2.2.1) else (laws_FnExactHarderPuzzle.j0 k t831 bt839.2.2.2 true l0_0 a0_1 a0_2 t826 t829 t830 t833 t836 t837 bt839.1 bt839.2.1 bt839.2.2.1)))) = some r := H
    have A9 := Aside0.mk A90
    clear A90
    replace H := Option.bind_eq_some_iff.mp H
    obtain ⟨⟨t839, t842, t843, t844⟩, A100, H⟩ := H
    replace H : ((laws_eqPuzzle.f k t839 t842 t843 t826 t829 t830).bind fun t846 => (if t846 = true then (laws_FnExactHarderPuzzle.j0 k t831 t844 (t844 != t831) l0_0 a0_1 a0_2 t826 t829 t830 t833 t836 t837 t839 t842 t843) else (laws_FnExactHarderPuzzle.j0 k t831 t844 true l0_0 a0_1 a0_2 t826 t829 t830 t833 t836 t837 t839 t842 t843))) = some r := H
    have A10 := Aside0.mk A100
    clear A100
    have HC11 := Aside0.mk H
    clear H
    go_enter Try.func14, Try.ntmps14
    go_upto_region 8 with (first | ((with_reducible refine gate_dst (N := 1) rfl ?_); refine box_event ?hg (N := 1) ?hd (cs := #[.slice A0_0 l0_0.length c0_0, .int .i64 a0_1, .int .i64 a0_2]) (t := 24) ?hr ?_; (case hd => rfl); (case hg => rfl); (case hr => first | (go_simp; done) | (go_simp; rfl)); intro gb819 hg w12 hbox hb; have n0_ := Aside0.mk (below_step (by repeat (first | (with_reducible first | exact HB.out | apply below_alloc | apply pw_below_drewN | apply below_drew1) | exact HB.out)) hb); have n1_ := Aside0.mk (hbox); have n2_ := Aside0.mk ((by rw [hg]; exact (below_size (by repeat (first | (with_reducible first | exact HB.out | apply below_alloc | apply pw_below_drewN | apply below_drew1) | exact HB.out))) : w.heap.size ≤ gb819)); have n3_ := Aside0.mk ((by rw [hg]; exact (below_size (by repeat (first | (with_reducible first | exact HB.out | apply below_alloc | apply pw_below_drewN | apply below_drew1) | exact HB.out))) : w.heap.size ≤ gb819)); clear HB; have HB := n0_; have BK819 := n1_; have GW819 := n2_; have GE819 := n3_; clear n0_ n1_ n2_ n3_; clear hb hbox hg; have hcz13_0 : w12.cell? ⟨gb819, 0, none⟩ = some (.slice A0_0 l0_0.length c0_0) := (blk_cell BK819.out 0).trans rfl; have hcz13_1 : w12.cell? ⟨gb819, 1, none⟩ = some (.int .i64 a0_1) := (blk_cell BK819.out 1).trans rfl; have hcz13_2 : w12.cell? ⟨gb819, 2, none⟩ = some (.int .i64 a0_2) := (blk_cell BK819.out 2).trans rfl; have hfz13_0 := blk_frozen BK819.out 0; have hfz13_1 := blk_frozen BK819.out 1; have hfz13_2 := blk_frozen BK819.out 2) | ((with_reducible refine gate_callee (f := 15) rfl ?_); refine goesL_ (some 16) rfl rfl Try.func15 (by kernel_rfl) rfl #[.agg #[.slice A0_0 l0_0.length c0_0, .int .i64 a0_1, .int .i64 a0_2], .int .i64 1048576] rfl (by (try simp only [List.map_toArray, List.map_cons, List.map_nil]); first | done | rfl | (simp only [List.length_drop, List.length_take]; rfl)) ?_; (with_reducible refine (laws_szPuzzle.calls _ _ l0_0 a0_1 a0_2 1048576 t820 _ ?side1 ?side2 A2.out).mono ?_); (case side1 => repeat (first | exact (Kd.C_below HR0_0.out HB.out) | (with_reducible refine Kd.C_alloc ?_ _) | (with_reducible refine Kd.C_drewN ?_ _) | (with_reducible refine Kd.C_drew ?_))); (case side2 => exact HC0_0.out); rintro e w14 ⟨rfl, hb⟩; refine ⟨_, rfl, ?_⟩; have n0_ := Aside0.mk (blk_below (g := gb819) (o := .cells #[.slice A0_0 l0_0.length c0_0, .int .i64 a0_1, .int .i64 a0_2] 24 (0, 0)) (by (with_reducible repeat (first | refine blk_drewN ?_ _ | refine blk_drew ?_ | refine blk_alloc ?_ _)); exact BK819.out) hb); have n1_ := Aside0.mk (below_step (by repeat (first | (with_reducible first | exact HB.out | apply below_alloc | apply pw_below_drewN | apply below_drew1 | refine below_set ?_ GE819.out) | exact HB.out)) hb); clear BK819; clear HB; have BK819 := n0_; have HB := n1_; clear n0_ n1_; (try clear hb); (try clear hb2); (try clear hk); (try clear hi); have hcz15_0 : w14.cell? ⟨gb819, 0, none⟩ = some (.slice A0_0 l0_0.length c0_0) := (blk_cell BK819.out 0).trans rfl; have hcz15_1 : w14.cell? ⟨gb819, 1, none⟩ = some (.int .i64 a0_1) := (blk_cell BK819.out 1).trans rfl; have hcz15_2 : w14.cell? ⟨gb819, 2, none⟩ = some (.int .i64 a0_2) := (blk_cell BK819.out 2).trans rfl; have hfz15_0 := blk_frozen BK819.out 0; have hfz15_1 := blk_frozen BK819.out 1; have hfz15_2 := blk_frozen BK819.out 2) | ((with_reducible refine gate_callee (f := 17) rfl ?_); refine goesL_ (some 21) rfl rfl Try.func17 (by kernel_rfl) rfl #[.agg #[.slice A0_0 l0_0.length c0_0, .int .i64 a0_1, .int .i64 a0_2]] rfl (by (try simp only [List.map_toArray, List.map_cons, List.map_nil]); first | done | rfl | (simp only [List.length_drop, List.length_take]; rfl)) ?_; (with_reducible refine (laws_toPuzzle.calls k _ _ l0_0 a0_1 a0_2 t821 t824 t825 _ ?side1 ?side2 A7.out).mono ?_); (case side1 => repeat (first | exact (Kd.C_below HR0_0.out HB.out) | (with_reducible refine Kd.C_alloc ?_ _) | (with_reducible refine Kd.C_drewN ?_ _) | (with_reducible refine Kd.C_drew ?_))); (case side2 => exact HC0_0.out); rintro e w16 ⟨v822, rfl, ho0, hb⟩; refine ⟨_, rfl, ?_⟩; have n0_ := Aside0.mk (Kd.R_lower ho0 (below_size (by repeat (first | (with_reducible first | exact HB.out | apply below_alloc | apply pw_below_drewN | apply below_drew1 | refine below_set ?_ GE819.out) | exact HB.out)))); have n1_ := Aside0.mk (blk_below (g := gb819) (o := .cells #[.slice A0_0 l0_0.length c0_0, .int .i64 a0_1, .int .i64 a0_2] 24 (0, 0)) (by (with_reducible repeat (first | refine blk_drewN ?_ _ | refine blk_drew ?_ | refine blk_alloc ?_ _)); exact BK819.out) hb); have n2_ := Aside0.mk (below_step (by repeat (first | (with_reducible first | exact HB.out | apply below_alloc | apply pw_below_drewN | apply below_drew1 | refine below_set ?_ GE819.out) | exact HB.out)) hb); clear BK819; clear HB; have HO823 := n0_; have BK819 := n1_; have HB := n2_; clear n0_ n1_ n2_; (try clear hb); (try clear hb2); (try clear hk); (try clear hi); (try clear ho0); obtain ⟨Ao17, co17, eo17⟩ := Kd.R_slice HO823.out; subst eo17) | ((with_reducible refine gate_callee (f := 49) rfl ?_); refine goesL_ (some 22) rfl rfl Try.func49 (by kernel_rfl) rfl #[.agg #[.slice Ao17 t821.length co17, .int .i64 t824, .int .i64 t825]] rfl (by (try simp only [List.map_toArray, List.map_cons, List.map_nil]); first | done | rfl | (simp only [List.length_drop, List.length_take]; rfl)) ?_; (with_reducible refine (spec_HarderPuzzle.calls k _ _ t821 t824 t825 t826 t829 t830 t831 _ ?side1 ?side2 A8.out).mono ?_); (case side1 => repeat (first | exact (Kd.R_reads' HO823.out).2.2 | (with_reducible refine Kd.C_alloc ?_ _) | (with_reducible refine Kd.C_drewN ?_ _) | (with_reducible refine Kd.C_drew ?_))); (case side2 => exact (Kd.R_reads' HO823.out).2.1); rintro e w18 ⟨v827, rfl, ho0, hb⟩; refine ⟨_, rfl, ?_⟩; have n0_ := Aside0.mk (Kd.R_elder' (by (with_reducible repeat (first | apply Kd.R_alloc | apply Kd.R_drewN | apply Kd.R_drew)); exact HO823.out) (Kd.R_base ho0) hb); have n1_ := Aside0.mk (Kd.R_lower (Kd.R_new' ho0 (Kd.R_lt (by (with_reducible repeat (first | apply Kd.R_alloc | apply Kd.R_drewN | apply Kd.R_drew)); exact HO823.out))) (below_size (by repeat (first | (with_reducible first | exact HB.out | apply below_alloc | apply pw_below_drewN | apply below_drew1 | refine below_set ?_ GE819.out) | exact HB.out)))); have n2_ := Aside0.mk (blk_below (g := gb819) (o := .cells #[.slice A0_0 l0_0.length c0_0, .int .i64 a0_1, .int .i64 a0_2] 24 (0, 0)) (by (with_reducible repeat (first | refine blk_drewN ?_ _ | refine blk_drew ?_ | refine blk_alloc ?_ _)); exact BK819.out) hb); have n3_ := Aside0.mk (below_step (by repeat (first | (with_reducible first | exact HB.out | apply below_alloc | apply pw_below_drewN | apply below_drew1 | refine below_set ?_ GE819.out) | exact HB.out)) hb); clear HO823; clear BK819; clear HB; have HO823 := n0_; have HO828 := n1_; have BK819 := n2_; have HB := n3_; clear n0_ n1_ n2_ n3_; (try clear hb); (try clear hb2); (try clear hk); (try clear hi); (try clear ho0)) | ((with_reducible refine gate_dst (N := 4) rfl ?_); refine box_event ?hg (N := 4) ?hd (cs := #[.slice none 0 0, .int .i64 0, .int .i64 0]) (t := 27) ?hr ?_; (case hd => rfl); (case hg => rfl); (case hr => first | (go_simp; done) | (go_simp; rfl)); intro gb832 hg w19 hbox hb; have n0_ := Aside0.mk (Kd.R_below (by (with_reducible repeat (first | apply Kd.R_alloc | apply Kd.R_drewN | apply Kd.R_drew)); exact HO823.out) hb); have n1_ := Aside0.mk (Kd.R_below (by (with_reducible repeat (first | apply Kd.R_alloc | apply Kd.R_drewN | apply Kd.R_drew)); exact HO828.out) hb); have n2_ := Aside0.mk (blk_below (g := gb819) (o := .cells #[.slice A0_0 l0_0.length c0_0, .int .i64 a0_1, .int .i64 a0_2] 24 (0, 0)) (by (with_reducible repeat (first | refine blk_drewN ?_ _ | refine blk_drew ?_ | refine blk_alloc ?_ _)); exact BK819.out) hb); have n3_ := Aside0.mk (below_step (by repeat (first | (with_reducible first | exact HB.out | apply below_alloc | apply pw_below_drewN | apply below_drew1 | refine below_set ?_ GE819.out) | exact HB.out)) hb); have n4_ := Aside0.mk (hbox); have n5_ := Aside0.mk ((by rw [hg]; exact (below_size (by repeat (first | (with_reducible first | exact HB.out | apply below_alloc | apply pw_below_drewN | apply below_drew1 | refine below_set ?_ GE819.out) | exact HB.out))) : w.heap.size ≤ gb832)); have n6_ := Aside0.mk ((by rw [hg]; exact (below_size (by repeat (first | (with_reducible first | exact HB.out | apply below_alloc | apply pw_below_drewN | apply below_drew1 | refine below_set ?_ GE819.out) | exact HB.out))) : w.heap.size ≤ gb832)); have n7_ := Aside0.mk ((by rw [hg]; exact Nat.ne_of_lt (blk_lt (g := gb819) (o := .cells #[.slice A0_0 l0_0.length c0_0, .int .i64 a0_1, .int .i64 a0_2] 24 (0, 0)) (by (with_reducible repeat (first | refine blk_drewN ?_ _ | refine blk_drew ?_ | refine blk_alloc ?_ _)); exact BK819.out)) : gb819 ≠ gb832)); have n8_ := Aside0.mk ((by rw [hg]; exact Nat.ne_of_gt (blk_lt (g := gb819) (o := .cells #[.slice A0_0 l0_0.length c0_0, .int .i64 a0_1, .int .i64 a0_2] 24 (0, 0)) (by (with_reducible repeat (first | refine blk_drewN ?_ _ | refine blk_drew ?_ | refine blk_alloc ?_ _)); exact BK819.out)) : gb832 ≠ gb819)); clear HO823; clear HO828; clear BK819; clear HB; have HO823 := n0_; have HO828 := n1_; have BK819 := n2_; have HB := n3_; have BK832 := n4_; have GW832 := n5_; have GE832 := n6_; have NB819_832 := n7_; have NB832_819 := n8_; clear n0_ n1_ n2_ n3_ n4_ n5_ n6_ n7_ n8_; clear hb hbox hg; obtain ⟨Ao20, co20, eo20⟩ := Kd.R_slice HO828.out; subst eo20; have hnb21 := NB832_819.out; have hnc21 := NB819_832.out; have hcz22_0 : w19.cell? ⟨gb832, 0, none⟩ = some (.slice none 0 0) := (blk_cell BK832.out 0).trans rfl; have hcz22_1 : w19.cell? ⟨gb832, 1, none⟩ = some (.int .i64 0) := (blk_cell BK832.out 1).trans rfl; have hcz22_2 : w19.cell? ⟨gb832, 2, none⟩ = some (.int .i64 0) := (blk_cell BK832.out 2).trans rfl; have hfz22_0 := blk_frozen BK832.out 0; have hfz22_1 := blk_frozen BK832.out 1; have hfz22_2 := blk_frozen BK832.out 2; have hcz23_0 : w19.cell? ⟨gb819, 0, none⟩ = some (.slice A0_0 l0_0.length c0_0) := (blk_cell BK819.out 0).trans rfl; have hcz23_1 : w19.cell? ⟨gb819, 1, none⟩ = some (.int .i64 a0_1) := (blk_cell BK819.out 1).trans rfl; have hcz23_2 : w19.cell? ⟨gb819, 2, none⟩ = some (.int .i64 a0_2) := (blk_cell BK819.out 2).trans rfl; have hfz23_0 := blk_frozen BK819.out 0; have hfz23_1 := blk_frozen BK819.out 1; have hfz23_2 := blk_frozen BK819.out 2) | ((with_reducible refine gate_callee (f := 17) rfl ?_); refine goesL_ (some 26) rfl rfl Try.func17 (by kernel_rfl) rfl #[.agg #[.slice A0_0 l0_0.length c0_0, .int .i64 a0_1, .int .i64 a0_2]] rfl (by (try simp only [List.map_toArray, List.map_cons, List.map_nil]); first | done | rfl | (simp only [List.length_drop, List.length_take]; rfl)) ?_; (with_reducible refine (laws_toPuzzle.calls k _ _ l0_0 a0_1 a0_2 t833 t836 t837 _ ?side1 ?side2 A9.out).mono ?_); (case side1 => exact Kd.C_below HR0_0.out (by repeat (first | (with_reducible first | exact HB.out | apply below_alloc | apply pw_below_drewN | apply below_drew1 | refine below_set ?_ GE819.out | refine below_set ?_ GE832.out) | exact HB.out))); (case side2 => exact HC0_0.out); rintro e w24 ⟨v834, rfl, ho0, hb⟩; refine ⟨_, rfl, ?_⟩; have n0_ := Aside0.mk (Kd.R_elder' (by (with_reducible repeat (first | apply Kd.R_alloc | apply Kd.R_drewN | apply Kd.R_drew)); exact (Kd.R_mono (Kd.R_far (p := ⟨gb832, 2, none⟩) (Kd.R_far (p := ⟨gb832, 1, none⟩) (Kd.R_far (p := ⟨gb832, 0, none⟩) (Kd.R_types HO823.out BK832.out (by decide)) (fun _ hk => hk.2) (.slice Ao20 t826.length co20)) (fun _ hk => hk.2) (.int .i64 t829)) (fun _ hk => hk.2) (.int .i64 t830)) (fun _ h_ => h_.1))) (Kd.R_base ho0) hb); have n1_ := Aside0.mk (Kd.R_elder' (by (with_reducible repeat (first | apply Kd.R_alloc | apply Kd.R_drewN | apply Kd.R_drew)); exact (Kd.R_mono (Kd.R_far (p := ⟨gb832, 2, none⟩) (Kd.R_far (p := ⟨gb832, 1, none⟩) (Kd.R_far (p := ⟨gb832, 0, none⟩) (Kd.R_types HO828.out BK832.out (by decide)) (fun _ hk => hk.2) (.slice Ao20 t826.length co20)) (fun _ hk => hk.2) (.int .i64 t829)) (fun _ hk => hk.2) (.int .i64 t830)) (fun _ h_ => h_.1))) (Kd.R_base ho0) hb); have n2_ := Aside0.mk (Kd.R_lower (Kd.R_new' (Kd.R_new' ho0 (Kd.R_lt (by (with_reducible repeat (first | apply Kd.R_alloc | apply Kd.R_drewN | apply Kd.R_drew)); exact (Kd.R_mono (Kd.R_far (p := ⟨gb832, 2, none⟩) (Kd.R_far (p := ⟨gb832, 1, none⟩) (Kd.R_far (p := ⟨gb832, 0, none⟩) (Kd.R_types HO823.out BK832.out (by decide)) (fun _ hk => hk.2) (.slice Ao20 t826.length co20)) (fun _ hk => hk.2) (.int .i64 t829)) (fun _ hk => hk.2) (.int .i64 t830)) (fun _ h_ => h_.1))))) (Kd.R_lt (by (with_reducible repeat (first | apply Kd.R_alloc | apply Kd.R_drewN | apply Kd.R_drew)); exact (Kd.R_mono (Kd.R_far (p := ⟨gb832, 2, none⟩) (Kd.R_far (p := ⟨gb832, 1, none⟩) (Kd.R_far (p := ⟨gb832, 0, none⟩) (Kd.R_types HO828.out BK832.out (by decide)) (fun _ hk => hk.2) (.slice Ao20 t826.length co20)) (fun _ hk => hk.2) (.int .i64 t829)) (fun _ hk => hk.2) (.int .i64 t830)) (fun _ h_ => h_.1))))) (below_size (by repeat (first | (with_reducible first | exact HB.out | apply below_alloc | apply pw_below_drewN | apply below_drew1 | refine below_set ?_ GE819.out | refine below_set ?_ GE832.out) | exact HB.out)))); have n3_ := Aside0.mk (blk_below (g := gb819) (o := .cells #[.slice A0_0 l0_0.length c0_0, .int .i64 a0_1, .int .i64 a0_2] 24 (0, 0)) (by (with_reducible repeat (first | refine blk_drewN ?_ _ | refine blk_drew ?_ | refine blk_alloc ?_ _)); refine blk_far ?_ NB819_832.out _; (with_reducible repeat (first | refine blk_drewN ?_ _ | refine blk_drew ?_ | refine blk_alloc ?_ _)); refine blk_far ?_ NB819_832.out _; (with_reducible repeat (first | refine blk_drewN ?_ _ | refine blk_drew ?_ | refine blk_alloc ?_ _)); refine blk_far ?_ NB819_832.out _; (with_reducible repeat (first | refine blk_drewN ?_ _ | refine blk_drew ?_ | refine blk_alloc ?_ _)); exact BK819.out) hb); have n4_ := Aside0.mk (blk_below (g := gb832) (o := .cells #[.slice Ao20 t826.length co20, .int .i64 t829, .int .i64 t830] 27 (0, 0)) (by (with_reducible repeat (first | refine blk_drewN ?_ _ | refine blk_drew ?_ | refine blk_alloc ?_ _)); refine blk_put (cs := #[.slice Ao20 t826.length co20, .int .i64 t829, .int .i64 0]) ?_ 2 _ rfl; (with_reducible repeat (first | refine blk_drewN ?_ _ | refine blk_drew ?_ | refine blk_alloc ?_ _)); refine blk_put (cs := #[.slice Ao20 t826.length co20, .int .i64 0, .int .i64 0]) ?_ 1 _ rfl; (with_reducible repeat (first | refine blk_drewN ?_ _ | refine blk_drew ?_ | refine blk_alloc ?_ _)); refine blk_put (cs := #[.slice none 0 0, .int .i64 0, .int .i64 0]) ?_ 0 _ rfl; (with_reducible repeat (first | refine blk_drewN ?_ _ | refine blk_drew ?_ | refine blk_alloc ?_ _)); exact BK832.out) hb); have n5_ := Aside0.mk (below_step (by repeat (first | (with_reducible first | exact HB.out | apply below_alloc | apply pw_below_drewN | apply below_drew1 | refine below_set ?_ GE819.out | refine below_set ?_ GE832.out) | exact HB.out)) hb); clear HO823; clear HO828; clear BK819; clear BK832; clear HB; have HO823 := n0_; have HO828 := n1_; have HO835 := n2_; have BK819 := n3_; have BK832 := n4_; have HB := n5_; clear n0_ n1_ n2_ n3_ n4_ n5_; (try clear hb); (try clear hb2); (try clear hk); (try clear hi); (try clear ho0)) | ((with_reducible refine gate_dst (N := 6) rfl ?_); refine box_event ?hg (N := 6) ?hd (cs := #[.slice none 0 0, .int .i64 0, .int .i64 0]) (t := 27) ?hr ?_; (case hd => rfl); (case hg => rfl); (case hr => first | (go_simp; done) | (go_simp; rfl)); intro gb838 hg w25 hbox hb; have n0_ := Aside0.mk (Kd.R_below (by (with_reducible repeat (first | apply Kd.R_alloc | apply Kd.R_drewN | apply Kd.R_drew)); exact HO823.out) hb); have n1_ := Aside0.mk (Kd.R_below (by (with_reducible repeat (first | apply Kd.R_alloc | apply Kd.R_drewN | apply Kd.R_drew)); exact HO828.out) hb); have n2_ := Aside0.mk (Kd.R_below (by (with_reducible repeat (first | apply Kd.R_alloc | apply Kd.R_drewN | apply Kd.R_drew)); exact HO835.out) hb); have n3_ := Aside0.mk (blk_below (g := gb819) (o := .cells #[.slice A0_0 l0_0.length c0_0, .int .i64 a0_1, .int .i64 a0_2] 24 (0, 0)) (by (with_reducible repeat (first | refine blk_drewN ?_ _ | refine blk_drew ?_ | refine blk_alloc ?_ _)); exact BK819.out) hb); have n4_ := Aside0.mk (blk_below (g := gb832) (o := .cells #[.slice Ao20 t826.length co20, .int .i64 t829, .int .i64 t830] 27 (0, 0)) (by (with_reducible repeat (first | refine blk_drewN ?_ _ | refine blk_drew ?_ | refine blk_alloc ?_ _)); exact BK832.out) hb); have n5_ := Aside0.mk (below_step (by repeat (first | (with_reducible first | exact HB.out | apply below_alloc | apply pw_below_drewN | apply below_drew1 | refine below_set ?_ GE819.out | refine below_set ?_ GE832.out) | exact HB.out)) hb); have n6_ := Aside0.mk (hbox); have n7_ := Aside0.mk ((by rw [hg]; exact (below_size (by repeat (first | (with_reducible first | exact HB.out | apply below_alloc | apply pw_below_drewN | apply below_drew1 | refine below_set ?_ GE819.out | refine below_set ?_ GE832.out) | exact HB.out))) : w.heap.size ≤ gb838)); have n8_ := Aside0.mk ((by rw [hg]; exact (below_size (by repeat (first | (with_reducible first | exact HB.out | apply below_alloc | apply pw_below_drewN | apply below_drew1 | refine below_set ?_ GE819.out | refine below_set ?_ GE832.out) | exact HB.out))) : w.heap.size ≤ gb838)); have n9_ := Aside0.mk ((by rw [hg]; exact Nat.ne_of_lt (blk_lt (g := gb819) (o := .cells #[.slice A0_0 l0_0.length c0_0, .int .i64 a0_1, .int .i64 a0_2] 24 (0, 0)) (by (with_reducible repeat (first | refine blk_drewN ?_ _ | refine blk_drew ?_ | refine blk_alloc ?_ _)); exact BK819.out)) : gb819 ≠ gb838)); have n10_ := Aside0.mk ((by rw [hg]; exact Nat.ne_of_gt (blk_lt (g := gb819) (o := .cells #[.slice A0_0 l0_0.length c0_0, .int .i64 a0_1, .int .i64 a0_2] 24 (0, 0)) (by (with_reducible repeat (first | refine blk_drewN ?_ _ | refine blk_drew ?_ | refine blk_alloc ?_ _)); exact BK819.out)) : gb838 ≠ gb819)); have n11_ := Aside0.mk ((by rw [hg]; exact Nat.ne_of_lt (blk_lt (g := gb832) (o := .cells #[.slice Ao20 t826.length co20, .int .i64 t829, .int .i64 t830] 27 (0, 0)) (by (with_reducible repeat (first | refine blk_drewN ?_ _ | refine blk_drew ?_ | refine blk_alloc ?_ _)); exact BK832.out)) : gb832 ≠ gb838)); have n12_ := Aside0.mk ((by rw [hg]; exact Nat.ne_of_gt (blk_lt (g := gb832) (o := .cells #[.slice Ao20 t826.length co20, .int .i64 t829, .int .i64 t830] 27 (0, 0)) (by (with_reducible repeat (first | refine blk_drewN ?_ _ | refine blk_drew ?_ | refine blk_alloc ?_ _)); exact BK832.out)) : gb838 ≠ gb832)); clear HO823; clear HO828; clear HO835; clear BK819; clear BK832; clear HB; have HO823 := n0_; have HO828 := n1_; have HO835 := n2_; have BK819 := n3_; have BK832 := n4_; have HB := n5_; have BK838 := n6_; have GW838 := n7_; have GE838 := n8_; have NB819_838 := n9_; have NB838_819 := n10_; have NB832_838 := n11_; have NB838_832 := n12_; clear n0_ n1_ n2_ n3_ n4_ n5_ n6_ n7_ n8_ n9_ n10_ n11_ n12_; clear hb hbox hg; obtain ⟨Ao26, co26, eo26⟩ := Kd.R_slice HO835.out; subst eo26; have hnb27 := NB838_819.out; have hnc27 := NB819_838.out; have hnb28 := NB838_832.out; have hnc28 := NB832_838.out; have hcz29_0 : w25.cell? ⟨gb838, 0, none⟩ = some (.slice none 0 0) := (blk_cell BK838.out 0).trans rfl; have hcz29_1 : w25.cell? ⟨gb838, 1, none⟩ = some (.int .i64 0) := (blk_cell BK838.out 1).trans rfl; have hcz29_2 : w25.cell? ⟨gb838, 2, none⟩ = some (.int .i64 0) := (blk_cell BK838.out 2).trans rfl; have hfz29_0 := blk_frozen BK838.out 0; have hfz29_1 := blk_frozen BK838.out 1; have hfz29_2 := blk_frozen BK838.out 2) | ((with_reducible refine gate_callee (f := 50) rfl ?_); refine goesL_ (some 29) rfl rfl Try.func50 (by kernel_rfl) rfl #[.agg #[.slice Ao26 t833.length co26, .int .i64 t836, .int .i64 t837]] rfl (by (try simp only [List.map_toArray, List.map_cons, List.map_nil]); first | done | rfl | (simp only [List.length_drop, List.length_take]; rfl)) ?_; (with_reducible refine (impl_HarderPuzzle.calls k _ _ t833 t836 t837 t839 t842 t843 t844 _ ?side1 ?side2 A10.out).mono ?_); (case side1 => refine (Kd.R_reads' (e := 3) (base := w.heap.size) (ok := fun k_ => ((True ∧ some k_ ≠ (.slice Ao17 t821.length co17 : Value).ownBlock) ∧ some k_ ≠ (.slice Ao20 t826.length co20 : Value).ownBlock)) (n := t833.length) (c := co26) ?_).2.2; exact (by (with_reducible repeat (first | apply Kd.R_alloc | apply Kd.R_drewN | apply Kd.R_drew)); exact (Kd.R_mono (Kd.R_far (p := ⟨gb838, 2, none⟩) (Kd.R_far (p := ⟨gb838, 1, none⟩) (Kd.R_far (p := ⟨gb838, 0, none⟩) (Kd.R_types HO835.out BK838.out (by decide)) (fun _ hk => hk.2) (.slice Ao26 t833.length co26)) (fun _ hk => hk.2) (.int .i64 t836)) (fun _ hk => hk.2) (.int .i64 t837)) (fun _ h_ => h_.1)))); (case side2 => exact (Kd.R_reads' HO835.out).2.1); rintro e w30 ⟨v840, rfl, ho0, hb⟩; refine ⟨_, rfl, ?_⟩; have n0_ := Aside0.mk (Kd.R_elder' (by (with_reducible repeat (first | apply Kd.R_alloc | apply Kd.R_drewN | apply Kd.R_drew)); exact (Kd.R_mono (Kd.R_far (p := ⟨gb838, 2, none⟩) (Kd.R_far (p := ⟨gb838, 1, none⟩) (Kd.R_far (p := ⟨gb838, 0, none⟩) (Kd.R_types HO823.out BK838.out (by decide)) (fun _ hk => hk.2) (.slice Ao26 t833.length co26)) (fun _ hk => hk.2) (.int .i64 t836)) (fun _ hk => hk.2) (.int .i64 t837)) (fun _ h_ => h_.1))) (Kd.R_base ho0) hb); have n1_ := Aside0.mk (Kd.R_elder' (by (with_reducible repeat (first | apply Kd.R_alloc | apply Kd.R_drewN | apply Kd.R_drew)); exact (Kd.R_mono (Kd.R_far (p := ⟨gb838, 2, none⟩) (Kd.R_far (p := ⟨gb838, 1, none⟩) (Kd.R_far (p := ⟨gb838, 0, none⟩) (Kd.R_types HO828.out BK838.out (by decide)) (fun _ hk => hk.2) (.slice Ao26 t833.length co26)) (fun _ hk => hk.2) (.int .i64 t836)) (fun _ hk => hk.2) (.int .i64 t837)) (fun _ h_ => h_.1))) (Kd.R_base ho0) hb); have n2_ := Aside0.mk (Kd.R_elder' (by (with_reducible repeat (first | apply Kd.R_alloc | apply Kd.R_drewN | apply Kd.R_drew)); exact (Kd.R_mono (Kd.R_far (p := ⟨gb838, 2, none⟩) (Kd.R_far (p := ⟨gb838, 1, none⟩) (Kd.R_far (p := ⟨gb838, 0, none⟩) (Kd.R_types HO835.out BK838.out (by decide)) (fun _ hk => hk.2) (.slice Ao26 t833.length co26)) (fun _ hk => hk.2) (.int .i64 t836)) (fun _ hk => hk.2) (.int .i64 t837)) (fun _ h_ => h_.1))) (Kd.R_base ho0) hb); have n3_ := Aside0.mk (Kd.R_lower (Kd.R_new' (Kd.R_new' (Kd.R_new' ho0 (Kd.R_lt (by (with_reducible repeat (first | apply Kd.R_alloc | apply Kd.R_drewN | apply Kd.R_drew)); exact (Kd.R_mono (Kd.R_far (p := ⟨gb838, 2, none⟩) (Kd.R_far (p := ⟨gb838, 1, none⟩) (Kd.R_far (p := ⟨gb838, 0, none⟩) (Kd.R_types HO823.out BK838.out (by decide)) (fun _ hk => hk.2) (.slice Ao26 t833.length co26)) (fun _ hk => hk.2) (.int .i64 t836)) (fun _ hk => hk.2) (.int .i64 t837)) (fun _ h_ => h_.1))))) (Kd.R_lt (by (with_reducible repeat (first | apply Kd.R_alloc | apply Kd.R_drewN | apply Kd.R_drew)); exact (Kd.R_mono (Kd.R_far (p := ⟨gb838, 2, none⟩) (Kd.R_far (p := ⟨gb838, 1, none⟩) (Kd.R_far (p := ⟨gb838, 0, none⟩) (Kd.R_types HO828.out BK838.out (by decide)) (fun _ hk => hk.2) (.slice Ao26 t833.length co26)) (fun _ hk => hk.2) (.int .i64 t836)) (fun _ hk => hk.2) (.int .i64 t837)) (fun _ h_ => h_.1))))) (Kd.R_lt (by (with_reducible repeat (first | apply Kd.R_alloc | apply Kd.R_drewN | apply Kd.R_drew)); exact (Kd.R_mono (Kd.R_far (p := ⟨gb838, 2, none⟩) (Kd.R_far (p := ⟨gb838, 1, none⟩) (Kd.R_far (p := ⟨gb838, 0, none⟩) (Kd.R_types HO835.out BK838.out (by decide)) (fun _ hk => hk.2) (.slice Ao26 t833.length co26)) (fun _ hk => hk.2) (.int .i64 t836)) (fun _ hk => hk.2) (.int .i64 t837)) (fun _ h_ => h_.1))))) (below_size (by repeat (first | (with_reducible first | exact HB.out | apply below_alloc | apply pw_below_drewN | apply below_drew1 | refine below_set ?_ GE819.out | refine below_set ?_ GE832.out | refine below_set ?_ GE838.out) | exact HB.out)))); have n4_ := Aside0.mk (blk_below (g := gb819) (o := .cells #[.slice A0_0 l0_0.length c0_0, .int .i64 a0_1, .int .i64 a0_2] 24 (0, 0)) (by (with_reducible repeat (first | refine blk_drewN ?_ _ | refine blk_drew ?_ | refine blk_alloc ?_ _)); refine blk_far ?_ NB819_838.out _; (with_reducible repeat (first | refine blk_drewN ?_ _ | refine blk_drew ?_ | refine blk_alloc ?_ _)); refine blk_far ?_ NB819_838.out _; (with_reducible repeat (first | refine blk_drewN ?_ _ | refine blk_drew ?_ | refine blk_alloc ?_ _)); refine blk_far ?_ NB819_838.out _; (with_reducible repeat (first | refine blk_drewN ?_ _ | refine blk_drew ?_ | refine blk_alloc ?_ _)); exact BK819.out) hb); have n5_ := Aside0.mk (blk_below (g := gb832) (o := .cells #[.slice Ao20 t826.length co20, .int .i64 t829, .int .i64 t830] 27 (0, 0)) (by (with_reducible repeat (first | refine blk_drewN ?_ _ | refine blk_drew ?_ | refine blk_alloc ?_ _)); refine blk_far ?_ NB832_838.out _; (with_reducible repeat (first | refine blk_drewN ?_ _ | refine blk_drew ?_ | refine blk_alloc ?_ _)); refine blk_far ?_ NB832_838.out _; (with_reducible repeat (first | refine blk_drewN ?_ _ | refine blk_drew ?_ | refine blk_alloc ?_ _)); refine blk_far ?_ NB832_838.out _; (with_reducible repeat (first | refine blk_drewN ?_ _ | refine blk_drew ?_ | refine blk_alloc ?_ _)); exact BK832.out) hb); have n6_ := Aside0.mk (blk_below (g := gb838) (o := .cells #[.slice Ao26 t833.length co26, .int .i64 t836, .int .i64 t837] 27 (0, 0)) (by (with_reducible repeat (first | refine blk_drewN ?_ _ | refine blk_drew ?_ | refine blk_alloc ?_ _)); refine blk_put (cs := #[.slice Ao26 t833.length co26, .int .i64 t836, .int .i64 0]) ?_ 2 _ rfl; (with_reducible repeat (first | refine blk_drewN ?_ _ | refine blk_drew ?_ | refine blk_alloc ?_ _)); refine blk_put (cs := #[.slice Ao26 t833.length co26, .int .i64 0, .int .i64 0]) ?_ 1 _ rfl; (with_reducible repeat (first | refine blk_drewN ?_ _ | refine blk_drew ?_ | refine blk_alloc ?_ _)); refine blk_put (cs := #[.slice none 0 0, .int .i64 0, .int .i64 0]) ?_ 0 _ rfl; (with_reducible repeat (first | refine blk_drewN ?_ _ | refine blk_drew ?_ | refine blk_alloc ?_ _)); exact BK838.out) hb); have n7_ := Aside0.mk (below_step (by repeat (first | (with_reducible first | exact HB.out | apply below_alloc | apply pw_below_drewN | apply below_drew1 | refine below_set ?_ GE819.out | refine below_set ?_ GE832.out | refine below_set ?_ GE838.out) | exact HB.out)) hb); clear HO823; clear HO828; clear HO835; clear BK819; clear BK832; clear BK838; clear HB; have HO823 := n0_; have HO828 := n1_; have HO835 := n2_; have HO841 := n3_; have BK819 := n4_; have BK832 := n5_; have BK838 := n6_; have HB := n7_; clear n0_ n1_ n2_ n3_ n4_ n5_ n6_ n7_; (try clear hb); (try clear hb2); (try clear hk); (try clear hi); (try clear ho0)) | ((with_reducible refine gate_dst (N := 7) rfl ?_); refine box_event ?hg (N := 7) ?hd (cs := #[.slice none 0 0, .int .i64 0, .int .i64 0]) (t := 27) ?hr ?_; (case hd => rfl); (case hg => rfl); (case hr => first | (go_simp; done) | (go_simp; rfl)); intro gb845 hg w31 hbox hb; have n0_ := Aside0.mk (Kd.R_below (by (with_reducible repeat (first | apply Kd.R_alloc | apply Kd.R_drewN | apply Kd.R_drew)); exact HO823.out) hb); have n1_ := Aside0.mk (Kd.R_below (by (with_reducible repeat (first | apply Kd.R_alloc | apply Kd.R_drewN | apply Kd.R_drew)); exact HO828.out) hb); have n2_ := Aside0.mk (Kd.R_below (by (with_reducible repeat (first | apply Kd.R_alloc | apply Kd.R_drewN | apply Kd.R_drew)); exact HO835.out) hb); have n3_ := Aside0.mk (Kd.R_below (by (with_reducible repeat (first | apply Kd.R_alloc | apply Kd.R_drewN | apply Kd.R_drew)); exact HO841.out) hb); have n4_ := Aside0.mk (blk_below (g := gb819) (o := .cells #[.slice A0_0 l0_0.length c0_0, .int .i64 a0_1, .int .i64 a0_2] 24 (0, 0)) (by (with_reducible repeat (first | refine blk_drewN ?_ _ | refine blk_drew ?_ | refine blk_alloc ?_ _)); exact BK819.out) hb); have n5_ := Aside0.mk (blk_below (g := gb832) (o := .cells #[.slice Ao20 t826.length co20, .int .i64 t829, .int .i64 t830] 27 (0, 0)) (by (with_reducible repeat (first | refine blk_drewN ?_ _ | refine blk_drew ?_ | refine blk_alloc ?_ _)); exact BK832.out) hb); have n6_ := Aside0.mk (blk_below (g := gb838) (o := .cells #[.slice Ao26 t833.length co26, .int .i64 t836, .int .i64 t837] 27 (0, 0)) (by (with_reducible repeat (first | refine blk_drewN ?_ _ | refine blk_drew ?_ | refine blk_alloc ?_ _)); exact BK838.out) hb); have n7_ := Aside0.mk (below_step (by repeat (first | (with_reducible first | exact HB.out | apply below_alloc | apply pw_below_drewN | apply below_drew1 | refine below_set ?_ GE819.out | refine below_set ?_ GE832.out | refine below_set ?_ GE838.out) | exact HB.out)) hb); have n8_ := Aside0.mk (hbox); have n9_ := Aside0.mk ((by rw [hg]; exact (below_size (by repeat (first | (with_reducible first | exact HB.out | apply below_alloc | apply pw_below_drewN | apply below_drew1 | refine below_set ?_ GE819.out | refine below_set ?_ GE832.out | refine below_set ?_ GE838.out) | exact HB.out))) : w.heap.size ≤ gb845)); have n10_ := Aside0.mk ((by rw [hg]; exact (below_size (by repeat (first | (with_reducible first | exact HB.out | apply below_alloc | apply pw_below_drewN | apply below_drew1 | refine below_set ?_ GE819.out | refine below_set ?_ GE832.out | refine below_set ?_ GE838.out) | exact HB.out))) : w.heap.size ≤ gb845)); have n11_ := Aside0.mk ((by rw [hg]; exact Nat.ne_of_lt (blk_lt (g := gb819) (o := .cells #[.slice A0_0 l0_0.length c0_0, .int .i64 a0_1, .int .i64 a0_2] 24 (0, 0)) (by (with_reducible repeat (first | refine blk_drewN ?_ _ | refine blk_drew ?_ | refine blk_alloc ?_ _)); exact BK819.out)) : gb819 ≠ gb845)); have n12_ := Aside0.mk ((by rw [hg]; exact Nat.ne_of_gt (blk_lt (g := gb819) (o := .cells #[.slice A0_0 l0_0.length c0_0, .int .i64 a0_1, .int .i64 a0_2] 24 (0, 0)) (by (with_reducible repeat (first | refine blk_drewN ?_ _ | refine blk_drew ?_ | refine blk_alloc ?_ _)); exact BK819.out)) : gb845 ≠ gb819)); have n13_ := Aside0.mk ((by rw [hg]; exact Nat.ne_of_lt (blk_lt (g := gb832) (o := .cells #[.slice Ao20 t826.length co20, .int .i64 t829, .int .i64 t830] 27 (0, 0)) (by (with_reducible repeat (first | refine blk_drewN ?_ _ | refine blk_drew ?_ | refine blk_alloc ?_ _)); exact BK832.out)) : gb832 ≠ gb845)); have n14_ := Aside0.mk ((by rw [hg]; exact Nat.ne_of_gt (blk_lt (g := gb832) (o := .cells #[.slice Ao20 t826.length co20, .int .i64 t829, .int .i64 t830] 27 (0, 0)) (by (with_reducible repeat (first | refine blk_drewN ?_ _ | refine blk_drew ?_ | refine blk_alloc ?_ _)); exact BK832.out)) : gb845 ≠ gb832)); have n15_ := Aside0.mk ((by rw [hg]; exact Nat.ne_of_lt (blk_lt (g := gb838) (o := .cells #[.slice Ao26 t833.length co26, .int .i64 t836, .int .i64 t837] 27 (0, 0)) (by (with_reducible repeat (first | refine blk_drewN ?_ _ | refine blk_drew ?_ | refine blk_alloc ?_ _)); exact BK838.out)) : gb838 ≠ gb845)); have n16_ := Aside0.mk ((by rw [hg]; exact Nat.ne_of_gt (blk_lt (g := gb838) (o := .cells #[.slice Ao26 t833.length co26, .int .i64 t836, .int .i64 t837] 27 (0, 0)) (by (with_reducible repeat (first | refine blk_drewN ?_ _ | refine blk_drew ?_ | refine blk_alloc ?_ _)); exact BK838.out)) : gb845 ≠ gb838)); clear HO823; clear HO828; clear HO835; clear HO841; clear BK819; clear BK832; clear BK838; clear HB; have HO823 := n0_; have HO828 := n1_; have HO835 := n2_; have HO841 := n3_; have BK819 := n4_; have BK832 := n5_; have BK838 := n6_; have HB := n7_; have BK845 := n8_; have GW845 := n9_; have GE845 := n10_; have NB819_845 := n11_; have NB845_819 := n12_; have NB832_845 := n13_; have NB845_832 := n14_; have NB838_845 := n15_; have NB845_838 := n16_; clear n0_ n1_ n2_ n3_ n4_ n5_ n6_ n7_ n8_ n9_ n10_ n11_ n12_ n13_ n14_ n15_ n16_; clear hb hbox hg; obtain ⟨Ao32, co32, eo32⟩ := Kd.R_slice HO841.out; subst eo32; have hnb33 := NB845_819.out; have hnc33 := NB819_845.out; have hnb34 := NB845_832.out; have hnc34 := NB832_845.out; have hnb35 := NB845_838.out; have hnc35 := NB838_845.out; have hcz36_0 : w31.cell? ⟨gb845, 0, none⟩ = some (.slice none 0 0) := (blk_cell BK845.out 0).trans rfl; have hcz36_1 : w31.cell? ⟨gb845, 1, none⟩ = some (.int .i64 0) := (blk_cell BK845.out 1).trans rfl; have hcz36_2 : w31.cell? ⟨gb845, 2, none⟩ = some (.int .i64 0) := (blk_cell BK845.out 2).trans rfl; have hfz36_0 := blk_frozen BK845.out 0; have hfz36_1 := blk_frozen BK845.out 1; have hfz36_2 := blk_frozen BK845.out 2))
    (try simp only [Act.put, List.setIfInBounds_toArray, List.set_cons_zero, List.set_cons_succ])
    go_cut [40] (fun v40 wc => ∃ (kq : Nat) (x40_10 : Bool), v40 = .bool x40_10 ∧ Aside0 (laws_FnExactHarderPuzzle.j0 kq t831 t844 x40_10 l0_0 a0_1 a0_2 t826 t829 t830 t833 t836 t837 t839 t842 t843 = some r) ∧ Aside0 (kq ≤ k) ∧ Aside0 (Kd.R (Kd.int .i64) 3 wc w.heap.size (fun k_ => some k_ ≠ ((.slice Ao26 t833.length co26) : Value).ownBlock ∧ some k_ ≠ ((.slice Ao32 t839.length co32) : Value).ownBlock) (.slice Ao20 t826.length co20) t826) ∧ Aside0 (Kd.R (Kd.int .i64) 3 wc w.heap.size (fun k_ => some k_ ≠ ((.slice Ao20 t826.length co20) : Value).ownBlock ∧ some k_ ≠ ((.slice Ao32 t839.length co32) : Value).ownBlock) (.slice Ao26 t833.length co26) t833) ∧ Aside0 (Kd.R (Kd.int .i64) 3 wc w.heap.size (fun k_ => some k_ ≠ ((.slice Ao20 t826.length co20) : Value).ownBlock ∧ some k_ ≠ ((.slice Ao26 t833.length co26) : Value).ownBlock) (.slice Ao32 t839.length co32) t839) ∧ Aside0 (wc.heap[gb819]? = some (.cells #[(.slice A0_0 l0_0.length c0_0), .int .i64 a0_1, .int .i64 a0_2] 24 (0, 0))) ∧ Aside0 (wc.heap[gb832]? = some (.cells #[(.slice Ao20 t826.length co20), .int .i64 t829, .int .i64 t830] 27 (0, 0))) ∧ Aside0 (wc.heap[gb838]? = some (.cells #[(.slice Ao26 t833.length co26), .int .i64 t836, .int .i64 t837] 27 (0, 0))) ∧ Aside0 (wc.heap[gb845]? = some (.cells #[(.slice Ao32 t839.length co32), .int .i64 t842, .int .i64 t843] 27 (0, 0))) ∧ Aside0 (Below w.heap.size w wc))
    case first =>
      have H := HC11.out
      clear HC11
      replace H := Option.bind_eq_some_iff.mp H
      obtain ⟨t846, A370, H⟩ := H
      replace H : (if t846 = true then (laws_FnExactHarderPuzzle.j0 k t831 t844 (t844 != t831) l0_0 a0_1 a0_2 t826 t829 t830 t833 t836 t837 t839 t842 t843) else (laws_FnExactHarderPuzzle.j0 k t831 t844 true l0_0 a0_1 a0_2 t826 t829 t830 t833 t836 t837 t839 t842 t843)) = some r := H
      have A37 := Aside0.mk A370
      clear A370
      by_cases c38 : t846 = true
      · subst c38
        have H1 : (laws_FnExactHarderPuzzle.j0 k t831 t844 (t844 != t831) l0_0 a0_1 a0_2 t826 t829 t830 t833 t836 t837 t839 t842 t843) = some r := by rw [if_pos rfl] at H; exact H
        clear H
        have H := H1
        clear H1
        have H' := Aside0.mk H
        clear H
        have hnb39 := NB845_819.out
        have hnc39 := NB819_845.out
        have hnb40 := NB845_832.out
        have hnc40 := NB832_845.out
        have hnb41 := NB845_838.out
        have hnc41 := NB838_845.out
        have hcz42_0 : w31.cell? ⟨gb845, 0, none⟩ = some (.slice none 0 0) := (blk_cell BK845.out 0).trans rfl
        have hcz42_1 : w31.cell? ⟨gb845, 1, none⟩ = some (.int .i64 0) := (blk_cell BK845.out 1).trans rfl
        have hcz42_2 : w31.cell? ⟨gb845, 2, none⟩ = some (.int .i64 0) := (blk_cell BK845.out 2).trans rfl
        have hfz42_0 := blk_frozen BK845.out 0
        have hfz42_1 := blk_frozen BK845.out 1
        have hfz42_2 := blk_frozen BK845.out 2
        have hnb43 := NB832_819.out
        have hnc43 := NB819_832.out
        have hnb44 := NB832_838.out
        have hnc44 := NB838_832.out
        have hcz45_0 : w31.cell? ⟨gb832, 0, none⟩ = some (.slice Ao20 t826.length co20) := (blk_cell BK832.out 0).trans rfl
        have hcz45_1 : w31.cell? ⟨gb832, 1, none⟩ = some (.int .i64 t829) := (blk_cell BK832.out 1).trans rfl
        have hcz45_2 : w31.cell? ⟨gb832, 2, none⟩ = some (.int .i64 t830) := (blk_cell BK832.out 2).trans rfl
        have hfz45_0 := blk_frozen BK832.out 0
        have hfz45_1 := blk_frozen BK832.out 1
        have hfz45_2 := blk_frozen BK832.out 2
        go_wp2_with (first | ((with_reducible refine gate_callee (f := 19) rfl ?_); refine goesL_ (some 34) rfl rfl Try.func19 (by kernel_rfl) rfl #[.agg #[.slice Ao32 t839.length co32, .int .i64 t842, .int .i64 t843], .agg #[.slice Ao20 t826.length co20, .int .i64 t829, .int .i64 t830]] rfl (by (try simp only [List.map_toArray, List.map_cons, List.map_nil]); first | done | rfl | (simp only [List.length_drop, List.length_take]; rfl)) ?_; (with_reducible refine (laws_eqPuzzle.calls k _ _ t839 t842 t843 _ _ t826 t829 t830 true _ ?side1 ?side2 ?side3 ?side4 A37.out).mono ?_); (case side1 => refine (Kd.R_reads' (e := 3) (base := w.heap.size) (ok := fun k_ => (((True ∧ some k_ ≠ (.slice Ao17 t821.length co17 : Value).ownBlock) ∧ some k_ ≠ (.slice Ao20 t826.length co20 : Value).ownBlock) ∧ some k_ ≠ (.slice Ao26 t833.length co26 : Value).ownBlock)) (n := t839.length) (c := co32) ?_).2.2; exact (by (with_reducible repeat (first | apply Kd.R_alloc | apply Kd.R_drewN | apply Kd.R_drew)); exact (Kd.R_mono (Kd.R_far (p := ⟨gb845, 2, none⟩) (Kd.R_far (p := ⟨gb845, 1, none⟩) (Kd.R_far (p := ⟨gb845, 0, none⟩) (Kd.R_types HO841.out BK845.out (by decide)) (fun _ hk => hk.2) (.slice Ao32 t839.length co32)) (fun _ hk => hk.2) (.int .i64 t842)) (fun _ hk => hk.2) (.int .i64 t843)) (fun _ h_ => h_.1)))); (case side2 => exact (Kd.R_reads' HO841.out).2.1); (case side3 => refine (Kd.R_reads' (e := 3) (base := w.heap.size) (ok := fun k_ => (((True ∧ some k_ ≠ (.slice Ao17 t821.length co17 : Value).ownBlock) ∧ some k_ ≠ (.slice Ao26 t833.length co26 : Value).ownBlock) ∧ some k_ ≠ (.slice Ao32 t839.length co32 : Value).ownBlock)) (n := t826.length) (c := co20) ?_).2.2; exact (by (with_reducible repeat (first | apply Kd.R_alloc | apply Kd.R_drewN | apply Kd.R_drew)); exact (Kd.R_mono (Kd.R_far (p := ⟨gb845, 2, none⟩) (Kd.R_far (p := ⟨gb845, 1, none⟩) (Kd.R_far (p := ⟨gb845, 0, none⟩) (Kd.R_types HO828.out BK845.out (by decide)) (fun _ hk => hk.2) (.slice Ao32 t839.length co32)) (fun _ hk => hk.2) (.int .i64 t842)) (fun _ hk => hk.2) (.int .i64 t843)) (fun _ h_ => h_.1)))); (case side4 => exact (Kd.R_reads' HO828.out).2.1); rintro e w46 ⟨rfl, hb⟩; refine ⟨_, rfl, ?_⟩; have n0_ := Aside0.mk (Kd.R_below (by (with_reducible repeat (first | apply Kd.R_alloc | apply Kd.R_drewN | apply Kd.R_drew)); exact (Kd.R_mono (Kd.R_far (p := ⟨gb845, 2, none⟩) (Kd.R_far (p := ⟨gb845, 1, none⟩) (Kd.R_far (p := ⟨gb845, 0, none⟩) (Kd.R_types HO823.out BK845.out (by decide)) (fun _ hk => hk.2) (.slice Ao32 t839.length co32)) (fun _ hk => hk.2) (.int .i64 t842)) (fun _ hk => hk.2) (.int .i64 t843)) (fun _ h_ => h_.1))) hb); have n1_ := Aside0.mk (Kd.R_below (by (with_reducible repeat (first | apply Kd.R_alloc | apply Kd.R_drewN | apply Kd.R_drew)); exact (Kd.R_mono (Kd.R_far (p := ⟨gb845, 2, none⟩) (Kd.R_far (p := ⟨gb845, 1, none⟩) (Kd.R_far (p := ⟨gb845, 0, none⟩) (Kd.R_types HO828.out BK845.out (by decide)) (fun _ hk => hk.2) (.slice Ao32 t839.length co32)) (fun _ hk => hk.2) (.int .i64 t842)) (fun _ hk => hk.2) (.int .i64 t843)) (fun _ h_ => h_.1))) hb); have n2_ := Aside0.mk (Kd.R_below (by (with_reducible repeat (first | apply Kd.R_alloc | apply Kd.R_drewN | apply Kd.R_drew)); exact (Kd.R_mono (Kd.R_far (p := ⟨gb845, 2, none⟩) (Kd.R_far (p := ⟨gb845, 1, none⟩) (Kd.R_far (p := ⟨gb845, 0, none⟩) (Kd.R_types HO835.out BK845.out (by decide)) (fun _ hk => hk.2) (.slice Ao32 t839.length co32)) (fun _ hk => hk.2) (.int .i64 t842)) (fun _ hk => hk.2) (.int .i64 t843)) (fun _ h_ => h_.1))) hb); have n3_ := Aside0.mk (Kd.R_below (by (with_reducible repeat (first | apply Kd.R_alloc | apply Kd.R_drewN | apply Kd.R_drew)); exact (Kd.R_mono (Kd.R_far (p := ⟨gb845, 2, none⟩) (Kd.R_far (p := ⟨gb845, 1, none⟩) (Kd.R_far (p := ⟨gb845, 0, none⟩) (Kd.R_types HO841.out BK845.out (by decide)) (fun _ hk => hk.2) (.slice Ao32 t839.length co32)) (fun _ hk => hk.2) (.int .i64 t842)) (fun _ hk => hk.2) (.int .i64 t843)) (fun _ h_ => h_.1))) hb); have n4_ := Aside0.mk (blk_below (g := gb819) (o := .cells #[.slice A0_0 l0_0.length c0_0, .int .i64 a0_1, .int .i64 a0_2] 24 (0, 0)) (by (with_reducible repeat (first | refine blk_drewN ?_ _ | refine blk_drew ?_ | refine blk_alloc ?_ _)); refine blk_far ?_ NB819_845.out _; (with_reducible repeat (first | refine blk_drewN ?_ _ | refine blk_drew ?_ | refine blk_alloc ?_ _)); refine blk_far ?_ NB819_845.out _; (with_reducible repeat (first | refine blk_drewN ?_ _ | refine blk_drew ?_ | refine blk_alloc ?_ _)); refine blk_far ?_ NB819_845.out _; (with_reducible repeat (first | refine blk_drewN ?_ _ | refine blk_drew ?_ | refine blk_alloc ?_ _)); exact BK819.out) hb); have n5_ := Aside0.mk (blk_below (g := gb832) (o := .cells #[.slice Ao20 t826.length co20, .int .i64 t829, .int .i64 t830] 27 (0, 0)) (by (with_reducible repeat (first | refine blk_drewN ?_ _ | refine blk_drew ?_ | refine blk_alloc ?_ _)); refine blk_far ?_ NB832_845.out _; (with_reducible repeat (first | refine blk_drewN ?_ _ | refine blk_drew ?_ | refine blk_alloc ?_ _)); refine blk_far ?_ NB832_845.out _; (with_reducible repeat (first | refine blk_drewN ?_ _ | refine blk_drew ?_ | refine blk_alloc ?_ _)); refine blk_far ?_ NB832_845.out _; (with_reducible repeat (first | refine blk_drewN ?_ _ | refine blk_drew ?_ | refine blk_alloc ?_ _)); exact BK832.out) hb); have n6_ := Aside0.mk (blk_below (g := gb838) (o := .cells #[.slice Ao26 t833.length co26, .int .i64 t836, .int .i64 t837] 27 (0, 0)) (by (with_reducible repeat (first | refine blk_drewN ?_ _ | refine blk_drew ?_ | refine blk_alloc ?_ _)); refine blk_far ?_ NB838_845.out _; (with_reducible repeat (first | refine blk_drewN ?_ _ | refine blk_drew ?_ | refine blk_alloc ?_ _)); refine blk_far ?_ NB838_845.out _; (with_reducible repeat (first | refine blk_drewN ?_ _ | refine blk_drew ?_ | refine blk_alloc ?_ _)); refine blk_far ?_ NB838_845.out _; (with_reducible repeat (first | refine blk_drewN ?_ _ | refine blk_drew ?_ | refine blk_alloc ?_ _)); exact BK838.out) hb); have n7_ := Aside0.mk (blk_below (g := gb845) (o := .cells #[.slice Ao32 t839.length co32, .int .i64 t842, .int .i64 t843] 27 (0, 0)) (by (with_reducible repeat (first | refine blk_drewN ?_ _ | refine blk_drew ?_ | refine blk_alloc ?_ _)); refine blk_put (cs := #[.slice Ao32 t839.length co32, .int .i64 t842, .int .i64 0]) ?_ 2 _ rfl; (with_reducible repeat (first | refine blk_drewN ?_ _ | refine blk_drew ?_ | refine blk_alloc ?_ _)); refine blk_put (cs := #[.slice Ao32 t839.length co32, .int .i64 0, .int .i64 0]) ?_ 1 _ rfl; (with_reducible repeat (first | refine blk_drewN ?_ _ | refine blk_drew ?_ | refine blk_alloc ?_ _)); refine blk_put (cs := #[.slice none 0 0, .int .i64 0, .int .i64 0]) ?_ 0 _ rfl; (with_reducible repeat (first | refine blk_drewN ?_ _ | refine blk_drew ?_ | refine blk_alloc ?_ _)); exact BK845.out) hb); have n8_ := Aside0.mk (below_step (by repeat (first | (with_reducible first | exact HB.out | apply below_alloc | apply pw_below_drewN | apply below_drew1 | refine below_set ?_ GE819.out | refine below_set ?_ GE832.out | refine below_set ?_ GE838.out | refine below_set ?_ GE845.out) | exact HB.out)) hb); clear HO823; clear HO828; clear HO835; clear HO841; clear BK819; clear BK832; clear BK838; clear BK845; clear HB; have HO823 := n0_; have HO828 := n1_; have HO835 := n2_; have HO841 := n3_; have BK819 := n4_; have BK832 := n5_; have BK838 := n6_; have BK845 := n7_; have HB := n8_; clear n0_ n1_ n2_ n3_ n4_ n5_ n6_ n7_ n8_; (try clear hb); (try clear hb2); (try clear hk); (try clear hi)))
        go_meet
        case rel => exact ⟨_, ((t844 != t831)), (by first | rfl | (simp; done) | (simp [*]; done)), H', ⟨by first | omega | exact Nat.le_refl _⟩, ⟨by (with_reducible repeat (first | apply Kd.R_alloc | apply Kd.R_drewN | apply Kd.R_drew)); exact Kd.R_mono HO828.out (fun _ hk => ⟨hk.1.2, hk.2⟩)⟩, ⟨by (with_reducible repeat (first | apply Kd.R_alloc | apply Kd.R_drewN | apply Kd.R_drew)); exact Kd.R_mono HO835.out (fun _ hk => ⟨hk.1.2, hk.2⟩)⟩, ⟨by (with_reducible repeat (first | apply Kd.R_alloc | apply Kd.R_drewN | apply Kd.R_drew)); exact Kd.R_mono HO841.out (fun _ hk => ⟨hk.1.2, hk.2⟩)⟩, ⟨by (with_reducible repeat (first | refine blk_drewN ?_ _ | refine blk_drew ?_ | refine blk_alloc ?_ _)); exact BK819.out⟩, ⟨by (with_reducible repeat (first | refine blk_drewN ?_ _ | refine blk_drew ?_ | refine blk_alloc ?_ _)); exact BK832.out⟩, ⟨by (with_reducible repeat (first | refine blk_drewN ?_ _ | refine blk_drew ?_ | refine blk_alloc ?_ _)); exact BK838.out⟩, ⟨by (with_reducible repeat (first | refine blk_drewN ?_ _ | refine blk_drew ?_ | refine blk_alloc ?_ _)); exact BK845.out⟩, ⟨by repeat (first | (with_reducible first | exact HB.out | apply below_alloc | apply pw_below_drewN | apply below_drew1 | refine below_set ?_ GE819.out | refine below_set ?_ GE832.out | refine below_set ?_ GE838.out | refine below_set ?_ GE845.out) | exact HB.out)⟩⟩
      · replace c38 := Bool.eq_false_iff.mpr c38
        subst c38
        have H1 : (laws_FnExactHarderPuzzle.j0 k t831 t844 true l0_0 a0_1 a0_2 t826 t829 t830 t833 t836 t837 t839 t842 t843) = some r := by rw [if_neg (show ¬ (false = true) by decide)] at H; exact H
        clear H
        have H := H1
        clear H1
        have H' := Aside0.mk H
        clear H
        have hnb47 := NB845_819.out
        have hnc47 := NB819_845.out
        have hnb48 := NB845_832.out
        have hnc48 := NB832_845.out
        have hnb49 := NB845_838.out
        have hnc49 := NB838_845.out
        have hcz50_0 : w31.cell? ⟨gb845, 0, none⟩ = some (.slice none 0 0) := (blk_cell BK845.out 0).trans rfl
        have hcz50_1 : w31.cell? ⟨gb845, 1, none⟩ = some (.int .i64 0) := (blk_cell BK845.out 1).trans rfl
        have hcz50_2 : w31.cell? ⟨gb845, 2, none⟩ = some (.int .i64 0) := (blk_cell BK845.out 2).trans rfl
        have hfz50_0 := blk_frozen BK845.out 0
        have hfz50_1 := blk_frozen BK845.out 1
        have hfz50_2 := blk_frozen BK845.out 2
        have hnb51 := NB832_819.out
        have hnc51 := NB819_832.out
        have hnb52 := NB832_838.out
        have hnc52 := NB838_832.out
        have hcz53_0 : w31.cell? ⟨gb832, 0, none⟩ = some (.slice Ao20 t826.length co20) := (blk_cell BK832.out 0).trans rfl
        have hcz53_1 : w31.cell? ⟨gb832, 1, none⟩ = some (.int .i64 t829) := (blk_cell BK832.out 1).trans rfl
        have hcz53_2 : w31.cell? ⟨gb832, 2, none⟩ = some (.int .i64 t830) := (blk_cell BK832.out 2).trans rfl
        have hfz53_0 := blk_frozen BK832.out 0
        have hfz53_1 := blk_frozen BK832.out 1
        have hfz53_2 := blk_frozen BK832.out 2
        go_wp2_with (first | ((with_reducible refine gate_callee (f := 19) rfl ?_); refine goesL_ (some 34) rfl rfl Try.func19 (by kernel_rfl) rfl #[.agg #[.slice Ao32 t839.length co32, .int .i64 t842, .int .i64 t843], .agg #[.slice Ao20 t826.length co20, .int .i64 t829, .int .i64 t830]] rfl (by (try simp only [List.map_toArray, List.map_cons, List.map_nil]); first | done | rfl | (simp only [List.length_drop, List.length_take]; rfl)) ?_; (with_reducible refine (laws_eqPuzzle.calls k _ _ t839 t842 t843 _ _ t826 t829 t830 false _ ?side1 ?side2 ?side3 ?side4 A37.out).mono ?_); (case side1 => refine (Kd.R_reads' (e := 3) (base := w.heap.size) (ok := fun k_ => (((True ∧ some k_ ≠ (.slice Ao17 t821.length co17 : Value).ownBlock) ∧ some k_ ≠ (.slice Ao20 t826.length co20 : Value).ownBlock) ∧ some k_ ≠ (.slice Ao26 t833.length co26 : Value).ownBlock)) (n := t839.length) (c := co32) ?_).2.2; exact (by (with_reducible repeat (first | apply Kd.R_alloc | apply Kd.R_drewN | apply Kd.R_drew)); exact (Kd.R_mono (Kd.R_far (p := ⟨gb845, 2, none⟩) (Kd.R_far (p := ⟨gb845, 1, none⟩) (Kd.R_far (p := ⟨gb845, 0, none⟩) (Kd.R_types HO841.out BK845.out (by decide)) (fun _ hk => hk.2) (.slice Ao32 t839.length co32)) (fun _ hk => hk.2) (.int .i64 t842)) (fun _ hk => hk.2) (.int .i64 t843)) (fun _ h_ => h_.1)))); (case side2 => exact (Kd.R_reads' HO841.out).2.1); (case side3 => refine (Kd.R_reads' (e := 3) (base := w.heap.size) (ok := fun k_ => (((True ∧ some k_ ≠ (.slice Ao17 t821.length co17 : Value).ownBlock) ∧ some k_ ≠ (.slice Ao26 t833.length co26 : Value).ownBlock) ∧ some k_ ≠ (.slice Ao32 t839.length co32 : Value).ownBlock)) (n := t826.length) (c := co20) ?_).2.2; exact (by (with_reducible repeat (first | apply Kd.R_alloc | apply Kd.R_drewN | apply Kd.R_drew)); exact (Kd.R_mono (Kd.R_far (p := ⟨gb845, 2, none⟩) (Kd.R_far (p := ⟨gb845, 1, none⟩) (Kd.R_far (p := ⟨gb845, 0, none⟩) (Kd.R_types HO828.out BK845.out (by decide)) (fun _ hk => hk.2) (.slice Ao32 t839.length co32)) (fun _ hk => hk.2) (.int .i64 t842)) (fun _ hk => hk.2) (.int .i64 t843)) (fun _ h_ => h_.1)))); (case side4 => exact (Kd.R_reads' HO828.out).2.1); rintro e w54 ⟨rfl, hb⟩; refine ⟨_, rfl, ?_⟩; have n0_ := Aside0.mk (Kd.R_below (by (with_reducible repeat (first | apply Kd.R_alloc | apply Kd.R_drewN | apply Kd.R_drew)); exact (Kd.R_mono (Kd.R_far (p := ⟨gb845, 2, none⟩) (Kd.R_far (p := ⟨gb845, 1, none⟩) (Kd.R_far (p := ⟨gb845, 0, none⟩) (Kd.R_types HO823.out BK845.out (by decide)) (fun _ hk => hk.2) (.slice Ao32 t839.length co32)) (fun _ hk => hk.2) (.int .i64 t842)) (fun _ hk => hk.2) (.int .i64 t843)) (fun _ h_ => h_.1))) hb); have n1_ := Aside0.mk (Kd.R_below (by (with_reducible repeat (first | apply Kd.R_alloc | apply Kd.R_drewN | apply Kd.R_drew)); exact (Kd.R_mono (Kd.R_far (p := ⟨gb845, 2, none⟩) (Kd.R_far (p := ⟨gb845, 1, none⟩) (Kd.R_far (p := ⟨gb845, 0, none⟩) (Kd.R_types HO828.out BK845.out (by decide)) (fun _ hk => hk.2) (.slice Ao32 t839.length co32)) (fun _ hk => hk.2) (.int .i64 t842)) (fun _ hk => hk.2) (.int .i64 t843)) (fun _ h_ => h_.1))) hb); have n2_ := Aside0.mk (Kd.R_below (by (with_reducible repeat (first | apply Kd.R_alloc | apply Kd.R_drewN | apply Kd.R_drew)); exact (Kd.R_mono (Kd.R_far (p := ⟨gb845, 2, none⟩) (Kd.R_far (p := ⟨gb845, 1, none⟩) (Kd.R_far (p := ⟨gb845, 0, none⟩) (Kd.R_types HO835.out BK845.out (by decide)) (fun _ hk => hk.2) (.slice Ao32 t839.length co32)) (fun _ hk => hk.2) (.int .i64 t842)) (fun _ hk => hk.2) (.int .i64 t843)) (fun _ h_ => h_.1))) hb); have n3_ := Aside0.mk (Kd.R_below (by (with_reducible repeat (first | apply Kd.R_alloc | apply Kd.R_drewN | apply Kd.R_drew)); exact (Kd.R_mono (Kd.R_far (p := ⟨gb845, 2, none⟩) (Kd.R_far (p := ⟨gb845, 1, none⟩) (Kd.R_far (p := ⟨gb845, 0, none⟩) (Kd.R_types HO841.out BK845.out (by decide)) (fun _ hk => hk.2) (.slice Ao32 t839.length co32)) (fun _ hk => hk.2) (.int .i64 t842)) (fun _ hk => hk.2) (.int .i64 t843)) (fun _ h_ => h_.1))) hb); have n4_ := Aside0.mk (blk_below (g := gb819) (o := .cells #[.slice A0_0 l0_0.length c0_0, .int .i64 a0_1, .int .i64 a0_2] 24 (0, 0)) (by (with_reducible repeat (first | refine blk_drewN ?_ _ | refine blk_drew ?_ | refine blk_alloc ?_ _)); refine blk_far ?_ NB819_845.out _; (with_reducible repeat (first | refine blk_drewN ?_ _ | refine blk_drew ?_ | refine blk_alloc ?_ _)); refine blk_far ?_ NB819_845.out _; (with_reducible repeat (first | refine blk_drewN ?_ _ | refine blk_drew ?_ | refine blk_alloc ?_ _)); refine blk_far ?_ NB819_845.out _; (with_reducible repeat (first | refine blk_drewN ?_ _ | refine blk_drew ?_ | refine blk_alloc ?_ _)); exact BK819.out) hb); have n5_ := Aside0.mk (blk_below (g := gb832) (o := .cells #[.slice Ao20 t826.length co20, .int .i64 t829, .int .i64 t830] 27 (0, 0)) (by (with_reducible repeat (first | refine blk_drewN ?_ _ | refine blk_drew ?_ | refine blk_alloc ?_ _)); refine blk_far ?_ NB832_845.out _; (with_reducible repeat (first | refine blk_drewN ?_ _ | refine blk_drew ?_ | refine blk_alloc ?_ _)); refine blk_far ?_ NB832_845.out _; (with_reducible repeat (first | refine blk_drewN ?_ _ | refine blk_drew ?_ | refine blk_alloc ?_ _)); refine blk_far ?_ NB832_845.out _; (with_reducible repeat (first | refine blk_drewN ?_ _ | refine blk_drew ?_ | refine blk_alloc ?_ _)); exact BK832.out) hb); have n6_ := Aside0.mk (blk_below (g := gb838) (o := .cells #[.slice Ao26 t833.length co26, .int .i64 t836, .int .i64 t837] 27 (0, 0)) (by (with_reducible repeat (first | refine blk_drewN ?_ _ | refine blk_drew ?_ | refine blk_alloc ?_ _)); refine blk_far ?_ NB838_845.out _; (with_reducible repeat (first | refine blk_drewN ?_ _ | refine blk_drew ?_ | refine blk_alloc ?_ _)); refine blk_far ?_ NB838_845.out _; (with_reducible repeat (first | refine blk_drewN ?_ _ | refine blk_drew ?_ | refine blk_alloc ?_ _)); refine blk_far ?_ NB838_845.out _; (with_reducible repeat (first | refine blk_drewN ?_ _ | refine blk_drew ?_ | refine blk_alloc ?_ _)); exact BK838.out) hb); have n7_ := Aside0.mk (blk_below (g := gb845) (o := .cells #[.slice Ao32 t839.length co32, .int .i64 t842, .int .i64 t843] 27 (0, 0)) (by (with_reducible repeat (first | refine blk_drewN ?_ _ | refine blk_drew ?_ | refine blk_alloc ?_ _)); refine blk_put (cs := #[.slice Ao32 t839.length co32, .int .i64 t842, .int .i64 0]) ?_ 2 _ rfl; (with_reducible repeat (first | refine blk_drewN ?_ _ | refine blk_drew ?_ | refine blk_alloc ?_ _)); refine blk_put (cs := #[.slice Ao32 t839.length co32, .int .i64 0, .int .i64 0]) ?_ 1 _ rfl; (with_reducible repeat (first | refine blk_drewN ?_ _ | refine blk_drew ?_ | refine blk_alloc ?_ _)); refine blk_put (cs := #[.slice none 0 0, .int .i64 0, .int .i64 0]) ?_ 0 _ rfl; (with_reducible repeat (first | refine blk_drewN ?_ _ | refine blk_drew ?_ | refine blk_alloc ?_ _)); exact BK845.out) hb); have n8_ := Aside0.mk (below_step (by repeat (first | (with_reducible first | exact HB.out | apply below_alloc | apply pw_below_drewN | apply below_drew1 | refine below_set ?_ GE819.out | refine below_set ?_ GE832.out | refine below_set ?_ GE838.out | refine below_set ?_ GE845.out) | exact HB.out)) hb); clear HO823; clear HO828; clear HO835; clear HO841; clear BK819; clear BK832; clear BK838; clear BK845; clear HB; have HO823 := n0_; have HO828 := n1_; have HO835 := n2_; have HO841 := n3_; have BK819 := n4_; have BK832 := n5_; have BK838 := n6_; have BK845 := n7_; have HB := n8_; clear n0_ n1_ n2_ n3_ n4_ n5_ n6_ n7_ n8_; (try clear hb); (try clear hb2); (try clear hk); (try clear hi)))
        go_meet
        case rel => exact ⟨_, (true), (by first | rfl | (simp; done) | (simp [*]; done)), H', ⟨by first | omega | exact Nat.le_refl _⟩, ⟨by (with_reducible repeat (first | apply Kd.R_alloc | apply Kd.R_drewN | apply Kd.R_drew)); exact Kd.R_mono HO828.out (fun _ hk => ⟨hk.1.2, hk.2⟩)⟩, ⟨by (with_reducible repeat (first | apply Kd.R_alloc | apply Kd.R_drewN | apply Kd.R_drew)); exact Kd.R_mono HO835.out (fun _ hk => ⟨hk.1.2, hk.2⟩)⟩, ⟨by (with_reducible repeat (first | apply Kd.R_alloc | apply Kd.R_drewN | apply Kd.R_drew)); exact Kd.R_mono HO841.out (fun _ hk => ⟨hk.1.2, hk.2⟩)⟩, ⟨by (with_reducible repeat (first | refine blk_drewN ?_ _ | refine blk_drew ?_ | refine blk_alloc ?_ _)); exact BK819.out⟩, ⟨by (with_reducible repeat (first | refine blk_drewN ?_ _ | refine blk_drew ?_ | refine blk_alloc ?_ _)); exact BK832.out⟩, ⟨by (with_reducible repeat (first | refine blk_drewN ?_ _ | refine blk_drew ?_ | refine blk_alloc ?_ _)); exact BK838.out⟩, ⟨by (with_reducible repeat (first | refine blk_drewN ?_ _ | refine blk_drew ?_ | refine blk_alloc ?_ _)); exact BK845.out⟩, ⟨by repeat (first | (with_reducible first | exact HB.out | apply below_alloc | apply pw_below_drewN | apply below_drew1 | refine below_set ?_ GE819.out | refine below_set ?_ GE832.out | refine below_set ?_ GE838.out | refine below_set ?_ GE845.out) | exact HB.out)⟩⟩
    case rest =>
      clear HC11
      try clear c1
      try clear c2
      try clear p2
      try clear c3
      try clear c3b0
      try clear c4
      try clear c5
      try clear c14
      try clear c15
      try clear c17
      try clear c19
      try clear c21
      try clear c27
      try clear c28
      try clear c33
      try clear c34
      try clear c35
      try clear c38
      try clear c39
      try clear c40
      try clear c41
      try clear c43
      try clear c44
      try clear c47
      try clear c48
      try clear c49
      try clear c50
      try clear c51
      try clear c52
      try clear hcz13_0
      try clear hcz13_1
      try clear hcz13_2
      try clear hcz15_0
      try clear hcz15_1
      try clear hcz15_2
      try clear hcz22_0
      try clear hcz22_1
      try clear hcz22_2
      try clear hcz23_0
      try clear hcz23_1
      try clear hcz23_2
      try clear hcz29_0
      try clear hcz29_1
      try clear hcz29_2
      try clear hcz36_0
      try clear hcz36_1
      try clear hcz36_2
      try clear hcz42_0
      try clear hcz42_1
      try clear hcz42_2
      try clear hcz45_0
      try clear hcz45_1
      try clear hcz45_2
      try clear hcz50_0
      try clear hcz50_1
      try clear hcz50_2
      try clear hcz53_0
      try clear hcz53_1
      try clear hcz53_2
      try clear hcz5_0
      try clear hcz5_1
      try clear hcz5_2
      try clear hfz13_0
      try clear hfz13_1
      try clear hfz13_2
      try clear hfz15_0
      try clear hfz15_1
      try clear hfz15_2
      try clear hfz22_0
      try clear hfz22_1
      try clear hfz22_2
      try clear hfz23_0
      try clear hfz23_1
      try clear hfz23_2
      try clear hfz29_0
      try clear hfz29_1
      try clear hfz29_2
      try clear hfz36_0
      try clear hfz36_1
      try clear hfz36_2
      try clear hfz42_0
      try clear hfz42_1
      try clear hfz42_2
      try clear hfz45_0
      try clear hfz45_1
      try clear hfz45_2
      try clear hfz50_0
      try clear hfz50_1
      try clear hfz50_2
      try clear hfz53_0
      try clear hfz53_1
      try clear hfz53_2
      try clear hfz5_0
      try clear hfz5_1
      try clear hfz5_2
      obtain ⟨kq, x40_10, rfl, HA, HJ10, HO_833000, HO_839000, HO_846000, BK819, BK832, BK838, BK845, HB⟩ := hcut
      cases kq with
      | zero => exact absurd HA.out (by simp [laws_FnExactHarderPuzzle.j0])
      | succ kj10 =>
        have H := HA.out
        clear HA
        simp only [laws_FnExactHarderPuzzle.j0] at H
        by_cases c55 : x40_10 = true
        · subst c55
          have H1 : (some false) = some r := by rw [if_pos rfl] at H; exact H
          clear H
          have H := H1
          clear H1
          obtain rfl := Option.some.inj H
          go_wp2
          go_ret
          exact ⟨by first | rfl | (simp [errW_none, errW_some] <;> rfl) | (simp [*, errW_none, errW_some] <;> rfl), by repeat (first | (with_reducible first | exact HB.out | apply below_alloc | apply pw_below_drewN | apply below_drew1 | refine below_set ?_ GE819.out | refine below_set ?_ GE832.out | refine below_set ?_ GE838.out | refine below_set ?_ GE845.out) | exact HB.out)⟩
        · replace c55 := Bool.eq_false_iff.mpr c55
          subst c55
          have H1 : ((laws_toPuzzle.f kj10 l0_0 a0_1 a0_2).bind fun bt847 => ((laws_eqPuzzle.f kj10 t833 t836 t837 bt847.1 bt847.2.1 bt847.2.2).bind fun t852 => (if t852 = true then ((laws_markPuzzle.f kj10 t833 t836 t837 1).bind fun bt853 => (if bt853.1 < 0 then (laws_FnExactHarderPuzzle.j1 kj10 t831 true l0_0 a0_1 a0_2 t826 t829 t830 t839 t842 t843) else ((laws_eqPuzzle.f kj10 t839 t842 t843 t826 t829 t830).bind fun t855 => (if t855 = true then (laws_FnExactHarderPuzzle.j1 kj10 t831 (t844 != t831) l0_0 a0_1 a0_2 t826 t829 t830 t839 t842 t843) else (laws_FnExactHarderPuzzle.j1 kj10 t831 true l0_0 a0_1 a0_2 t826 t829 t830 t839 t842 t843))))) else (some false)))) = some r := by rw [if_neg (show ¬ (false = true) by decide)] at H; exact H
          clear H
          have H := H1
          clear H1
          replace H := Option.bind_eq_some_iff.mp H
          obtain ⟨⟨t847, t850, t851⟩, A560, H⟩ := H
          replace H : ((laws_eqPuzzle.f kj10 t833 t836 t837 t847 t850 t851).bind fun t852 => (if t852 = true then ((laws_markPuzzle.f kj10 t833 t836 t837 1).bind fun bt853 => (if bt853.1 < 0 then (laws_FnExactHarderPuzzle.j1 kj10 t831 true l0_0 a0_1 a0_2 t826 t829 t830 t839 t842 t843) else ((laws_eqPuzzle.f kj10 t839 t842 t843 t826 t829 t830).bind fun t855 => (if t855 = true then (laws_FnExactHarderPuzzle.j1 kj10 t831 (t844 != t831) l0_0 a0_1 a0_2 t826 t829 t830 t839 t842 t843) else (laws_FnExactHarderPuzzle.j1 kj10 t831 true l0_0 a0_1 a0_2 t826 t829 t830 t839 t842 t843))))) else (some false))) = some r := H
          have A56 := Aside0.mk A560
          clear A560
          replace H := Option.bind_eq_some_iff.mp H
          obtain ⟨t852, A570, H⟩ := H
          replace H : (if t852 = true then ((laws_markPuzzle.f kj10 t833 t836 t837 1).bind fun bt853 => (if bt853.1 < 0 then (laws_FnExactHarderPuzzle.j1 kj10 t831 true l0_0 a0_1 a0_2 t826 t829 t830 t839 t842 t843) else ((laws_eqPuzzle.f kj10 t839 t842 t843 t826 t829 t830).bind fun t855 => (if t855 = true then (laws_FnExactHarderPuzzle.j1 kj10 t831 (t844 != t831) l0_0 a0_1 a0_2 t826 t829 t830 t839 t842 t843) else (laws_FnExactHarderPuzzle.j1 kj10 t831 true l0_0 a0_1 a0_2 t826 t829 t830 t839 t842 t843))))) else (some false)) = some r := H
          have A57 := Aside0.mk A570
          clear A570
          by_cases c58 : t852 = true
          · subst c58
            have H1 : ((laws_markPuzzle.f kj10 t833 t836 t837 1).bind fun bt853 => (if bt853.1 < 0 then (laws_FnExactHarderPuzzle.j1 kj10 t831 true l0_0 a0_1 a0_2 t826 t829 t830 t839 t842 t843) else ((laws_eqPuzzle.f kj10 t839 t842 t843 t826 t829 t830).bind fun t855 => (if t855 = true then (laws_FnExactHarderPuzzle.j1 kj10 t831 (t844 != t831) l0_0 a0_1 a0_2 t826 t829 t830 t839 t842 t843) else (laws_FnExactHarderPuzzle.j1 kj10 t831 true l0_0 a0_1 a0_2 t826 t829 t830 t839 t842 t843))))) = some r := by rw [if_pos rfl] at H; exact H
            clear H
            have H := H1
            clear H1
            replace H := Option.bind_eq_some_iff.mp H
            obtain ⟨⟨t853, t854⟩, A590, H⟩ := H
            replace H : (if t853 < 0 then (laws_FnExactHarderPuzzle.j1 kj10 t831 true l0_0 a0_1 a0_2 t826 t829 t830 t839 t842 t843) else ((laws_eqPuzzle.f kj10 t839 t842 t843 t826 t829 t830).bind fun t855 => (if t855 = true then (laws_FnExactHarderPuzzle.j1 kj10 t831 (t844 != t831) l0_0 a0_1 a0_2 t826 t829 t830 t839 t842 t843) else (laws_FnExactHarderPuzzle.j1 kj10 t831 true l0_0 a0_1 a0_2 t826 t829 t830 t839 t842 t843)))) = some r := H
            have A59 := Aside0.mk A590
            clear A590
            have HC60 := Aside0.mk H
            clear H
            try go_wp2
            have n0_ := Aside0.mk (Kd.R_drew HO_833000.out)
            have n1_ := Aside0.mk (Kd.R_drew HO_839000.out)
            have n2_ := Aside0.mk (Kd.R_drew HO_846000.out)
            have n3_ := Aside0.mk (blk_drew BK819.out)
            have n4_ := Aside0.mk (blk_drew BK832.out)
            have n5_ := Aside0.mk (blk_drew BK838.out)
            have n6_ := Aside0.mk (blk_drew BK845.out)
            have n7_ := Aside0.mk (below_drew1 HB.out)
            clear HO_833000
            clear HO_839000
            clear HO_846000
            clear BK819
            clear BK832
            clear BK838
            clear BK845
            clear HB
            have HO_833000 := n0_
            have HO_839000 := n1_
            have HO_846000 := n2_
            have BK819 := n3_
            have BK832 := n4_
            have BK838 := n5_
            have BK845 := n6_
            have HB := n7_
            clear n0_ n1_ n2_ n3_ n4_ n5_ n6_ n7_
            refine start_ (n := 5) (S := fun w' => w'.cell? ⟨gb838, 0, none⟩ = some (.slice Ao26 t833.length co26) ∧ w'.cell? ⟨gb838, 1, none⟩ = some (.int .i64 t836) ∧ w'.cell? ⟨gb838, 2, none⟩ = some (.int .i64 t837) ∧ w'.cell? ⟨gb819, 0, none⟩ = some (.slice A0_0 l0_0.length c0_0) ∧ w'.cell? ⟨gb819, 1, none⟩ = some (.int .i64 a0_1) ∧ w'.cell? ⟨gb819, 2, none⟩ = some (.int .i64 a0_2)) (ds := []) #[false, false, false, false, false] (by kernel_rfl) rfl rfl ⟨(blk_cell BK838.out 0).trans rfl, (blk_cell BK838.out 1).trans rfl, (blk_cell BK838.out 2).trans rfl, (blk_cell BK819.out 0).trans rfl, (blk_cell BK819.out 1).trans rfl, (blk_cell BK819.out 2).trans rfl⟩ (fun hHeld => ?_)
            generalize wc.drew = w61 at HO_833000 HO_839000 HO_846000 BK819 BK832 BK838 BK845 HB hHeld ⊢
            refine take_ (i := 0) (N := some 41) (v := ?_) (a' := ?_) #[true, false, false, false, false] rfl rfl (by kernel_rfl) (fun _ _ _ h => h) (Or.inl ⟨by rfl, ?_⟩) hHeld ?_ ?_
            rotate_left
            · rintro w' ⟨s0, s1, s2, s3, s4, s5⟩
              go_simp
              with_reducible rfl
            rotate_left
            · simp only [Act.put, List.setIfInBounds_toArray, List.set_cons_zero, List.set_cons_succ, i64_w, i32_w]
              rfl
            refine take_ (i := 1) (N := some 42) (v := ?_) (a' := ?_) #[true, true, false, false, false] rfl rfl (by kernel_rfl) (fun _ _ _ h => h) (Or.inl ⟨by rfl, ?_⟩) hHeld ?_ ?_
            rotate_left
            · rintro w' ⟨s0, s1, s2, s3, s4, s5⟩
              go_simp
              with_reducible rfl
            rotate_left
            · simp only [Act.put, List.setIfInBounds_toArray, List.set_cons_zero, List.set_cons_succ, i64_w, i32_w]
              rfl
            refine one_ (i := 2) (N := some 43) #[true, true, true, false, false] rfl rfl (by kernel_rfl) (by decide) (fun K hK => ?_)
            refine goes_ Try.func17 (by kernel_rfl) rfl #[.agg #[.slice A0_0 l0_0.length c0_0, .int .i64 a0_1, .int .i64 a0_2]] (by rfl) rfl rfl (by (try simp only [List.map_toArray, List.map_cons, List.map_nil]); first | done | rfl | (simp only [List.length_drop, List.length_take]; rfl)) ?_
            with_reducible refine (laws_toPuzzle.calls kj10 _ _ l0_0 a0_1 a0_2 t847 t850 t851 _ ?side1 ?side2 A56.out).mono ?_
            (case side1 => repeat (first | exact (Kd.C_below HR0_0.out HB.out) | (with_reducible refine Kd.C_alloc ?_ _) | (with_reducible refine Kd.C_drewN ?_ _) | (with_reducible refine Kd.C_drew ?_)))
            (case side2 => exact HC0_0.out)
            rintro e w62 ⟨v848, rfl, ho0, hb⟩
            refine ⟨_, rfl, ?_⟩
            have n0_ := Aside0.mk (Kd.R_elder' (by (with_reducible repeat (first | apply Kd.R_alloc | apply Kd.R_drewN | apply Kd.R_drew)); exact HO_833000.out) (Kd.R_base ho0) hb)
            have n1_ := Aside0.mk (Kd.R_elder' (by (with_reducible repeat (first | apply Kd.R_alloc | apply Kd.R_drewN | apply Kd.R_drew)); exact HO_839000.out) (Kd.R_base ho0) hb)
            have n2_ := Aside0.mk (Kd.R_elder' (by (with_reducible repeat (first | apply Kd.R_alloc | apply Kd.R_drewN | apply Kd.R_drew)); exact HO_846000.out) (Kd.R_base ho0) hb)
            have n3_ := Aside0.mk (Kd.R_lower (Kd.R_new' (Kd.R_new' (Kd.R_new' ho0 (Kd.R_lt (by (with_reducible repeat (first | apply Kd.R_alloc | apply Kd.R_drewN | apply Kd.R_drew)); exact HO_833000.out))) (Kd.R_lt (by (with_reducible repeat (first | apply Kd.R_alloc | apply Kd.R_drewN | apply Kd.R_drew)); exact HO_839000.out))) (Kd.R_lt (by (with_reducible repeat (first | apply Kd.R_alloc | apply Kd.R_drewN | apply Kd.R_drew)); exact HO_846000.out))) (below_size (by repeat (first | (with_reducible first | exact HB.out | apply below_alloc | apply pw_below_drewN | apply below_drew1 | refine below_set ?_ GE819.out | refine below_set ?_ GE832.out | refine below_set ?_ GE838.out | refine below_set ?_ GE845.out) | exact HB.out))))
            have n4_ := Aside0.mk (blk_below (g := gb819) (o := .cells #[.slice A0_0 l0_0.length c0_0, .int .i64 a0_1, .int .i64 a0_2] 24 (0, 0)) (by (with_reducible repeat (first | refine blk_drewN ?_ _ | refine blk_drew ?_ | refine blk_alloc ?_ _)); exact BK819.out) hb)
            have n5_ := Aside0.mk (blk_below (g := gb832) (o := .cells #[.slice Ao20 t826.length co20, .int .i64 t829, .int .i64 t830] 27 (0, 0)) (by (with_reducible repeat (first | refine blk_drewN ?_ _ | refine blk_drew ?_ | refine blk_alloc ?_ _)); exact BK832.out) hb)
            have n6_ := Aside0.mk (blk_below (g := gb838) (o := .cells #[.slice Ao26 t833.length co26, .int .i64 t836, .int .i64 t837] 27 (0, 0)) (by (with_reducible repeat (first | refine blk_drewN ?_ _ | refine blk_drew ?_ | refine blk_alloc ?_ _)); exact BK838.out) hb)
            have n7_ := Aside0.mk (blk_below (g := gb845) (o := .cells #[.slice Ao32 t839.length co32, .int .i64 t842, .int .i64 t843] 27 (0, 0)) (by (with_reducible repeat (first | refine blk_drewN ?_ _ | refine blk_drew ?_ | refine blk_alloc ?_ _)); exact BK845.out) hb)
            have n8_ := Aside0.mk (below_step (by repeat (first | (with_reducible first | exact HB.out | apply below_alloc | apply pw_below_drewN | apply below_drew1 | refine below_set ?_ GE819.out | refine below_set ?_ GE832.out | refine below_set ?_ GE838.out | refine below_set ?_ GE845.out) | exact HB.out)) hb)
            clear HO_833000
            clear HO_839000
            clear HO_846000
            clear BK819
            clear BK832
            clear BK838
            clear BK845
            clear HB
            have HO_833000 := n0_
            have HO_839000 := n1_
            have HO_846000 := n2_
            have HO849 := n3_
            have BK819 := n4_
            have BK832 := n5_
            have BK838 := n6_
            have BK845 := n7_
            have HB := n8_
            clear n0_ n1_ n2_ n3_ n4_ n5_ n6_ n7_ n8_
            (try clear hb)
            (try clear hb2)
            (try clear hk)
            (try clear hi)
            (try clear ho0)
            obtain ⟨Ao63, co63, eo63⟩ := Kd.R_slice HO849.out
            (first | subst eo63 | (injection eo63 with f1_ f2_ f3_; have f4_ := f1_.symm; have f5_ := f3_.symm; clear f1_ f2_ f3_; subst f4_; subst f5_))
            refine hK.out _ _ ⟨(blk_cell BK838.out 0).trans rfl, (blk_cell BK838.out 1).trans rfl, (blk_cell BK838.out 2).trans rfl, (blk_cell BK819.out 0).trans rfl, (blk_cell BK819.out 1).trans rfl, (blk_cell BK819.out 2).trans rfl⟩ (fun hHeld => ?_)
            clear hK K
            refine norm_ (a' := ?_) ?_ ?_
            rotate_left
            · show Act.put _ (some 43) _ = _
              simp only [Act.put, List.setIfInBounds_toArray, List.set_cons_zero, List.set_cons_succ, i64_w, i32_w]
              rfl
            refine one_ (i := 3) (N := some 44) #[true, true, true, true, false] rfl rfl (by kernel_rfl) (by decide) (fun K hK => ?_)
            refine goes_ Try.func19 (by kernel_rfl) rfl #[.agg #[.slice Ao26 t833.length co26, .int .i64 t836, .int .i64 t837], .agg #[.slice Ao63 t847.length co63, .int .i64 t850, .int .i64 t851]] (by rfl) rfl rfl (by (try simp only [List.map_toArray, List.map_cons, List.map_nil]); first | done | rfl | (simp only [List.length_drop, List.length_take]; rfl)) ?_
            with_reducible refine (laws_eqPuzzle.calls kj10 _ _ t833 t836 t837 _ _ t847 t850 t851 true _ ?side1 ?side2 ?side3 ?side4 A57.out).mono ?_
            (case side1 => repeat (first | exact (Kd.R_reads' HO_839000.out).2.2 | (with_reducible refine Kd.C_alloc ?_ _) | (with_reducible refine Kd.C_drewN ?_ _) | (with_reducible refine Kd.C_drew ?_)))
            (case side2 => exact (Kd.R_reads' HO_839000.out).2.1)
            (case side3 => repeat (first | exact (Kd.R_reads' HO849.out).2.2 | (with_reducible refine Kd.C_alloc ?_ _) | (with_reducible refine Kd.C_drewN ?_ _) | (with_reducible refine Kd.C_drew ?_)))
            (case side4 => exact (Kd.R_reads' HO849.out).2.1)
            rintro e w64 ⟨rfl, hb⟩
            refine ⟨_, rfl, ?_⟩
            have n0_ := Aside0.mk (Kd.R_below (by (with_reducible repeat (first | apply Kd.R_alloc | apply Kd.R_drewN | apply Kd.R_drew)); exact HO_833000.out) hb)
            have n1_ := Aside0.mk (Kd.R_below (by (with_reducible repeat (first | apply Kd.R_alloc | apply Kd.R_drewN | apply Kd.R_drew)); exact HO_839000.out) hb)
            have n2_ := Aside0.mk (Kd.R_below (by (with_reducible repeat (first | apply Kd.R_alloc | apply Kd.R_drewN | apply Kd.R_drew)); exact HO_846000.out) hb)
            have n3_ := Aside0.mk (Kd.R_below (by (with_reducible repeat (first | apply Kd.R_alloc | apply Kd.R_drewN | apply Kd.R_drew)); exact HO849.out) hb)
            have n4_ := Aside0.mk (blk_below (g := gb819) (o := .cells #[.slice A0_0 l0_0.length c0_0, .int .i64 a0_1, .int .i64 a0_2] 24 (0, 0)) (by (with_reducible repeat (first | refine blk_drewN ?_ _ | refine blk_drew ?_ | refine blk_alloc ?_ _)); exact BK819.out) hb)
            have n5_ := Aside0.mk (blk_below (g := gb832) (o := .cells #[.slice Ao20 t826.length co20, .int .i64 t829, .int .i64 t830] 27 (0, 0)) (by (with_reducible repeat (first | refine blk_drewN ?_ _ | refine blk_drew ?_ | refine blk_alloc ?_ _)); exact BK832.out) hb)
            have n6_ := Aside0.mk (blk_below (g := gb838) (o := .cells #[.slice Ao26 t833.length co26, .int .i64 t836, .int .i64 t837] 27 (0, 0)) (by (with_reducible repeat (first | refine blk_drewN ?_ _ | refine blk_drew ?_ | refine blk_alloc ?_ _)); exact BK838.out) hb)
            have n7_ := Aside0.mk (blk_below (g := gb845) (o := .cells #[.slice Ao32 t839.length co32, .int .i64 t842, .int .i64 t843] 27 (0, 0)) (by (with_reducible repeat (first | refine blk_drewN ?_ _ | refine blk_drew ?_ | refine blk_alloc ?_ _)); exact BK845.out) hb)
            have n8_ := Aside0.mk (below_step (by repeat (first | (with_reducible first | exact HB.out | apply below_alloc | apply pw_below_drewN | apply below_drew1 | refine below_set ?_ GE819.out | refine below_set ?_ GE832.out | refine below_set ?_ GE838.out | refine below_set ?_ GE845.out) | exact HB.out)) hb)
            clear HO_833000
            clear HO_839000
            clear HO_846000
            clear HO849
            clear BK819
            clear BK832
            clear BK838
            clear BK845
            clear HB
            have HO_833000 := n0_
            have HO_839000 := n1_
            have HO_846000 := n2_
            have HO849 := n3_
            have BK819 := n4_
            have BK832 := n5_
            have BK838 := n6_
            have BK845 := n7_
            have HB := n8_
            clear n0_ n1_ n2_ n3_ n4_ n5_ n6_ n7_ n8_
            (try clear hb)
            (try clear hb2)
            (try clear hk)
            (try clear hi)
            refine hK.out _ _ ⟨(blk_cell BK838.out 0).trans rfl, (blk_cell BK838.out 1).trans rfl, (blk_cell BK838.out 2).trans rfl, (blk_cell BK819.out 0).trans rfl, (blk_cell BK819.out 1).trans rfl, (blk_cell BK819.out 2).trans rfl⟩ (fun hHeld => ?_)
            clear hK K
            refine norm_ (a' := ?_) ?_ ?_
            rotate_left
            · show Act.put _ (some 44) _ = _
              simp only [Act.put, List.setIfInBounds_toArray, List.set_cons_zero, List.set_cons_succ, i64_w, i32_w]
              rfl
            refine pure_ (i := 4) (N := some 45) (v := ?_) (a' := ?_) #[true, true, true, true, true] rfl rfl (by kernel_rfl) (fun _ _ _ h => h) (Or.inl ⟨by rfl, ?_⟩) ?_ ?_
            rotate_left
            · intro w'
              go_simp
              with_reducible rfl
            rotate_left
            · simp only [Act.put, List.setIfInBounds_toArray, List.set_cons_zero, List.set_cons_succ, i64_w, i32_w]
              rfl
            refine done_ (by kernel_rfl) ?_
            have hnb65 := NB838_819.out
            have hnc65 := NB819_838.out
            have hnb66 := NB838_832.out
            have hnc66 := NB832_838.out
            have hnb67 := NB838_845.out
            have hnc67 := NB845_838.out
            have hcz68_0 : w64.cell? ⟨gb838, 0, none⟩ = some (.slice Ao26 t833.length co26) := (blk_cell BK838.out 0).trans rfl
            have hcz68_1 : w64.cell? ⟨gb838, 1, none⟩ = some (.int .i64 t836) := (blk_cell BK838.out 1).trans rfl
            have hcz68_2 : w64.cell? ⟨gb838, 2, none⟩ = some (.int .i64 t837) := (blk_cell BK838.out 2).trans rfl
            have hfz68_0 := blk_frozen BK838.out 0
            have hfz68_1 := blk_frozen BK838.out 1
            have hfz68_2 := blk_frozen BK838.out 2
            go_upto_region 14 with (first | ((with_reducible refine gate_callee (f := 24) rfl ?_); refine goesL_ (some 48) rfl rfl Try.func24 (by kernel_rfl) rfl #[.agg #[.slice Ao26 t833.length co26, .int .i64 t836, .int .i64 t837], .int .i64 1] rfl (by (try simp only [List.map_toArray, List.map_cons, List.map_nil]); first | done | rfl | (simp only [List.length_drop, List.length_take]; rfl)) ?_; (with_reducible refine (laws_markPuzzle.calls kj10 (fun k_ => some k_ = (.slice Ao26 t833.length co26 : Value).ownBlock) (.slice Ao26 t833.length co26) t833 t836 t837 1 t853 t854 w _ ?side1 ?side2 A59.out).mono ?_); (case side1 => repeat (first | (with_reducible first | exact HB.out | apply below_alloc | apply pw_below_drewN | apply below_drew1 | refine below_set ?_ GE819.out | refine below_set ?_ GE832.out | refine below_set ?_ GE838.out | refine below_set ?_ GE845.out) | exact HB.out)); (case side2 => exact Kd.R_tight rfl HO_839000.out); rintro e w69 ⟨rfl, hy0, hb, hkp⟩; refine ⟨_, rfl, ?_⟩; have n0_ := Aside0.mk (Kd.R_mono (ok' := fun k_ => some k_ ≠ (.slice Ao26 t833.length co26 : Value).ownBlock ∧ some k_ ≠ (.slice Ao32 t839.length co32 : Value).ownBlock ∧ some k_ ≠ (.slice Ao63 t847.length co63 : Value).ownBlock) (Kd.R_keptB (HO_833000.out) hkp (fun k_ hk_ hs_ => (hk_.1.1) hs_)) (fun k_ hk_ => ⟨hk_.1.1.1, hk_.1.1.2, hk_.1.2⟩)); have n1_ := Aside0.mk (Kd.R_reok rfl hy0 (fun k_ e_ => HO_839000.out.1 k_ e_)); have n2_ := Aside0.mk (Kd.R_mono (ok' := fun k_ => some k_ ≠ (.slice Ao20 t826.length co20 : Value).ownBlock ∧ some k_ ≠ (.slice Ao26 t833.length co26 : Value).ownBlock ∧ some k_ ≠ (.slice Ao63 t847.length co63 : Value).ownBlock) (Kd.R_keptB (HO_846000.out) hkp (fun k_ hk_ hs_ => (hk_.1.2) hs_)) (fun k_ hk_ => ⟨hk_.1.1.1, hk_.1.1.2, hk_.1.2⟩)); have n3_ := Aside0.mk (blk_kept (by (with_reducible repeat (first | refine blk_drewN ?_ _ | refine blk_drew ?_ | refine blk_alloc ?_ _)); exact BK819.out) hkp (fun hs_ => (fun e_ => (Kd.R_ne HO_839000.out BK819.out (by decide)) e_) hs_)); have n4_ := Aside0.mk (blk_kept (by (with_reducible repeat (first | refine blk_drewN ?_ _ | refine blk_drew ?_ | refine blk_alloc ?_ _)); exact BK832.out) hkp (fun hs_ => (fun e_ => (Kd.R_ne HO_839000.out BK832.out (by decide)) e_) hs_)); have n5_ := Aside0.mk (blk_kept (by (with_reducible repeat (first | refine blk_drewN ?_ _ | refine blk_drew ?_ | refine blk_alloc ?_ _)); exact BK838.out) hkp (fun hs_ => (fun e_ => (Kd.R_ne HO_839000.out BK838.out (by decide)) e_) hs_)); have n6_ := Aside0.mk (blk_kept (by (with_reducible repeat (first | refine blk_drewN ?_ _ | refine blk_drew ?_ | refine blk_alloc ?_ _)); exact BK845.out) hkp (fun hs_ => (fun e_ => (Kd.R_ne HO_839000.out BK845.out (by decide)) e_) hs_)); have n7_ := Aside0.mk (Kd.R_mono (ok' := fun k_ => some k_ ≠ (.slice Ao20 t826.length co20 : Value).ownBlock ∧ some k_ ≠ (.slice Ao26 t833.length co26 : Value).ownBlock ∧ some k_ ≠ (.slice Ao32 t839.length co32 : Value).ownBlock) (Kd.R_keptB (HO849.out) hkp (fun k_ hk_ hs_ => (hk_.1.2) hs_)) (fun k_ hk_ => ⟨hk_.1.1.1.2, hk_.1.1.2, hk_.1.2⟩)); have n8_ := Aside0.mk (hb); clear HO_833000; clear HO_839000; clear HO_846000; clear BK819; clear BK832; clear BK838; clear BK845; clear HO849; clear HB; have HO_833000 := n0_; have HO_839000 := n1_; have HO_846000 := n2_; have BK819 := n3_; have BK832 := n4_; have BK838 := n5_; have BK845 := n6_; have HO849 := n7_; have HB := n8_; clear n0_ n1_ n2_ n3_ n4_ n5_ n6_ n7_ n8_; (try clear hb); (try clear hkp); (try clear hy0)))
            (try simp only [Act.put, List.setIfInBounds_toArray, List.set_cons_zero, List.set_cons_succ])
            go_cut [61] (fun v61 wc => ∃ (kq : Nat) (x61_59 : Bool), v61 = .bool x61_59 ∧ Aside0 (laws_FnExactHarderPuzzle.j1 kq t831 x61_59 l0_0 a0_1 a0_2 t826 t829 t830 t839 t842 t843 = some r) ∧ Aside0 (kq ≤ kj10) ∧ Aside0 (Kd.R (Kd.int .i64) 3 wc w.heap.size (fun k_ => some k_ ≠ ((.slice Ao26 t833.length co26) : Value).ownBlock ∧ some k_ ≠ ((.slice Ao32 t839.length co32) : Value).ownBlock) (.slice Ao20 t826.length co20) t826) ∧ Aside0 (Kd.R (Kd.int .i64) 3 wc w.heap.size (fun k_ => some k_ ≠ ((.slice Ao20 t826.length co20) : Value).ownBlock ∧ some k_ ≠ ((.slice Ao32 t839.length co32) : Value).ownBlock) (.slice Ao26 t833.length co26) t854) ∧ Aside0 (Kd.R (Kd.int .i64) 3 wc w.heap.size (fun k_ => some k_ ≠ ((.slice Ao20 t826.length co20) : Value).ownBlock ∧ some k_ ≠ ((.slice Ao26 t833.length co26) : Value).ownBlock) (.slice Ao32 t839.length co32) t839) ∧ Aside0 (wc.heap[gb819]? = some (.cells #[(.slice A0_0 l0_0.length c0_0), .int .i64 a0_1, .int .i64 a0_2] 24 (0, 0))) ∧ Aside0 (wc.heap[gb832]? = some (.cells #[(.slice Ao20 t826.length co20), .int .i64 t829, .int .i64 t830] 27 (0, 0))) ∧ Aside0 (wc.heap[gb838]? = some (.cells #[(.slice Ao26 t833.length co26), .int .i64 t836, .int .i64 t837] 27 (0, 0))) ∧ Aside0 (wc.heap[gb845]? = some (.cells #[(.slice Ao32 t839.length co32), .int .i64 t842, .int .i64 t843] 27 (0, 0))) ∧ Aside0 (Below w.heap.size w wc))
            case first =>
              have H := HC60.out
              clear HC60
              by_cases c70 : t853 < 0
              · rw [if_pos c70] at H
                have c70b0 : decide (t853 < 0) = true := decide_eq_true c70
                clear c70
                (first | rw [c70b0] | (simp only [i64_w, i32_w]; rw [c70b0]) | skip)
                have H' := Aside0.mk H
                clear H
                go_wp2
                go_meet
                case rel => exact ⟨_, (true), (by first | rfl | (simp; done) | (simp [*]; done)), H', ⟨by have := HJ10.out; first | omega | exact Nat.le_refl _⟩, ⟨by (with_reducible repeat (first | apply Kd.R_alloc | apply Kd.R_drewN | apply Kd.R_drew)); exact Kd.R_mono HO_833000.out (fun _ hk => ⟨hk.1, hk.2.1⟩)⟩, ⟨by (with_reducible repeat (first | apply Kd.R_alloc | apply Kd.R_drewN | apply Kd.R_drew)); exact Kd.R_mono HO_839000.out (fun _ hk => ⟨hk.1.1, hk.1.2⟩)⟩, ⟨by (with_reducible repeat (first | apply Kd.R_alloc | apply Kd.R_drewN | apply Kd.R_drew)); exact Kd.R_mono HO_846000.out (fun _ hk => ⟨hk.1, hk.2.1⟩)⟩, ⟨by (with_reducible repeat (first | refine blk_drewN ?_ _ | refine blk_drew ?_ | refine blk_alloc ?_ _)); exact BK819.out⟩, ⟨by (with_reducible repeat (first | refine blk_drewN ?_ _ | refine blk_drew ?_ | refine blk_alloc ?_ _)); exact BK832.out⟩, ⟨by (with_reducible repeat (first | refine blk_drewN ?_ _ | refine blk_drew ?_ | refine blk_alloc ?_ _)); exact BK838.out⟩, ⟨by (with_reducible repeat (first | refine blk_drewN ?_ _ | refine blk_drew ?_ | refine blk_alloc ?_ _)); exact BK845.out⟩, ⟨by repeat (first | (with_reducible first | exact HB.out | apply below_alloc | apply pw_below_drewN | apply below_drew1 | refine below_set ?_ GE819.out | refine below_set ?_ GE832.out | refine below_set ?_ GE838.out | refine below_set ?_ GE845.out) | exact HB.out)⟩⟩
              · rw [if_neg c70] at H
                have c70b0 : decide (t853 < 0) = false := decide_eq_false c70
                clear c70
                (first | rw [c70b0] | (simp only [i64_w, i32_w]; rw [c70b0]) | skip)
                replace H := Option.bind_eq_some_iff.mp H
                obtain ⟨t855, A710, H⟩ := H
                replace H : (if t855 = true then (laws_FnExactHarderPuzzle.j1 kj10 t831 (t844 != t831) l0_0 a0_1 a0_2 t826 t829 t830 t839 t842 t843) else (laws_FnExactHarderPuzzle.j1 kj10 t831 true l0_0 a0_1 a0_2 t826 t829 t830 t839 t842 t843)) = some r := H
                have A71 := Aside0.mk A710
                clear A710
                by_cases c72 : t855 = true
                · subst c72
                  have H1 : (laws_FnExactHarderPuzzle.j1 kj10 t831 (t844 != t831) l0_0 a0_1 a0_2 t826 t829 t830 t839 t842 t843) = some r := by rw [if_pos rfl] at H; exact H
                  clear H
                  have H := H1
                  clear H1
                  have H' := Aside0.mk H
                  clear H
                  have hnb73 := NB845_819.out
                  have hnc73 := NB819_845.out
                  have hnb74 := NB845_832.out
                  have hnc74 := NB832_845.out
                  have hnb75 := NB845_838.out
                  have hnc75 := NB838_845.out
                  have hcz76_0 : w69.cell? ⟨gb845, 0, none⟩ = some (.slice Ao32 t839.length co32) := (blk_cell BK845.out 0).trans rfl
                  have hcz76_1 : w69.cell? ⟨gb845, 1, none⟩ = some (.int .i64 t842) := (blk_cell BK845.out 1).trans rfl
                  have hcz76_2 : w69.cell? ⟨gb845, 2, none⟩ = some (.int .i64 t843) := (blk_cell BK845.out 2).trans rfl
                  have hfz76_0 := blk_frozen BK845.out 0
                  have hfz76_1 := blk_frozen BK845.out 1
                  have hfz76_2 := blk_frozen BK845.out 2
                  have hnb77 := NB832_819.out
                  have hnc77 := NB819_832.out
                  have hnb78 := NB832_838.out
                  have hnc78 := NB838_832.out
                  have hcz79_0 : w69.cell? ⟨gb832, 0, none⟩ = some (.slice Ao20 t826.length co20) := (blk_cell BK832.out 0).trans rfl
                  have hcz79_1 : w69.cell? ⟨gb832, 1, none⟩ = some (.int .i64 t829) := (blk_cell BK832.out 1).trans rfl
                  have hcz79_2 : w69.cell? ⟨gb832, 2, none⟩ = some (.int .i64 t830) := (blk_cell BK832.out 2).trans rfl
                  have hfz79_0 := blk_frozen BK832.out 0
                  have hfz79_1 := blk_frozen BK832.out 1
                  have hfz79_2 := blk_frozen BK832.out 2
                  go_wp2_with (first | (go_at_call 19; (with_reducible refine (laws_eqPuzzle.calls kj10 _ _ t839 t842 t843 _ _ t826 t829 t830 true _ ?side1 ?side2 ?side3 ?side4 A71.out).mono ?_); (case side1 => repeat (first | exact (Kd.R_reads' HO_846000.out).2.2 | (with_reducible refine Kd.C_alloc ?_ _) | (with_reducible refine Kd.C_drewN ?_ _) | (with_reducible refine Kd.C_drew ?_))); (case side2 => exact (Kd.R_reads' HO_846000.out).2.1); (case side3 => repeat (first | exact (Kd.R_reads' HO_833000.out).2.2 | (with_reducible refine Kd.C_alloc ?_ _) | (with_reducible refine Kd.C_drewN ?_ _) | (with_reducible refine Kd.C_drew ?_))); (case side4 => exact (Kd.R_reads' HO_833000.out).2.1); rintro e w80 ⟨rfl, hb⟩; have n0_ := Aside0.mk (Kd.R_below (by (with_reducible repeat (first | apply Kd.R_alloc | apply Kd.R_drewN | apply Kd.R_drew)); exact HO_833000.out) hb); have n1_ := Aside0.mk (Kd.R_below (by (with_reducible repeat (first | apply Kd.R_alloc | apply Kd.R_drewN | apply Kd.R_drew)); exact HO_839000.out) hb); have n2_ := Aside0.mk (Kd.R_below (by (with_reducible repeat (first | apply Kd.R_alloc | apply Kd.R_drewN | apply Kd.R_drew)); exact HO_846000.out) hb); have n3_ := Aside0.mk (Kd.R_below (by (with_reducible repeat (first | apply Kd.R_alloc | apply Kd.R_drewN | apply Kd.R_drew)); exact HO849.out) hb); have n4_ := Aside0.mk (blk_below (g := gb819) (o := .cells #[.slice A0_0 l0_0.length c0_0, .int .i64 a0_1, .int .i64 a0_2] 24 (0, 0)) (by (with_reducible repeat (first | refine blk_drewN ?_ _ | refine blk_drew ?_ | refine blk_alloc ?_ _)); exact BK819.out) hb); have n5_ := Aside0.mk (blk_below (g := gb832) (o := .cells #[.slice Ao20 t826.length co20, .int .i64 t829, .int .i64 t830] 27 (0, 0)) (by (with_reducible repeat (first | refine blk_drewN ?_ _ | refine blk_drew ?_ | refine blk_alloc ?_ _)); exact BK832.out) hb); have n6_ := Aside0.mk (blk_below (g := gb838) (o := .cells #[.slice Ao26 t833.length co26, .int .i64 t836, .int .i64 t837] 27 (0, 0)) (by (with_reducible repeat (first | refine blk_drewN ?_ _ | refine blk_drew ?_ | refine blk_alloc ?_ _)); exact BK838.out) hb); have n7_ := Aside0.mk (blk_below (g := gb845) (o := .cells #[.slice Ao32 t839.length co32, .int .i64 t842, .int .i64 t843] 27 (0, 0)) (by (with_reducible repeat (first | refine blk_drewN ?_ _ | refine blk_drew ?_ | refine blk_alloc ?_ _)); exact BK845.out) hb); have n8_ := Aside0.mk (below_step (by repeat (first | (with_reducible first | exact HB.out | apply below_alloc | apply pw_below_drewN | apply below_drew1 | refine below_set ?_ GE819.out | refine below_set ?_ GE832.out | refine below_set ?_ GE838.out | refine below_set ?_ GE845.out) | exact HB.out)) hb); clear HO_833000; clear HO_839000; clear HO_846000; clear HO849; clear BK819; clear BK832; clear BK838; clear BK845; clear HB; have HO_833000 := n0_; have HO_839000 := n1_; have HO_846000 := n2_; have HO849 := n3_; have BK819 := n4_; have BK832 := n5_; have BK838 := n6_; have BK845 := n7_; have HB := n8_; clear n0_ n1_ n2_ n3_ n4_ n5_ n6_ n7_ n8_; (try clear hb); (try clear hb2); (try clear hk); (try clear hi)))
                  go_meet
                  case rel => exact ⟨_, ((t844 != t831)), (by first | rfl | (simp; done) | (simp [*]; done)), H', ⟨by have := HJ10.out; first | omega | exact Nat.le_refl _⟩, ⟨by (with_reducible repeat (first | apply Kd.R_alloc | apply Kd.R_drewN | apply Kd.R_drew)); exact Kd.R_mono HO_833000.out (fun _ hk => ⟨hk.1, hk.2.1⟩)⟩, ⟨by (with_reducible repeat (first | apply Kd.R_alloc | apply Kd.R_drewN | apply Kd.R_drew)); exact Kd.R_mono HO_839000.out (fun _ hk => ⟨hk.1.1, hk.1.2⟩)⟩, ⟨by (with_reducible repeat (first | apply Kd.R_alloc | apply Kd.R_drewN | apply Kd.R_drew)); exact Kd.R_mono HO_846000.out (fun _ hk => ⟨hk.1, hk.2.1⟩)⟩, ⟨by (with_reducible repeat (first | refine blk_drewN ?_ _ | refine blk_drew ?_ | refine blk_alloc ?_ _)); exact BK819.out⟩, ⟨by (with_reducible repeat (first | refine blk_drewN ?_ _ | refine blk_drew ?_ | refine blk_alloc ?_ _)); exact BK832.out⟩, ⟨by (with_reducible repeat (first | refine blk_drewN ?_ _ | refine blk_drew ?_ | refine blk_alloc ?_ _)); exact BK838.out⟩, ⟨by (with_reducible repeat (first | refine blk_drewN ?_ _ | refine blk_drew ?_ | refine blk_alloc ?_ _)); exact BK845.out⟩, ⟨by repeat (first | (with_reducible first | exact HB.out | apply below_alloc | apply pw_below_drewN | apply below_drew1 | refine below_set ?_ GE819.out | refine below_set ?_ GE832.out | refine below_set ?_ GE838.out | refine below_set ?_ GE845.out) | exact HB.out)⟩⟩
                · replace c72 := Bool.eq_false_iff.mpr c72
                  subst c72
                  have H1 : (laws_FnExactHarderPuzzle.j1 kj10 t831 true l0_0 a0_1 a0_2 t826 t829 t830 t839 t842 t843) = some r := by rw [if_neg (show ¬ (false = true) by decide)] at H; exact H
                  clear H
                  have H := H1
                  clear H1
                  have H' := Aside0.mk H
                  clear H
                  have hnb81 := NB845_819.out
                  have hnc81 := NB819_845.out
                  have hnb82 := NB845_832.out
                  have hnc82 := NB832_845.out
                  have hnb83 := NB845_838.out
                  have hnc83 := NB838_845.out
                  have hcz84_0 : w69.cell? ⟨gb845, 0, none⟩ = some (.slice Ao32 t839.length co32) := (blk_cell BK845.out 0).trans rfl
                  have hcz84_1 : w69.cell? ⟨gb845, 1, none⟩ = some (.int .i64 t842) := (blk_cell BK845.out 1).trans rfl
                  have hcz84_2 : w69.cell? ⟨gb845, 2, none⟩ = some (.int .i64 t843) := (blk_cell BK845.out 2).trans rfl
                  have hfz84_0 := blk_frozen BK845.out 0
                  have hfz84_1 := blk_frozen BK845.out 1
                  have hfz84_2 := blk_frozen BK845.out 2
                  have hnb85 := NB832_819.out
                  have hnc85 := NB819_832.out
                  have hnb86 := NB832_838.out
                  have hnc86 := NB838_832.out
                  have hcz87_0 : w69.cell? ⟨gb832, 0, none⟩ = some (.slice Ao20 t826.length co20) := (blk_cell BK832.out 0).trans rfl
                  have hcz87_1 : w69.cell? ⟨gb832, 1, none⟩ = some (.int .i64 t829) := (blk_cell BK832.out 1).trans rfl
                  have hcz87_2 : w69.cell? ⟨gb832, 2, none⟩ = some (.int .i64 t830) := (blk_cell BK832.out 2).trans rfl
                  have hfz87_0 := blk_frozen BK832.out 0
                  have hfz87_1 := blk_frozen BK832.out 1
                  have hfz87_2 := blk_frozen BK832.out 2
                  go_wp2_with (first | (go_at_call 19; (with_reducible refine (laws_eqPuzzle.calls kj10 _ _ t839 t842 t843 _ _ t826 t829 t830 false _ ?side1 ?side2 ?side3 ?side4 A71.out).mono ?_); (case side1 => repeat (first | exact (Kd.R_reads' HO_846000.out).2.2 | (with_reducible refine Kd.C_alloc ?_ _) | (with_reducible refine Kd.C_drewN ?_ _) | (with_reducible refine Kd.C_drew ?_))); (case side2 => exact (Kd.R_reads' HO_846000.out).2.1); (case side3 => repeat (first | exact (Kd.R_reads' HO_833000.out).2.2 | (with_reducible refine Kd.C_alloc ?_ _) | (with_reducible refine Kd.C_drewN ?_ _) | (with_reducible refine Kd.C_drew ?_))); (case side4 => exact (Kd.R_reads' HO_833000.out).2.1); rintro e w88 ⟨rfl, hb⟩; have n0_ := Aside0.mk (Kd.R_below (by (with_reducible repeat (first | apply Kd.R_alloc | apply Kd.R_drewN | apply Kd.R_drew)); exact HO_833000.out) hb); have n1_ := Aside0.mk (Kd.R_below (by (with_reducible repeat (first | apply Kd.R_alloc | apply Kd.R_drewN | apply Kd.R_drew)); exact HO_839000.out) hb); have n2_ := Aside0.mk (Kd.R_below (by (with_reducible repeat (first | apply Kd.R_alloc | apply Kd.R_drewN | apply Kd.R_drew)); exact HO_846000.out) hb); have n3_ := Aside0.mk (Kd.R_below (by (with_reducible repeat (first | apply Kd.R_alloc | apply Kd.R_drewN | apply Kd.R_drew)); exact HO849.out) hb); have n4_ := Aside0.mk (blk_below (g := gb819) (o := .cells #[.slice A0_0 l0_0.length c0_0, .int .i64 a0_1, .int .i64 a0_2] 24 (0, 0)) (by (with_reducible repeat (first | refine blk_drewN ?_ _ | refine blk_drew ?_ | refine blk_alloc ?_ _)); exact BK819.out) hb); have n5_ := Aside0.mk (blk_below (g := gb832) (o := .cells #[.slice Ao20 t826.length co20, .int .i64 t829, .int .i64 t830] 27 (0, 0)) (by (with_reducible repeat (first | refine blk_drewN ?_ _ | refine blk_drew ?_ | refine blk_alloc ?_ _)); exact BK832.out) hb); have n6_ := Aside0.mk (blk_below (g := gb838) (o := .cells #[.slice Ao26 t833.length co26, .int .i64 t836, .int .i64 t837] 27 (0, 0)) (by (with_reducible repeat (first | refine blk_drewN ?_ _ | refine blk_drew ?_ | refine blk_alloc ?_ _)); exact BK838.out) hb); have n7_ := Aside0.mk (blk_below (g := gb845) (o := .cells #[.slice Ao32 t839.length co32, .int .i64 t842, .int .i64 t843] 27 (0, 0)) (by (with_reducible repeat (first | refine blk_drewN ?_ _ | refine blk_drew ?_ | refine blk_alloc ?_ _)); exact BK845.out) hb); have n8_ := Aside0.mk (below_step (by repeat (first | (with_reducible first | exact HB.out | apply below_alloc | apply pw_below_drewN | apply below_drew1 | refine below_set ?_ GE819.out | refine below_set ?_ GE832.out | refine below_set ?_ GE838.out | refine below_set ?_ GE845.out) | exact HB.out)) hb); clear HO_833000; clear HO_839000; clear HO_846000; clear HO849; clear BK819; clear BK832; clear BK838; clear BK845; clear HB; have HO_833000 := n0_; have HO_839000 := n1_; have HO_846000 := n2_; have HO849 := n3_; have BK819 := n4_; have BK832 := n5_; have BK838 := n6_; have BK845 := n7_; have HB := n8_; clear n0_ n1_ n2_ n3_ n4_ n5_ n6_ n7_ n8_; (try clear hb); (try clear hb2); (try clear hk); (try clear hi)))
                  go_meet
                  case rel => exact ⟨_, (true), (by first | rfl | (simp; done) | (simp [*]; done)), H', ⟨by have := HJ10.out; first | omega | exact Nat.le_refl _⟩, ⟨by (with_reducible repeat (first | apply Kd.R_alloc | apply Kd.R_drewN | apply Kd.R_drew)); exact Kd.R_mono HO_833000.out (fun _ hk => ⟨hk.1, hk.2.1⟩)⟩, ⟨by (with_reducible repeat (first | apply Kd.R_alloc | apply Kd.R_drewN | apply Kd.R_drew)); exact Kd.R_mono HO_839000.out (fun _ hk => ⟨hk.1.1, hk.1.2⟩)⟩, ⟨by (with_reducible repeat (first | apply Kd.R_alloc | apply Kd.R_drewN | apply Kd.R_drew)); exact Kd.R_mono HO_846000.out (fun _ hk => ⟨hk.1, hk.2.1⟩)⟩, ⟨by (with_reducible repeat (first | refine blk_drewN ?_ _ | refine blk_drew ?_ | refine blk_alloc ?_ _)); exact BK819.out⟩, ⟨by (with_reducible repeat (first | refine blk_drewN ?_ _ | refine blk_drew ?_ | refine blk_alloc ?_ _)); exact BK832.out⟩, ⟨by (with_reducible repeat (first | refine blk_drewN ?_ _ | refine blk_drew ?_ | refine blk_alloc ?_ _)); exact BK838.out⟩, ⟨by (with_reducible repeat (first | refine blk_drewN ?_ _ | refine blk_drew ?_ | refine blk_alloc ?_ _)); exact BK845.out⟩, ⟨by repeat (first | (with_reducible first | exact HB.out | apply below_alloc | apply pw_below_drewN | apply below_drew1 | refine below_set ?_ GE819.out | refine below_set ?_ GE832.out | refine below_set ?_ GE838.out | refine below_set ?_ GE845.out) | exact HB.out)⟩⟩
            case rest =>
              clear HC60
              try clear c1
              try clear c2
              try clear p2
              try clear c3
              try clear c3b0
              try clear c4
              try clear c5
              try clear c6
              try clear c7
              try clear c8
              try clear c14
              try clear c15
              try clear c17
              try clear c19
              try clear c21
              try clear c24
              try clear c27
              try clear c28
              try clear c33
              try clear c34
              try clear c35
              try clear c38
              try clear c39
              try clear c40
              try clear c41
              try clear c43
              try clear c44
              try clear c47
              try clear c48
              try clear c49
              try clear c50
              try clear c51
              try clear c52
              try clear c55
              try clear c58
              try clear c65
              try clear c66
              try clear c67
              try clear c70
              try clear c70b0
              try clear c72
              try clear c73
              try clear c74
              try clear c75
              try clear c77
              try clear c78
              try clear c81
              try clear c82
              try clear c83
              try clear c85
              try clear c86
              try clear hcz13_0
              try clear hcz13_1
              try clear hcz13_2
              try clear hcz15_0
              try clear hcz15_1
              try clear hcz15_2
              try clear hcz22_0
              try clear hcz22_1
              try clear hcz22_2
              try clear hcz23_0
              try clear hcz23_1
              try clear hcz23_2
              try clear hcz29_0
              try clear hcz29_1
              try clear hcz29_2
              try clear hcz36_0
              try clear hcz36_1
              try clear hcz36_2
              try clear hcz42_0
              try clear hcz42_1
              try clear hcz42_2
              try clear hcz45_0
              try clear hcz45_1
              try clear hcz45_2
              try clear hcz50_0
              try clear hcz50_1
              try clear hcz50_2
              try clear hcz53_0
              try clear hcz53_1
              try clear hcz53_2
              try clear hcz5_0
              try clear hcz5_1
              try clear hcz5_2
              try clear hcz68_0
              try clear hcz68_1
              try clear hcz68_2
              try clear hcz76_0
              try clear hcz76_1
              try clear hcz76_2
              try clear hcz79_0
              try clear hcz79_1
              try clear hcz79_2
              try clear hcz84_0
              try clear hcz84_1
              try clear hcz84_2
              try clear hcz87_0
              try clear hcz87_1
              try clear hcz87_2
              try clear hfz13_0
              try clear hfz13_1
              try clear hfz13_2
              try clear hfz15_0
              try clear hfz15_1
              try clear hfz15_2
              try clear hfz22_0
              try clear hfz22_1
              try clear hfz22_2
              try clear hfz23_0
              try clear hfz23_1
              try clear hfz23_2
              try clear hfz29_0
              try clear hfz29_1
              try clear hfz29_2
              try clear hfz36_0
              try clear hfz36_1
              try clear hfz36_2
              try clear hfz42_0
              try clear hfz42_1
              try clear hfz42_2
              try clear hfz45_0
              try clear hfz45_1
              try clear hfz45_2
              try clear hfz50_0
              try clear hfz50_1
              try clear hfz50_2
              try clear hfz53_0
              try clear hfz53_1
              try clear hfz53_2
              try clear hfz5_0
              try clear hfz5_1
              try clear hfz5_2
              try clear hfz68_0
              try clear hfz68_1
              try clear hfz68_2
              try clear hfz76_0
              try clear hfz76_1
              try clear hfz76_2
              try clear hfz79_0
              try clear hfz79_1
              try clear hfz79_2
              try clear hfz84_0
              try clear hfz84_1
              try clear hfz84_2
              try clear hfz87_0
              try clear hfz87_1
              try clear hfz87_2
              try clear p2
              obtain ⟨kq, x61_59, rfl, HA, HJ59, HO_833000, HO_839000, HO_846000, BK819, BK832, BK838, BK845, HB⟩ := hcut
              have hl839000_59 := (Kd.R_reads' HO_839000.out).1
              rw [hl839000_59] at HO_839000
              (try simp only [hl839000_59])
              (try simp only [hl839000_59] at BK819)
              (try simp only [hl839000_59] at BK832)
              (try simp only [hl839000_59] at BK838)
              (try simp only [hl839000_59] at BK845)
              (try simp only [hl839000_59] at HO_833000)
              (try simp only [hl839000_59] at HO_846000)
              cases kq with
              | zero => exact absurd HA.out (by simp [laws_FnExactHarderPuzzle.j1])
              | succ kj59 =>
                have H := HA.out
                clear HA
                simp only [laws_FnExactHarderPuzzle.j1] at H
                by_cases c89 : x61_59 = true
                · subst c89
                  have H1 : (some false) = some r := by rw [if_pos rfl] at H; exact H
                  clear H
                  have H := H1
                  clear H1
                  obtain rfl := Option.some.inj H
                  go_wp2
                  go_ret
                  exact ⟨by first | rfl | (simp [errW_none, errW_some] <;> rfl) | (simp [*, errW_none, errW_some] <;> rfl), by repeat (first | (with_reducible first | exact HB.out | apply below_alloc | apply pw_below_drewN | apply below_drew1 | refine below_set ?_ GE819.out | refine below_set ?_ GE832.out | refine below_set ?_ GE838.out | refine below_set ?_ GE845.out) | exact HB.out)⟩
                · replace c89 := Bool.eq_false_iff.mpr c89
                  subst c89
                  have H1 : ((laws_markPuzzle.f kj59 t839 t842 t843 1).bind fun bt856 => ((laws_heldPuzzle.f kj59 bt856.2 t842 t843 1).bind fun t858 => (if t858 < 0 then (some false) else (if t858 = bt856.1 then ((laws_toPuzzle.f kj59 l0_0 a0_1 a0_2).bind fun bt859 => ((impl_HarderPuzzle.f kj59 bt859.1 bt859.2.1 bt859.2.2).bind fun bt864 => ((laws_eqPuzzle.f kj59 bt864.1 bt864.2.1 bt864.2.2.1 t826 t829 t830).bind fun t871 => (if t871 = true then (laws_FnExactHarderPuzzle.j2 kj59 bt856.1 (bt864.2.2.2 != t831) bt856.2 t842 t843) else (laws_FnExactHarderPuzzle.j2 kj59 bt856.1 true bt856.2 t842 t843))))) else (some false))))) = some r := by rw [if_neg (show ¬ (false = true) by decide)] at H; exact H
                  clear H
                  have H := H1
                  clear H1
                  replace H := Option.bind_eq_some_iff.mp H
                  obtain ⟨⟨t856, t857⟩, A900, H⟩ := H
                  replace H : ((laws_heldPuzzle.f kj59 t857 t842 t843 1).bind fun t858 => (if t858 < 0 then (some false) else (if t858 = t856 then ((laws_toPuzzle.f kj59 l0_0 a0_1 a0_2).bind fun bt859 => ((impl_HarderPuzzle.f kj59 bt859.1 bt859.2.1 bt859.2.2).bind fun bt864 => ((laws_eqPuzzle.f kj59 bt864.1 bt864.2.1 bt864.2.2.1 t826 t829 t830).bind fun t871 => (if t871 = true then (laws_FnExactHarderPuzzle.j2 kj59 t856 (bt864.2.2.2 != t831) t857 t842 t843) else (laws_FnExactHarderPuzzle.j2 kj59 t856 true t857 t842 t843))))) else (some false)))) = some r := H
                  have A90 := Aside0.mk A900
                  clear A900
                  replace H := Option.bind_eq_some_iff.mp H
                  obtain ⟨t858, A910, H⟩ := H
                  replace H : (if t858 < 0 then (some false) else (if t858 = t856 then ((laws_toPuzzle.f kj59 l0_0 a0_1 a0_2).bind fun bt859 => ((impl_HarderPuzzle.f kj59 bt859.1 bt859.2.1 bt859.2.2).bind fun bt864 => ((laws_eqPuzzle.f kj59 bt864.1 bt864.2.1 bt864.2.2.1 t826 t829 t830).bind fun t871 => (if t871 = true then (laws_FnExactHarderPuzzle.j2 kj59 t856 (bt864.2.2.2 != t831) t857 t842 t843) else (laws_FnExactHarderPuzzle.j2 kj59 t856 true t857 t842 t843))))) else (some false))) = some r := H
                  have A91 := Aside0.mk A910
                  clear A910
                  by_cases c92 : t858 < 0
                  · rw [if_pos c92] at H
                    have c92b0 : decide (t858 < 0) = true := decide_eq_true c92
                    clear c92
                    obtain rfl := Option.some.inj H
                    have hnb93 := NB845_819.out
                    have hnc93 := NB819_845.out
                    have hnb94 := NB845_832.out
                    have hnc94 := NB832_845.out
                    have hnb95 := NB845_838.out
                    have hnc95 := NB838_845.out
                    have hcz96_0 : wc.cell? ⟨gb845, 0, none⟩ = some (.slice Ao32 t839.length co32) := (blk_cell BK845.out 0).trans rfl
                    have hcz96_1 : wc.cell? ⟨gb845, 1, none⟩ = some (.int .i64 t842) := (blk_cell BK845.out 1).trans rfl
                    have hcz96_2 : wc.cell? ⟨gb845, 2, none⟩ = some (.int .i64 t843) := (blk_cell BK845.out 2).trans rfl
                    have hfz96_0 := blk_frozen BK845.out 0
                    have hfz96_1 := blk_frozen BK845.out 1
                    have hfz96_2 := blk_frozen BK845.out 2
                    go_wp2_with (first | ((with_reducible refine gate_callee (f := 24) rfl ?_); refine goesL_ (some 64) rfl rfl Try.func24 (by kernel_rfl) rfl #[.agg #[.slice Ao32 t839.length co32, .int .i64 t842, .int .i64 t843], .int .i64 1] rfl (by (try simp only [List.map_toArray, List.map_cons, List.map_nil]); first | done | rfl | (simp only [List.length_drop, List.length_take]; rfl)) ?_; (with_reducible refine (laws_markPuzzle.calls kj59 (fun k_ => some k_ = (.slice Ao32 t839.length co32 : Value).ownBlock) (.slice Ao32 t839.length co32) t839 t842 t843 1 t856 t857 w _ ?side1 ?side2 A90.out).mono ?_); (case side1 => repeat (first | (with_reducible first | exact HB.out | apply below_alloc | apply pw_below_drewN | apply below_drew1 | refine below_set ?_ GE819.out | refine below_set ?_ GE832.out | refine below_set ?_ GE838.out | refine below_set ?_ GE845.out) | exact HB.out)); (case side2 => exact Kd.R_tight rfl HO_846000.out); rintro e w97 ⟨rfl, hy0, hb, hkp⟩; refine ⟨_, rfl, ?_⟩; have n0_ := Aside0.mk (Kd.R_mono (ok' := fun k_ => some k_ ≠ (.slice Ao26 t854.length co26 : Value).ownBlock ∧ some k_ ≠ (.slice Ao32 t839.length co32 : Value).ownBlock) (Kd.R_keptB (HO_833000.out) hkp (fun k_ hk_ hs_ => (hk_.2) hs_)) (fun k_ hk_ => ⟨hk_.1.1, hk_.1.2⟩)); have n1_ := Aside0.mk (Kd.R_mono (ok' := fun k_ => some k_ ≠ (.slice Ao20 t826.length co20 : Value).ownBlock ∧ some k_ ≠ (.slice Ao32 t839.length co32 : Value).ownBlock) (Kd.R_keptB (HO_839000.out) hkp (fun k_ hk_ hs_ => (hk_.2) hs_)) (fun k_ hk_ => ⟨hk_.1.1, hk_.1.2⟩)); have n2_ := Aside0.mk (Kd.R_reok rfl hy0 (fun k_ e_ => HO_846000.out.1 k_ e_)); have n3_ := Aside0.mk (blk_kept (by (with_reducible repeat (first | refine blk_drewN ?_ _ | refine blk_drew ?_ | refine blk_alloc ?_ _)); exact BK819.out) hkp (fun hs_ => (fun e_ => (Kd.R_ne HO_846000.out BK819.out (by decide)) e_) hs_)); have n4_ := Aside0.mk (blk_kept (by (with_reducible repeat (first | refine blk_drewN ?_ _ | refine blk_drew ?_ | refine blk_alloc ?_ _)); exact BK832.out) hkp (fun hs_ => (fun e_ => (Kd.R_ne HO_846000.out BK832.out (by decide)) e_) hs_)); have n5_ := Aside0.mk (blk_kept (by (with_reducible repeat (first | refine blk_drewN ?_ _ | refine blk_drew ?_ | refine blk_alloc ?_ _)); exact BK838.out) hkp (fun hs_ => (fun e_ => (Kd.R_ne HO_846000.out BK838.out (by decide)) e_) hs_)); have n6_ := Aside0.mk (blk_kept (by (with_reducible repeat (first | refine blk_drewN ?_ _ | refine blk_drew ?_ | refine blk_alloc ?_ _)); exact BK845.out) hkp (fun hs_ => (fun e_ => (Kd.R_ne HO_846000.out BK845.out (by decide)) e_) hs_)); have n7_ := Aside0.mk (hb); clear HO_833000; clear HO_839000; clear HO_846000; clear BK819; clear BK832; clear BK838; clear BK845; clear HB; have HO_833000 := n0_; have HO_839000 := n1_; have HO_846000 := n2_; have BK819 := n3_; have BK832 := n4_; have BK838 := n5_; have BK845 := n6_; have HB := n7_; clear n0_ n1_ n2_ n3_ n4_ n5_ n6_ n7_; (try clear hb); (try clear hkp); (try clear hy0); have hcz98_0 : w97.cell? ⟨gb845, 0, none⟩ = some (.slice Ao32 t839.length co32) := (blk_cell BK845.out 0).trans rfl; have hcz98_1 : w97.cell? ⟨gb845, 1, none⟩ = some (.int .i64 t842) := (blk_cell BK845.out 1).trans rfl; have hcz98_2 : w97.cell? ⟨gb845, 2, none⟩ = some (.int .i64 t843) := (blk_cell BK845.out 2).trans rfl; have hfz98_0 := blk_frozen BK845.out 0; have hfz98_1 := blk_frozen BK845.out 1; have hfz98_2 := blk_frozen BK845.out 2) | ((with_reducible refine gate_callee (f := 25) rfl ?_); refine goesL_ (some 67) rfl rfl Try.func25 (by kernel_rfl) rfl #[.agg #[.slice Ao32 t857.length co32, .int .i64 t842, .int .i64 t843], .int .i64 1] rfl (by (try simp only [List.map_toArray, List.map_cons, List.map_nil]); first | done | (rw [show t857.length = t839.length from (Kd.R_reads' HO_846000.out).1.symm] <;> rfl) | rfl | (simp only [List.length_drop, List.length_take]; rfl)) ?_; (with_reducible refine (laws_heldPuzzle.calls kj59 _ _ t857 t842 t843 1 t858 _ ?side1 ?side2 A91.out).mono ?_); (case side1 => repeat (first | exact (Kd.R_reads' HO_846000.out).2.2 | (with_reducible refine Kd.C_alloc ?_ _) | (with_reducible refine Kd.C_drewN ?_ _) | (with_reducible refine Kd.C_drew ?_))); (case side2 => rw [show t857.length = t839.length from (Kd.R_reads' HO_846000.out).1.symm]; exact (Kd.R_reads' HO_846000.out).2.1); rintro e w99 ⟨rfl, hb⟩; refine ⟨_, rfl, ?_⟩; have n0_ := Aside0.mk (Kd.R_below (by (with_reducible repeat (first | apply Kd.R_alloc | apply Kd.R_drewN | apply Kd.R_drew)); exact HO_833000.out) hb); have n1_ := Aside0.mk (Kd.R_below (by (with_reducible repeat (first | apply Kd.R_alloc | apply Kd.R_drewN | apply Kd.R_drew)); exact HO_839000.out) hb); have n2_ := Aside0.mk (Kd.R_below (by (with_reducible repeat (first | apply Kd.R_alloc | apply Kd.R_drewN | apply Kd.R_drew)); exact HO_846000.out) hb); have n3_ := Aside0.mk (blk_below (g := gb819) (o := .cells #[.slice A0_0 l0_0.length c0_0, .int .i64 a0_1, .int .i64 a0_2] 24 (0, 0)) (by (with_reducible repeat (first | refine blk_drewN ?_ _ | refine blk_drew ?_ | refine blk_alloc ?_ _)); exact BK819.out) hb); have n4_ := Aside0.mk (blk_below (g := gb832) (o := .cells #[.slice Ao20 t826.length co20, .int .i64 t829, .int .i64 t830] 27 (0, 0)) (by (with_reducible repeat (first | refine blk_drewN ?_ _ | refine blk_drew ?_ | refine blk_alloc ?_ _)); exact BK832.out) hb); have n5_ := Aside0.mk (blk_below (g := gb838) (o := .cells #[.slice Ao26 t854.length co26, .int .i64 t836, .int .i64 t837] 27 (0, 0)) (by (with_reducible repeat (first | refine blk_drewN ?_ _ | refine blk_drew ?_ | refine blk_alloc ?_ _)); exact BK838.out) hb); have n6_ := Aside0.mk (blk_below (g := gb845) (o := .cells #[.slice Ao32 t839.length co32, .int .i64 t842, .int .i64 t843] 27 (0, 0)) (by (with_reducible repeat (first | refine blk_drewN ?_ _ | refine blk_drew ?_ | refine blk_alloc ?_ _)); exact BK845.out) hb); have n7_ := Aside0.mk (below_step (by repeat (first | (with_reducible first | exact HB.out | apply below_alloc | apply pw_below_drewN | apply below_drew1 | refine below_set ?_ GE819.out | refine below_set ?_ GE832.out | refine below_set ?_ GE838.out | refine below_set ?_ GE845.out) | exact HB.out)) hb); clear HO_833000; clear HO_839000; clear HO_846000; clear BK819; clear BK832; clear BK838; clear BK845; clear HB; have HO_833000 := n0_; have HO_839000 := n1_; have HO_846000 := n2_; have BK819 := n3_; have BK832 := n4_; have BK838 := n5_; have BK845 := n6_; have HB := n7_; clear n0_ n1_ n2_ n3_ n4_ n5_ n6_ n7_; (try clear hb); (try clear hb2); (try clear hk); (try clear hi)))
                    go_ret
                    exact ⟨by first | rfl | (simp [errW_none, errW_some] <;> rfl) | (simp [*, errW_none, errW_some] <;> rfl), by repeat (first | (with_reducible first | exact HB.out | apply below_alloc | apply pw_below_drewN | apply below_drew1 | refine below_set ?_ GE819.out | refine below_set ?_ GE832.out | refine below_set ?_ GE838.out | refine below_set ?_ GE845.out) | exact HB.out)⟩
                  · rw [if_neg c92] at H
                    have c92b0 : decide (t858 < 0) = false := decide_eq_false c92
                    clear c92
                    by_cases c100 : t858 = t856
                    · rw [if_pos c100] at H
                      have c100b0 : (t858 == t856) = true := beq_iff_eq.mpr c100
                      have c100b1 : (t858 != t856) = false := bne_eq_false_iff_eq.mpr c100
                      clear c100
                      replace H := Option.bind_eq_some_iff.mp H
                      obtain ⟨⟨t859, t862, t863⟩, A1010, H⟩ := H
                      replace H : ((impl_HarderPuzzle.f kj59 t859 t862 t863).bind fun bt864 => ((laws_eqPuzzle.f kj59 bt864.1 bt864.2.1 bt864.2.2.1 t826 t829 t830).bind fun t871 => (if t871 = true then (laws_FnExactHarderPuzzle.j2 kj59 t856 (bt864.2.2.2 != t831) t857 t842 t843) else (laws_FnExactHarderPuzzle.j2 kj59 t856 true t857 t842 t843)))) = some r := H
                      have A101 := Aside0.mk A1010
                      clear A1010
                      replace H := Option.bind_eq_some_iff.mp H
                      obtain ⟨⟨t864, t867, t868, t869⟩, A1020, H⟩ := H
                      replace H : ((laws_eqPuzzle.f kj59 t864 t867 t868 t826 t829 t830).bind fun t871 => (if t871 = true then (laws_FnExactHarderPuzzle.j2 kj59 t856 (t869 != t831) t857 t842 t843) else (laws_FnExactHarderPuzzle.j2 kj59 t856 true t857 t842 t843))) = some r := H
                      have A102 := Aside0.mk A1020
                      clear A1020
                      have HC103 := Aside0.mk H
                      clear H
                      have hnb104 := NB845_819.out
                      have hnc104 := NB819_845.out
                      have hnb105 := NB845_832.out
                      have hnc105 := NB832_845.out
                      have hnb106 := NB845_838.out
                      have hnc106 := NB838_845.out
                      have hcz107_0 : wc.cell? ⟨gb845, 0, none⟩ = some (.slice Ao32 t839.length co32) := (blk_cell BK845.out 0).trans rfl
                      have hcz107_1 : wc.cell? ⟨gb845, 1, none⟩ = some (.int .i64 t842) := (blk_cell BK845.out 1).trans rfl
                      have hcz107_2 : wc.cell? ⟨gb845, 2, none⟩ = some (.int .i64 t843) := (blk_cell BK845.out 2).trans rfl
                      have hfz107_0 := blk_frozen BK845.out 0
                      have hfz107_1 := blk_frozen BK845.out 1
                      have hfz107_2 := blk_frozen BK845.out 2
                      go_upto_region 25 with (first | ((with_reducible refine gate_callee (f := 24) rfl ?_); refine goesL_ (some 64) rfl rfl Try.func24 (by kernel_rfl) rfl #[.agg #[.slice Ao32 t839.length co32, .int .i64 t842, .int .i64 t843], .int .i64 1] rfl (by (try simp only [List.map_toArray, List.map_cons, List.map_nil]); first | done | rfl | (simp only [List.length_drop, List.length_take]; rfl)) ?_; (with_reducible refine (laws_markPuzzle.calls kj59 (fun k_ => some k_ = (.slice Ao32 t839.length co32 : Value).ownBlock) (.slice Ao32 t839.length co32) t839 t842 t843 1 t856 t857 w _ ?side1 ?side2 A90.out).mono ?_); (case side1 => repeat (first | (with_reducible first | exact HB.out | apply below_alloc | apply pw_below_drewN | apply below_drew1 | refine below_set ?_ GE819.out | refine below_set ?_ GE832.out | refine below_set ?_ GE838.out | refine below_set ?_ GE845.out) | exact HB.out)); (case side2 => exact Kd.R_tight rfl HO_846000.out); rintro e w108 ⟨rfl, hy0, hb, hkp⟩; refine ⟨_, rfl, ?_⟩; have n0_ := Aside0.mk (Kd.R_mono (ok' := fun k_ => some k_ ≠ (.slice Ao26 t854.length co26 : Value).ownBlock ∧ some k_ ≠ (.slice Ao32 t839.length co32 : Value).ownBlock) (Kd.R_keptB (HO_833000.out) hkp (fun k_ hk_ hs_ => (hk_.2) hs_)) (fun k_ hk_ => ⟨hk_.1.1, hk_.1.2⟩)); have n1_ := Aside0.mk (Kd.R_mono (ok' := fun k_ => some k_ ≠ (.slice Ao20 t826.length co20 : Value).ownBlock ∧ some k_ ≠ (.slice Ao32 t839.length co32 : Value).ownBlock) (Kd.R_keptB (HO_839000.out) hkp (fun k_ hk_ hs_ => (hk_.2) hs_)) (fun k_ hk_ => ⟨hk_.1.1, hk_.1.2⟩)); have n2_ := Aside0.mk (Kd.R_reok rfl hy0 (fun k_ e_ => HO_846000.out.1 k_ e_)); have n3_ := Aside0.mk (blk_kept (by (with_reducible repeat (first | refine blk_drewN ?_ _ | refine blk_drew ?_ | refine blk_alloc ?_ _)); exact BK819.out) hkp (fun hs_ => (fun e_ => (Kd.R_ne HO_846000.out BK819.out (by decide)) e_) hs_)); have n4_ := Aside0.mk (blk_kept (by (with_reducible repeat (first | refine blk_drewN ?_ _ | refine blk_drew ?_ | refine blk_alloc ?_ _)); exact BK832.out) hkp (fun hs_ => (fun e_ => (Kd.R_ne HO_846000.out BK832.out (by decide)) e_) hs_)); have n5_ := Aside0.mk (blk_kept (by (with_reducible repeat (first | refine blk_drewN ?_ _ | refine blk_drew ?_ | refine blk_alloc ?_ _)); exact BK838.out) hkp (fun hs_ => (fun e_ => (Kd.R_ne HO_846000.out BK838.out (by decide)) e_) hs_)); have n6_ := Aside0.mk (blk_kept (by (with_reducible repeat (first | refine blk_drewN ?_ _ | refine blk_drew ?_ | refine blk_alloc ?_ _)); exact BK845.out) hkp (fun hs_ => (fun e_ => (Kd.R_ne HO_846000.out BK845.out (by decide)) e_) hs_)); have n7_ := Aside0.mk (hb); clear HO_833000; clear HO_839000; clear HO_846000; clear BK819; clear BK832; clear BK838; clear BK845; clear HB; have HO_833000 := n0_; have HO_839000 := n1_; have HO_846000 := n2_; have BK819 := n3_; have BK832 := n4_; have BK838 := n5_; have BK845 := n6_; have HB := n7_; clear n0_ n1_ n2_ n3_ n4_ n5_ n6_ n7_; (try clear hb); (try clear hkp); (try clear hy0); have hcz109_0 : w108.cell? ⟨gb845, 0, none⟩ = some (.slice Ao32 t839.length co32) := (blk_cell BK845.out 0).trans rfl; have hcz109_1 : w108.cell? ⟨gb845, 1, none⟩ = some (.int .i64 t842) := (blk_cell BK845.out 1).trans rfl; have hcz109_2 : w108.cell? ⟨gb845, 2, none⟩ = some (.int .i64 t843) := (blk_cell BK845.out 2).trans rfl; have hfz109_0 := blk_frozen BK845.out 0; have hfz109_1 := blk_frozen BK845.out 1; have hfz109_2 := blk_frozen BK845.out 2) | ((with_reducible refine gate_callee (f := 25) rfl ?_); refine goesL_ (some 67) rfl rfl Try.func25 (by kernel_rfl) rfl #[.agg #[.slice Ao32 t857.length co32, .int .i64 t842, .int .i64 t843], .int .i64 1] rfl (by (try simp only [List.map_toArray, List.map_cons, List.map_nil]); first | done | (rw [show t857.length = t839.length from (Kd.R_reads' HO_846000.out).1.symm] <;> rfl) | rfl | (simp only [List.length_drop, List.length_take]; rfl)) ?_; (with_reducible refine (laws_heldPuzzle.calls kj59 _ _ t857 t842 t843 1 t858 _ ?side1 ?side2 A91.out).mono ?_); (case side1 => repeat (first | exact (Kd.R_reads' HO_846000.out).2.2 | (with_reducible refine Kd.C_alloc ?_ _) | (with_reducible refine Kd.C_drewN ?_ _) | (with_reducible refine Kd.C_drew ?_))); (case side2 => rw [show t857.length = t839.length from (Kd.R_reads' HO_846000.out).1.symm]; exact (Kd.R_reads' HO_846000.out).2.1); rintro e w110 ⟨rfl, hb⟩; refine ⟨_, rfl, ?_⟩; have n0_ := Aside0.mk (Kd.R_below (by (with_reducible repeat (first | apply Kd.R_alloc | apply Kd.R_drewN | apply Kd.R_drew)); exact HO_833000.out) hb); have n1_ := Aside0.mk (Kd.R_below (by (with_reducible repeat (first | apply Kd.R_alloc | apply Kd.R_drewN | apply Kd.R_drew)); exact HO_839000.out) hb); have n2_ := Aside0.mk (Kd.R_below (by (with_reducible repeat (first | apply Kd.R_alloc | apply Kd.R_drewN | apply Kd.R_drew)); exact HO_846000.out) hb); have n3_ := Aside0.mk (blk_below (g := gb819) (o := .cells #[.slice A0_0 l0_0.length c0_0, .int .i64 a0_1, .int .i64 a0_2] 24 (0, 0)) (by (with_reducible repeat (first | refine blk_drewN ?_ _ | refine blk_drew ?_ | refine blk_alloc ?_ _)); exact BK819.out) hb); have n4_ := Aside0.mk (blk_below (g := gb832) (o := .cells #[.slice Ao20 t826.length co20, .int .i64 t829, .int .i64 t830] 27 (0, 0)) (by (with_reducible repeat (first | refine blk_drewN ?_ _ | refine blk_drew ?_ | refine blk_alloc ?_ _)); exact BK832.out) hb); have n5_ := Aside0.mk (blk_below (g := gb838) (o := .cells #[.slice Ao26 t854.length co26, .int .i64 t836, .int .i64 t837] 27 (0, 0)) (by (with_reducible repeat (first | refine blk_drewN ?_ _ | refine blk_drew ?_ | refine blk_alloc ?_ _)); exact BK838.out) hb); have n6_ := Aside0.mk (blk_below (g := gb845) (o := .cells #[.slice Ao32 t839.length co32, .int .i64 t842, .int .i64 t843] 27 (0, 0)) (by (with_reducible repeat (first | refine blk_drewN ?_ _ | refine blk_drew ?_ | refine blk_alloc ?_ _)); exact BK845.out) hb); have n7_ := Aside0.mk (below_step (by repeat (first | (with_reducible first | exact HB.out | apply below_alloc | apply pw_below_drewN | apply below_drew1 | refine below_set ?_ GE819.out | refine below_set ?_ GE832.out | refine below_set ?_ GE838.out | refine below_set ?_ GE845.out) | exact HB.out)) hb); clear HO_833000; clear HO_839000; clear HO_846000; clear BK819; clear BK832; clear BK838; clear BK845; clear HB; have HO_833000 := n0_; have HO_839000 := n1_; have HO_846000 := n2_; have BK819 := n3_; have BK832 := n4_; have BK838 := n5_; have BK845 := n6_; have HB := n7_; clear n0_ n1_ n2_ n3_ n4_ n5_ n6_ n7_; (try clear hb); (try clear hb2); (try clear hk); (try clear hi); have hnb111 := NB819_832.out; have hnc111 := NB832_819.out; have hnb112 := NB819_838.out; have hnc112 := NB838_819.out; have hcz113_0 : w110.cell? ⟨gb819, 0, none⟩ = some (.slice A0_0 l0_0.length c0_0) := (blk_cell BK819.out 0).trans rfl; have hcz113_1 : w110.cell? ⟨gb819, 1, none⟩ = some (.int .i64 a0_1) := (blk_cell BK819.out 1).trans rfl; have hcz113_2 : w110.cell? ⟨gb819, 2, none⟩ = some (.int .i64 a0_2) := (blk_cell BK819.out 2).trans rfl; have hfz113_0 := blk_frozen BK819.out 0; have hfz113_1 := blk_frozen BK819.out 1; have hfz113_2 := blk_frozen BK819.out 2) | ((with_reducible refine gate_callee (f := 17) rfl ?_); refine goesL_ (some 75) rfl rfl Try.func17 (by kernel_rfl) rfl #[.agg #[.slice A0_0 l0_0.length c0_0, .int .i64 a0_1, .int .i64 a0_2]] rfl (by (try simp only [List.map_toArray, List.map_cons, List.map_nil]); first | done | rfl | (simp only [List.length_drop, List.length_take]; rfl)) ?_; (with_reducible refine (laws_toPuzzle.calls kj59 _ _ l0_0 a0_1 a0_2 t859 t862 t863 _ ?side1 ?side2 A101.out).mono ?_); (case side1 => repeat (first | exact (Kd.C_below HR0_0.out HB.out) | (with_reducible refine Kd.C_alloc ?_ _) | (with_reducible refine Kd.C_drewN ?_ _) | (with_reducible refine Kd.C_drew ?_))); (case side2 => exact HC0_0.out); rintro e w114 ⟨v860, rfl, ho0, hb⟩; refine ⟨_, rfl, ?_⟩; have n0_ := Aside0.mk (Kd.R_elder' (by (with_reducible repeat (first | apply Kd.R_alloc | apply Kd.R_drewN | apply Kd.R_drew)); exact HO_833000.out) (Kd.R_base ho0) hb); have n1_ := Aside0.mk (Kd.R_elder' (by (with_reducible repeat (first | apply Kd.R_alloc | apply Kd.R_drewN | apply Kd.R_drew)); exact HO_839000.out) (Kd.R_base ho0) hb); have n2_ := Aside0.mk (Kd.R_elder' (by (with_reducible repeat (first | apply Kd.R_alloc | apply Kd.R_drewN | apply Kd.R_drew)); exact HO_846000.out) (Kd.R_base ho0) hb); have n3_ := Aside0.mk (Kd.R_lower (Kd.R_new' (Kd.R_new' (Kd.R_new' ho0 (Kd.R_lt (by (with_reducible repeat (first | apply Kd.R_alloc | apply Kd.R_drewN | apply Kd.R_drew)); exact HO_833000.out))) (Kd.R_lt (by (with_reducible repeat (first | apply Kd.R_alloc | apply Kd.R_drewN | apply Kd.R_drew)); exact HO_839000.out))) (Kd.R_lt (by (with_reducible repeat (first | apply Kd.R_alloc | apply Kd.R_drewN | apply Kd.R_drew)); exact HO_846000.out))) (below_size (by repeat (first | (with_reducible first | exact HB.out | apply below_alloc | apply pw_below_drewN | apply below_drew1 | refine below_set ?_ GE819.out | refine below_set ?_ GE832.out | refine below_set ?_ GE838.out | refine below_set ?_ GE845.out) | exact HB.out)))); have n4_ := Aside0.mk (blk_below (g := gb819) (o := .cells #[.slice A0_0 l0_0.length c0_0, .int .i64 a0_1, .int .i64 a0_2] 24 (0, 0)) (by (with_reducible repeat (first | refine blk_drewN ?_ _ | refine blk_drew ?_ | refine blk_alloc ?_ _)); exact BK819.out) hb); have n5_ := Aside0.mk (blk_below (g := gb832) (o := .cells #[.slice Ao20 t826.length co20, .int .i64 t829, .int .i64 t830] 27 (0, 0)) (by (with_reducible repeat (first | refine blk_drewN ?_ _ | refine blk_drew ?_ | refine blk_alloc ?_ _)); exact BK832.out) hb); have n6_ := Aside0.mk (blk_below (g := gb838) (o := .cells #[.slice Ao26 t854.length co26, .int .i64 t836, .int .i64 t837] 27 (0, 0)) (by (with_reducible repeat (first | refine blk_drewN ?_ _ | refine blk_drew ?_ | refine blk_alloc ?_ _)); exact BK838.out) hb); have n7_ := Aside0.mk (blk_below (g := gb845) (o := .cells #[.slice Ao32 t839.length co32, .int .i64 t842, .int .i64 t843] 27 (0, 0)) (by (with_reducible repeat (first | refine blk_drewN ?_ _ | refine blk_drew ?_ | refine blk_alloc ?_ _)); exact BK845.out) hb); have n8_ := Aside0.mk (below_step (by repeat (first | (with_reducible first | exact HB.out | apply below_alloc | apply pw_below_drewN | apply below_drew1 | refine below_set ?_ GE819.out | refine below_set ?_ GE832.out | refine below_set ?_ GE838.out | refine below_set ?_ GE845.out) | exact HB.out)) hb); clear HO_833000; clear HO_839000; clear HO_846000; clear BK819; clear BK832; clear BK838; clear BK845; clear HB; have HO_833000 := n0_; have HO_839000 := n1_; have HO_846000 := n2_; have HO861 := n3_; have BK819 := n4_; have BK832 := n5_; have BK838 := n6_; have BK845 := n7_; have HB := n8_; clear n0_ n1_ n2_ n3_ n4_ n5_ n6_ n7_ n8_; (try clear hb); (try clear hb2); (try clear hk); (try clear hi); (try clear ho0); obtain ⟨Ao115, co115, eo115⟩ := Kd.R_slice HO861.out; subst eo115) | ((with_reducible refine gate_callee (f := 50) rfl ?_); refine goesL_ (some 76) rfl rfl Try.func50 (by kernel_rfl) rfl #[.agg #[.slice Ao115 t859.length co115, .int .i64 t862, .int .i64 t863]] rfl (by (try simp only [List.map_toArray, List.map_cons, List.map_nil]); first | done | rfl | (simp only [List.length_drop, List.length_take]; rfl)) ?_; (with_reducible refine (impl_HarderPuzzle.calls kj59 _ _ t859 t862 t863 t864 t867 t868 t869 _ ?side1 ?side2 A102.out).mono ?_); (case side1 => repeat (first | exact (Kd.R_reads' HO861.out).2.2 | (with_reducible refine Kd.C_alloc ?_ _) | (with_reducible refine Kd.C_drewN ?_ _) | (with_reducible refine Kd.C_drew ?_))); (case side2 => exact (Kd.R_reads' HO861.out).2.1); rintro e w116 ⟨v865, rfl, ho0, hb⟩; refine ⟨_, rfl, ?_⟩; have n0_ := Aside0.mk (Kd.R_elder' (by (with_reducible repeat (first | apply Kd.R_alloc | apply Kd.R_drewN | apply Kd.R_drew)); exact HO_833000.out) (Kd.R_base ho0) hb); have n1_ := Aside0.mk (Kd.R_elder' (by (with_reducible repeat (first | apply Kd.R_alloc | apply Kd.R_drewN | apply Kd.R_drew)); exact HO_839000.out) (Kd.R_base ho0) hb); have n2_ := Aside0.mk (Kd.R_elder' (by (with_reducible repeat (first | apply Kd.R_alloc | apply Kd.R_drewN | apply Kd.R_drew)); exact HO_846000.out) (Kd.R_base ho0) hb); have n3_ := Aside0.mk (Kd.R_elder' (by (with_reducible repeat (first | apply Kd.R_alloc | apply Kd.R_drewN | apply Kd.R_drew)); exact HO861.out) (Kd.R_base ho0) hb); have n4_ := Aside0.mk (Kd.R_lower (Kd.R_new' (Kd.R_new' (Kd.R_new' (Kd.R_new' ho0 (Kd.R_lt (by (with_reducible repeat (first | apply Kd.R_alloc | apply Kd.R_drewN | apply Kd.R_drew)); exact HO_833000.out))) (Kd.R_lt (by (with_reducible repeat (first | apply Kd.R_alloc | apply Kd.R_drewN | apply Kd.R_drew)); exact HO_839000.out))) (Kd.R_lt (by (with_reducible repeat (first | apply Kd.R_alloc | apply Kd.R_drewN | apply Kd.R_drew)); exact HO_846000.out))) (Kd.R_lt (by (with_reducible repeat (first | apply Kd.R_alloc | apply Kd.R_drewN | apply Kd.R_drew)); exact HO861.out))) (below_size (by repeat (first | (with_reducible first | exact HB.out | apply below_alloc | apply pw_below_drewN | apply below_drew1 | refine below_set ?_ GE819.out | refine below_set ?_ GE832.out | refine below_set ?_ GE838.out | refine below_set ?_ GE845.out) | exact HB.out)))); have n5_ := Aside0.mk (blk_below (g := gb819) (o := .cells #[.slice A0_0 l0_0.length c0_0, .int .i64 a0_1, .int .i64 a0_2] 24 (0, 0)) (by (with_reducible repeat (first | refine blk_drewN ?_ _ | refine blk_drew ?_ | refine blk_alloc ?_ _)); exact BK819.out) hb); have n6_ := Aside0.mk (blk_below (g := gb832) (o := .cells #[.slice Ao20 t826.length co20, .int .i64 t829, .int .i64 t830] 27 (0, 0)) (by (with_reducible repeat (first | refine blk_drewN ?_ _ | refine blk_drew ?_ | refine blk_alloc ?_ _)); exact BK832.out) hb); have n7_ := Aside0.mk (blk_below (g := gb838) (o := .cells #[.slice Ao26 t854.length co26, .int .i64 t836, .int .i64 t837] 27 (0, 0)) (by (with_reducible repeat (first | refine blk_drewN ?_ _ | refine blk_drew ?_ | refine blk_alloc ?_ _)); exact BK838.out) hb); have n8_ := Aside0.mk (blk_below (g := gb845) (o := .cells #[.slice Ao32 t839.length co32, .int .i64 t842, .int .i64 t843] 27 (0, 0)) (by (with_reducible repeat (first | refine blk_drewN ?_ _ | refine blk_drew ?_ | refine blk_alloc ?_ _)); exact BK845.out) hb); have n9_ := Aside0.mk (below_step (by repeat (first | (with_reducible first | exact HB.out | apply below_alloc | apply pw_below_drewN | apply below_drew1 | refine below_set ?_ GE819.out | refine below_set ?_ GE832.out | refine below_set ?_ GE838.out | refine below_set ?_ GE845.out) | exact HB.out)) hb); clear HO_833000; clear HO_839000; clear HO_846000; clear HO861; clear BK819; clear BK832; clear BK838; clear BK845; clear HB; have HO_833000 := n0_; have HO_839000 := n1_; have HO_846000 := n2_; have HO861 := n3_; have HO866 := n4_; have BK819 := n5_; have BK832 := n6_; have BK838 := n7_; have BK845 := n8_; have HB := n9_; clear n0_ n1_ n2_ n3_ n4_ n5_ n6_ n7_ n8_ n9_; (try clear hb); (try clear hb2); (try clear hk); (try clear hi); (try clear ho0)) | ((with_reducible refine gate_dst (N := 12) rfl ?_); refine box_event ?hg (N := 12) ?hd (cs := #[.slice none 0 0, .int .i64 0, .int .i64 0]) (t := 27) ?hr ?_; (case hd => rfl); (case hg => rfl); (case hr => first | (go_simp; done) | (go_simp; rfl)); intro gb870 hg w117 hbox hb; have n0_ := Aside0.mk (Kd.R_below (by (with_reducible repeat (first | apply Kd.R_alloc | apply Kd.R_drewN | apply Kd.R_drew)); exact HO_833000.out) hb); have n1_ := Aside0.mk (Kd.R_below (by (with_reducible repeat (first | apply Kd.R_alloc | apply Kd.R_drewN | apply Kd.R_drew)); exact HO_839000.out) hb); have n2_ := Aside0.mk (Kd.R_below (by (with_reducible repeat (first | apply Kd.R_alloc | apply Kd.R_drewN | apply Kd.R_drew)); exact HO_846000.out) hb); have n3_ := Aside0.mk (Kd.R_below (by (with_reducible repeat (first | apply Kd.R_alloc | apply Kd.R_drewN | apply Kd.R_drew)); exact HO861.out) hb); have n4_ := Aside0.mk (Kd.R_below (by (with_reducible repeat (first | apply Kd.R_alloc | apply Kd.R_drewN | apply Kd.R_drew)); exact HO866.out) hb); have n5_ := Aside0.mk (blk_below (g := gb819) (o := .cells #[.slice A0_0 l0_0.length c0_0, .int .i64 a0_1, .int .i64 a0_2] 24 (0, 0)) (by (with_reducible repeat (first | refine blk_drewN ?_ _ | refine blk_drew ?_ | refine blk_alloc ?_ _)); exact BK819.out) hb); have n6_ := Aside0.mk (blk_below (g := gb832) (o := .cells #[.slice Ao20 t826.length co20, .int .i64 t829, .int .i64 t830] 27 (0, 0)) (by (with_reducible repeat (first | refine blk_drewN ?_ _ | refine blk_drew ?_ | refine blk_alloc ?_ _)); exact BK832.out) hb); have n7_ := Aside0.mk (blk_below (g := gb838) (o := .cells #[.slice Ao26 t854.length co26, .int .i64 t836, .int .i64 t837] 27 (0, 0)) (by (with_reducible repeat (first | refine blk_drewN ?_ _ | refine blk_drew ?_ | refine blk_alloc ?_ _)); exact BK838.out) hb); have n8_ := Aside0.mk (blk_below (g := gb845) (o := .cells #[.slice Ao32 t839.length co32, .int .i64 t842, .int .i64 t843] 27 (0, 0)) (by (with_reducible repeat (first | refine blk_drewN ?_ _ | refine blk_drew ?_ | refine blk_alloc ?_ _)); exact BK845.out) hb); have n9_ := Aside0.mk (below_step (by repeat (first | (with_reducible first | exact HB.out | apply below_alloc | apply pw_below_drewN | apply below_drew1 | refine below_set ?_ GE819.out | refine below_set ?_ GE832.out | refine below_set ?_ GE838.out | refine below_set ?_ GE845.out) | exact HB.out)) hb); have n10_ := Aside0.mk (hbox); have n11_ := Aside0.mk ((by rw [hg]; exact (below_size (by repeat (first | (with_reducible first | exact HB.out | apply below_alloc | apply pw_below_drewN | apply below_drew1 | refine below_set ?_ GE819.out | refine below_set ?_ GE832.out | refine below_set ?_ GE838.out | refine below_set ?_ GE845.out) | exact HB.out))) : w.heap.size ≤ gb870)); have n12_ := Aside0.mk ((by rw [hg]; exact (below_size (by repeat (first | (with_reducible first | exact HB.out | apply below_alloc | apply pw_below_drewN | apply below_drew1 | refine below_set ?_ GE819.out | refine below_set ?_ GE832.out | refine below_set ?_ GE838.out | refine below_set ?_ GE845.out) | exact HB.out))) : w.heap.size ≤ gb870)); have n13_ := Aside0.mk ((by rw [hg]; exact Nat.ne_of_lt (blk_lt (g := gb819) (o := .cells #[.slice A0_0 l0_0.length c0_0, .int .i64 a0_1, .int .i64 a0_2] 24 (0, 0)) (by (with_reducible repeat (first | refine blk_drewN ?_ _ | refine blk_drew ?_ | refine blk_alloc ?_ _)); exact BK819.out)) : gb819 ≠ gb870)); have n14_ := Aside0.mk ((by rw [hg]; exact Nat.ne_of_gt (blk_lt (g := gb819) (o := .cells #[.slice A0_0 l0_0.length c0_0, .int .i64 a0_1, .int .i64 a0_2] 24 (0, 0)) (by (with_reducible repeat (first | refine blk_drewN ?_ _ | refine blk_drew ?_ | refine blk_alloc ?_ _)); exact BK819.out)) : gb870 ≠ gb819)); have n15_ := Aside0.mk ((by rw [hg]; exact Nat.ne_of_lt (blk_lt (g := gb832) (o := .cells #[.slice Ao20 t826.length co20, .int .i64 t829, .int .i64 t830] 27 (0, 0)) (by (with_reducible repeat (first | refine blk_drewN ?_ _ | refine blk_drew ?_ | refine blk_alloc ?_ _)); exact BK832.out)) : gb832 ≠ gb870)); have n16_ := Aside0.mk ((by rw [hg]; exact Nat.ne_of_gt (blk_lt (g := gb832) (o := .cells #[.slice Ao20 t826.length co20, .int .i64 t829, .int .i64 t830] 27 (0, 0)) (by (with_reducible repeat (first | refine blk_drewN ?_ _ | refine blk_drew ?_ | refine blk_alloc ?_ _)); exact BK832.out)) : gb870 ≠ gb832)); have n17_ := Aside0.mk ((by rw [hg]; exact Nat.ne_of_lt (blk_lt (g := gb838) (o := .cells #[.slice Ao26 t854.length co26, .int .i64 t836, .int .i64 t837] 27 (0, 0)) (by (with_reducible repeat (first | refine blk_drewN ?_ _ | refine blk_drew ?_ | refine blk_alloc ?_ _)); exact BK838.out)) : gb838 ≠ gb870)); have n18_ := Aside0.mk ((by rw [hg]; exact Nat.ne_of_gt (blk_lt (g := gb838) (o := .cells #[.slice Ao26 t854.length co26, .int .i64 t836, .int .i64 t837] 27 (0, 0)) (by (with_reducible repeat (first | refine blk_drewN ?_ _ | refine blk_drew ?_ | refine blk_alloc ?_ _)); exact BK838.out)) : gb870 ≠ gb838)); have n19_ := Aside0.mk ((by rw [hg]; exact Nat.ne_of_lt (blk_lt (g := gb845) (o := .cells #[.slice Ao32 t839.length co32, .int .i64 t842, .int .i64 t843] 27 (0, 0)) (by (with_reducible repeat (first | refine blk_drewN ?_ _ | refine blk_drew ?_ | refine blk_alloc ?_ _)); exact BK845.out)) : gb845 ≠ gb870)); have n20_ := Aside0.mk ((by rw [hg]; exact Nat.ne_of_gt (blk_lt (g := gb845) (o := .cells #[.slice Ao32 t839.length co32, .int .i64 t842, .int .i64 t843] 27 (0, 0)) (by (with_reducible repeat (first | refine blk_drewN ?_ _ | refine blk_drew ?_ | refine blk_alloc ?_ _)); exact BK845.out)) : gb870 ≠ gb845)); clear HO_833000; clear HO_839000; clear HO_846000; clear HO861; clear HO866; clear BK819; clear BK832; clear BK838; clear BK845; clear HB; have HO_833000 := n0_; have HO_839000 := n1_; have HO_846000 := n2_; have HO861 := n3_; have HO866 := n4_; have BK819 := n5_; have BK832 := n6_; have BK838 := n7_; have BK845 := n8_; have HB := n9_; have BK870 := n10_; have GW870 := n11_; have GE870 := n12_; have NB819_870 := n13_; have NB870_819 := n14_; have NB832_870 := n15_; have NB870_832 := n16_; have NB838_870 := n17_; have NB870_838 := n18_; have NB845_870 := n19_; have NB870_845 := n20_; clear n0_ n1_ n2_ n3_ n4_ n5_ n6_ n7_ n8_ n9_ n10_ n11_ n12_ n13_ n14_ n15_ n16_ n17_ n18_ n19_ n20_; clear hb hbox hg; obtain ⟨Ao118, co118, eo118⟩ := Kd.R_slice HO866.out; subst eo118; have hnb119 := NB870_819.out; have hnc119 := NB819_870.out; have hnb120 := NB870_832.out; have hnc120 := NB832_870.out; have hnb121 := NB870_838.out; have hnc121 := NB838_870.out; have hnb122 := NB870_845.out; have hnc122 := NB845_870.out; have hcz123_0 : w117.cell? ⟨gb870, 0, none⟩ = some (.slice none 0 0) := (blk_cell BK870.out 0).trans rfl; have hcz123_1 : w117.cell? ⟨gb870, 1, none⟩ = some (.int .i64 0) := (blk_cell BK870.out 1).trans rfl; have hcz123_2 : w117.cell? ⟨gb870, 2, none⟩ = some (.int .i64 0) := (blk_cell BK870.out 2).trans rfl; have hfz123_0 := blk_frozen BK870.out 0; have hfz123_1 := blk_frozen BK870.out 1; have hfz123_2 := blk_frozen BK870.out 2))
                      (try simp only [Act.put, List.setIfInBounds_toArray, List.set_cons_zero, List.set_cons_succ])
                      go_cut [87] (fun v87 wc => ∃ (kq : Nat) (x87_102 : Bool), v87 = .bool x87_102 ∧ Aside0 (laws_FnExactHarderPuzzle.j2 kq t856 x87_102 t857 t842 t843 = some r) ∧ Aside0 (kq ≤ kj59) ∧ Aside0 (Kd.R (Kd.int .i64) 3 wc w.heap.size (fun k_ => some k_ ≠ ((.slice Ao26 t854.length co26) : Value).ownBlock ∧ some k_ ≠ ((.slice Ao32 t839.length co32) : Value).ownBlock ∧ some k_ ≠ ((.slice Ao118 t864.length co118) : Value).ownBlock) (.slice Ao20 t826.length co20) t826) ∧ Aside0 (Kd.R (Kd.int .i64) 3 wc w.heap.size (fun k_ => some k_ ≠ ((.slice Ao20 t826.length co20) : Value).ownBlock ∧ some k_ ≠ ((.slice Ao32 t839.length co32) : Value).ownBlock ∧ some k_ ≠ ((.slice Ao118 t864.length co118) : Value).ownBlock) (.slice Ao26 t854.length co26) t854) ∧ Aside0 (Kd.R (Kd.int .i64) 3 wc w.heap.size (fun k_ => some k_ ≠ ((.slice Ao20 t826.length co20) : Value).ownBlock ∧ some k_ ≠ ((.slice Ao26 t854.length co26) : Value).ownBlock ∧ some k_ ≠ ((.slice Ao118 t864.length co118) : Value).ownBlock) (.slice Ao32 t839.length co32) t857) ∧ Aside0 (Kd.R (Kd.int .i64) 3 wc w.heap.size (fun k_ => some k_ ≠ ((.slice Ao20 t826.length co20) : Value).ownBlock ∧ some k_ ≠ ((.slice Ao26 t854.length co26) : Value).ownBlock ∧ some k_ ≠ ((.slice Ao32 t839.length co32) : Value).ownBlock) (.slice Ao118 t864.length co118) t864) ∧ Aside0 (wc.heap[gb819]? = some (.cells #[(.slice A0_0 l0_0.length c0_0), .int .i64 a0_1, .int .i64 a0_2] 24 (0, 0))) ∧ Aside0 (wc.heap[gb832]? = some (.cells #[(.slice Ao20 t826.length co20), .int .i64 t829, .int .i64 t830] 27 (0, 0))) ∧ Aside0 (wc.heap[gb838]? = some (.cells #[(.slice Ao26 t854.length co26), .int .i64 t836, .int .i64 t837] 27 (0, 0))) ∧ Aside0 (wc.heap[gb845]? = some (.cells #[(.slice Ao32 t839.length co32), .int .i64 t842, .int .i64 t843] 27 (0, 0))) ∧ Aside0 (wc.heap[gb870]? = some (.cells #[(.slice Ao118 t864.length co118), .int .i64 t867, .int .i64 t868] 27 (0, 0))) ∧ Aside0 (Below w.heap.size w wc))
                      case first =>
                        have H := HC103.out
                        clear HC103
                        replace H := Option.bind_eq_some_iff.mp H
                        obtain ⟨t871, A1240, H⟩ := H
                        replace H : (if t871 = true then (laws_FnExactHarderPuzzle.j2 kj59 t856 (t869 != t831) t857 t842 t843) else (laws_FnExactHarderPuzzle.j2 kj59 t856 true t857 t842 t843)) = some r := H
                        have A124 := Aside0.mk A1240
                        clear A1240
                        by_cases c125 : t871 = true
                        · subst c125
                          have H1 : (laws_FnExactHarderPuzzle.j2 kj59 t856 (t869 != t831) t857 t842 t843) = some r := by rw [if_pos rfl] at H; exact H
                          clear H
                          have H := H1
                          clear H1
                          have H' := Aside0.mk H
                          clear H
                          have hnb126 := NB870_819.out
                          have hnc126 := NB819_870.out
                          have hnb127 := NB870_832.out
                          have hnc127 := NB832_870.out
                          have hnb128 := NB870_838.out
                          have hnc128 := NB838_870.out
                          have hnb129 := NB870_845.out
                          have hnc129 := NB845_870.out
                          have hcz130_0 : w117.cell? ⟨gb870, 0, none⟩ = some (.slice none 0 0) := (blk_cell BK870.out 0).trans rfl
                          have hcz130_1 : w117.cell? ⟨gb870, 1, none⟩ = some (.int .i64 0) := (blk_cell BK870.out 1).trans rfl
                          have hcz130_2 : w117.cell? ⟨gb870, 2, none⟩ = some (.int .i64 0) := (blk_cell BK870.out 2).trans rfl
                          have hfz130_0 := blk_frozen BK870.out 0
                          have hfz130_1 := blk_frozen BK870.out 1
                          have hfz130_2 := blk_frozen BK870.out 2
                          have hnb131 := NB832_819.out
                          have hnc131 := NB819_832.out
                          have hnb132 := NB832_838.out
                          have hnc132 := NB838_832.out
                          have hnb133 := NB832_845.out
                          have hnc133 := NB845_832.out
                          have hcz134_0 : w117.cell? ⟨gb832, 0, none⟩ = some (.slice Ao20 t826.length co20) := (blk_cell BK832.out 0).trans rfl
                          have hcz134_1 : w117.cell? ⟨gb832, 1, none⟩ = some (.int .i64 t829) := (blk_cell BK832.out 1).trans rfl
                          have hcz134_2 : w117.cell? ⟨gb832, 2, none⟩ = some (.int .i64 t830) := (blk_cell BK832.out 2).trans rfl
                          have hfz134_0 := blk_frozen BK832.out 0
                          have hfz134_1 := blk_frozen BK832.out 1
                          have hfz134_2 := blk_frozen BK832.out 2
                          go_wp2_with (first | ((with_reducible refine gate_callee (f := 19) rfl ?_); refine goesL_ (some 81) rfl rfl Try.func19 (by kernel_rfl) rfl #[.agg #[.slice Ao118 t864.length co118, .int .i64 t867, .int .i64 t868], .agg #[.slice Ao20 t826.length co20, .int .i64 t829, .int .i64 t830]] rfl (by (try simp only [List.map_toArray, List.map_cons, List.map_nil]); first | done | rfl | (simp only [List.length_drop, List.length_take]; rfl)) ?_; (with_reducible refine (laws_eqPuzzle.calls kj59 _ _ t864 t867 t868 _ _ t826 t829 t830 true _ ?side1 ?side2 ?side3 ?side4 A124.out).mono ?_); (case side1 => refine (Kd.R_reads' (e := 3) (base := w.heap.size) (ok := fun k_ => ((((True ∧ some k_ ≠ (.slice Ao20 t826.length co20 : Value).ownBlock) ∧ some k_ ≠ (.slice Ao26 t854.length co26 : Value).ownBlock) ∧ some k_ ≠ (.slice Ao32 t839.length co32 : Value).ownBlock) ∧ some k_ ≠ (.slice Ao115 t859.length co115 : Value).ownBlock)) (n := t864.length) (c := co118) ?_).2.2; exact (by (with_reducible repeat (first | apply Kd.R_alloc | apply Kd.R_drewN | apply Kd.R_drew)); exact (Kd.R_mono (Kd.R_far (p := ⟨gb870, 2, none⟩) (Kd.R_far (p := ⟨gb870, 1, none⟩) (Kd.R_far (p := ⟨gb870, 0, none⟩) (Kd.R_types HO866.out BK870.out (by decide)) (fun _ hk => hk.2) (.slice Ao118 t864.length co118)) (fun _ hk => hk.2) (.int .i64 t867)) (fun _ hk => hk.2) (.int .i64 t868)) (fun _ h_ => h_.1)))); (case side2 => exact (Kd.R_reads' HO866.out).2.1); (case side3 => refine (Kd.R_reads' (e := 3) (base := w.heap.size) (ok := fun k_ => (((some k_ ≠ (.slice Ao26 t854.length co26 : Value).ownBlock ∧ some k_ ≠ (.slice Ao32 t839.length co32 : Value).ownBlock) ∧ some k_ ≠ (.slice Ao115 t859.length co115 : Value).ownBlock) ∧ some k_ ≠ (.slice Ao118 t864.length co118 : Value).ownBlock)) (n := t826.length) (c := co20) ?_).2.2; exact (by (with_reducible repeat (first | apply Kd.R_alloc | apply Kd.R_drewN | apply Kd.R_drew)); exact (Kd.R_mono (Kd.R_far (p := ⟨gb870, 2, none⟩) (Kd.R_far (p := ⟨gb870, 1, none⟩) (Kd.R_far (p := ⟨gb870, 0, none⟩) (Kd.R_types HO_833000.out BK870.out (by decide)) (fun _ hk => hk.2) (.slice Ao118 t864.length co118)) (fun _ hk => hk.2) (.int .i64 t867)) (fun _ hk => hk.2) (.int .i64 t868)) (fun _ h_ => h_.1)))); (case side4 => exact (Kd.R_reads' HO_833000.out).2.1); rintro e w135 ⟨rfl, hb⟩; refine ⟨_, rfl, ?_⟩; have n0_ := Aside0.mk (Kd.R_below (by (with_reducible repeat (first | apply Kd.R_alloc | apply Kd.R_drewN | apply Kd.R_drew)); exact (Kd.R_mono (Kd.R_far (p := ⟨gb870, 2, none⟩) (Kd.R_far (p := ⟨gb870, 1, none⟩) (Kd.R_far (p := ⟨gb870, 0, none⟩) (Kd.R_types HO_833000.out BK870.out (by decide)) (fun _ hk => hk.2) (.slice Ao118 t864.length co118)) (fun _ hk => hk.2) (.int .i64 t867)) (fun _ hk => hk.2) (.int .i64 t868)) (fun _ h_ => h_.1))) hb); have n1_ := Aside0.mk (Kd.R_below (by (with_reducible repeat (first | apply Kd.R_alloc | apply Kd.R_drewN | apply Kd.R_drew)); exact (Kd.R_mono (Kd.R_far (p := ⟨gb870, 2, none⟩) (Kd.R_far (p := ⟨gb870, 1, none⟩) (Kd.R_far (p := ⟨gb870, 0, none⟩) (Kd.R_types HO_839000.out BK870.out (by decide)) (fun _ hk => hk.2) (.slice Ao118 t864.length co118)) (fun _ hk => hk.2) (.int .i64 t867)) (fun _ hk => hk.2) (.int .i64 t868)) (fun _ h_ => h_.1))) hb); have n2_ := Aside0.mk (Kd.R_below (by (with_reducible repeat (first | apply Kd.R_alloc | apply Kd.R_drewN | apply Kd.R_drew)); exact (Kd.R_mono (Kd.R_far (p := ⟨gb870, 2, none⟩) (Kd.R_far (p := ⟨gb870, 1, none⟩) (Kd.R_far (p := ⟨gb870, 0, none⟩) (Kd.R_types HO_846000.out BK870.out (by decide)) (fun _ hk => hk.2) (.slice Ao118 t864.length co118)) (fun _ hk => hk.2) (.int .i64 t867)) (fun _ hk => hk.2) (.int .i64 t868)) (fun _ h_ => h_.1))) hb); have n3_ := Aside0.mk (Kd.R_below (by (with_reducible repeat (first | apply Kd.R_alloc | apply Kd.R_drewN | apply Kd.R_drew)); exact (Kd.R_mono (Kd.R_far (p := ⟨gb870, 2, none⟩) (Kd.R_far (p := ⟨gb870, 1, none⟩) (Kd.R_far (p := ⟨gb870, 0, none⟩) (Kd.R_types HO861.out BK870.out (by decide)) (fun _ hk => hk.2) (.slice Ao118 t864.length co118)) (fun _ hk => hk.2) (.int .i64 t867)) (fun _ hk => hk.2) (.int .i64 t868)) (fun _ h_ => h_.1))) hb); have n4_ := Aside0.mk (Kd.R_below (by (with_reducible repeat (first | apply Kd.R_alloc | apply Kd.R_drewN | apply Kd.R_drew)); exact (Kd.R_mono (Kd.R_far (p := ⟨gb870, 2, none⟩) (Kd.R_far (p := ⟨gb870, 1, none⟩) (Kd.R_far (p := ⟨gb870, 0, none⟩) (Kd.R_types HO866.out BK870.out (by decide)) (fun _ hk => hk.2) (.slice Ao118 t864.length co118)) (fun _ hk => hk.2) (.int .i64 t867)) (fun _ hk => hk.2) (.int .i64 t868)) (fun _ h_ => h_.1))) hb); have n5_ := Aside0.mk (blk_below (g := gb819) (o := .cells #[.slice A0_0 l0_0.length c0_0, .int .i64 a0_1, .int .i64 a0_2] 24 (0, 0)) (by (with_reducible repeat (first | refine blk_drewN ?_ _ | refine blk_drew ?_ | refine blk_alloc ?_ _)); refine blk_far ?_ NB819_870.out _; (with_reducible repeat (first | refine blk_drewN ?_ _ | refine blk_drew ?_ | refine blk_alloc ?_ _)); refine blk_far ?_ NB819_870.out _; (with_reducible repeat (first | refine blk_drewN ?_ _ | refine blk_drew ?_ | refine blk_alloc ?_ _)); refine blk_far ?_ NB819_870.out _; (with_reducible repeat (first | refine blk_drewN ?_ _ | refine blk_drew ?_ | refine blk_alloc ?_ _)); exact BK819.out) hb); have n6_ := Aside0.mk (blk_below (g := gb832) (o := .cells #[.slice Ao20 t826.length co20, .int .i64 t829, .int .i64 t830] 27 (0, 0)) (by (with_reducible repeat (first | refine blk_drewN ?_ _ | refine blk_drew ?_ | refine blk_alloc ?_ _)); refine blk_far ?_ NB832_870.out _; (with_reducible repeat (first | refine blk_drewN ?_ _ | refine blk_drew ?_ | refine blk_alloc ?_ _)); refine blk_far ?_ NB832_870.out _; (with_reducible repeat (first | refine blk_drewN ?_ _ | refine blk_drew ?_ | refine blk_alloc ?_ _)); refine blk_far ?_ NB832_870.out _; (with_reducible repeat (first | refine blk_drewN ?_ _ | refine blk_drew ?_ | refine blk_alloc ?_ _)); exact BK832.out) hb); have n7_ := Aside0.mk (blk_below (g := gb838) (o := .cells #[.slice Ao26 t854.length co26, .int .i64 t836, .int .i64 t837] 27 (0, 0)) (by (with_reducible repeat (first | refine blk_drewN ?_ _ | refine blk_drew ?_ | refine blk_alloc ?_ _)); refine blk_far ?_ NB838_870.out _; (with_reducible repeat (first | refine blk_drewN ?_ _ | refine blk_drew ?_ | refine blk_alloc ?_ _)); refine blk_far ?_ NB838_870.out _; (with_reducible repeat (first | refine blk_drewN ?_ _ | refine blk_drew ?_ | refine blk_alloc ?_ _)); refine blk_far ?_ NB838_870.out _; (with_reducible repeat (first | refine blk_drewN ?_ _ | refine blk_drew ?_ | refine blk_alloc ?_ _)); exact BK838.out) hb); have n8_ := Aside0.mk (blk_below (g := gb845) (o := .cells #[.slice Ao32 t839.length co32, .int .i64 t842, .int .i64 t843] 27 (0, 0)) (by (with_reducible repeat (first | refine blk_drewN ?_ _ | refine blk_drew ?_ | refine blk_alloc ?_ _)); refine blk_far ?_ NB845_870.out _; (with_reducible repeat (first | refine blk_drewN ?_ _ | refine blk_drew ?_ | refine blk_alloc ?_ _)); refine blk_far ?_ NB845_870.out _; (with_reducible repeat (first | refine blk_drewN ?_ _ | refine blk_drew ?_ | refine blk_alloc ?_ _)); refine blk_far ?_ NB845_870.out _; (with_reducible repeat (first | refine blk_drewN ?_ _ | refine blk_drew ?_ | refine blk_alloc ?_ _)); exact BK845.out) hb); have n9_ := Aside0.mk (blk_below (g := gb870) (o := .cells #[.slice Ao118 t864.length co118, .int .i64 t867, .int .i64 t868] 27 (0, 0)) (by (with_reducible repeat (first | refine blk_drewN ?_ _ | refine blk_drew ?_ | refine blk_alloc ?_ _)); refine blk_put (cs := #[.slice Ao118 t864.length co118, .int .i64 t867, .int .i64 0]) ?_ 2 _ rfl; (with_reducible repeat (first | refine blk_drewN ?_ _ | refine blk_drew ?_ | refine blk_alloc ?_ _)); refine blk_put (cs := #[.slice Ao118 t864.length co118, .int .i64 0, .int .i64 0]) ?_ 1 _ rfl; (with_reducible repeat (first | refine blk_drewN ?_ _ | refine blk_drew ?_ | refine blk_alloc ?_ _)); refine blk_put (cs := #[.slice none 0 0, .int .i64 0, .int .i64 0]) ?_ 0 _ rfl; (with_reducible repeat (first | refine blk_drewN ?_ _ | refine blk_drew ?_ | refine blk_alloc ?_ _)); exact BK870.out) hb); have n10_ := Aside0.mk (below_step (by repeat (first | (with_reducible first | exact HB.out | apply below_alloc | apply pw_below_drewN | apply below_drew1 | refine below_set ?_ GE819.out | refine below_set ?_ GE832.out | refine below_set ?_ GE838.out | refine below_set ?_ GE845.out | refine below_set ?_ GE870.out) | exact HB.out)) hb); clear HO_833000; clear HO_839000; clear HO_846000; clear HO861; clear HO866; clear BK819; clear BK832; clear BK838; clear BK845; clear BK870; clear HB; have HO_833000 := n0_; have HO_839000 := n1_; have HO_846000 := n2_; have HO861 := n3_; have HO866 := n4_; have BK819 := n5_; have BK832 := n6_; have BK838 := n7_; have BK845 := n8_; have BK870 := n9_; have HB := n10_; clear n0_ n1_ n2_ n3_ n4_ n5_ n6_ n7_ n8_ n9_ n10_; (try clear hb); (try clear hb2); (try clear hk); (try clear hi)))
                          go_meet
                          case rel => exact ⟨_, ((t869 != t831)), (by first | rfl | (simp; done) | (simp [*]; done)), H', ⟨by have := HJ10.out; have := HJ59.out; first | omega | exact Nat.le_refl _⟩, ⟨by (try simp only [hl839000_59]); (with_reducible repeat (first | apply Kd.R_alloc | apply Kd.R_drewN | apply Kd.R_drew)); exact Kd.R_mono HO_833000.out (fun _ hk => ⟨hk.1.1.1, ⟨hk.1.1.2, hk.2⟩⟩)⟩, ⟨by (try simp only [hl839000_59]); (with_reducible repeat (first | apply Kd.R_alloc | apply Kd.R_drewN | apply Kd.R_drew)); exact Kd.R_mono HO_839000.out (fun _ hk => ⟨hk.1.1.1, ⟨hk.1.1.2, hk.2⟩⟩)⟩, ⟨by (try simp only [hl839000_59]); (with_reducible repeat (first | apply Kd.R_alloc | apply Kd.R_drewN | apply Kd.R_drew)); exact Kd.R_mono HO_846000.out (fun _ hk => ⟨hk.1.1.1, ⟨hk.1.1.2, hk.2⟩⟩)⟩, ⟨by (try simp only [hl839000_59]); (with_reducible repeat (first | apply Kd.R_alloc | apply Kd.R_drewN | apply Kd.R_drew)); exact Kd.R_mono HO866.out (fun _ hk => ⟨hk.1.1.1.2, ⟨hk.1.1.2, hk.1.2⟩⟩)⟩, ⟨by (try simp only [hl839000_59]); (with_reducible repeat (first | refine blk_drewN ?_ _ | refine blk_drew ?_ | refine blk_alloc ?_ _)); exact BK819.out⟩, ⟨by (try simp only [hl839000_59]); (with_reducible repeat (first | refine blk_drewN ?_ _ | refine blk_drew ?_ | refine blk_alloc ?_ _)); exact BK832.out⟩, ⟨by (try simp only [hl839000_59]); (with_reducible repeat (first | refine blk_drewN ?_ _ | refine blk_drew ?_ | refine blk_alloc ?_ _)); exact BK838.out⟩, ⟨by (try simp only [hl839000_59]); (with_reducible repeat (first | refine blk_drewN ?_ _ | refine blk_drew ?_ | refine blk_alloc ?_ _)); exact BK845.out⟩, ⟨by (try simp only [hl839000_59]); (with_reducible repeat (first | refine blk_drewN ?_ _ | refine blk_drew ?_ | refine blk_alloc ?_ _)); exact BK870.out⟩, ⟨by repeat (first | (with_reducible first | exact HB.out | apply below_alloc | apply pw_below_drewN | apply below_drew1 | refine below_set ?_ GE819.out | refine below_set ?_ GE832.out | refine below_set ?_ GE838.out | refine below_set ?_ GE845.out | refine below_set ?_ GE870.out) | exact HB.out)⟩⟩
                        · replace c125 := Bool.eq_false_iff.mpr c125
                          subst c125
                          have H1 : (laws_FnExactHarderPuzzle.j2 kj59 t856 true t857 t842 t843) = some r := by rw [if_neg (show ¬ (false = true) by decide)] at H; exact H
                          clear H
                          have H := H1
                          clear H1
                          have H' := Aside0.mk H
                          clear H
                          have hnb136 := NB870_819.out
                          have hnc136 := NB819_870.out
                          have hnb137 := NB870_832.out
                          have hnc137 := NB832_870.out
                          have hnb138 := NB870_838.out
                          have hnc138 := NB838_870.out
                          have hnb139 := NB870_845.out
                          have hnc139 := NB845_870.out
                          have hcz140_0 : w117.cell? ⟨gb870, 0, none⟩ = some (.slice none 0 0) := (blk_cell BK870.out 0).trans rfl
                          have hcz140_1 : w117.cell? ⟨gb870, 1, none⟩ = some (.int .i64 0) := (blk_cell BK870.out 1).trans rfl
                          have hcz140_2 : w117.cell? ⟨gb870, 2, none⟩ = some (.int .i64 0) := (blk_cell BK870.out 2).trans rfl
                          have hfz140_0 := blk_frozen BK870.out 0
                          have hfz140_1 := blk_frozen BK870.out 1
                          have hfz140_2 := blk_frozen BK870.out 2
                          have hnb141 := NB832_819.out
                          have hnc141 := NB819_832.out
                          have hnb142 := NB832_838.out
                          have hnc142 := NB838_832.out
                          have hnb143 := NB832_845.out
                          have hnc143 := NB845_832.out
                          have hcz144_0 : w117.cell? ⟨gb832, 0, none⟩ = some (.slice Ao20 t826.length co20) := (blk_cell BK832.out 0).trans rfl
                          have hcz144_1 : w117.cell? ⟨gb832, 1, none⟩ = some (.int .i64 t829) := (blk_cell BK832.out 1).trans rfl
                          have hcz144_2 : w117.cell? ⟨gb832, 2, none⟩ = some (.int .i64 t830) := (blk_cell BK832.out 2).trans rfl
                          have hfz144_0 := blk_frozen BK832.out 0
                          have hfz144_1 := blk_frozen BK832.out 1
                          have hfz144_2 := blk_frozen BK832.out 2
                          go_wp2_with (first | ((with_reducible refine gate_callee (f := 19) rfl ?_); refine goesL_ (some 81) rfl rfl Try.func19 (by kernel_rfl) rfl #[.agg #[.slice Ao118 t864.length co118, .int .i64 t867, .int .i64 t868], .agg #[.slice Ao20 t826.length co20, .int .i64 t829, .int .i64 t830]] rfl (by (try simp only [List.map_toArray, List.map_cons, List.map_nil]); first | done | rfl | (simp only [List.length_drop, List.length_take]; rfl)) ?_; (with_reducible refine (laws_eqPuzzle.calls kj59 _ _ t864 t867 t868 _ _ t826 t829 t830 false _ ?side1 ?side2 ?side3 ?side4 A124.out).mono ?_); (case side1 => refine (Kd.R_reads' (e := 3) (base := w.heap.size) (ok := fun k_ => ((((True ∧ some k_ ≠ (.slice Ao20 t826.length co20 : Value).ownBlock) ∧ some k_ ≠ (.slice Ao26 t854.length co26 : Value).ownBlock) ∧ some k_ ≠ (.slice Ao32 t839.length co32 : Value).ownBlock) ∧ some k_ ≠ (.slice Ao115 t859.length co115 : Value).ownBlock)) (n := t864.length) (c := co118) ?_).2.2; exact (by (with_reducible repeat (first | apply Kd.R_alloc | apply Kd.R_drewN | apply Kd.R_drew)); exact (Kd.R_mono (Kd.R_far (p := ⟨gb870, 2, none⟩) (Kd.R_far (p := ⟨gb870, 1, none⟩) (Kd.R_far (p := ⟨gb870, 0, none⟩) (Kd.R_types HO866.out BK870.out (by decide)) (fun _ hk => hk.2) (.slice Ao118 t864.length co118)) (fun _ hk => hk.2) (.int .i64 t867)) (fun _ hk => hk.2) (.int .i64 t868)) (fun _ h_ => h_.1)))); (case side2 => exact (Kd.R_reads' HO866.out).2.1); (case side3 => refine (Kd.R_reads' (e := 3) (base := w.heap.size) (ok := fun k_ => (((some k_ ≠ (.slice Ao26 t854.length co26 : Value).ownBlock ∧ some k_ ≠ (.slice Ao32 t839.length co32 : Value).ownBlock) ∧ some k_ ≠ (.slice Ao115 t859.length co115 : Value).ownBlock) ∧ some k_ ≠ (.slice Ao118 t864.length co118 : Value).ownBlock)) (n := t826.length) (c := co20) ?_).2.2; exact (by (with_reducible repeat (first | apply Kd.R_alloc | apply Kd.R_drewN | apply Kd.R_drew)); exact (Kd.R_mono (Kd.R_far (p := ⟨gb870, 2, none⟩) (Kd.R_far (p := ⟨gb870, 1, none⟩) (Kd.R_far (p := ⟨gb870, 0, none⟩) (Kd.R_types HO_833000.out BK870.out (by decide)) (fun _ hk => hk.2) (.slice Ao118 t864.length co118)) (fun _ hk => hk.2) (.int .i64 t867)) (fun _ hk => hk.2) (.int .i64 t868)) (fun _ h_ => h_.1)))); (case side4 => exact (Kd.R_reads' HO_833000.out).2.1); rintro e w145 ⟨rfl, hb⟩; refine ⟨_, rfl, ?_⟩; have n0_ := Aside0.mk (Kd.R_below (by (with_reducible repeat (first | apply Kd.R_alloc | apply Kd.R_drewN | apply Kd.R_drew)); exact (Kd.R_mono (Kd.R_far (p := ⟨gb870, 2, none⟩) (Kd.R_far (p := ⟨gb870, 1, none⟩) (Kd.R_far (p := ⟨gb870, 0, none⟩) (Kd.R_types HO_833000.out BK870.out (by decide)) (fun _ hk => hk.2) (.slice Ao118 t864.length co118)) (fun _ hk => hk.2) (.int .i64 t867)) (fun _ hk => hk.2) (.int .i64 t868)) (fun _ h_ => h_.1))) hb); have n1_ := Aside0.mk (Kd.R_below (by (with_reducible repeat (first | apply Kd.R_alloc | apply Kd.R_drewN | apply Kd.R_drew)); exact (Kd.R_mono (Kd.R_far (p := ⟨gb870, 2, none⟩) (Kd.R_far (p := ⟨gb870, 1, none⟩) (Kd.R_far (p := ⟨gb870, 0, none⟩) (Kd.R_types HO_839000.out BK870.out (by decide)) (fun _ hk => hk.2) (.slice Ao118 t864.length co118)) (fun _ hk => hk.2) (.int .i64 t867)) (fun _ hk => hk.2) (.int .i64 t868)) (fun _ h_ => h_.1))) hb); have n2_ := Aside0.mk (Kd.R_below (by (with_reducible repeat (first | apply Kd.R_alloc | apply Kd.R_drewN | apply Kd.R_drew)); exact (Kd.R_mono (Kd.R_far (p := ⟨gb870, 2, none⟩) (Kd.R_far (p := ⟨gb870, 1, none⟩) (Kd.R_far (p := ⟨gb870, 0, none⟩) (Kd.R_types HO_846000.out BK870.out (by decide)) (fun _ hk => hk.2) (.slice Ao118 t864.length co118)) (fun _ hk => hk.2) (.int .i64 t867)) (fun _ hk => hk.2) (.int .i64 t868)) (fun _ h_ => h_.1))) hb); have n3_ := Aside0.mk (Kd.R_below (by (with_reducible repeat (first | apply Kd.R_alloc | apply Kd.R_drewN | apply Kd.R_drew)); exact (Kd.R_mono (Kd.R_far (p := ⟨gb870, 2, none⟩) (Kd.R_far (p := ⟨gb870, 1, none⟩) (Kd.R_far (p := ⟨gb870, 0, none⟩) (Kd.R_types HO861.out BK870.out (by decide)) (fun _ hk => hk.2) (.slice Ao118 t864.length co118)) (fun _ hk => hk.2) (.int .i64 t867)) (fun _ hk => hk.2) (.int .i64 t868)) (fun _ h_ => h_.1))) hb); have n4_ := Aside0.mk (Kd.R_below (by (with_reducible repeat (first | apply Kd.R_alloc | apply Kd.R_drewN | apply Kd.R_drew)); exact (Kd.R_mono (Kd.R_far (p := ⟨gb870, 2, none⟩) (Kd.R_far (p := ⟨gb870, 1, none⟩) (Kd.R_far (p := ⟨gb870, 0, none⟩) (Kd.R_types HO866.out BK870.out (by decide)) (fun _ hk => hk.2) (.slice Ao118 t864.length co118)) (fun _ hk => hk.2) (.int .i64 t867)) (fun _ hk => hk.2) (.int .i64 t868)) (fun _ h_ => h_.1))) hb); have n5_ := Aside0.mk (blk_below (g := gb819) (o := .cells #[.slice A0_0 l0_0.length c0_0, .int .i64 a0_1, .int .i64 a0_2] 24 (0, 0)) (by (with_reducible repeat (first | refine blk_drewN ?_ _ | refine blk_drew ?_ | refine blk_alloc ?_ _)); refine blk_far ?_ NB819_870.out _; (with_reducible repeat (first | refine blk_drewN ?_ _ | refine blk_drew ?_ | refine blk_alloc ?_ _)); refine blk_far ?_ NB819_870.out _; (with_reducible repeat (first | refine blk_drewN ?_ _ | refine blk_drew ?_ | refine blk_alloc ?_ _)); refine blk_far ?_ NB819_870.out _; (with_reducible repeat (first | refine blk_drewN ?_ _ | refine blk_drew ?_ | refine blk_alloc ?_ _)); exact BK819.out) hb); have n6_ := Aside0.mk (blk_below (g := gb832) (o := .cells #[.slice Ao20 t826.length co20, .int .i64 t829, .int .i64 t830] 27 (0, 0)) (by (with_reducible repeat (first | refine blk_drewN ?_ _ | refine blk_drew ?_ | refine blk_alloc ?_ _)); refine blk_far ?_ NB832_870.out _; (with_reducible repeat (first | refine blk_drewN ?_ _ | refine blk_drew ?_ | refine blk_alloc ?_ _)); refine blk_far ?_ NB832_870.out _; (with_reducible repeat (first | refine blk_drewN ?_ _ | refine blk_drew ?_ | refine blk_alloc ?_ _)); refine blk_far ?_ NB832_870.out _; (with_reducible repeat (first | refine blk_drewN ?_ _ | refine blk_drew ?_ | refine blk_alloc ?_ _)); exact BK832.out) hb); have n7_ := Aside0.mk (blk_below (g := gb838) (o := .cells #[.slice Ao26 t854.length co26, .int .i64 t836, .int .i64 t837] 27 (0, 0)) (by (with_reducible repeat (first | refine blk_drewN ?_ _ | refine blk_drew ?_ | refine blk_alloc ?_ _)); refine blk_far ?_ NB838_870.out _; (with_reducible repeat (first | refine blk_drewN ?_ _ | refine blk_drew ?_ | refine blk_alloc ?_ _)); refine blk_far ?_ NB838_870.out _; (with_reducible repeat (first | refine blk_drewN ?_ _ | refine blk_drew ?_ | refine blk_alloc ?_ _)); refine blk_far ?_ NB838_870.out _; (with_reducible repeat (first | refine blk_drewN ?_ _ | refine blk_drew ?_ | refine blk_alloc ?_ _)); exact BK838.out) hb); have n8_ := Aside0.mk (blk_below (g := gb845) (o := .cells #[.slice Ao32 t839.length co32, .int .i64 t842, .int .i64 t843] 27 (0, 0)) (by (with_reducible repeat (first | refine blk_drewN ?_ _ | refine blk_drew ?_ | refine blk_alloc ?_ _)); refine blk_far ?_ NB845_870.out _; (with_reducible repeat (first | refine blk_drewN ?_ _ | refine blk_drew ?_ | refine blk_alloc ?_ _)); refine blk_far ?_ NB845_870.out _; (with_reducible repeat (first | refine blk_drewN ?_ _ | refine blk_drew ?_ | refine blk_alloc ?_ _)); refine blk_far ?_ NB845_870.out _; (with_reducible repeat (first | refine blk_drewN ?_ _ | refine blk_drew ?_ | refine blk_alloc ?_ _)); exact BK845.out) hb); have n9_ := Aside0.mk (blk_below (g := gb870) (o := .cells #[.slice Ao118 t864.length co118, .int .i64 t867, .int .i64 t868] 27 (0, 0)) (by (with_reducible repeat (first | refine blk_drewN ?_ _ | refine blk_drew ?_ | refine blk_alloc ?_ _)); refine blk_put (cs := #[.slice Ao118 t864.length co118, .int .i64 t867, .int .i64 0]) ?_ 2 _ rfl; (with_reducible repeat (first | refine blk_drewN ?_ _ | refine blk_drew ?_ | refine blk_alloc ?_ _)); refine blk_put (cs := #[.slice Ao118 t864.length co118, .int .i64 0, .int .i64 0]) ?_ 1 _ rfl; (with_reducible repeat (first | refine blk_drewN ?_ _ | refine blk_drew ?_ | refine blk_alloc ?_ _)); refine blk_put (cs := #[.slice none 0 0, .int .i64 0, .int .i64 0]) ?_ 0 _ rfl; (with_reducible repeat (first | refine blk_drewN ?_ _ | refine blk_drew ?_ | refine blk_alloc ?_ _)); exact BK870.out) hb); have n10_ := Aside0.mk (below_step (by repeat (first | (with_reducible first | exact HB.out | apply below_alloc | apply pw_below_drewN | apply below_drew1 | refine below_set ?_ GE819.out | refine below_set ?_ GE832.out | refine below_set ?_ GE838.out | refine below_set ?_ GE845.out | refine below_set ?_ GE870.out) | exact HB.out)) hb); clear HO_833000; clear HO_839000; clear HO_846000; clear HO861; clear HO866; clear BK819; clear BK832; clear BK838; clear BK845; clear BK870; clear HB; have HO_833000 := n0_; have HO_839000 := n1_; have HO_846000 := n2_; have HO861 := n3_; have HO866 := n4_; have BK819 := n5_; have BK832 := n6_; have BK838 := n7_; have BK845 := n8_; have BK870 := n9_; have HB := n10_; clear n0_ n1_ n2_ n3_ n4_ n5_ n6_ n7_ n8_ n9_ n10_; (try clear hb); (try clear hb2); (try clear hk); (try clear hi)))
                          go_meet
                          case rel => exact ⟨_, (true), (by first | rfl | (simp; done) | (simp [*]; done)), H', ⟨by have := HJ10.out; have := HJ59.out; first | omega | exact Nat.le_refl _⟩, ⟨by (try simp only [hl839000_59]); (with_reducible repeat (first | apply Kd.R_alloc | apply Kd.R_drewN | apply Kd.R_drew)); exact Kd.R_mono HO_833000.out (fun _ hk => ⟨hk.1.1.1, ⟨hk.1.1.2, hk.2⟩⟩)⟩, ⟨by (try simp only [hl839000_59]); (with_reducible repeat (first | apply Kd.R_alloc | apply Kd.R_drewN | apply Kd.R_drew)); exact Kd.R_mono HO_839000.out (fun _ hk => ⟨hk.1.1.1, ⟨hk.1.1.2, hk.2⟩⟩)⟩, ⟨by (try simp only [hl839000_59]); (with_reducible repeat (first | apply Kd.R_alloc | apply Kd.R_drewN | apply Kd.R_drew)); exact Kd.R_mono HO_846000.out (fun _ hk => ⟨hk.1.1.1, ⟨hk.1.1.2, hk.2⟩⟩)⟩, ⟨by (try simp only [hl839000_59]); (with_reducible repeat (first | apply Kd.R_alloc | apply Kd.R_drewN | apply Kd.R_drew)); exact Kd.R_mono HO866.out (fun _ hk => ⟨hk.1.1.1.2, ⟨hk.1.1.2, hk.1.2⟩⟩)⟩, ⟨by (try simp only [hl839000_59]); (with_reducible repeat (first | refine blk_drewN ?_ _ | refine blk_drew ?_ | refine blk_alloc ?_ _)); exact BK819.out⟩, ⟨by (try simp only [hl839000_59]); (with_reducible repeat (first | refine blk_drewN ?_ _ | refine blk_drew ?_ | refine blk_alloc ?_ _)); exact BK832.out⟩, ⟨by (try simp only [hl839000_59]); (with_reducible repeat (first | refine blk_drewN ?_ _ | refine blk_drew ?_ | refine blk_alloc ?_ _)); exact BK838.out⟩, ⟨by (try simp only [hl839000_59]); (with_reducible repeat (first | refine blk_drewN ?_ _ | refine blk_drew ?_ | refine blk_alloc ?_ _)); exact BK845.out⟩, ⟨by (try simp only [hl839000_59]); (with_reducible repeat (first | refine blk_drewN ?_ _ | refine blk_drew ?_ | refine blk_alloc ?_ _)); exact BK870.out⟩, ⟨by repeat (first | (with_reducible first | exact HB.out | apply below_alloc | apply pw_below_drewN | apply below_drew1 | refine below_set ?_ GE819.out | refine below_set ?_ GE832.out | refine below_set ?_ GE838.out | refine below_set ?_ GE845.out | refine below_set ?_ GE870.out) | exact HB.out)⟩⟩
                      case rest =>
                        clear HC103
                        try clear c1
                        try clear c2
                        try clear p2
                        try clear c3
                        try clear c3b0
                        try clear c4
                        try clear c5
                        try clear c6
                        try clear c7
                        try clear c8
                        try clear c9
                        try clear c10
                        try clear c11
                        try clear c12
                        try clear c13
                        try clear c14
                        try clear c15
                        try clear c17
                        try clear c19
                        try clear c21
                        try clear c24
                        try clear c25
                        try clear c27
                        try clear c28
                        try clear c33
                        try clear c34
                        try clear c35
                        try clear c38
                        try clear c39
                        try clear c40
                        try clear c41
                        try clear c43
                        try clear c44
                        try clear c47
                        try clear c48
                        try clear c49
                        try clear c50
                        try clear c51
                        try clear c52
                        try clear c55
                        try clear c58
                        try clear c65
                        try clear c66
                        try clear c67
                        try clear c70
                        try clear c70b0
                        try clear c72
                        try clear c73
                        try clear c74
                        try clear c75
                        try clear c77
                        try clear c78
                        try clear c81
                        try clear c82
                        try clear c83
                        try clear c85
                        try clear c86
                        try clear c89
                        try clear c92
                        try clear c92b0
                        try clear c93
                        try clear c94
                        try clear c95
                        try clear c100
                        try clear c100b0
                        try clear c100b1
                        try clear c104
                        try clear c105
                        try clear c106
                        try clear c111
                        try clear c112
                        try clear c119
                        try clear c120
                        try clear c121
                        try clear c122
                        try clear c125
                        try clear c126
                        try clear c127
                        try clear c128
                        try clear c129
                        try clear c131
                        try clear c132
                        try clear c133
                        try clear c136
                        try clear c137
                        try clear c138
                        try clear c139
                        try clear c141
                        try clear c142
                        try clear c143
                        try clear hcz107_0
                        try clear hcz107_1
                        try clear hcz107_2
                        try clear hcz109_0
                        try clear hcz109_1
                        try clear hcz109_2
                        try clear hcz113_0
                        try clear hcz113_1
                        try clear hcz113_2
                        try clear hcz123_0
                        try clear hcz123_1
                        try clear hcz123_2
                        try clear hcz130_0
                        try clear hcz130_1
                        try clear hcz130_2
                        try clear hcz134_0
                        try clear hcz134_1
                        try clear hcz134_2
                        try clear hcz13_0
                        try clear hcz13_1
                        try clear hcz13_2
                        try clear hcz140_0
                        try clear hcz140_1
                        try clear hcz140_2
                        try clear hcz144_0
                        try clear hcz144_1
                        try clear hcz144_2
                        try clear hcz15_0
                        try clear hcz15_1
                        try clear hcz15_2
                        try clear hcz22_0
                        try clear hcz22_1
                        try clear hcz22_2
                        try clear hcz23_0
                        try clear hcz23_1
                        try clear hcz23_2
                        try clear hcz29_0
                        try clear hcz29_1
                        try clear hcz29_2
                        try clear hcz36_0
                        try clear hcz36_1
                        try clear hcz36_2
                        try clear hcz42_0
                        try clear hcz42_1
                        try clear hcz42_2
                        try clear hcz45_0
                        try clear hcz45_1
                        try clear hcz45_2
                        try clear hcz50_0
                        try clear hcz50_1
                        try clear hcz50_2
                        try clear hcz53_0
                        try clear hcz53_1
                        try clear hcz53_2
                        try clear hcz5_0
                        try clear hcz5_1
                        try clear hcz5_2
                        try clear hcz68_0
                        try clear hcz68_1
                        try clear hcz68_2
                        try clear hcz76_0
                        try clear hcz76_1
                        try clear hcz76_2
                        try clear hcz79_0
                        try clear hcz79_1
                        try clear hcz79_2
                        try clear hcz84_0
                        try clear hcz84_1
                        try clear hcz84_2
                        try clear hcz87_0
                        try clear hcz87_1
                        try clear hcz87_2
                        try clear hcz96_0
                        try clear hcz96_1
                        try clear hcz96_2
                        try clear hcz98_0
                        try clear hcz98_1
                        try clear hcz98_2
                        try clear hfz107_0
                        try clear hfz107_1
                        try clear hfz107_2
                        try clear hfz109_0
                        try clear hfz109_1
                        try clear hfz109_2
                        try clear hfz113_0
                        try clear hfz113_1
                        try clear hfz113_2
                        try clear hfz123_0
                        try clear hfz123_1
                        try clear hfz123_2
                        try clear hfz130_0
                        try clear hfz130_1
                        try clear hfz130_2
                        try clear hfz134_0
                        try clear hfz134_1
                        try clear hfz134_2
                        try clear hfz13_0
                        try clear hfz13_1
                        try clear hfz13_2
                        try clear hfz140_0
                        try clear hfz140_1
                        try clear hfz140_2
                        try clear hfz144_0
                        try clear hfz144_1
                        try clear hfz144_2
                        try clear hfz15_0
                        try clear hfz15_1
                        try clear hfz15_2
                        try clear hfz22_0
                        try clear hfz22_1
                        try clear hfz22_2
                        try clear hfz23_0
                        try clear hfz23_1
                        try clear hfz23_2
                        try clear hfz29_0
                        try clear hfz29_1
                        try clear hfz29_2
                        try clear hfz36_0
                        try clear hfz36_1
                        try clear hfz36_2
                        try clear hfz42_0
                        try clear hfz42_1
                        try clear hfz42_2
                        try clear hfz45_0
                        try clear hfz45_1
                        try clear hfz45_2
                        try clear hfz50_0
                        try clear hfz50_1
                        try clear hfz50_2
                        try clear hfz53_0
                        try clear hfz53_1
                        try clear hfz53_2
                        try clear hfz5_0
                        try clear hfz5_1
                        try clear hfz5_2
                        try clear hfz68_0
                        try clear hfz68_1
                        try clear hfz68_2
                        try clear hfz76_0
                        try clear hfz76_1
                        try clear hfz76_2
                        try clear hfz79_0
                        try clear hfz79_1
                        try clear hfz79_2
                        try clear hfz84_0
                        try clear hfz84_1
                        try clear hfz84_2
                        try clear hfz87_0
                        try clear hfz87_1
                        try clear hfz87_2
                        try clear hfz96_0
                        try clear hfz96_1
                        try clear hfz96_2
                        try clear hfz98_0
                        try clear hfz98_1
                        try clear hfz98_2
                        try clear p2
                        obtain ⟨kq, x87_102, rfl, HA, HJ102, HO_833000, HO_839000, HO_846000, HO_871000, BK819, BK832, BK838, BK845, BK870, HB⟩ := hcut
                        have hl846000_102 := (Kd.R_reads' HO_846000.out).1
                        rw [hl846000_102] at HO_846000
                        (try simp only [hl846000_102])
                        (try simp only [hl846000_102] at BK819)
                        (try simp only [hl846000_102] at BK832)
                        (try simp only [hl846000_102] at BK838)
                        (try simp only [hl846000_102] at BK845)
                        (try simp only [hl846000_102] at BK870)
                        (try simp only [hl846000_102] at HO_833000)
                        (try simp only [hl846000_102] at HO_839000)
                        (try simp only [hl846000_102] at HO_871000)
                        cases kq with
                        | zero => exact absurd HA.out (by simp [laws_FnExactHarderPuzzle.j2])
                        | succ kj102 =>
                          have H := HA.out
                          clear HA
                          simp only [laws_FnExactHarderPuzzle.j2] at H
                          by_cases c146 : x87_102 = true
                          · subst c146
                            have H1 : (some false) = some r := by rw [if_pos rfl] at H; exact H
                            clear H
                            have H := H1
                            clear H1
                            obtain rfl := Option.some.inj H
                            go_wp2
                            go_ret
                            exact ⟨by first | rfl | (simp [errW_none, errW_some] <;> rfl) | (simp [*, errW_none, errW_some] <;> rfl), by repeat (first | (with_reducible first | exact HB.out | apply below_alloc | apply pw_below_drewN | apply below_drew1 | refine below_set ?_ GE819.out | refine below_set ?_ GE832.out | refine below_set ?_ GE838.out | refine below_set ?_ GE845.out | refine below_set ?_ GE870.out) | exact HB.out)⟩
                          · replace c146 := Bool.eq_false_iff.mpr c146
                            subst c146
                            have H1 : ((laws_heldPuzzle.f kj102 t857 t842 t843 1).bind fun t872 => (if t872 < 0 then (some false) else (if t872 = t856 then (some true) else (some false)))) = some r := by rw [if_neg (show ¬ (false = true) by decide)] at H; exact H
                            clear H
                            have H := H1
                            clear H1
                            replace H := Option.bind_eq_some_iff.mp H
                            obtain ⟨t872, A1470, H⟩ := H
                            replace H : (if t872 < 0 then (some false) else (if t872 = t856 then (some true) else (some false))) = some r := H
                            have A147 := Aside0.mk A1470
                            clear A1470
                            by_cases c148 : t872 < 0
                            · rw [if_pos c148] at H
                              have c148b0 : decide (t872 < 0) = true := decide_eq_true c148
                              clear c148
                              obtain rfl := Option.some.inj H
                              have hnb149 := NB845_819.out
                              have hnc149 := NB819_845.out
                              have hnb150 := NB845_832.out
                              have hnc150 := NB832_845.out
                              have hnb151 := NB845_838.out
                              have hnc151 := NB838_845.out
                              have hnb152 := NB845_870.out
                              have hnc152 := NB870_845.out
                              have hcz153_0 : wc.cell? ⟨gb845, 0, none⟩ = some (.slice Ao32 t857.length co32) := (blk_cell BK845.out 0).trans rfl
                              have hcz153_1 : wc.cell? ⟨gb845, 1, none⟩ = some (.int .i64 t842) := (blk_cell BK845.out 1).trans rfl
                              have hcz153_2 : wc.cell? ⟨gb845, 2, none⟩ = some (.int .i64 t843) := (blk_cell BK845.out 2).trans rfl
                              have hfz153_0 := blk_frozen BK845.out 0
                              have hfz153_1 := blk_frozen BK845.out 1
                              have hfz153_2 := blk_frozen BK845.out 2
                              go_wp2_with (first | ((with_reducible refine gate_callee (f := 25) rfl ?_); refine goesL_ (some 90) rfl rfl Try.func25 (by kernel_rfl) rfl #[.agg #[.slice Ao32 t857.length co32, .int .i64 t842, .int .i64 t843], .int .i64 1] rfl (by (try simp only [List.map_toArray, List.map_cons, List.map_nil]); first | done | rfl | (simp only [List.length_drop, List.length_take]; rfl)) ?_; (with_reducible refine (laws_heldPuzzle.calls kj102 _ _ t857 t842 t843 1 t872 _ ?side1 ?side2 A147.out).mono ?_); (case side1 => repeat (first | exact (Kd.R_reads' HO_846000.out).2.2 | (with_reducible refine Kd.C_alloc ?_ _) | (with_reducible refine Kd.C_drewN ?_ _) | (with_reducible refine Kd.C_drew ?_))); (case side2 => exact (Kd.R_reads' HO_846000.out).2.1); rintro e w154 ⟨rfl, hb⟩; refine ⟨_, rfl, ?_⟩; have n0_ := Aside0.mk (Kd.R_below (by (with_reducible repeat (first | apply Kd.R_alloc | apply Kd.R_drewN | apply Kd.R_drew)); exact HO_833000.out) hb); have n1_ := Aside0.mk (Kd.R_below (by (with_reducible repeat (first | apply Kd.R_alloc | apply Kd.R_drewN | apply Kd.R_drew)); exact HO_839000.out) hb); have n2_ := Aside0.mk (Kd.R_below (by (with_reducible repeat (first | apply Kd.R_alloc | apply Kd.R_drewN | apply Kd.R_drew)); exact HO_846000.out) hb); have n3_ := Aside0.mk (Kd.R_below (by (with_reducible repeat (first | apply Kd.R_alloc | apply Kd.R_drewN | apply Kd.R_drew)); exact HO_871000.out) hb); have n4_ := Aside0.mk (blk_below (g := gb819) (o := .cells #[.slice A0_0 l0_0.length c0_0, .int .i64 a0_1, .int .i64 a0_2] 24 (0, 0)) (by (with_reducible repeat (first | refine blk_drewN ?_ _ | refine blk_drew ?_ | refine blk_alloc ?_ _)); exact BK819.out) hb); have n5_ := Aside0.mk (blk_below (g := gb832) (o := .cells #[.slice Ao20 t826.length co20, .int .i64 t829, .int .i64 t830] 27 (0, 0)) (by (with_reducible repeat (first | refine blk_drewN ?_ _ | refine blk_drew ?_ | refine blk_alloc ?_ _)); exact BK832.out) hb); have n6_ := Aside0.mk (blk_below (g := gb838) (o := .cells #[.slice Ao26 t854.length co26, .int .i64 t836, .int .i64 t837] 27 (0, 0)) (by (with_reducible repeat (first | refine blk_drewN ?_ _ | refine blk_drew ?_ | refine blk_alloc ?_ _)); exact BK838.out) hb); have n7_ := Aside0.mk (blk_below (g := gb845) (o := .cells #[.slice Ao32 t857.length co32, .int .i64 t842, .int .i64 t843] 27 (0, 0)) (by (with_reducible repeat (first | refine blk_drewN ?_ _ | refine blk_drew ?_ | refine blk_alloc ?_ _)); exact BK845.out) hb); have n8_ := Aside0.mk (blk_below (g := gb870) (o := .cells #[.slice Ao118 t864.length co118, .int .i64 t867, .int .i64 t868] 27 (0, 0)) (by (with_reducible repeat (first | refine blk_drewN ?_ _ | refine blk_drew ?_ | refine blk_alloc ?_ _)); exact BK870.out) hb); have n9_ := Aside0.mk (below_step (by repeat (first | (with_reducible first | exact HB.out | apply below_alloc | apply pw_below_drewN | apply below_drew1 | refine below_set ?_ GE819.out | refine below_set ?_ GE832.out | refine below_set ?_ GE838.out | refine below_set ?_ GE845.out | refine below_set ?_ GE870.out) | exact HB.out)) hb); clear HO_833000; clear HO_839000; clear HO_846000; clear HO_871000; clear BK819; clear BK832; clear BK838; clear BK845; clear BK870; clear HB; have HO_833000 := n0_; have HO_839000 := n1_; have HO_846000 := n2_; have HO_871000 := n3_; have BK819 := n4_; have BK832 := n5_; have BK838 := n6_; have BK845 := n7_; have BK870 := n8_; have HB := n9_; clear n0_ n1_ n2_ n3_ n4_ n5_ n6_ n7_ n8_ n9_; (try clear hb); (try clear hb2); (try clear hk); (try clear hi)))
                              go_ret
                              exact ⟨by first | rfl | (simp [errW_none, errW_some] <;> rfl) | (simp [*, errW_none, errW_some] <;> rfl), by repeat (first | (with_reducible first | exact HB.out | apply below_alloc | apply pw_below_drewN | apply below_drew1 | refine below_set ?_ GE819.out | refine below_set ?_ GE832.out | refine below_set ?_ GE838.out | refine below_set ?_ GE845.out | refine below_set ?_ GE870.out) | exact HB.out)⟩
                            · rw [if_neg c148] at H
                              have c148b0 : decide (t872 < 0) = false := decide_eq_false c148
                              clear c148
                              by_cases c155 : t872 = t856
                              · rw [if_pos c155] at H
                                have c155b0 : (t872 == t856) = true := beq_iff_eq.mpr c155
                                have c155b1 : (t872 != t856) = false := bne_eq_false_iff_eq.mpr c155
                                clear c155
                                obtain rfl := Option.some.inj H
                                have hnb156 := NB845_819.out
                                have hnc156 := NB819_845.out
                                have hnb157 := NB845_832.out
                                have hnc157 := NB832_845.out
                                have hnb158 := NB845_838.out
                                have hnc158 := NB838_845.out
                                have hnb159 := NB845_870.out
                                have hnc159 := NB870_845.out
                                have hcz160_0 : wc.cell? ⟨gb845, 0, none⟩ = some (.slice Ao32 t857.length co32) := (blk_cell BK845.out 0).trans rfl
                                have hcz160_1 : wc.cell? ⟨gb845, 1, none⟩ = some (.int .i64 t842) := (blk_cell BK845.out 1).trans rfl
                                have hcz160_2 : wc.cell? ⟨gb845, 2, none⟩ = some (.int .i64 t843) := (blk_cell BK845.out 2).trans rfl
                                have hfz160_0 := blk_frozen BK845.out 0
                                have hfz160_1 := blk_frozen BK845.out 1
                                have hfz160_2 := blk_frozen BK845.out 2
                                go_wp2_with (first | ((with_reducible refine gate_callee (f := 25) rfl ?_); refine goesL_ (some 90) rfl rfl Try.func25 (by kernel_rfl) rfl #[.agg #[.slice Ao32 t857.length co32, .int .i64 t842, .int .i64 t843], .int .i64 1] rfl (by (try simp only [List.map_toArray, List.map_cons, List.map_nil]); first | done | rfl | (simp only [List.length_drop, List.length_take]; rfl)) ?_; (with_reducible refine (laws_heldPuzzle.calls kj102 _ _ t857 t842 t843 1 t872 _ ?side1 ?side2 A147.out).mono ?_); (case side1 => repeat (first | exact (Kd.R_reads' HO_846000.out).2.2 | (with_reducible refine Kd.C_alloc ?_ _) | (with_reducible refine Kd.C_drewN ?_ _) | (with_reducible refine Kd.C_drew ?_))); (case side2 => exact (Kd.R_reads' HO_846000.out).2.1); rintro e w161 ⟨rfl, hb⟩; refine ⟨_, rfl, ?_⟩; have n0_ := Aside0.mk (Kd.R_below (by (with_reducible repeat (first | apply Kd.R_alloc | apply Kd.R_drewN | apply Kd.R_drew)); exact HO_833000.out) hb); have n1_ := Aside0.mk (Kd.R_below (by (with_reducible repeat (first | apply Kd.R_alloc | apply Kd.R_drewN | apply Kd.R_drew)); exact HO_839000.out) hb); have n2_ := Aside0.mk (Kd.R_below (by (with_reducible repeat (first | apply Kd.R_alloc | apply Kd.R_drewN | apply Kd.R_drew)); exact HO_846000.out) hb); have n3_ := Aside0.mk (Kd.R_below (by (with_reducible repeat (first | apply Kd.R_alloc | apply Kd.R_drewN | apply Kd.R_drew)); exact HO_871000.out) hb); have n4_ := Aside0.mk (blk_below (g := gb819) (o := .cells #[.slice A0_0 l0_0.length c0_0, .int .i64 a0_1, .int .i64 a0_2] 24 (0, 0)) (by (with_reducible repeat (first | refine blk_drewN ?_ _ | refine blk_drew ?_ | refine blk_alloc ?_ _)); exact BK819.out) hb); have n5_ := Aside0.mk (blk_below (g := gb832) (o := .cells #[.slice Ao20 t826.length co20, .int .i64 t829, .int .i64 t830] 27 (0, 0)) (by (with_reducible repeat (first | refine blk_drewN ?_ _ | refine blk_drew ?_ | refine blk_alloc ?_ _)); exact BK832.out) hb); have n6_ := Aside0.mk (blk_below (g := gb838) (o := .cells #[.slice Ao26 t854.length co26, .int .i64 t836, .int .i64 t837] 27 (0, 0)) (by (with_reducible repeat (first | refine blk_drewN ?_ _ | refine blk_drew ?_ | refine blk_alloc ?_ _)); exact BK838.out) hb); have n7_ := Aside0.mk (blk_below (g := gb845) (o := .cells #[.slice Ao32 t857.length co32, .int .i64 t842, .int .i64 t843] 27 (0, 0)) (by (with_reducible repeat (first | refine blk_drewN ?_ _ | refine blk_drew ?_ | refine blk_alloc ?_ _)); exact BK845.out) hb); have n8_ := Aside0.mk (blk_below (g := gb870) (o := .cells #[.slice Ao118 t864.length co118, .int .i64 t867, .int .i64 t868] 27 (0, 0)) (by (with_reducible repeat (first | refine blk_drewN ?_ _ | refine blk_drew ?_ | refine blk_alloc ?_ _)); exact BK870.out) hb); have n9_ := Aside0.mk (below_step (by repeat (first | (with_reducible first | exact HB.out | apply below_alloc | apply pw_below_drewN | apply below_drew1 | refine below_set ?_ GE819.out | refine below_set ?_ GE832.out | refine below_set ?_ GE838.out | refine below_set ?_ GE845.out | refine below_set ?_ GE870.out) | exact HB.out)) hb); clear HO_833000; clear HO_839000; clear HO_846000; clear HO_871000; clear BK819; clear BK832; clear BK838; clear BK845; clear BK870; clear HB; have HO_833000 := n0_; have HO_839000 := n1_; have HO_846000 := n2_; have HO_871000 := n3_; have BK819 := n4_; have BK832 := n5_; have BK838 := n6_; have BK845 := n7_; have BK870 := n8_; have HB := n9_; clear n0_ n1_ n2_ n3_ n4_ n5_ n6_ n7_ n8_ n9_; (try clear hb); (try clear hb2); (try clear hk); (try clear hi)))
                                go_ret
                                exact ⟨by first | rfl | (simp [errW_none, errW_some] <;> rfl) | (simp [*, errW_none, errW_some] <;> rfl), by repeat (first | (with_reducible first | exact HB.out | apply below_alloc | apply pw_below_drewN | apply below_drew1 | refine below_set ?_ GE819.out | refine below_set ?_ GE832.out | refine below_set ?_ GE838.out | refine below_set ?_ GE845.out | refine below_set ?_ GE870.out) | exact HB.out)⟩
                              · rw [if_neg c155] at H
                                have c155b0 : (t872 == t856) = false := beq_eq_false_iff_ne.mpr c155
                                have c155b1 : (t872 != t856) = true := bne_iff_ne.mpr c155
                                obtain rfl := Option.some.inj H
                                have hnb162 := NB845_819.out
                                have hnc162 := NB819_845.out
                                have hnb163 := NB845_832.out
                                have hnc163 := NB832_845.out
                                have hnb164 := NB845_838.out
                                have hnc164 := NB838_845.out
                                have hnb165 := NB845_870.out
                                have hnc165 := NB870_845.out
                                have hcz166_0 : wc.cell? ⟨gb845, 0, none⟩ = some (.slice Ao32 t857.length co32) := (blk_cell BK845.out 0).trans rfl
                                have hcz166_1 : wc.cell? ⟨gb845, 1, none⟩ = some (.int .i64 t842) := (blk_cell BK845.out 1).trans rfl
                                have hcz166_2 : wc.cell? ⟨gb845, 2, none⟩ = some (.int .i64 t843) := (blk_cell BK845.out 2).trans rfl
                                have hfz166_0 := blk_frozen BK845.out 0
                                have hfz166_1 := blk_frozen BK845.out 1
                                have hfz166_2 := blk_frozen BK845.out 2
                                go_wp2_with (first | ((with_reducible refine gate_callee (f := 25) rfl ?_); refine goesL_ (some 90) rfl rfl Try.func25 (by kernel_rfl) rfl #[.agg #[.slice Ao32 t857.length co32, .int .i64 t842, .int .i64 t843], .int .i64 1] rfl (by (try simp only [List.map_toArray, List.map_cons, List.map_nil]); first | done | rfl | (simp only [List.length_drop, List.length_take]; rfl)) ?_; (with_reducible refine (laws_heldPuzzle.calls kj102 _ _ t857 t842 t843 1 t872 _ ?side1 ?side2 A147.out).mono ?_); (case side1 => repeat (first | exact (Kd.R_reads' HO_846000.out).2.2 | (with_reducible refine Kd.C_alloc ?_ _) | (with_reducible refine Kd.C_drewN ?_ _) | (with_reducible refine Kd.C_drew ?_))); (case side2 => exact (Kd.R_reads' HO_846000.out).2.1); rintro e w167 ⟨rfl, hb⟩; refine ⟨_, rfl, ?_⟩; have n0_ := Aside0.mk (Kd.R_below (by (with_reducible repeat (first | apply Kd.R_alloc | apply Kd.R_drewN | apply Kd.R_drew)); exact HO_833000.out) hb); have n1_ := Aside0.mk (Kd.R_below (by (with_reducible repeat (first | apply Kd.R_alloc | apply Kd.R_drewN | apply Kd.R_drew)); exact HO_839000.out) hb); have n2_ := Aside0.mk (Kd.R_below (by (with_reducible repeat (first | apply Kd.R_alloc | apply Kd.R_drewN | apply Kd.R_drew)); exact HO_846000.out) hb); have n3_ := Aside0.mk (Kd.R_below (by (with_reducible repeat (first | apply Kd.R_alloc | apply Kd.R_drewN | apply Kd.R_drew)); exact HO_871000.out) hb); have n4_ := Aside0.mk (blk_below (g := gb819) (o := .cells #[.slice A0_0 l0_0.length c0_0, .int .i64 a0_1, .int .i64 a0_2] 24 (0, 0)) (by (with_reducible repeat (first | refine blk_drewN ?_ _ | refine blk_drew ?_ | refine blk_alloc ?_ _)); exact BK819.out) hb); have n5_ := Aside0.mk (blk_below (g := gb832) (o := .cells #[.slice Ao20 t826.length co20, .int .i64 t829, .int .i64 t830] 27 (0, 0)) (by (with_reducible repeat (first | refine blk_drewN ?_ _ | refine blk_drew ?_ | refine blk_alloc ?_ _)); exact BK832.out) hb); have n6_ := Aside0.mk (blk_below (g := gb838) (o := .cells #[.slice Ao26 t854.length co26, .int .i64 t836, .int .i64 t837] 27 (0, 0)) (by (with_reducible repeat (first | refine blk_drewN ?_ _ | refine blk_drew ?_ | refine blk_alloc ?_ _)); exact BK838.out) hb); have n7_ := Aside0.mk (blk_below (g := gb845) (o := .cells #[.slice Ao32 t857.length co32, .int .i64 t842, .int .i64 t843] 27 (0, 0)) (by (with_reducible repeat (first | refine blk_drewN ?_ _ | refine blk_drew ?_ | refine blk_alloc ?_ _)); exact BK845.out) hb); have n8_ := Aside0.mk (blk_below (g := gb870) (o := .cells #[.slice Ao118 t864.length co118, .int .i64 t867, .int .i64 t868] 27 (0, 0)) (by (with_reducible repeat (first | refine blk_drewN ?_ _ | refine blk_drew ?_ | refine blk_alloc ?_ _)); exact BK870.out) hb); have n9_ := Aside0.mk (below_step (by repeat (first | (with_reducible first | exact HB.out | apply below_alloc | apply pw_below_drewN | apply below_drew1 | refine below_set ?_ GE819.out | refine below_set ?_ GE832.out | refine below_set ?_ GE838.out | refine below_set ?_ GE845.out | refine below_set ?_ GE870.out) | exact HB.out)) hb); clear HO_833000; clear HO_839000; clear HO_846000; clear HO_871000; clear BK819; clear BK832; clear BK838; clear BK845; clear BK870; clear HB; have HO_833000 := n0_; have HO_839000 := n1_; have HO_846000 := n2_; have HO_871000 := n3_; have BK819 := n4_; have BK832 := n5_; have BK838 := n6_; have BK845 := n7_; have BK870 := n8_; have HB := n9_; clear n0_ n1_ n2_ n3_ n4_ n5_ n6_ n7_ n8_ n9_; (try clear hb); (try clear hb2); (try clear hk); (try clear hi)))
                                go_ret
                                exact ⟨by first | rfl | (simp [errW_none, errW_some] <;> rfl) | (simp [*, errW_none, errW_some] <;> rfl), by repeat (first | (with_reducible first | exact HB.out | apply below_alloc | apply pw_below_drewN | apply below_drew1 | refine below_set ?_ GE819.out | refine below_set ?_ GE832.out | refine below_set ?_ GE838.out | refine below_set ?_ GE845.out | refine below_set ?_ GE870.out) | exact HB.out)⟩
                    · rw [if_neg c100] at H
                      have c100b0 : (t858 == t856) = false := beq_eq_false_iff_ne.mpr c100
                      have c100b1 : (t858 != t856) = true := bne_iff_ne.mpr c100
                      obtain rfl := Option.some.inj H
                      have hnb168 := NB845_819.out
                      have hnc168 := NB819_845.out
                      have hnb169 := NB845_832.out
                      have hnc169 := NB832_845.out
                      have hnb170 := NB845_838.out
                      have hnc170 := NB838_845.out
                      have hcz171_0 : wc.cell? ⟨gb845, 0, none⟩ = some (.slice Ao32 t839.length co32) := (blk_cell BK845.out 0).trans rfl
                      have hcz171_1 : wc.cell? ⟨gb845, 1, none⟩ = some (.int .i64 t842) := (blk_cell BK845.out 1).trans rfl
                      have hcz171_2 : wc.cell? ⟨gb845, 2, none⟩ = some (.int .i64 t843) := (blk_cell BK845.out 2).trans rfl
                      have hfz171_0 := blk_frozen BK845.out 0
                      have hfz171_1 := blk_frozen BK845.out 1
                      have hfz171_2 := blk_frozen BK845.out 2
                      go_wp2_with (first | ((with_reducible refine gate_callee (f := 24) rfl ?_); refine goesL_ (some 64) rfl rfl Try.func24 (by kernel_rfl) rfl #[.agg #[.slice Ao32 t839.length co32, .int .i64 t842, .int .i64 t843], .int .i64 1] rfl (by (try simp only [List.map_toArray, List.map_cons, List.map_nil]); first | done | rfl | (simp only [List.length_drop, List.length_take]; rfl)) ?_; (with_reducible refine (laws_markPuzzle.calls kj59 (fun k_ => some k_ = (.slice Ao32 t839.length co32 : Value).ownBlock) (.slice Ao32 t839.length co32) t839 t842 t843 1 t856 t857 w _ ?side1 ?side2 A90.out).mono ?_); (case side1 => repeat (first | (with_reducible first | exact HB.out | apply below_alloc | apply pw_below_drewN | apply below_drew1 | refine below_set ?_ GE819.out | refine below_set ?_ GE832.out | refine below_set ?_ GE838.out | refine below_set ?_ GE845.out) | exact HB.out)); (case side2 => exact Kd.R_tight rfl HO_846000.out); rintro e w172 ⟨rfl, hy0, hb, hkp⟩; refine ⟨_, rfl, ?_⟩; have n0_ := Aside0.mk (Kd.R_mono (ok' := fun k_ => some k_ ≠ (.slice Ao26 t854.length co26 : Value).ownBlock ∧ some k_ ≠ (.slice Ao32 t839.length co32 : Value).ownBlock) (Kd.R_keptB (HO_833000.out) hkp (fun k_ hk_ hs_ => (hk_.2) hs_)) (fun k_ hk_ => ⟨hk_.1.1, hk_.1.2⟩)); have n1_ := Aside0.mk (Kd.R_mono (ok' := fun k_ => some k_ ≠ (.slice Ao20 t826.length co20 : Value).ownBlock ∧ some k_ ≠ (.slice Ao32 t839.length co32 : Value).ownBlock) (Kd.R_keptB (HO_839000.out) hkp (fun k_ hk_ hs_ => (hk_.2) hs_)) (fun k_ hk_ => ⟨hk_.1.1, hk_.1.2⟩)); have n2_ := Aside0.mk (Kd.R_reok rfl hy0 (fun k_ e_ => HO_846000.out.1 k_ e_)); have n3_ := Aside0.mk (blk_kept (by (with_reducible repeat (first | refine blk_drewN ?_ _ | refine blk_drew ?_ | refine blk_alloc ?_ _)); exact BK819.out) hkp (fun hs_ => (fun e_ => (Kd.R_ne HO_846000.out BK819.out (by decide)) e_) hs_)); have n4_ := Aside0.mk (blk_kept (by (with_reducible repeat (first | refine blk_drewN ?_ _ | refine blk_drew ?_ | refine blk_alloc ?_ _)); exact BK832.out) hkp (fun hs_ => (fun e_ => (Kd.R_ne HO_846000.out BK832.out (by decide)) e_) hs_)); have n5_ := Aside0.mk (blk_kept (by (with_reducible repeat (first | refine blk_drewN ?_ _ | refine blk_drew ?_ | refine blk_alloc ?_ _)); exact BK838.out) hkp (fun hs_ => (fun e_ => (Kd.R_ne HO_846000.out BK838.out (by decide)) e_) hs_)); have n6_ := Aside0.mk (blk_kept (by (with_reducible repeat (first | refine blk_drewN ?_ _ | refine blk_drew ?_ | refine blk_alloc ?_ _)); exact BK845.out) hkp (fun hs_ => (fun e_ => (Kd.R_ne HO_846000.out BK845.out (by decide)) e_) hs_)); have n7_ := Aside0.mk (hb); clear HO_833000; clear HO_839000; clear HO_846000; clear BK819; clear BK832; clear BK838; clear BK845; clear HB; have HO_833000 := n0_; have HO_839000 := n1_; have HO_846000 := n2_; have BK819 := n3_; have BK832 := n4_; have BK838 := n5_; have BK845 := n6_; have HB := n7_; clear n0_ n1_ n2_ n3_ n4_ n5_ n6_ n7_; (try clear hb); (try clear hkp); (try clear hy0); have hcz173_0 : w172.cell? ⟨gb845, 0, none⟩ = some (.slice Ao32 t839.length co32) := (blk_cell BK845.out 0).trans rfl; have hcz173_1 : w172.cell? ⟨gb845, 1, none⟩ = some (.int .i64 t842) := (blk_cell BK845.out 1).trans rfl; have hcz173_2 : w172.cell? ⟨gb845, 2, none⟩ = some (.int .i64 t843) := (blk_cell BK845.out 2).trans rfl; have hfz173_0 := blk_frozen BK845.out 0; have hfz173_1 := blk_frozen BK845.out 1; have hfz173_2 := blk_frozen BK845.out 2) | ((with_reducible refine gate_callee (f := 25) rfl ?_); refine goesL_ (some 67) rfl rfl Try.func25 (by kernel_rfl) rfl #[.agg #[.slice Ao32 t857.length co32, .int .i64 t842, .int .i64 t843], .int .i64 1] rfl (by (try simp only [List.map_toArray, List.map_cons, List.map_nil]); first | done | (rw [show t857.length = t839.length from (Kd.R_reads' HO_846000.out).1.symm] <;> rfl) | rfl | (simp only [List.length_drop, List.length_take]; rfl)) ?_; (with_reducible refine (laws_heldPuzzle.calls kj59 _ _ t857 t842 t843 1 t858 _ ?side1 ?side2 A91.out).mono ?_); (case side1 => repeat (first | exact (Kd.R_reads' HO_846000.out).2.2 | (with_reducible refine Kd.C_alloc ?_ _) | (with_reducible refine Kd.C_drewN ?_ _) | (with_reducible refine Kd.C_drew ?_))); (case side2 => rw [show t857.length = t839.length from (Kd.R_reads' HO_846000.out).1.symm]; exact (Kd.R_reads' HO_846000.out).2.1); rintro e w174 ⟨rfl, hb⟩; refine ⟨_, rfl, ?_⟩; have n0_ := Aside0.mk (Kd.R_below (by (with_reducible repeat (first | apply Kd.R_alloc | apply Kd.R_drewN | apply Kd.R_drew)); exact HO_833000.out) hb); have n1_ := Aside0.mk (Kd.R_below (by (with_reducible repeat (first | apply Kd.R_alloc | apply Kd.R_drewN | apply Kd.R_drew)); exact HO_839000.out) hb); have n2_ := Aside0.mk (Kd.R_below (by (with_reducible repeat (first | apply Kd.R_alloc | apply Kd.R_drewN | apply Kd.R_drew)); exact HO_846000.out) hb); have n3_ := Aside0.mk (blk_below (g := gb819) (o := .cells #[.slice A0_0 l0_0.length c0_0, .int .i64 a0_1, .int .i64 a0_2] 24 (0, 0)) (by (with_reducible repeat (first | refine blk_drewN ?_ _ | refine blk_drew ?_ | refine blk_alloc ?_ _)); exact BK819.out) hb); have n4_ := Aside0.mk (blk_below (g := gb832) (o := .cells #[.slice Ao20 t826.length co20, .int .i64 t829, .int .i64 t830] 27 (0, 0)) (by (with_reducible repeat (first | refine blk_drewN ?_ _ | refine blk_drew ?_ | refine blk_alloc ?_ _)); exact BK832.out) hb); have n5_ := Aside0.mk (blk_below (g := gb838) (o := .cells #[.slice Ao26 t854.length co26, .int .i64 t836, .int .i64 t837] 27 (0, 0)) (by (with_reducible repeat (first | refine blk_drewN ?_ _ | refine blk_drew ?_ | refine blk_alloc ?_ _)); exact BK838.out) hb); have n6_ := Aside0.mk (blk_below (g := gb845) (o := .cells #[.slice Ao32 t839.length co32, .int .i64 t842, .int .i64 t843] 27 (0, 0)) (by (with_reducible repeat (first | refine blk_drewN ?_ _ | refine blk_drew ?_ | refine blk_alloc ?_ _)); exact BK845.out) hb); have n7_ := Aside0.mk (below_step (by repeat (first | (with_reducible first | exact HB.out | apply below_alloc | apply pw_below_drewN | apply below_drew1 | refine below_set ?_ GE819.out | refine below_set ?_ GE832.out | refine below_set ?_ GE838.out | refine below_set ?_ GE845.out) | exact HB.out)) hb); clear HO_833000; clear HO_839000; clear HO_846000; clear BK819; clear BK832; clear BK838; clear BK845; clear HB; have HO_833000 := n0_; have HO_839000 := n1_; have HO_846000 := n2_; have BK819 := n3_; have BK832 := n4_; have BK838 := n5_; have BK845 := n6_; have HB := n7_; clear n0_ n1_ n2_ n3_ n4_ n5_ n6_ n7_; (try clear hb); (try clear hb2); (try clear hk); (try clear hi)))
                      go_ret
                      exact ⟨by first | rfl | (simp [errW_none, errW_some] <;> rfl) | (simp [*, errW_none, errW_some] <;> rfl), by repeat (first | (with_reducible first | exact HB.out | apply below_alloc | apply pw_below_drewN | apply below_drew1 | refine below_set ?_ GE819.out | refine below_set ?_ GE832.out | refine below_set ?_ GE838.out | refine below_set ?_ GE845.out) | exact HB.out)⟩
          · replace c58 := Bool.eq_false_iff.mpr c58
            subst c58
            have H1 : (some false) = some r := by rw [if_neg (show ¬ (false = true) by decide)] at H; exact H
            clear H
            have H := H1
            clear H1
            obtain rfl := Option.some.inj H
            try go_wp2
            have n0_ := Aside0.mk (Kd.R_drew HO_833000.out)
            have n1_ := Aside0.mk (Kd.R_drew HO_839000.out)
            have n2_ := Aside0.mk (Kd.R_drew HO_846000.out)
            have n3_ := Aside0.mk (blk_drew BK819.out)
            have n4_ := Aside0.mk (blk_drew BK832.out)
            have n5_ := Aside0.mk (blk_drew BK838.out)
            have n6_ := Aside0.mk (blk_drew BK845.out)
            have n7_ := Aside0.mk (below_drew1 HB.out)
            clear HO_833000
            clear HO_839000
            clear HO_846000
            clear BK819
            clear BK832
            clear BK838
            clear BK845
            clear HB
            have HO_833000 := n0_
            have HO_839000 := n1_
            have HO_846000 := n2_
            have BK819 := n3_
            have BK832 := n4_
            have BK838 := n5_
            have BK845 := n6_
            have HB := n7_
            clear n0_ n1_ n2_ n3_ n4_ n5_ n6_ n7_
            refine start_ (n := 5) (S := fun w' => w'.cell? ⟨gb838, 0, none⟩ = some (.slice Ao26 t833.length co26) ∧ w'.cell? ⟨gb838, 1, none⟩ = some (.int .i64 t836) ∧ w'.cell? ⟨gb838, 2, none⟩ = some (.int .i64 t837) ∧ w'.cell? ⟨gb819, 0, none⟩ = some (.slice A0_0 l0_0.length c0_0) ∧ w'.cell? ⟨gb819, 1, none⟩ = some (.int .i64 a0_1) ∧ w'.cell? ⟨gb819, 2, none⟩ = some (.int .i64 a0_2)) (ds := []) #[false, false, false, false, false] (by kernel_rfl) rfl rfl ⟨(blk_cell BK838.out 0).trans rfl, (blk_cell BK838.out 1).trans rfl, (blk_cell BK838.out 2).trans rfl, (blk_cell BK819.out 0).trans rfl, (blk_cell BK819.out 1).trans rfl, (blk_cell BK819.out 2).trans rfl⟩ (fun hHeld => ?_)
            generalize wc.drew = w175 at HO_833000 HO_839000 HO_846000 BK819 BK832 BK838 BK845 HB hHeld ⊢
            refine take_ (i := 0) (N := some 41) (v := ?_) (a' := ?_) #[true, false, false, false, false] rfl rfl (by kernel_rfl) (fun _ _ _ h => h) (Or.inl ⟨by rfl, ?_⟩) hHeld ?_ ?_
            rotate_left
            · rintro w' ⟨s0, s1, s2, s3, s4, s5⟩
              go_simp
              with_reducible rfl
            rotate_left
            · simp only [Act.put, List.setIfInBounds_toArray, List.set_cons_zero, List.set_cons_succ, i64_w, i32_w]
              rfl
            refine take_ (i := 1) (N := some 42) (v := ?_) (a' := ?_) #[true, true, false, false, false] rfl rfl (by kernel_rfl) (fun _ _ _ h => h) (Or.inl ⟨by rfl, ?_⟩) hHeld ?_ ?_
            rotate_left
            · rintro w' ⟨s0, s1, s2, s3, s4, s5⟩
              go_simp
              with_reducible rfl
            rotate_left
            · simp only [Act.put, List.setIfInBounds_toArray, List.set_cons_zero, List.set_cons_succ, i64_w, i32_w]
              rfl
            refine one_ (i := 2) (N := some 43) #[true, true, true, false, false] rfl rfl (by kernel_rfl) (by decide) (fun K hK => ?_)
            refine goes_ Try.func17 (by kernel_rfl) rfl #[.agg #[.slice A0_0 l0_0.length c0_0, .int .i64 a0_1, .int .i64 a0_2]] (by rfl) rfl rfl (by (try simp only [List.map_toArray, List.map_cons, List.map_nil]); first | done | rfl | (simp only [List.length_drop, List.length_take]; rfl)) ?_
            with_reducible refine (laws_toPuzzle.calls kj10 _ _ l0_0 a0_1 a0_2 t847 t850 t851 _ ?side1 ?side2 A56.out).mono ?_
            (case side1 => repeat (first | exact (Kd.C_below HR0_0.out HB.out) | (with_reducible refine Kd.C_alloc ?_ _) | (with_reducible refine Kd.C_drewN ?_ _) | (with_reducible refine Kd.C_drew ?_)))
            (case side2 => exact HC0_0.out)
            rintro e w176 ⟨v848, rfl, ho0, hb⟩
            refine ⟨_, rfl, ?_⟩
            have n0_ := Aside0.mk (Kd.R_elder' (by (with_reducible repeat (first | apply Kd.R_alloc | apply Kd.R_drewN | apply Kd.R_drew)); exact HO_833000.out) (Kd.R_base ho0) hb)
            have n1_ := Aside0.mk (Kd.R_elder' (by (with_reducible repeat (first | apply Kd.R_alloc | apply Kd.R_drewN | apply Kd.R_drew)); exact HO_839000.out) (Kd.R_base ho0) hb)
            have n2_ := Aside0.mk (Kd.R_elder' (by (with_reducible repeat (first | apply Kd.R_alloc | apply Kd.R_drewN | apply Kd.R_drew)); exact HO_846000.out) (Kd.R_base ho0) hb)
            have n3_ := Aside0.mk (Kd.R_lower (Kd.R_new' (Kd.R_new' (Kd.R_new' ho0 (Kd.R_lt (by (with_reducible repeat (first | apply Kd.R_alloc | apply Kd.R_drewN | apply Kd.R_drew)); exact HO_833000.out))) (Kd.R_lt (by (with_reducible repeat (first | apply Kd.R_alloc | apply Kd.R_drewN | apply Kd.R_drew)); exact HO_839000.out))) (Kd.R_lt (by (with_reducible repeat (first | apply Kd.R_alloc | apply Kd.R_drewN | apply Kd.R_drew)); exact HO_846000.out))) (below_size (by repeat (first | (with_reducible first | exact HB.out | apply below_alloc | apply pw_below_drewN | apply below_drew1 | refine below_set ?_ GE819.out | refine below_set ?_ GE832.out | refine below_set ?_ GE838.out | refine below_set ?_ GE845.out) | exact HB.out))))
            have n4_ := Aside0.mk (blk_below (g := gb819) (o := .cells #[.slice A0_0 l0_0.length c0_0, .int .i64 a0_1, .int .i64 a0_2] 24 (0, 0)) (by (with_reducible repeat (first | refine blk_drewN ?_ _ | refine blk_drew ?_ | refine blk_alloc ?_ _)); exact BK819.out) hb)
            have n5_ := Aside0.mk (blk_below (g := gb832) (o := .cells #[.slice Ao20 t826.length co20, .int .i64 t829, .int .i64 t830] 27 (0, 0)) (by (with_reducible repeat (first | refine blk_drewN ?_ _ | refine blk_drew ?_ | refine blk_alloc ?_ _)); exact BK832.out) hb)
            have n6_ := Aside0.mk (blk_below (g := gb838) (o := .cells #[.slice Ao26 t833.length co26, .int .i64 t836, .int .i64 t837] 27 (0, 0)) (by (with_reducible repeat (first | refine blk_drewN ?_ _ | refine blk_drew ?_ | refine blk_alloc ?_ _)); exact BK838.out) hb)
            have n7_ := Aside0.mk (blk_below (g := gb845) (o := .cells #[.slice Ao32 t839.length co32, .int .i64 t842, .int .i64 t843] 27 (0, 0)) (by (with_reducible repeat (first | refine blk_drewN ?_ _ | refine blk_drew ?_ | refine blk_alloc ?_ _)); exact BK845.out) hb)
            have n8_ := Aside0.mk (below_step (by repeat (first | (with_reducible first | exact HB.out | apply below_alloc | apply pw_below_drewN | apply below_drew1 | refine below_set ?_ GE819.out | refine below_set ?_ GE832.out | refine below_set ?_ GE838.out | refine below_set ?_ GE845.out) | exact HB.out)) hb)
            clear HO_833000
            clear HO_839000
            clear HO_846000
            clear BK819
            clear BK832
            clear BK838
            clear BK845
            clear HB
            have HO_833000 := n0_
            have HO_839000 := n1_
            have HO_846000 := n2_
            have HO849 := n3_
            have BK819 := n4_
            have BK832 := n5_
            have BK838 := n6_
            have BK845 := n7_
            have HB := n8_
            clear n0_ n1_ n2_ n3_ n4_ n5_ n6_ n7_ n8_
            (try clear hb)
            (try clear hb2)
            (try clear hk)
            (try clear hi)
            (try clear ho0)
            obtain ⟨Ao177, co177, eo177⟩ := Kd.R_slice HO849.out
            (first | subst eo177 | (injection eo177 with f1_ f2_ f3_; have f4_ := f1_.symm; have f5_ := f3_.symm; clear f1_ f2_ f3_; subst f4_; subst f5_))
            refine hK.out _ _ ⟨(blk_cell BK838.out 0).trans rfl, (blk_cell BK838.out 1).trans rfl, (blk_cell BK838.out 2).trans rfl, (blk_cell BK819.out 0).trans rfl, (blk_cell BK819.out 1).trans rfl, (blk_cell BK819.out 2).trans rfl⟩ (fun hHeld => ?_)
            clear hK K
            refine norm_ (a' := ?_) ?_ ?_
            rotate_left
            · show Act.put _ (some 43) _ = _
              simp only [Act.put, List.setIfInBounds_toArray, List.set_cons_zero, List.set_cons_succ, i64_w, i32_w]
              rfl
            refine one_ (i := 3) (N := some 44) #[true, true, true, true, false] rfl rfl (by kernel_rfl) (by decide) (fun K hK => ?_)
            refine goes_ Try.func19 (by kernel_rfl) rfl #[.agg #[.slice Ao26 t833.length co26, .int .i64 t836, .int .i64 t837], .agg #[.slice Ao177 t847.length co177, .int .i64 t850, .int .i64 t851]] (by rfl) rfl rfl (by (try simp only [List.map_toArray, List.map_cons, List.map_nil]); first | done | rfl | (simp only [List.length_drop, List.length_take]; rfl)) ?_
            with_reducible refine (laws_eqPuzzle.calls kj10 _ _ t833 t836 t837 _ _ t847 t850 t851 false _ ?side1 ?side2 ?side3 ?side4 A57.out).mono ?_
            (case side1 => repeat (first | exact (Kd.R_reads' HO_839000.out).2.2 | (with_reducible refine Kd.C_alloc ?_ _) | (with_reducible refine Kd.C_drewN ?_ _) | (with_reducible refine Kd.C_drew ?_)))
            (case side2 => exact (Kd.R_reads' HO_839000.out).2.1)
            (case side3 => repeat (first | exact (Kd.R_reads' HO849.out).2.2 | (with_reducible refine Kd.C_alloc ?_ _) | (with_reducible refine Kd.C_drewN ?_ _) | (with_reducible refine Kd.C_drew ?_)))
            (case side4 => exact (Kd.R_reads' HO849.out).2.1)
            rintro e w178 ⟨rfl, hb⟩
            refine ⟨_, rfl, ?_⟩
            have n0_ := Aside0.mk (Kd.R_below (by (with_reducible repeat (first | apply Kd.R_alloc | apply Kd.R_drewN | apply Kd.R_drew)); exact HO_833000.out) hb)
            have n1_ := Aside0.mk (Kd.R_below (by (with_reducible repeat (first | apply Kd.R_alloc | apply Kd.R_drewN | apply Kd.R_drew)); exact HO_839000.out) hb)
            have n2_ := Aside0.mk (Kd.R_below (by (with_reducible repeat (first | apply Kd.R_alloc | apply Kd.R_drewN | apply Kd.R_drew)); exact HO_846000.out) hb)
            have n3_ := Aside0.mk (Kd.R_below (by (with_reducible repeat (first | apply Kd.R_alloc | apply Kd.R_drewN | apply Kd.R_drew)); exact HO849.out) hb)
            have n4_ := Aside0.mk (blk_below (g := gb819) (o := .cells #[.slice A0_0 l0_0.length c0_0, .int .i64 a0_1, .int .i64 a0_2] 24 (0, 0)) (by (with_reducible repeat (first | refine blk_drewN ?_ _ | refine blk_drew ?_ | refine blk_alloc ?_ _)); exact BK819.out) hb)
            have n5_ := Aside0.mk (blk_below (g := gb832) (o := .cells #[.slice Ao20 t826.length co20, .int .i64 t829, .int .i64 t830] 27 (0, 0)) (by (with_reducible repeat (first | refine blk_drewN ?_ _ | refine blk_drew ?_ | refine blk_alloc ?_ _)); exact BK832.out) hb)
            have n6_ := Aside0.mk (blk_below (g := gb838) (o := .cells #[.slice Ao26 t833.length co26, .int .i64 t836, .int .i64 t837] 27 (0, 0)) (by (with_reducible repeat (first | refine blk_drewN ?_ _ | refine blk_drew ?_ | refine blk_alloc ?_ _)); exact BK838.out) hb)
            have n7_ := Aside0.mk (blk_below (g := gb845) (o := .cells #[.slice Ao32 t839.length co32, .int .i64 t842, .int .i64 t843] 27 (0, 0)) (by (with_reducible repeat (first | refine blk_drewN ?_ _ | refine blk_drew ?_ | refine blk_alloc ?_ _)); exact BK845.out) hb)
            have n8_ := Aside0.mk (below_step (by repeat (first | (with_reducible first | exact HB.out | apply below_alloc | apply pw_below_drewN | apply below_drew1 | refine below_set ?_ GE819.out | refine below_set ?_ GE832.out | refine below_set ?_ GE838.out | refine below_set ?_ GE845.out) | exact HB.out)) hb)
            clear HO_833000
            clear HO_839000
            clear HO_846000
            clear HO849
            clear BK819
            clear BK832
            clear BK838
            clear BK845
            clear HB
            have HO_833000 := n0_
            have HO_839000 := n1_
            have HO_846000 := n2_
            have HO849 := n3_
            have BK819 := n4_
            have BK832 := n5_
            have BK838 := n6_
            have BK845 := n7_
            have HB := n8_
            clear n0_ n1_ n2_ n3_ n4_ n5_ n6_ n7_ n8_
            (try clear hb)
            (try clear hb2)
            (try clear hk)
            (try clear hi)
            refine hK.out _ _ ⟨(blk_cell BK838.out 0).trans rfl, (blk_cell BK838.out 1).trans rfl, (blk_cell BK838.out 2).trans rfl, (blk_cell BK819.out 0).trans rfl, (blk_cell BK819.out 1).trans rfl, (blk_cell BK819.out 2).trans rfl⟩ (fun hHeld => ?_)
            clear hK K
            refine norm_ (a' := ?_) ?_ ?_
            rotate_left
            · show Act.put _ (some 44) _ = _
              simp only [Act.put, List.setIfInBounds_toArray, List.set_cons_zero, List.set_cons_succ, i64_w, i32_w]
              rfl
            refine pure_ (i := 4) (N := some 45) (v := ?_) (a' := ?_) #[true, true, true, true, true] rfl rfl (by kernel_rfl) (fun _ _ _ h => h) (Or.inl ⟨by rfl, ?_⟩) ?_ ?_
            rotate_left
            · intro w'
              go_simp
              with_reducible rfl
            rotate_left
            · simp only [Act.put, List.setIfInBounds_toArray, List.set_cons_zero, List.set_cons_succ, i64_w, i32_w]
              rfl
            refine done_ (by kernel_rfl) ?_
            try go_wp2
            go_ret
            exact ⟨by first | rfl | (simp [errW_none, errW_some] <;> rfl) | (simp [*, errW_none, errW_some] <;> rfl), by repeat (first | (with_reducible first | exact HB.out | apply below_alloc | apply pw_below_drewN | apply below_drew1 | refine below_set ?_ GE819.out | refine below_set ?_ GE832.out | refine below_set ?_ GE838.out | refine below_set ?_ GE845.out) | exact HB.out)⟩

/-- The statement of laws_FnExactHarderPuzzle over numbers and lists. -/
def laws_FnExactHarderPuzzle.Pure : Prop := ∀ (l0_0 : List Int) (a0_1 : Int) (a0_2 : Int), l0_0.length ≤ maxLen → l0_0.length * 8 ≤ 140737488351232 → (∀ x ∈ l0_0, (Lit.int .i64 x).wf = true) → (Lit.int .i64 a0_1).wf = true → (Lit.int .i64 a0_2).wf = true → ∃ k, laws_FnExactHarderPuzzle.f k l0_0 a0_1 a0_2 = some true
theorem laws_FnExactHarderPuzzle.walk (P : laws_FnExactHarderPuzzle.Pure) (a0_0 : Option Addr) (len0_0 cap0_0 : Nat) (z0_0 : List Int) (a0_1 : Int) (a0_2 : Int) (w : World) (w0_0 : (a0_0 = none ∧ len0_0 = 0 ∧ cap0_0 = 0 ∧ z0_0 = []) ∨ ∃ x, a0_0 = some x ∧ len0_0 ≤ cap0_0 ∧ cap0_0 ≤ maxLen ∧ z0_0.length = cap0_0 ∧ (∀ i, i < z0_0.length → w.cell? (x.add i) = some (.int .i64 (z0_0.getD i 0))) ∧ ∀ n ∈ z0_0, (Lit.int .i64 n).wf = true) (y0_0 : len0_0 * 8 ≤ 140737488351232) (w0_1 : (Lit.int .i64 a0_1).wf = true) (w0_2 : (Lit.int .i64 a0_2).wf = true) :
    Calls Try.prog 14 #[.agg #[.slice a0_0 len0_0 cap0_0, .int .i64 a0_1, .int .i64 a0_2]] w fun e w' => e = .returned (.bool true) ∧ Below w.heap.size w w' := by
  obtain ⟨l0_0, rfl, hr0_0, hm0_0, hw0_0, hc0_0⟩ := ReadsInt.ofRowC w0_0
  obtain ⟨k, h⟩ := P l0_0 a0_1 a0_2 hm0_0 y0_0 hw0_0 w0_1 w0_2
  refine (laws_FnExactHarderPuzzle.calls k _ _ l0_0 a0_1 a0_2 true w (Kd.C_of_reads (d := (0 : Int)) (h1 := fun _ => rfl) hr0_0) hc0_0 h).mono ?_
  rintro e w' ⟨rfl, hd⟩
  exact ⟨rfl, hd⟩

noncomputable def laws_FnExactHarderPuzzle.J0 (x5 : Bool) (x8 : Bool) (x40 : Bool) (x820000 : List Int) (x820001 : Int) (x820002 : Int) (x833000 : List Int) (x833001 : Int) (x833002 : Int) (x839000 : List Int) (x839001 : Int) (x839002 : Int) (x846000 : List Int) (x846001 : Int) (x846002 : Int) : Option (Bool) := lim fun k => laws_FnExactHarderPuzzle.j0 k x5 x8 x40 x820000 x820001 x820002 x833000 x833001 x833002 x839000 x839001 x839002 x846000 x846001 x846002
theorem laws_FnExactHarderPuzzle.J0_lim (x5 : Bool) (x8 : Bool) (x40 : Bool) (x820000 : List Int) (x820001 : Int) (x820002 : Int) (x833000 : List Int) (x833001 : Int) (x833002 : Int) (x839000 : List Int) (x839001 : Int) (x839002 : Int) (x846000 : List Int) (x846001 : Int) (x846002 : Int) : Lim (fun k => laws_FnExactHarderPuzzle.j0 k x5 x8 x40 x820000 x820001 x820002 x833000 x833001 x833002 x839000 x839001 x839002 x846000 x846001 x846002) (laws_FnExactHarderPuzzle.J0 x5 x8 x40 x820000 x820001 x820002 x833000 x833001 x833002 x839000 x839001 x839002 x846000 x846001 x846002) := Lim.of fun k => (laws_FnExactHarderPuzzle.mono_l k).1 x5 x8 x40 x820000 x820001 x820002 x833000 x833001 x833002 x839000 x839001 x839002 x846000 x846001 x846002
noncomputable def laws_FnExactHarderPuzzle.J1 (x5 : Bool) (x61 : Bool) (x820000 : List Int) (x820001 : Int) (x820002 : Int) (x833000 : List Int) (x833001 : Int) (x833002 : Int) (x846000 : List Int) (x846001 : Int) (x846002 : Int) : Option (Bool) := lim fun k => laws_FnExactHarderPuzzle.j1 k x5 x61 x820000 x820001 x820002 x833000 x833001 x833002 x846000 x846001 x846002
theorem laws_FnExactHarderPuzzle.J1_lim (x5 : Bool) (x61 : Bool) (x820000 : List Int) (x820001 : Int) (x820002 : Int) (x833000 : List Int) (x833001 : Int) (x833002 : Int) (x846000 : List Int) (x846001 : Int) (x846002 : Int) : Lim (fun k => laws_FnExactHarderPuzzle.j1 k x5 x61 x820000 x820001 x820002 x833000 x833001 x833002 x846000 x846001 x846002) (laws_FnExactHarderPuzzle.J1 x5 x61 x820000 x820001 x820002 x833000 x833001 x833002 x846000 x846001 x846002) := Lim.of fun k => (laws_FnExactHarderPuzzle.mono_l k).2.1 x5 x61 x820000 x820001 x820002 x833000 x833001 x833002 x846000 x846001 x846002
noncomputable def laws_FnExactHarderPuzzle.J2 (x10 : Int) (x87 : Bool) (x846000 : List Int) (x846001 : Int) (x846002 : Int) : Option (Bool) := lim fun k => laws_FnExactHarderPuzzle.j2 k x10 x87 x846000 x846001 x846002
theorem laws_FnExactHarderPuzzle.J2_lim (x10 : Int) (x87 : Bool) (x846000 : List Int) (x846001 : Int) (x846002 : Int) : Lim (fun k => laws_FnExactHarderPuzzle.j2 k x10 x87 x846000 x846001 x846002) (laws_FnExactHarderPuzzle.J2 x10 x87 x846000 x846001 x846002) := Lim.of fun k => (laws_FnExactHarderPuzzle.mono_l k).2.2 x10 x87 x846000 x846001 x846002
noncomputable def laws_FnExactHarderPuzzle.F (l0_0 : List Int) (a0_1 : Int) (a0_2 : Int) : Option (Bool) := lim fun k => laws_FnExactHarderPuzzle.f k l0_0 a0_1 a0_2
theorem laws_FnExactHarderPuzzle.F_lim (l0_0 : List Int) (a0_1 : Int) (a0_2 : Int) : Lim (fun k => laws_FnExactHarderPuzzle.f k l0_0 a0_1 a0_2) (laws_FnExactHarderPuzzle.F l0_0 a0_1 a0_2) := Lim.of fun k => laws_FnExactHarderPuzzle.mono l0_0 a0_1 a0_2 k
theorem laws_FnExactHarderPuzzle.J0_eq (x5 : Bool) (x8 : Bool) (x40 : Bool) (x820000 : List Int) (x820001 : Int) (x820002 : Int) (x833000 : List Int) (x833001 : Int) (x833002 : Int) (x839000 : List Int) (x839001 : Int) (x839002 : Int) (x846000 : List Int) (x846001 : Int) (x846002 : Int) : laws_FnExactHarderPuzzle.J0 x5 x8 x40 x820000 x820001 x820002 x833000 x833001 x833002 x839000 x839001 x839002 x846000 x846001 x846002 = (if x40 = true then (some false) else ((laws_toPuzzle.F x820000 x820001 x820002).bind fun bt847 => ((laws_eqPuzzle.F x839000 x839001 x839002 bt847.1 bt847.2.1 bt847.2.2).bind fun t852 => (if t852 = true then ((laws_markPuzzle.F x839000 x839001 x839002 1).bind fun bt853 => (if bt853.1 < 0 then (laws_FnExactHarderPuzzle.J1 x5 true x820000 x820001 x820002 x833000 x833001 x833002 x846000 x846001 x846002) else ((laws_eqPuzzle.F x846000 x846001 x846002 x833000 x833001 x833002).bind fun t855 => (if t855 = true then (laws_FnExactHarderPuzzle.J1 x5 (x8 != x5) x820000 x820001 x820002 x833000 x833001 x833002 x846000 x846001 x846002) else (laws_FnExactHarderPuzzle.J1 x5 true x820000 x820001 x820002 x833000 x833001 x833002 x846000 x846001 x846002))))) else (some false))))) :=
  Lim.step (f := fun k => (if x40 = true then (some false) else ((laws_toPuzzle.f k x820000 x820001 x820002).bind fun bt847 => ((laws_eqPuzzle.f k x839000 x839001 x839002 bt847.1 bt847.2.1 bt847.2.2).bind fun t852 => (if t852 = true then ((laws_markPuzzle.f k x839000 x839001 x839002 1).bind fun bt853 => (if bt853.1 < 0 then (laws_FnExactHarderPuzzle.j1 k x5 true x820000 x820001 x820002 x833000 x833001 x833002 x846000 x846001 x846002) else ((laws_eqPuzzle.f k x846000 x846001 x846002 x833000 x833001 x833002).bind fun t855 => (if t855 = true then (laws_FnExactHarderPuzzle.j1 k x5 (x8 != x5) x820000 x820001 x820002 x833000 x833001 x833002 x846000 x846001 x846002) else (laws_FnExactHarderPuzzle.j1 k x5 true x820000 x820001 x820002 x833000 x833001 x833002 x846000 x846001 x846002))))) else (some false)))))) (laws_FnExactHarderPuzzle.J0_lim x5 x8 x40 x820000 x820001 x820002 x833000 x833001 x833002 x839000 x839001 x839002 x846000 x846001 x846002) (fun k => by first | rfl | rw [laws_FnExactHarderPuzzle.j0]) (by
    repeat' first
    | (with_reducible exact Lim.const _)
    | (with_reducible exact laws_FnExactHarderPuzzle.J1_lim _ _ _ _ _ _ _ _ _ _ _)
    | (with_reducible exact laws_eqPuzzle.F_lim _ _ _ _ _ _)
    | (with_reducible exact laws_markPuzzle.F_lim _ _ _ _)
    | (with_reducible exact laws_toPuzzle.F_lim _ _ _)
    | (with_reducible refine Lim.ite ?_ ?_)
    | (with_reducible refine Lim.bind ?_ (fun _ => ?_)))
theorem laws_FnExactHarderPuzzle.J1_eq (x5 : Bool) (x61 : Bool) (x820000 : List Int) (x820001 : Int) (x820002 : Int) (x833000 : List Int) (x833001 : Int) (x833002 : Int) (x846000 : List Int) (x846001 : Int) (x846002 : Int) : laws_FnExactHarderPuzzle.J1 x5 x61 x820000 x820001 x820002 x833000 x833001 x833002 x846000 x846001 x846002 = (if x61 = true then (some false) else ((laws_markPuzzle.F x846000 x846001 x846002 1).bind fun bt856 => ((laws_heldPuzzle.F bt856.2 x846001 x846002 1).bind fun t858 => (if t858 < 0 then (some false) else (if t858 = bt856.1 then ((laws_toPuzzle.F x820000 x820001 x820002).bind fun bt859 => ((impl_HarderPuzzle.F bt859.1 bt859.2.1 bt859.2.2).bind fun bt864 => ((laws_eqPuzzle.F bt864.1 bt864.2.1 bt864.2.2.1 x833000 x833001 x833002).bind fun t871 => (if t871 = true then (laws_FnExactHarderPuzzle.J2 bt856.1 (bt864.2.2.2 != x5) bt856.2 x846001 x846002) else (laws_FnExactHarderPuzzle.J2 bt856.1 true bt856.2 x846001 x846002))))) else (some false)))))) :=
  Lim.step (f := fun k => (if x61 = true then (some false) else ((laws_markPuzzle.f k x846000 x846001 x846002 1).bind fun bt856 => ((laws_heldPuzzle.f k bt856.2 x846001 x846002 1).bind fun t858 => (if t858 < 0 then (some false) else (if t858 = bt856.1 then ((laws_toPuzzle.f k x820000 x820001 x820002).bind fun bt859 => ((impl_HarderPuzzle.f k bt859.1 bt859.2.1 bt859.2.2).bind fun bt864 => ((laws_eqPuzzle.f k bt864.1 bt864.2.1 bt864.2.2.1 x833000 x833001 x833002).bind fun t871 => (if t871 = true then (laws_FnExactHarderPuzzle.j2 k bt856.1 (bt864.2.2.2 != x5) bt856.2 x846001 x846002) else (laws_FnExactHarderPuzzle.j2 k bt856.1 true bt856.2 x846001 x846002))))) else (some false))))))) (laws_FnExactHarderPuzzle.J1_lim x5 x61 x820000 x820001 x820002 x833000 x833001 x833002 x846000 x846001 x846002) (fun k => by first | rfl | rw [laws_FnExactHarderPuzzle.j1]) (by
    repeat' first
    | (with_reducible exact Lim.const _)
    | (with_reducible exact impl_HarderPuzzle.F_lim _ _ _)
    | (with_reducible exact laws_FnExactHarderPuzzle.J2_lim _ _ _ _ _)
    | (with_reducible exact laws_eqPuzzle.F_lim _ _ _ _ _ _)
    | (with_reducible exact laws_heldPuzzle.F_lim _ _ _ _)
    | (with_reducible exact laws_markPuzzle.F_lim _ _ _ _)
    | (with_reducible exact laws_toPuzzle.F_lim _ _ _)
    | (with_reducible refine Lim.ite ?_ ?_)
    | (with_reducible refine Lim.bind ?_ (fun _ => ?_)))
theorem laws_FnExactHarderPuzzle.J2_eq (x10 : Int) (x87 : Bool) (x846000 : List Int) (x846001 : Int) (x846002 : Int) : laws_FnExactHarderPuzzle.J2 x10 x87 x846000 x846001 x846002 = (if x87 = true then (some false) else ((laws_heldPuzzle.F x846000 x846001 x846002 1).bind fun t872 => (if t872 < 0 then (some false) else (if t872 = x10 then (some true) else (some false))))) :=
  Lim.step (f := fun k => (if x87 = true then (some false) else ((laws_heldPuzzle.f k x846000 x846001 x846002 1).bind fun t872 => (if t872 < 0 then (some false) else (if t872 = x10 then (some true) else (some false)))))) (laws_FnExactHarderPuzzle.J2_lim x10 x87 x846000 x846001 x846002) (fun k => by first | rfl | rw [laws_FnExactHarderPuzzle.j2]) (by
    repeat' first
    | (with_reducible exact Lim.const _)
    | (with_reducible exact laws_heldPuzzle.F_lim _ _ _ _)
    | (with_reducible refine Lim.ite ?_ ?_)
    | (with_reducible refine Lim.bind ?_ (fun _ => ?_)))
theorem laws_FnExactHarderPuzzle.F_eq (l0_0 : List Int) (a0_1 : Int) (a0_2 : Int) : laws_FnExactHarderPuzzle.F l0_0 a0_1 a0_2 = ((laws_szPuzzle.f l0_0 a0_1 a0_2 1048576).bind fun t820 => (if t820 < 0 then (some true) else ((laws_toPuzzle.F l0_0 a0_1 a0_2).bind fun bt821 => ((spec_HarderPuzzle.F bt821.1 bt821.2.1 bt821.2.2).bind fun bt826 => ((laws_toPuzzle.F l0_0 a0_1 a0_2).bind fun bt833 => ((impl_HarderPuzzle.F bt833.1 bt833.2.1 bt833.2.2).bind fun bt839 => ((laws_eqPuzzle.F bt839.1 bt839.2.1 bt839.2.2.1 bt826.1 bt826.2.1 bt826.2.2.1).bind fun t846 => (if t846 = true then (laws_FnExactHarderPuzzle.J0 bt826.2.2.2 bt839.2.2.2 (bt839.2.2.2 != bt826.2.2.2) l0_0 a0_1 a0_2 bt826.1 bt826.2.1 bt826.2.2.1 bt833.1 bt833.2.1 bt833.2.2 bt839.1 bt839.2.1 bt839.2.2.1) else (laws_FnExactHarderPuzzle.J0 bt826.2.2.2 bt839.2.2.2 true l0_0 a0_1 a0_2 bt826.1 bt826.2.1 bt826.2.2.1 bt833.1 bt833.2.1 bt833.2.2 bt839.1 bt839.2.1 bt839.2.2.1))))))))) :=
  Lim.unique (laws_FnExactHarderPuzzle.F_lim l0_0 a0_1 a0_2) (by
    unfold laws_FnExactHarderPuzzle.f
    repeat' first
    | (with_reducible exact Lim.const _)
    | (with_reducible exact impl_HarderPuzzle.F_lim _ _ _)
    | (with_reducible exact laws_FnExactHarderPuzzle.J0_lim _ _ _ _ _ _ _ _ _ _ _ _ _ _ _)
    | (with_reducible exact laws_eqPuzzle.F_lim _ _ _ _ _ _)
    | (with_reducible exact laws_toPuzzle.F_lim _ _ _)
    | (with_reducible exact spec_HarderPuzzle.F_lim _ _ _)
    | (with_reducible refine Lim.ite ?_ ?_)
    | (with_reducible refine Lim.bind ?_ (fun _ => ?_)))

end Go.Proofs.Ytjfhcddahahdfaa.Fn
