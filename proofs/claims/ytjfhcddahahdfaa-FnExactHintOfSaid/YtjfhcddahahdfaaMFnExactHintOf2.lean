/- The machine's side and plain lemmas for FnExactHintOf: texts of this session, merged by its program (part 2). -/
import Derived.Test.YtjfhcddahahdfaaMFnExactHintOf0
import Derived.Test.YtjfhcddahahdfaaMFnExactHintOf1
namespace Go.Proofs.Ytjfhcddahahdfaa.Fn
open Go.RowKit Go.Proofs.YtjfhcddahahdfaaW.PrintWords Go.Proofs.YtjfhcddahahdfaaW.PrintLast Go.Proofs.YtjfhcddahahdfaaW.PrintMore
attribute [local go_sem] max2_int min2_int max_two min_two max_three min_three max_four min_four   -- for this text's walks alone
set_option linter.unusedVariables false
set_option linter.unusedSimpArgs false

/-! ### laws_FnExactHintOf: function 11 -/
def laws_FnExactHintOf.j0 : Nat → Bool → List Int → Int → Int → List Int → Int → Int → Option (Bool)
  | 0, _, _, _, _, _, _, _ => none
  | k + 1, x43, x654000, x654001, x654002, x669000, x669001, x669002 => if x43 = true then (some false) else ((laws_toPuzzle.f k x654000 x654001 x654002).bind fun bt672 => ((laws_eqPuzzle.f k x669000 x669001 x669002 bt672.1 bt672.2.1 bt672.2.2).bind fun t677 => (if t677 = true then (some true) else (some false))))
def laws_FnExactHintOf.f (k : Nat) (l0_0 : List Int) (a0_1 : Int) (a0_2 : Int) : Option (Bool) := (laws_szPuzzle.f l0_0 a0_1 a0_2 1048576).bind fun t654 => (if t654 < 0 then (some true) else ((laws_toPuzzle.f k l0_0 a0_1 a0_2).bind fun bt655 => ((spec_HintOf.f k bt655.1 bt655.2.1 bt655.2.2).bind fun bt660 => ((laws_toPuzzle.f k l0_0 a0_1 a0_2).bind fun bt663 => ((impl_HintOf.f k bt663.1 bt663.2.1 bt663.2.2).bind fun bt669 => (if bt669.1 = bt660.1 then (if bt669.2.1 = bt660.2.1 then (laws_FnExactHintOf.j0 k (bt669.2.2 != bt660.2.2) l0_0 a0_1 a0_2 bt663.1 bt663.2.1 bt663.2.2) else (laws_FnExactHintOf.j0 k true l0_0 a0_1 a0_2 bt663.1 bt663.2.1 bt663.2.2)) else (laws_FnExactHintOf.j0 k true l0_0 a0_1 a0_2 bt663.1 bt663.2.1 bt663.2.2)))))))
theorem laws_FnExactHintOf.mono_l : ∀ k, (∀ y0 y1 y2 y3 y4 y5 y6, LeO (laws_FnExactHintOf.j0 k y0 y1 y2 y3 y4 y5 y6) (laws_FnExactHintOf.j0 (k + 1) y0 y1 y2 y3 y4 y5 y6))
  | 0 => fun _ _ _ _ _ _ _ r h => by simp [laws_FnExactHintOf.j0] at h
  | k + 1 => by
    have ih0 := laws_FnExactHintOf.mono_l k
    · intro y0 y1 y2 y3 y4 y5 y6
      unfold laws_FnExactHintOf.j0
      repeat' first
      | (with_reducible exact ih0 _ _ _ _ _ _ _)
      | (with_reducible exact impl_HintOf.mono _ _ _ _)
      | (with_reducible exact laws_eqPuzzle.mono _ _ _ _ _ _ _)
      | (with_reducible exact laws_toPuzzle.mono _ _ _ _)
      | (with_reducible exact spec_HintOf.mono _ _ _ _)
      | (with_reducible exact LeO.refl _)
      | (with_reducible exact LeO.none _)
      | (with_reducible refine LeO.ite ?_ ?_)
      | (with_reducible refine LeO.bind ?_ (fun _ => ?_))
      | exact ih0 _ _ _ _ _ _ _
      | exact impl_HintOf.mono _ _ _ _
      | exact laws_eqPuzzle.mono _ _ _ _ _ _ _
      | exact laws_toPuzzle.mono _ _ _ _
      | exact spec_HintOf.mono _ _ _ _
      | exact LeO.none _
      | refine LeO.ite ?_ ?_
      | refine LeO.bind ?_ (fun _ => ?_)
theorem laws_FnExactHintOf.mono : ∀ a0 a1 a2 k, LeO (laws_FnExactHintOf.f k a0 a1 a2) (laws_FnExactHintOf.f (k + 1) a0 a1 a2) := by
  intro a0 a1 a2 k
  have ih0 := laws_FnExactHintOf.mono_l k
  unfold laws_FnExactHintOf.f
  repeat' first
      | (with_reducible exact ih0 _ _ _ _ _ _ _)
      | (with_reducible exact impl_HintOf.mono _ _ _ _)
      | (with_reducible exact laws_eqPuzzle.mono _ _ _ _ _ _ _)
      | (with_reducible exact laws_toPuzzle.mono _ _ _ _)
      | (with_reducible exact spec_HintOf.mono _ _ _ _)
      | (with_reducible exact LeO.refl _)
      | (with_reducible exact LeO.none _)
      | (with_reducible refine LeO.ite ?_ ?_)
      | (with_reducible refine LeO.bind ?_ (fun _ => ?_))
      | exact ih0 _ _ _ _ _ _ _
      | exact impl_HintOf.mono _ _ _ _
      | exact laws_eqPuzzle.mono _ _ _ _ _ _ _
      | exact laws_toPuzzle.mono _ _ _ _
      | exact spec_HintOf.mono _ _ _ _
      | exact LeO.none _
      | refine LeO.ite ?_ ?_
      | refine LeO.bind ?_ (fun _ => ?_)
set_option maxHeartbeats 8000000 in
set_option maxRecDepth 100000 in
theorem laws_FnExactHintOf.calls (k : Nat) (A0_0 : Option Addr) (c0_0 : Nat) (l0_0 : List Int) (a0_1 : Int) (a0_2 : Int) (r : Bool) (w : World) (hr0_0 : Kd.C (Kd.int .i64) w A0_0 l0_0.length l0_0) (hc0_0 : l0_0.length ≤ c0_0) (h : laws_FnExactHintOf.f k l0_0 a0_1 a0_2 = some r) :
    Calls Try.prog 11 #[.agg #[.slice A0_0 l0_0.length c0_0, .int .i64 a0_1, .int .i64 a0_2]] w fun e w' => e = .returned (.bool r) ∧ Below w.heap.size w w' := by
  have hu24 := Try.underlying24
  have hu27 := Try.underlying27
  have HR0_0 := Aside0.mk hr0_0
  have HC0_0 := Aside0.mk hc0_0
  clear hr0_0 hc0_0
  have HB := Aside0.mk (Below.refl w.heap.size w)
  have H : ((laws_szPuzzle.f l0_0 a0_1 a0_2 1048576).bind fun t654 => (if t654 < 0 then (some true) else ((laws_toPuzzle.f k l0_0 a0_1 a0_2).bind fun bt655 => ((spec_HintOf.f k bt655.1 bt655.2.1 bt655.2.2).bind fun bt660 => ((laws_toPuzzle.f k l0_0 a0_1 a0_2).bind fun bt663 => ((impl_HintOf.f k bt663.1 bt663.2.1 bt663.2.2).bind fun bt669 => (if bt669.1 = bt660.1 then (if bt669.2.1 = bt660.2.1 then (laws_FnExactHintOf.j0 k (bt669.2.2 != bt660.2.2) l0_0 a0_1 a0_2 bt663.1 bt663.2.1 bt663.2.2) else (laws_FnExactHintOf.j0 k true l0_0 a0_1 a0_2 bt663.1 bt663.2.1 bt663.2.2)) else (laws_FnExactHintOf.j0 k true l0_0 a0_1 a0_2 bt663.1 bt663.2.1 bt663.2.2)))))))) = some r := h
  clear h
  replace H := Option.bind_eq_some_iff.mp H
  obtain ⟨t654, A20, H⟩ := H
  replace H : (if t654 < 0 then (some true) else ((laws_toPuzzle.f k l0_0 a0_1 a0_2).bind fun bt655 => ((spec_HintOf.f k bt655.1 bt655.2.1 bt655.2.2).bind fun bt660 => ((laws_toPuzzle.f k l0_0 a0_1 a0_2).bind fun bt663 => ((impl_HintOf.f k bt663.1 bt663.2.1 bt663.2.2).bind fun bt669 => (if bt669.1 = bt660.1 then (if bt669.2.1 = bt660.2.1 then (laws_FnExactHintOf.j0 k (bt669.2.2 != bt660.2.2) l0_0 a0_1 a0_2 bt663.1 bt663.2.1 bt663.2.2) else (laws_FnExactHintOf.j0 k true l0_0 a0_1 a0_2 bt663.1 bt663.2.1 bt663.2.2)) else (laws_FnExactHintOf.j0 k true l0_0 a0_1 a0_2 bt663.1 bt663.2.1 bt663.2.2))))))) = some r := H
  have A2 := Aside0.mk A20
  clear A20
  by_cases c3 : t654 < 0
  · rw [if_pos c3] at H
    have c3b0 : decide (t654 < 0) = true := decide_eq_true c3
    clear c3
    obtain rfl := Option.some.inj H
    go_enter Try.func11, Try.ntmps11
    go_wp2_with (first | ((with_reducible refine gate_dst (N := 1) rfl ?_); refine box_event ?hg (N := 1) ?hd (cs := #[.slice A0_0 l0_0.length c0_0, .int .i64 a0_1, .int .i64 a0_2]) (t := 24) ?hr ?_; (case hd => rfl); (case hg => rfl); (case hr => first | (go_simp; done) | (go_simp; rfl)); intro gb653 hg w4 hbox hb; have n0_ := Aside0.mk (below_step (by repeat (first | (with_reducible first | exact HB.out | apply below_alloc | apply pw_below_drewN | apply below_drew1) | exact HB.out)) hb); have n1_ := Aside0.mk (hbox); have n2_ := Aside0.mk ((by rw [hg]; exact (below_size (by repeat (first | (with_reducible first | exact HB.out | apply below_alloc | apply pw_below_drewN | apply below_drew1) | exact HB.out))) : w.heap.size ≤ gb653)); have n3_ := Aside0.mk ((by rw [hg]; exact (below_size (by repeat (first | (with_reducible first | exact HB.out | apply below_alloc | apply pw_below_drewN | apply below_drew1) | exact HB.out))) : w.heap.size ≤ gb653)); clear HB; have HB := n0_; have BK653 := n1_; have GW653 := n2_; have GE653 := n3_; clear n0_ n1_ n2_ n3_; clear hb hbox hg; have hcz5_0 : w4.cell? ⟨gb653, 0, none⟩ = some (.slice A0_0 l0_0.length c0_0) := (blk_cell BK653.out 0).trans rfl; have hcz5_1 : w4.cell? ⟨gb653, 1, none⟩ = some (.int .i64 a0_1) := (blk_cell BK653.out 1).trans rfl; have hcz5_2 : w4.cell? ⟨gb653, 2, none⟩ = some (.int .i64 a0_2) := (blk_cell BK653.out 2).trans rfl; have hfz5_0 := blk_frozen BK653.out 0; have hfz5_1 := blk_frozen BK653.out 1; have hfz5_2 := blk_frozen BK653.out 2) | ((with_reducible refine gate_callee (f := 15) rfl ?_); refine goesL_ (some 13) rfl rfl Try.func15 (by kernel_rfl) rfl #[.agg #[.slice A0_0 l0_0.length c0_0, .int .i64 a0_1, .int .i64 a0_2], .int .i64 1048576] rfl (by (try simp only [List.map_toArray, List.map_cons, List.map_nil]); first | done | rfl | (simp only [List.length_drop, List.length_take]; rfl)) ?_; (with_reducible refine (laws_szPuzzle.calls _ _ l0_0 a0_1 a0_2 1048576 t654 _ ?side1 ?side2 A2.out).mono ?_); (case side1 => repeat (first | exact (Kd.C_below HR0_0.out HB.out) | (with_reducible refine Kd.C_alloc ?_ _) | (with_reducible refine Kd.C_drewN ?_ _) | (with_reducible refine Kd.C_drew ?_))); (case side2 => exact HC0_0.out); rintro e w6 ⟨rfl, hb⟩; refine ⟨_, rfl, ?_⟩; have n0_ := Aside0.mk (blk_below (g := gb653) (o := .cells #[.slice A0_0 l0_0.length c0_0, .int .i64 a0_1, .int .i64 a0_2] 24 (0, 0)) (by (with_reducible repeat (first | refine blk_drewN ?_ _ | refine blk_drew ?_ | refine blk_alloc ?_ _)); exact BK653.out) hb); have n1_ := Aside0.mk (below_step (by repeat (first | (with_reducible first | exact HB.out | apply below_alloc | apply pw_below_drewN | apply below_drew1 | refine below_set ?_ GE653.out) | exact HB.out)) hb); clear BK653; clear HB; have BK653 := n0_; have HB := n1_; clear n0_ n1_; (try clear hb); (try clear hb2); (try clear hk); (try clear hi)))
    go_ret
    exact ⟨by first | rfl | (simp [errW_none, errW_some] <;> rfl) | (simp [*, errW_none, errW_some] <;> rfl), by repeat (first | (with_reducible first | exact HB.out | apply below_alloc | apply pw_below_drewN | apply below_drew1 | refine below_set ?_ GE653.out) | exact HB.out)⟩
  · rw [if_neg c3] at H
    have c3b0 : decide (t654 < 0) = false := decide_eq_false c3
    clear c3
    replace H := Option.bind_eq_some_iff.mp H
    obtain ⟨⟨t655, t658, t659⟩, A70, H⟩ := H
    replace H : ((spec_HintOf.f k t655 t658 t659).bind fun bt660 => ((laws_toPuzzle.f k l0_0 a0_1 a0_2).bind fun bt663 => ((impl_HintOf.f k bt663.1 bt663.2.1 bt663.2.2).bind fun bt669 => (if bt669.1 = bt660.1 then (if bt669.2.1 = bt660.2.1 then (laws_FnExactHintOf.j0 k (bt669.2.2 != bt660.2.2) l0_0 a0_1 a0_2 bt663.1 bt663.2.1 bt663.2.2) else (laws_FnExactHintOf.j0 k true l0_0 a0_1 a0_2 bt663.1 bt663.2.1 bt663.2.2)) else (laws_FnExactHintOf.j0 k true l0_0 a0_1 a0_2 bt663.1 bt663.2.1 bt663.2.2))))) = some r := H
    have A7 := Aside0.mk A70
    clear A70
    replace H := Option.bind_eq_some_iff.mp H
    obtain ⟨⟨t660, t661, t662⟩, A80, H⟩ := H
    replace H : ((laws_toPuzzle.f k l0_0 a0_1 a0_2).bind fun bt663 => ((impl_HintOf.f k bt663.1 bt663.2.1 bt663.2.2).bind fun bt669 => (if bt669.1 = t660 then (if bt669.2.1 = t661 then (laws_FnExactHintOf.j0 k (bt669.2.2 != t662) l0_0 a0_1 a0_2 bt663.1 bt663.2.1 bt663.2.2) else (laws_FnExactHintOf.j0 k true l0_0 a0_1 a0_2 bt663.1 bt663.2.1 bt663.2.2)) else (laws_FnExactHintOf.j0 k true l0_0 a0_1 a0_2 bt663.1 bt663.2.1 bt663.2.2)))) = some r := H
    have A8 := Aside0.mk A80
    clear A80
    replace H := Option.bind_eq_some_iff.mp H
    obtain ⟨⟨t663, t666, t667⟩, A90, H⟩ := H
    replace H : ((impl_HintOf.f k t663 t666 t667).bind fun bt669 => (if bt669.1 = t660 then (if bt669.2.1 = t661 then (laws_FnExactHintOf.j0 k (bt669.2.2 != t662) l0_0 a0_1 a0_2 t663 t666 t667) else (laws_FnExactHintOf.j0 k true l0_0 a0_1 a0_2 t663 t666 t667)) else (laws_FnExactHintOf.j0 k true l0_0 a0_1 a0_2 t663 t666 t667))) = some r := H
    have A9 := Aside0.mk A90
    clear A90
    replace H := Option.bind_eq_some_iff.mp H
    obtain ⟨⟨t669, t670, t671⟩, A100, H⟩ := H
    replace H : (if t669 = t660 then (if t670 = t661 then (laws_FnExactHintOf.j0 k (t671 != t662) l0_0 a0_1 a0_2 t663 t666 t667) else (laws_FnExactHintOf.j0 k true l0_0 a0_1 a0_2 t663 t666 t667)) else (laws_FnExactHintOf.j0 k true l0_0 a0_1 a0_2 t663 t666 t667)) = some r := H
    have A10 := Aside0.mk A100
    clear A100
    have HC11 := Aside0.mk H
    clear H
    go_enter Try.func11, Try.ntmps11
    go_upto_region 8 with (first | ((with_reducible refine gate_dst (N := 1) rfl ?_); refine box_event ?hg (N := 1) ?hd (cs := #[.slice A0_0 l0_0.length c0_0, .int .i64 a0_1, .int .i64 a0_2]) (t := 24) ?hr ?_; (case hd => rfl); (case hg => rfl); (case hr => first | (go_simp; done) | (go_simp; rfl)); intro gb653 hg w12 hbox hb; have n0_ := Aside0.mk (below_step (by repeat (first | (with_reducible first | exact HB.out | apply below_alloc | apply pw_below_drewN | apply below_drew1) | exact HB.out)) hb); have n1_ := Aside0.mk (hbox); have n2_ := Aside0.mk ((by rw [hg]; exact (below_size (by repeat (first | (with_reducible first | exact HB.out | apply below_alloc | apply pw_below_drewN | apply below_drew1) | exact HB.out))) : w.heap.size ≤ gb653)); have n3_ := Aside0.mk ((by rw [hg]; exact (below_size (by repeat (first | (with_reducible first | exact HB.out | apply below_alloc | apply pw_below_drewN | apply below_drew1) | exact HB.out))) : w.heap.size ≤ gb653)); clear HB; have HB := n0_; have BK653 := n1_; have GW653 := n2_; have GE653 := n3_; clear n0_ n1_ n2_ n3_; clear hb hbox hg; have hcz13_0 : w12.cell? ⟨gb653, 0, none⟩ = some (.slice A0_0 l0_0.length c0_0) := (blk_cell BK653.out 0).trans rfl; have hcz13_1 : w12.cell? ⟨gb653, 1, none⟩ = some (.int .i64 a0_1) := (blk_cell BK653.out 1).trans rfl; have hcz13_2 : w12.cell? ⟨gb653, 2, none⟩ = some (.int .i64 a0_2) := (blk_cell BK653.out 2).trans rfl; have hfz13_0 := blk_frozen BK653.out 0; have hfz13_1 := blk_frozen BK653.out 1; have hfz13_2 := blk_frozen BK653.out 2) | ((with_reducible refine gate_callee (f := 15) rfl ?_); refine goesL_ (some 13) rfl rfl Try.func15 (by kernel_rfl) rfl #[.agg #[.slice A0_0 l0_0.length c0_0, .int .i64 a0_1, .int .i64 a0_2], .int .i64 1048576] rfl (by (try simp only [List.map_toArray, List.map_cons, List.map_nil]); first | done | rfl | (simp only [List.length_drop, List.length_take]; rfl)) ?_; (with_reducible refine (laws_szPuzzle.calls _ _ l0_0 a0_1 a0_2 1048576 t654 _ ?side1 ?side2 A2.out).mono ?_); (case side1 => repeat (first | exact (Kd.C_below HR0_0.out HB.out) | (with_reducible refine Kd.C_alloc ?_ _) | (with_reducible refine Kd.C_drewN ?_ _) | (with_reducible refine Kd.C_drew ?_))); (case side2 => exact HC0_0.out); rintro e w14 ⟨rfl, hb⟩; refine ⟨_, rfl, ?_⟩; have n0_ := Aside0.mk (blk_below (g := gb653) (o := .cells #[.slice A0_0 l0_0.length c0_0, .int .i64 a0_1, .int .i64 a0_2] 24 (0, 0)) (by (with_reducible repeat (first | refine blk_drewN ?_ _ | refine blk_drew ?_ | refine blk_alloc ?_ _)); exact BK653.out) hb); have n1_ := Aside0.mk (below_step (by repeat (first | (with_reducible first | exact HB.out | apply below_alloc | apply pw_below_drewN | apply below_drew1 | refine below_set ?_ GE653.out) | exact HB.out)) hb); clear BK653; clear HB; have BK653 := n0_; have HB := n1_; clear n0_ n1_; (try clear hb); (try clear hb2); (try clear hk); (try clear hi); have hcz15_0 : w14.cell? ⟨gb653, 0, none⟩ = some (.slice A0_0 l0_0.length c0_0) := (blk_cell BK653.out 0).trans rfl; have hcz15_1 : w14.cell? ⟨gb653, 1, none⟩ = some (.int .i64 a0_1) := (blk_cell BK653.out 1).trans rfl; have hcz15_2 : w14.cell? ⟨gb653, 2, none⟩ = some (.int .i64 a0_2) := (blk_cell BK653.out 2).trans rfl; have hfz15_0 := blk_frozen BK653.out 0; have hfz15_1 := blk_frozen BK653.out 1; have hfz15_2 := blk_frozen BK653.out 2) | ((with_reducible refine gate_callee (f := 17) rfl ?_); refine goesL_ (some 18) rfl rfl Try.func17 (by kernel_rfl) rfl #[.agg #[.slice A0_0 l0_0.length c0_0, .int .i64 a0_1, .int .i64 a0_2]] rfl (by (try simp only [List.map_toArray, List.map_cons, List.map_nil]); first | done | rfl | (simp only [List.length_drop, List.length_take]; rfl)) ?_; (with_reducible refine (laws_toPuzzle.calls k _ _ l0_0 a0_1 a0_2 t655 t658 t659 _ ?side1 ?side2 A7.out).mono ?_); (case side1 => repeat (first | exact (Kd.C_below HR0_0.out HB.out) | (with_reducible refine Kd.C_alloc ?_ _) | (with_reducible refine Kd.C_drewN ?_ _) | (with_reducible refine Kd.C_drew ?_))); (case side2 => exact HC0_0.out); rintro e w16 ⟨v656, rfl, ho0, hb⟩; refine ⟨_, rfl, ?_⟩; have n0_ := Aside0.mk (Kd.R_lower ho0 (below_size (by repeat (first | (with_reducible first | exact HB.out | apply below_alloc | apply pw_below_drewN | apply below_drew1 | refine below_set ?_ GE653.out) | exact HB.out)))); have n1_ := Aside0.mk (blk_below (g := gb653) (o := .cells #[.slice A0_0 l0_0.length c0_0, .int .i64 a0_1, .int .i64 a0_2] 24 (0, 0)) (by (with_reducible repeat (first | refine blk_drewN ?_ _ | refine blk_drew ?_ | refine blk_alloc ?_ _)); exact BK653.out) hb); have n2_ := Aside0.mk (below_step (by repeat (first | (with_reducible first | exact HB.out | apply below_alloc | apply pw_below_drewN | apply below_drew1 | refine below_set ?_ GE653.out) | exact HB.out)) hb); clear BK653; clear HB; have HO657 := n0_; have BK653 := n1_; have HB := n2_; clear n0_ n1_ n2_; (try clear hb); (try clear hb2); (try clear hk); (try clear hi); (try clear ho0); obtain ⟨Ao17, co17, eo17⟩ := Kd.R_slice HO657.out; subst eo17) | ((with_reducible refine gate_callee (f := 40) rfl ?_); refine goesL_ (some 19) rfl rfl Try.func40 (by kernel_rfl) rfl #[.agg #[.slice Ao17 t655.length co17, .int .i64 t658, .int .i64 t659]] rfl (by (try simp only [List.map_toArray, List.map_cons, List.map_nil]); first | done | rfl | (simp only [List.length_drop, List.length_take]; rfl)) ?_; (with_reducible refine (spec_HintOf.calls k _ _ t655 t658 t659 t660 t661 t662 _ ?side1 ?side2 A8.out).mono ?_); (case side1 => repeat (first | exact (Kd.R_reads' HO657.out).2.2 | (with_reducible refine Kd.C_alloc ?_ _) | (with_reducible refine Kd.C_drewN ?_ _) | (with_reducible refine Kd.C_drew ?_))); (case side2 => exact (Kd.R_reads' HO657.out).2.1); rintro e w18 ⟨rfl, hb⟩; refine ⟨_, rfl, ?_⟩; have n0_ := Aside0.mk (Kd.R_below (by (with_reducible repeat (first | apply Kd.R_alloc | apply Kd.R_drewN | apply Kd.R_drew)); exact HO657.out) hb); have n1_ := Aside0.mk (blk_below (g := gb653) (o := .cells #[.slice A0_0 l0_0.length c0_0, .int .i64 a0_1, .int .i64 a0_2] 24 (0, 0)) (by (with_reducible repeat (first | refine blk_drewN ?_ _ | refine blk_drew ?_ | refine blk_alloc ?_ _)); exact BK653.out) hb); have n2_ := Aside0.mk (below_step (by repeat (first | (with_reducible first | exact HB.out | apply below_alloc | apply pw_below_drewN | apply below_drew1 | refine below_set ?_ GE653.out) | exact HB.out)) hb); clear HO657; clear BK653; clear HB; have HO657 := n0_; have BK653 := n1_; have HB := n2_; clear n0_ n1_ n2_; (try clear hb); (try clear hb2); (try clear hk); (try clear hi); have hcz19_0 : w18.cell? ⟨gb653, 0, none⟩ = some (.slice A0_0 l0_0.length c0_0) := (blk_cell BK653.out 0).trans rfl; have hcz19_1 : w18.cell? ⟨gb653, 1, none⟩ = some (.int .i64 a0_1) := (blk_cell BK653.out 1).trans rfl; have hcz19_2 : w18.cell? ⟨gb653, 2, none⟩ = some (.int .i64 a0_2) := (blk_cell BK653.out 2).trans rfl; have hfz19_0 := blk_frozen BK653.out 0; have hfz19_1 := blk_frozen BK653.out 1; have hfz19_2 := blk_frozen BK653.out 2) | ((with_reducible refine gate_callee (f := 17) rfl ?_); refine goesL_ (some 24) rfl rfl Try.func17 (by kernel_rfl) rfl #[.agg #[.slice A0_0 l0_0.length c0_0, .int .i64 a0_1, .int .i64 a0_2]] rfl (by (try simp only [List.map_toArray, List.map_cons, List.map_nil]); first | done | rfl | (simp only [List.length_drop, List.length_take]; rfl)) ?_; (with_reducible refine (laws_toPuzzle.calls k _ _ l0_0 a0_1 a0_2 t663 t666 t667 _ ?side1 ?side2 A9.out).mono ?_); (case side1 => repeat (first | exact (Kd.C_below HR0_0.out HB.out) | (with_reducible refine Kd.C_alloc ?_ _) | (with_reducible refine Kd.C_drewN ?_ _) | (with_reducible refine Kd.C_drew ?_))); (case side2 => exact HC0_0.out); rintro e w20 ⟨v664, rfl, ho0, hb⟩; refine ⟨_, rfl, ?_⟩; have n0_ := Aside0.mk (Kd.R_elder' (by (with_reducible repeat (first | apply Kd.R_alloc | apply Kd.R_drewN | apply Kd.R_drew)); exact HO657.out) (Kd.R_base ho0) hb); have n1_ := Aside0.mk (Kd.R_lower (Kd.R_new' ho0 (Kd.R_lt (by (with_reducible repeat (first | apply Kd.R_alloc | apply Kd.R_drewN | apply Kd.R_drew)); exact HO657.out))) (below_size (by repeat (first | (with_reducible first | exact HB.out | apply below_alloc | apply pw_below_drewN | apply below_drew1 | refine below_set ?_ GE653.out) | exact HB.out)))); have n2_ := Aside0.mk (blk_below (g := gb653) (o := .cells #[.slice A0_0 l0_0.length c0_0, .int .i64 a0_1, .int .i64 a0_2] 24 (0, 0)) (by (with_reducible repeat (first | refine blk_drewN ?_ _ | refine blk_drew ?_ | refine blk_alloc ?_ _)); exact BK653.out) hb); have n3_ := Aside0.mk (below_step (by repeat (first | (with_reducible first | exact HB.out | apply below_alloc | apply pw_below_drewN | apply below_drew1 | refine below_set ?_ GE653.out) | exact HB.out)) hb); clear HO657; clear BK653; clear HB; have HO657 := n0_; have HO665 := n1_; have BK653 := n2_; have HB := n3_; clear n0_ n1_ n2_ n3_; (try clear hb); (try clear hb2); (try clear hk); (try clear hi); (try clear ho0)) | ((with_reducible refine gate_dst (N := 7) rfl ?_); refine box_event ?hg (N := 7) ?hd (cs := #[.slice none 0 0, .int .i64 0, .int .i64 0]) (t := 27) ?hr ?_; (case hd => rfl); (case hg => rfl); (case hr => first | (go_simp; done) | (go_simp; rfl)); intro gb668 hg w21 hbox hb; have n0_ := Aside0.mk (Kd.R_below (by (with_reducible repeat (first | apply Kd.R_alloc | apply Kd.R_drewN | apply Kd.R_drew)); exact HO657.out) hb); have n1_ := Aside0.mk (Kd.R_below (by (with_reducible repeat (first | apply Kd.R_alloc | apply Kd.R_drewN | apply Kd.R_drew)); exact HO665.out) hb); have n2_ := Aside0.mk (blk_below (g := gb653) (o := .cells #[.slice A0_0 l0_0.length c0_0, .int .i64 a0_1, .int .i64 a0_2] 24 (0, 0)) (by (with_reducible repeat (first | refine blk_drewN ?_ _ | refine blk_drew ?_ | refine blk_alloc ?_ _)); exact BK653.out) hb); have n3_ := Aside0.mk (below_step (by repeat (first | (with_reducible first | exact HB.out | apply below_alloc | apply pw_below_drewN | apply below_drew1 | refine below_set ?_ GE653.out) | exact HB.out)) hb); have n4_ := Aside0.mk (hbox); have n5_ := Aside0.mk ((by rw [hg]; exact (below_size (by repeat (first | (with_reducible first | exact HB.out | apply below_alloc | apply pw_below_drewN | apply below_drew1 | refine below_set ?_ GE653.out) | exact HB.out))) : w.heap.size ≤ gb668)); have n6_ := Aside0.mk ((by rw [hg]; exact (below_size (by repeat (first | (with_reducible first | exact HB.out | apply below_alloc | apply pw_below_drewN | apply below_drew1 | refine below_set ?_ GE653.out) | exact HB.out))) : w.heap.size ≤ gb668)); have n7_ := Aside0.mk ((by rw [hg]; exact Nat.ne_of_lt (blk_lt (g := gb653) (o := .cells #[.slice A0_0 l0_0.length c0_0, .int .i64 a0_1, .int .i64 a0_2] 24 (0, 0)) (by (with_reducible repeat (first | refine blk_drewN ?_ _ | refine blk_drew ?_ | refine blk_alloc ?_ _)); exact BK653.out)) : gb653 ≠ gb668)); have n8_ := Aside0.mk ((by rw [hg]; exact Nat.ne_of_gt (blk_lt (g := gb653) (o := .cells #[.slice A0_0 l0_0.length c0_0, .int .i64 a0_1, .int .i64 a0_2] 24 (0, 0)) (by (with_reducible repeat (first | refine blk_drewN ?_ _ | refine blk_drew ?_ | refine blk_alloc ?_ _)); exact BK653.out)) : gb668 ≠ gb653)); clear HO657; clear HO665; clear BK653; clear HB; have HO657 := n0_; have HO665 := n1_; have BK653 := n2_; have HB := n3_; have BK668 := n4_; have GW668 := n5_; have GE668 := n6_; have NB653_668 := n7_; have NB668_653 := n8_; clear n0_ n1_ n2_ n3_ n4_ n5_ n6_ n7_ n8_; clear hb hbox hg; obtain ⟨Ao22, co22, eo22⟩ := Kd.R_slice HO665.out; subst eo22; have hnb23 := NB668_653.out; have hnc23 := NB653_668.out; have hcz24_0 : w21.cell? ⟨gb668, 0, none⟩ = some (.slice none 0 0) := (blk_cell BK668.out 0).trans rfl; have hcz24_1 : w21.cell? ⟨gb668, 1, none⟩ = some (.int .i64 0) := (blk_cell BK668.out 1).trans rfl; have hcz24_2 : w21.cell? ⟨gb668, 2, none⟩ = some (.int .i64 0) := (blk_cell BK668.out 2).trans rfl; have hfz24_0 := blk_frozen BK668.out 0; have hfz24_1 := blk_frozen BK668.out 1; have hfz24_2 := blk_frozen BK668.out 2) | ((with_reducible refine gate_callee (f := 41) rfl ?_); refine goesL_ (some 27) rfl rfl Try.func41 (by kernel_rfl) rfl #[.agg #[.slice Ao22 t663.length co22, .int .i64 t666, .int .i64 t667]] rfl (by (try simp only [List.map_toArray, List.map_cons, List.map_nil]); first | done | rfl | (simp only [List.length_drop, List.length_take]; rfl)) ?_; (with_reducible refine (impl_HintOf.calls k _ _ t663 t666 t667 t669 t670 t671 _ ?side1 ?side2 A10.out).mono ?_); (case side1 => refine (Kd.R_reads' (e := 3) (base := w.heap.size) (ok := fun k_ => (True ∧ some k_ ≠ (.slice Ao17 t655.length co17 : Value).ownBlock)) (n := t663.length) (c := co22) ?_).2.2; exact (by (with_reducible repeat (first | apply Kd.R_alloc | apply Kd.R_drewN | apply Kd.R_drew)); exact (Kd.R_mono (Kd.R_far (p := ⟨gb668, 2, none⟩) (Kd.R_far (p := ⟨gb668, 1, none⟩) (Kd.R_far (p := ⟨gb668, 0, none⟩) (Kd.R_types HO665.out BK668.out (by decide)) (fun _ hk => hk.2) (.slice Ao22 t663.length co22)) (fun _ hk => hk.2) (.int .i64 t666)) (fun _ hk => hk.2) (.int .i64 t667)) (fun _ h_ => h_.1)))); (case side2 => exact (Kd.R_reads' HO665.out).2.1); rintro e w25 ⟨rfl, hb⟩; refine ⟨_, rfl, ?_⟩; have n0_ := Aside0.mk (Kd.R_below (by (with_reducible repeat (first | apply Kd.R_alloc | apply Kd.R_drewN | apply Kd.R_drew)); exact (Kd.R_mono (Kd.R_far (p := ⟨gb668, 2, none⟩) (Kd.R_far (p := ⟨gb668, 1, none⟩) (Kd.R_far (p := ⟨gb668, 0, none⟩) (Kd.R_types HO657.out BK668.out (by decide)) (fun _ hk => hk.2) (.slice Ao22 t663.length co22)) (fun _ hk => hk.2) (.int .i64 t666)) (fun _ hk => hk.2) (.int .i64 t667)) (fun _ h_ => h_.1))) hb); have n1_ := Aside0.mk (Kd.R_below (by (with_reducible repeat (first | apply Kd.R_alloc | apply Kd.R_drewN | apply Kd.R_drew)); exact (Kd.R_mono (Kd.R_far (p := ⟨gb668, 2, none⟩) (Kd.R_far (p := ⟨gb668, 1, none⟩) (Kd.R_far (p := ⟨gb668, 0, none⟩) (Kd.R_types HO665.out BK668.out (by decide)) (fun _ hk => hk.2) (.slice Ao22 t663.length co22)) (fun _ hk => hk.2) (.int .i64 t666)) (fun _ hk => hk.2) (.int .i64 t667)) (fun _ h_ => h_.1))) hb); have n2_ := Aside0.mk (blk_below (g := gb653) (o := .cells #[.slice A0_0 l0_0.length c0_0, .int .i64 a0_1, .int .i64 a0_2] 24 (0, 0)) (by (with_reducible repeat (first | refine blk_drewN ?_ _ | refine blk_drew ?_ | refine blk_alloc ?_ _)); refine blk_far ?_ NB653_668.out _; (with_reducible repeat (first | refine blk_drewN ?_ _ | refine blk_drew ?_ | refine blk_alloc ?_ _)); refine blk_far ?_ NB653_668.out _; (with_reducible repeat (first | refine blk_drewN ?_ _ | refine blk_drew ?_ | refine blk_alloc ?_ _)); refine blk_far ?_ NB653_668.out _; (with_reducible repeat (first | refine blk_drewN ?_ _ | refine blk_drew ?_ | refine blk_alloc ?_ _)); exact BK653.out) hb); have n3_ := Aside0.mk (blk_below (g := gb668) (o := .cells #[.slice Ao22 t663.length co22, .int .i64 t666, .int .i64 t667] 27 (0, 0)) (by (with_reducible repeat (first | refine blk_drewN ?_ _ | refine blk_drew ?_ | refine blk_alloc ?_ _)); refine blk_put (cs := #[.slice Ao22 t663.length co22, .int .i64 t666, .int .i64 0]) ?_ 2 _ rfl; (with_reducible repeat (first | refine blk_drewN ?_ _ | refine blk_drew ?_ | refine blk_alloc ?_ _)); refine blk_put (cs := #[.slice Ao22 t663.length co22, .int .i64 0, .int .i64 0]) ?_ 1 _ rfl; (with_reducible repeat (first | refine blk_drewN ?_ _ | refine blk_drew ?_ | refine blk_alloc ?_ _)); refine blk_put (cs := #[.slice none 0 0, .int .i64 0, .int .i64 0]) ?_ 0 _ rfl; (with_reducible repeat (first | refine blk_drewN ?_ _ | refine blk_drew ?_ | refine blk_alloc ?_ _)); exact BK668.out) hb); have n4_ := Aside0.mk (below_step (by repeat (first | (with_reducible first | exact HB.out | apply below_alloc | apply pw_below_drewN | apply below_drew1 | refine below_set ?_ GE653.out | refine below_set ?_ GE668.out) | exact HB.out)) hb); clear HO657; clear HO665; clear BK653; clear BK668; clear HB; have HO657 := n0_; have HO665 := n1_; have BK653 := n2_; have BK668 := n3_; have HB := n4_; clear n0_ n1_ n2_ n3_ n4_; (try clear hb); (try clear hb2); (try clear hk); (try clear hi)))
    (try simp only [Act.put, List.setIfInBounds_toArray, List.set_cons_zero, List.set_cons_succ])
    go_cut [43] (fun v43 wc => ∃ (kq : Nat) (x43_10 : Bool), v43 = .bool x43_10 ∧ Aside0 (laws_FnExactHintOf.j0 kq x43_10 l0_0 a0_1 a0_2 t663 t666 t667 = some r) ∧ Aside0 (kq ≤ k) ∧ Aside0 (Kd.R (Kd.int .i64) 3 wc w.heap.size (fun _ => True) (.slice Ao22 t663.length co22) t663) ∧ Aside0 (wc.heap[gb653]? = some (.cells #[(.slice A0_0 l0_0.length c0_0), .int .i64 a0_1, .int .i64 a0_2] 24 (0, 0))) ∧ Aside0 (wc.heap[gb668]? = some (.cells #[(.slice Ao22 t663.length co22), .int .i64 t666, .int .i64 t667] 27 (0, 0))) ∧ Aside0 (Below w.heap.size w wc))
    case first =>
      have H := HC11.out
      clear HC11
      by_cases c26 : t669 = t660
      · rw [if_pos c26] at H
        have c26b0 : (t669 == t660) = true := beq_iff_eq.mpr c26
        have c26b1 : (t669 != t660) = false := bne_eq_false_iff_eq.mpr c26
        clear c26
        (first | rw [c26b0] | (simp only [i64_w, i32_w]; rw [c26b0]) | skip)
        by_cases c27 : t670 = t661
        · rw [if_pos c27] at H
          have c27b0 : (t670 == t661) = true := beq_iff_eq.mpr c27
          have c27b1 : (t670 != t661) = false := bne_eq_false_iff_eq.mpr c27
          clear c27
          have H' := Aside0.mk H
          clear H
          go_wp2
          go_meet
          case rel => exact ⟨_, ((t671 != t662)), (by first | rfl | (simp; done) | (simp [*]; done)), H', ⟨by first | omega | exact Nat.le_refl _⟩, ⟨by (with_reducible repeat (first | apply Kd.R_alloc | apply Kd.R_drewN | apply Kd.R_drew)); exact Kd.R_mono HO665.out (fun _ hk => trivial)⟩, ⟨by (with_reducible repeat (first | refine blk_drewN ?_ _ | refine blk_drew ?_ | refine blk_alloc ?_ _)); exact BK653.out⟩, ⟨by (with_reducible repeat (first | refine blk_drewN ?_ _ | refine blk_drew ?_ | refine blk_alloc ?_ _)); exact BK668.out⟩, ⟨by repeat (first | (with_reducible first | exact HB.out | apply below_alloc | apply pw_below_drewN | apply below_drew1 | refine below_set ?_ GE653.out | refine below_set ?_ GE668.out) | exact HB.out)⟩⟩
        · rw [if_neg c27] at H
          have c27b0 : (t670 == t661) = false := beq_eq_false_iff_ne.mpr c27
          have c27b1 : (t670 != t661) = true := bne_iff_ne.mpr c27
          have H' := Aside0.mk H
          clear H
          go_wp2
          go_meet
          case rel => exact ⟨_, (true), (by first | rfl | (simp; done) | (simp [*]; done)), H', ⟨by first | omega | exact Nat.le_refl _⟩, ⟨by (with_reducible repeat (first | apply Kd.R_alloc | apply Kd.R_drewN | apply Kd.R_drew)); exact Kd.R_mono HO665.out (fun _ hk => trivial)⟩, ⟨by (with_reducible repeat (first | refine blk_drewN ?_ _ | refine blk_drew ?_ | refine blk_alloc ?_ _)); exact BK653.out⟩, ⟨by (with_reducible repeat (first | refine blk_drewN ?_ _ | refine blk_drew ?_ | refine blk_alloc ?_ _)); exact BK668.out⟩, ⟨by repeat (first | (with_reducible first | exact HB.out | apply below_alloc | apply pw_below_drewN | apply below_drew1 | refine below_set ?_ GE653.out | refine below_set ?_ GE668.out) | exact HB.out)⟩⟩
      · rw [if_neg c26] at H
        have c26b0 : (t669 == t660) = false := beq_eq_false_iff_ne.mpr c26
        have c26b1 : (t669 != t660) = true := bne_iff_ne.mpr c26
        (first | rw [c26b0] | (simp only [i64_w, i32_w]; rw [c26b0]) | skip)
        have H' := Aside0.mk H
        clear H
        go_wp2
        go_meet
        case rel => exact ⟨_, (true), (by first | rfl | (simp; done) | (simp [*]; done)), H', ⟨by first | omega | exact Nat.le_refl _⟩, ⟨by (with_reducible repeat (first | apply Kd.R_alloc | apply Kd.R_drewN | apply Kd.R_drew)); exact Kd.R_mono HO665.out (fun _ hk => trivial)⟩, ⟨by (with_reducible repeat (first | refine blk_drewN ?_ _ | refine blk_drew ?_ | refine blk_alloc ?_ _)); exact BK653.out⟩, ⟨by (with_reducible repeat (first | refine blk_drewN ?_ _ | refine blk_drew ?_ | refine blk_alloc ?_ _)); exact BK668.out⟩, ⟨by repeat (first | (with_reducible first | exact HB.out | apply below_alloc | apply pw_below_drewN | apply below_drew1 | refine below_set ?_ GE653.out | refine below_set ?_ GE668.out) | exact HB.out)⟩⟩
    case rest =>
      clear HC11
      try clear c1
      try clear c2
      try clear p2
      try clear c3
      try clear c3b0
      try clear c4
      try clear c11
      try clear c15
      try clear c17
      try clear c23
      try clear c26
      try clear c26b0
      try clear c26b1
      try clear c27
      try clear c27b0
      try clear c27b1
      try clear hcz13_0
      try clear hcz13_1
      try clear hcz13_2
      try clear hcz15_0
      try clear hcz15_1
      try clear hcz15_2
      try clear hcz19_0
      try clear hcz19_1
      try clear hcz19_2
      try clear hcz24_0
      try clear hcz24_1
      try clear hcz24_2
      try clear hcz5_0
      try clear hcz5_1
      try clear hcz5_2
      try clear hfz13_0
      try clear hfz13_1
      try clear hfz13_2
      try clear hfz15_0
      try clear hfz15_1
      try clear hfz15_2
      try clear hfz19_0
      try clear hfz19_1
      try clear hfz19_2
      try clear hfz24_0
      try clear hfz24_1
      try clear hfz24_2
      try clear hfz5_0
      try clear hfz5_1
      try clear hfz5_2
      obtain ⟨kq, x43_10, rfl, HA, HJ10, HO_669000, BK653, BK668, HB⟩ := hcut
      cases kq with
      | zero => exact absurd HA.out (by simp [laws_FnExactHintOf.j0])
      | succ kj10 =>
        have H := HA.out
        clear HA
        simp only [laws_FnExactHintOf.j0] at H
        by_cases c28 : x43_10 = true
        · subst c28
          have H1 : (some false) = some r := by rw [if_pos rfl] at H; exact H
          clear H
          have H := H1
          clear H1
          obtain rfl := Option.some.inj H
          go_wp2
          go_ret
          exact ⟨by first | rfl | (simp [errW_none, errW_some] <;> rfl) | (simp [*, errW_none, errW_some] <;> rfl), by repeat (first | (with_reducible first | exact HB.out | apply below_alloc | apply pw_below_drewN | apply below_drew1 | refine below_set ?_ GE653.out | refine below_set ?_ GE668.out) | exact HB.out)⟩
        · replace c28 := Bool.eq_false_iff.mpr c28
          subst c28
          have H1 : ((laws_toPuzzle.f kj10 l0_0 a0_1 a0_2).bind fun bt672 => ((laws_eqPuzzle.f kj10 t663 t666 t667 bt672.1 bt672.2.1 bt672.2.2).bind fun t677 => (if t677 = true then (some true) else (some false)))) = some r := by rw [if_neg (show ¬ (false = true) by decide)] at H; exact H
          clear H
          have H := H1
          clear H1
          replace H := Option.bind_eq_some_iff.mp H
          obtain ⟨⟨t672, t675, t676⟩, A290, H⟩ := H
          replace H : ((laws_eqPuzzle.f kj10 t663 t666 t667 t672 t675 t676).bind fun t677 => (if t677 = true then (some true) else (some false))) = some r := H
          have A29 := Aside0.mk A290
          clear A290
          replace H := Option.bind_eq_some_iff.mp H
          obtain ⟨t677, A300, H⟩ := H
          replace H : (if t677 = true then (some true) else (some false)) = some r := H
          have A30 := Aside0.mk A300
          clear A300
          by_cases c31 : t677 = true
          · subst c31
            have H1 : (some true) = some r := by rw [if_pos rfl] at H; exact H
            clear H
            have H := H1
            clear H1
            obtain rfl := Option.some.inj H
            try go_wp2
            have n0_ := Aside0.mk (Kd.R_drew HO_669000.out)
            have n1_ := Aside0.mk (blk_drew BK653.out)
            have n2_ := Aside0.mk (blk_drew BK668.out)
            have n3_ := Aside0.mk (below_drew1 HB.out)
            clear HO_669000
            clear BK653
            clear BK668
            clear HB
            have HO_669000 := n0_
            have BK653 := n1_
            have BK668 := n2_
            have HB := n3_
            clear n0_ n1_ n2_ n3_
            refine start_ (n := 5) (S := fun w' => w'.cell? ⟨gb668, 0, none⟩ = some (.slice Ao22 t663.length co22) ∧ w'.cell? ⟨gb668, 1, none⟩ = some (.int .i64 t666) ∧ w'.cell? ⟨gb668, 2, none⟩ = some (.int .i64 t667) ∧ w'.cell? ⟨gb653, 0, none⟩ = some (.slice A0_0 l0_0.length c0_0) ∧ w'.cell? ⟨gb653, 1, none⟩ = some (.int .i64 a0_1) ∧ w'.cell? ⟨gb653, 2, none⟩ = some (.int .i64 a0_2)) (ds := []) #[false, false, false, false, false] (by kernel_rfl) rfl rfl ⟨(blk_cell BK668.out 0).trans rfl, (blk_cell BK668.out 1).trans rfl, (blk_cell BK668.out 2).trans rfl, (blk_cell BK653.out 0).trans rfl, (blk_cell BK653.out 1).trans rfl, (blk_cell BK653.out 2).trans rfl⟩ (fun hHeld => ?_)
            generalize wc.drew = w32 at HO_669000 BK653 BK668 HB hHeld ⊢
            refine take_ (i := 0) (N := some 44) (v := ?_) (a' := ?_) #[true, false, false, false, false] rfl rfl (by kernel_rfl) (fun _ _ _ h => h) (Or.inl ⟨by rfl, ?_⟩) hHeld ?_ ?_
            rotate_left
            · rintro w' ⟨s0, s1, s2, s3, s4, s5⟩
              go_simp
              with_reducible rfl
            rotate_left
            · simp only [Act.put, List.setIfInBounds_toArray, List.set_cons_zero, List.set_cons_succ, i64_w, i32_w]
              rfl
            refine take_ (i := 1) (N := some 45) (v := ?_) (a' := ?_) #[true, true, false, false, false] rfl rfl (by kernel_rfl) (fun _ _ _ h => h) (Or.inl ⟨by rfl, ?_⟩) hHeld ?_ ?_
            rotate_left
            · rintro w' ⟨s0, s1, s2, s3, s4, s5⟩
              go_simp
              with_reducible rfl
            rotate_left
            · simp only [Act.put, List.setIfInBounds_toArray, List.set_cons_zero, List.set_cons_succ, i64_w, i32_w]
              rfl
            refine one_ (i := 2) (N := some 46) #[true, true, true, false, false] rfl rfl (by kernel_rfl) (by decide) (fun K hK => ?_)
            refine goes_ Try.func17 (by kernel_rfl) rfl #[.agg #[.slice A0_0 l0_0.length c0_0, .int .i64 a0_1, .int .i64 a0_2]] (by rfl) rfl rfl (by (try simp only [List.map_toArray, List.map_cons, List.map_nil]); first | done | rfl | (simp only [List.length_drop, List.length_take]; rfl)) ?_
            with_reducible refine (laws_toPuzzle.calls kj10 _ _ l0_0 a0_1 a0_2 t672 t675 t676 _ ?side1 ?side2 A29.out).mono ?_
            (case side1 => repeat (first | exact (Kd.C_below HR0_0.out HB.out) | (with_reducible refine Kd.C_alloc ?_ _) | (with_reducible refine Kd.C_drewN ?_ _) | (with_reducible refine Kd.C_drew ?_)))
            (case side2 => exact HC0_0.out)
            rintro e w33 ⟨v673, rfl, ho0, hb⟩
            refine ⟨_, rfl, ?_⟩
            have n0_ := Aside0.mk (Kd.R_elder' (by (with_reducible repeat (first | apply Kd.R_alloc | apply Kd.R_drewN | apply Kd.R_drew)); exact HO_669000.out) (Kd.R_base ho0) hb)
            have n1_ := Aside0.mk (Kd.R_lower (Kd.R_new' ho0 (Kd.R_lt (by (with_reducible repeat (first | apply Kd.R_alloc | apply Kd.R_drewN | apply Kd.R_drew)); exact HO_669000.out))) (below_size (by repeat (first | (with_reducible first | exact HB.out | apply below_alloc | apply pw_below_drewN | apply below_drew1 | refine below_set ?_ GE653.out | refine below_set ?_ GE668.out) | exact HB.out))))
            have n2_ := Aside0.mk (blk_below (g := gb653) (o := .cells #[.slice A0_0 l0_0.length c0_0, .int .i64 a0_1, .int .i64 a0_2] 24 (0, 0)) (by (with_reducible repeat (first | refine blk_drewN ?_ _ | refine blk_drew ?_ | refine blk_alloc ?_ _)); exact BK653.out) hb)
            have n3_ := Aside0.mk (blk_below (g := gb668) (o := .cells #[.slice Ao22 t663.length co22, .int .i64 t666, .int .i64 t667] 27 (0, 0)) (by (with_reducible repeat (first | refine blk_drewN ?_ _ | refine blk_drew ?_ | refine blk_alloc ?_ _)); exact BK668.out) hb)
            have n4_ := Aside0.mk (below_step (by repeat (first | (with_reducible first | exact HB.out | apply below_alloc | apply pw_below_drewN | apply below_drew1 | refine below_set ?_ GE653.out | refine below_set ?_ GE668.out) | exact HB.out)) hb)
            clear HO_669000
            clear BK653
            clear BK668
            clear HB
            have HO_669000 := n0_
            have HO674 := n1_
            have BK653 := n2_
            have BK668 := n3_
            have HB := n4_
            clear n0_ n1_ n2_ n3_ n4_
            (try clear hb)
            (try clear hb2)
            (try clear hk)
            (try clear hi)
            (try clear ho0)
            obtain ⟨Ao34, co34, eo34⟩ := Kd.R_slice HO674.out
            (first | subst eo34 | (injection eo34 with f1_ f2_ f3_; have f4_ := f1_.symm; have f5_ := f3_.symm; clear f1_ f2_ f3_; subst f4_; subst f5_))
            refine hK.out _ _ ⟨(blk_cell BK668.out 0).trans rfl, (blk_cell BK668.out 1).trans rfl, (blk_cell BK668.out 2).trans rfl, (blk_cell BK653.out 0).trans rfl, (blk_cell BK653.out 1).trans rfl, (blk_cell BK653.out 2).trans rfl⟩ (fun hHeld => ?_)
            clear hK K
            refine norm_ (a' := ?_) ?_ ?_
            rotate_left
            · show Act.put _ (some 46) _ = _
              simp only [Act.put, List.setIfInBounds_toArray, List.set_cons_zero, List.set_cons_succ, i64_w, i32_w]
              rfl
            refine one_ (i := 3) (N := some 47) #[true, true, true, true, false] rfl rfl (by kernel_rfl) (by decide) (fun K hK => ?_)
            refine goes_ Try.func19 (by kernel_rfl) rfl #[.agg #[.slice Ao22 t663.length co22, .int .i64 t666, .int .i64 t667], .agg #[.slice Ao34 t672.length co34, .int .i64 t675, .int .i64 t676]] (by rfl) rfl rfl (by (try simp only [List.map_toArray, List.map_cons, List.map_nil]); first | done | rfl | (simp only [List.length_drop, List.length_take]; rfl)) ?_
            with_reducible refine (laws_eqPuzzle.calls kj10 _ _ t663 t666 t667 _ _ t672 t675 t676 true _ ?side1 ?side2 ?side3 ?side4 A30.out).mono ?_
            (case side1 => repeat (first | exact (Kd.R_reads' HO_669000.out).2.2 | (with_reducible refine Kd.C_alloc ?_ _) | (with_reducible refine Kd.C_drewN ?_ _) | (with_reducible refine Kd.C_drew ?_)))
            (case side2 => exact (Kd.R_reads' HO_669000.out).2.1)
            (case side3 => repeat (first | exact (Kd.R_reads' HO674.out).2.2 | (with_reducible refine Kd.C_alloc ?_ _) | (with_reducible refine Kd.C_drewN ?_ _) | (with_reducible refine Kd.C_drew ?_)))
            (case side4 => exact (Kd.R_reads' HO674.out).2.1)
            rintro e w35 ⟨rfl, hb⟩
            refine ⟨_, rfl, ?_⟩
            have n0_ := Aside0.mk (Kd.R_below (by (with_reducible repeat (first | apply Kd.R_alloc | apply Kd.R_drewN | apply Kd.R_drew)); exact HO_669000.out) hb)
            have n1_ := Aside0.mk (Kd.R_below (by (with_reducible repeat (first | apply Kd.R_alloc | apply Kd.R_drewN | apply Kd.R_drew)); exact HO674.out) hb)
            have n2_ := Aside0.mk (blk_below (g := gb653) (o := .cells #[.slice A0_0 l0_0.length c0_0, .int .i64 a0_1, .int .i64 a0_2] 24 (0, 0)) (by (with_reducible repeat (first | refine blk_drewN ?_ _ | refine blk_drew ?_ | refine blk_alloc ?_ _)); exact BK653.out) hb)
            have n3_ := Aside0.mk (blk_below (g := gb668) (o := .cells #[.slice Ao22 t663.length co22, .int .i64 t666, .int .i64 t667] 27 (0, 0)) (by (with_reducible repeat (first | refine blk_drewN ?_ _ | refine blk_drew ?_ | refine blk_alloc ?_ _)); exact BK668.out) hb)
            have n4_ := Aside0.mk (below_step (by repeat (first | (with_reducible first | exact HB.out | apply below_alloc | apply pw_below_drewN | apply below_drew1 | refine below_set ?_ GE653.out | refine below_set ?_ GE668.out) | exact HB.out)) hb)
            clear HO_669000
            clear HO674
            clear BK653
            clear BK668
            clear HB
            have HO_669000 := n0_
            have HO674 := n1_
            have BK653 := n2_
            have BK668 := n3_
            have HB := n4_
            clear n0_ n1_ n2_ n3_ n4_
            (try clear hb)
            (try clear hb2)
            (try clear hk)
            (try clear hi)
            refine hK.out _ _ ⟨(blk_cell BK668.out 0).trans rfl, (blk_cell BK668.out 1).trans rfl, (blk_cell BK668.out 2).trans rfl, (blk_cell BK653.out 0).trans rfl, (blk_cell BK653.out 1).trans rfl, (blk_cell BK653.out 2).trans rfl⟩ (fun hHeld => ?_)
            clear hK K
            refine norm_ (a' := ?_) ?_ ?_
            rotate_left
            · show Act.put _ (some 47) _ = _
              simp only [Act.put, List.setIfInBounds_toArray, List.set_cons_zero, List.set_cons_succ, i64_w, i32_w]
              rfl
            refine pure_ (i := 4) (N := some 48) (v := ?_) (a' := ?_) #[true, true, true, true, true] rfl rfl (by kernel_rfl) (fun _ _ _ h => h) (Or.inl ⟨by rfl, ?_⟩) ?_ ?_
            rotate_left
            · intro w'
              go_simp
              with_reducible rfl
            rotate_left
            · simp only [Act.put, List.setIfInBounds_toArray, List.set_cons_zero, List.set_cons_succ, i64_w, i32_w]
              rfl
            refine done_ (by kernel_rfl) ?_
            try go_wp2
            go_ret
            exact ⟨by first | rfl | (simp [errW_none, errW_some] <;> rfl) | (simp [*, errW_none, errW_some] <;> rfl), by repeat (first | (with_reducible first | exact HB.out | apply below_alloc | apply pw_below_drewN | apply below_drew1 | refine below_set ?_ GE653.out | refine below_set ?_ GE668.out) | exact HB.out)⟩
          · replace c31 := Bool.eq_false_iff.mpr c31
            subst c31
            have H1 : (some false) = some r := by rw [if_neg (show ¬ (false = true) by decide)] at H; exact H
            clear H
            have H := H1
            clear H1
            obtain rfl := Option.some.inj H
            try go_wp2
            have n0_ := Aside0.mk (Kd.R_drew HO_669000.out)
            have n1_ := Aside0.mk (blk_drew BK653.out)
            have n2_ := Aside0.mk (blk_drew BK668.out)
            have n3_ := Aside0.mk (below_drew1 HB.out)
            clear HO_669000
            clear BK653
            clear BK668
            clear HB
            have HO_669000 := n0_
            have BK653 := n1_
            have BK668 := n2_
            have HB := n3_
            clear n0_ n1_ n2_ n3_
            refine start_ (n := 5) (S := fun w' => w'.cell? ⟨gb668, 0, none⟩ = some (.slice Ao22 t663.length co22) ∧ w'.cell? ⟨gb668, 1, none⟩ = some (.int .i64 t666) ∧ w'.cell? ⟨gb668, 2, none⟩ = some (.int .i64 t667) ∧ w'.cell? ⟨gb653, 0, none⟩ = some (.slice A0_0 l0_0.length c0_0) ∧ w'.cell? ⟨gb653, 1, none⟩ = some (.int .i64 a0_1) ∧ w'.cell? ⟨gb653, 2, none⟩ = some (.int .i64 a0_2)) (ds := []) #[false, false, false, false, false] (by kernel_rfl) rfl rfl ⟨(blk_cell BK668.out 0).trans rfl, (blk_cell BK668.out 1).trans rfl, (blk_cell BK668.out 2).trans rfl, (blk_cell BK653.out 0).trans rfl, (blk_cell BK653.out 1).trans rfl, (blk_cell BK653.out 2).trans rfl⟩ (fun hHeld => ?_)
            generalize wc.drew = w36 at HO_669000 BK653 BK668 HB hHeld ⊢
            refine take_ (i := 0) (N := some 44) (v := ?_) (a' := ?_) #[true, false, false, false, false] rfl rfl (by kernel_rfl) (fun _ _ _ h => h) (Or.inl ⟨by rfl, ?_⟩) hHeld ?_ ?_
            rotate_left
            · rintro w' ⟨s0, s1, s2, s3, s4, s5⟩
              go_simp
              with_reducible rfl
            rotate_left
            · simp only [Act.put, List.setIfInBounds_toArray, List.set_cons_zero, List.set_cons_succ, i64_w, i32_w]
              rfl
            refine take_ (i := 1) (N := some 45) (v := ?_) (a' := ?_) #[true, true, false, false, false] rfl rfl (by kernel_rfl) (fun _ _ _ h => h) (Or.inl ⟨by rfl, ?_⟩) hHeld ?_ ?_
            rotate_left
            · rintro w' ⟨s0, s1, s2, s3, s4, s5⟩
              go_simp
              with_reducible rfl
            rotate_left
            · simp only [Act.put, List.setIfInBounds_toArray, List.set_cons_zero, List.set_cons_succ, i64_w, i32_w]
              rfl
            refine one_ (i := 2) (N := some 46) #[true, true, true, false, false] rfl rfl (by kernel_rfl) (by decide) (fun K hK => ?_)
            refine goes_ Try.func17 (by kernel_rfl) rfl #[.agg #[.slice A0_0 l0_0.length c0_0, .int .i64 a0_1, .int .i64 a0_2]] (by rfl) rfl rfl (by (try simp only [List.map_toArray, List.map_cons, List.map_nil]); first | done | rfl | (simp only [List.length_drop, List.length_take]; rfl)) ?_
            with_reducible refine (laws_toPuzzle.calls kj10 _ _ l0_0 a0_1 a0_2 t672 t675 t676 _ ?side1 ?side2 A29.out).mono ?_
            (case side1 => repeat (first | exact (Kd.C_below HR0_0.out HB.out) | (with_reducible refine Kd.C_alloc ?_ _) | (with_reducible refine Kd.C_drewN ?_ _) | (with_reducible refine Kd.C_drew ?_)))
            (case side2 => exact HC0_0.out)
            rintro e w37 ⟨v673, rfl, ho0, hb⟩
            refine ⟨_, rfl, ?_⟩
            have n0_ := Aside0.mk (Kd.R_elder' (by (with_reducible repeat (first | apply Kd.R_alloc | apply Kd.R_drewN | apply Kd.R_drew)); exact HO_669000.out) (Kd.R_base ho0) hb)
            have n1_ := Aside0.mk (Kd.R_lower (Kd.R_new' ho0 (Kd.R_lt (by (with_reducible repeat (first | apply Kd.R_alloc | apply Kd.R_drewN | apply Kd.R_drew)); exact HO_669000.out))) (below_size (by repeat (first | (with_reducible first | exact HB.out | apply below_alloc | apply pw_below_drewN | apply below_drew1 | refine below_set ?_ GE653.out | refine below_set ?_ GE668.out) | exact HB.out))))
            have n2_ := Aside0.mk (blk_below (g := gb653) (o := .cells #[.slice A0_0 l0_0.length c0_0, .int .i64 a0_1, .int .i64 a0_2] 24 (0, 0)) (by (with_reducible repeat (first | refine blk_drewN ?_ _ | refine blk_drew ?_ | refine blk_alloc ?_ _)); exact BK653.out) hb)
            have n3_ := Aside0.mk (blk_below (g := gb668) (o := .cells #[.slice Ao22 t663.length co22, .int .i64 t666, .int .i64 t667] 27 (0, 0)) (by (with_reducible repeat (first | refine blk_drewN ?_ _ | refine blk_drew ?_ | refine blk_alloc ?_ _)); exact BK668.out) hb)
            have n4_ := Aside0.mk (below_step (by repeat (first | (with_reducible first | exact HB.out | apply below_alloc | apply pw_below_drewN | apply below_drew1 | refine below_set ?_ GE653.out | refine below_set ?_ GE668.out) | exact HB.out)) hb)
            clear HO_669000
            clear BK653
            clear BK668
            clear HB
            have HO_669000 := n0_
            have HO674 := n1_
            have BK653 := n2_
            have BK668 := n3_
            have HB := n4_
            clear n0_ n1_ n2_ n3_ n4_
            (try clear hb)
            (try clear hb2)
            (try clear hk)
            (try clear hi)
            (try clear ho0)
            obtain ⟨Ao38, co38, eo38⟩ := Kd.R_slice HO674.out
            (first | subst eo38 | (injection eo38 with f1_ f2_ f3_; have f4_ := f1_.symm; have f5_ := f3_.symm; clear f1_ f2_ f3_; subst f4_; subst f5_))
            refine hK.out _ _ ⟨(blk_cell BK668.out 0).trans rfl, (blk_cell BK668.out 1).trans rfl, (blk_cell BK668.out 2).trans rfl, (blk_cell BK653.out 0).trans rfl, (blk_cell BK653.out 1).trans rfl, (blk_cell BK653.out 2).trans rfl⟩ (fun hHeld => ?_)
            clear hK K
            refine norm_ (a' := ?_) ?_ ?_
            rotate_left
            · show Act.put _ (some 46) _ = _
              simp only [Act.put, List.setIfInBounds_toArray, List.set_cons_zero, List.set_cons_succ, i64_w, i32_w]
              rfl
            refine one_ (i := 3) (N := some 47) #[true, true, true, true, false] rfl rfl (by kernel_rfl) (by decide) (fun K hK => ?_)
            refine goes_ Try.func19 (by kernel_rfl) rfl #[.agg #[.slice Ao22 t663.length co22, .int .i64 t666, .int .i64 t667], .agg #[.slice Ao38 t672.length co38, .int .i64 t675, .int .i64 t676]] (by rfl) rfl rfl (by (try simp only [List.map_toArray, List.map_cons, List.map_nil]); first | done | rfl | (simp only [List.length_drop, List.length_take]; rfl)) ?_
            with_reducible refine (laws_eqPuzzle.calls kj10 _ _ t663 t666 t667 _ _ t672 t675 t676 false _ ?side1 ?side2 ?side3 ?side4 A30.out).mono ?_
            (case side1 => repeat (first | exact (Kd.R_reads' HO_669000.out).2.2 | (with_reducible refine Kd.C_alloc ?_ _) | (with_reducible refine Kd.C_drewN ?_ _) | (with_reducible refine Kd.C_drew ?_)))
            (case side2 => exact (Kd.R_reads' HO_669000.out).2.1)
            (case side3 => repeat (first | exact (Kd.R_reads' HO674.out).2.2 | (with_reducible refine Kd.C_alloc ?_ _) | (with_reducible refine Kd.C_drewN ?_ _) | (with_reducible refine Kd.C_drew ?_)))
            (case side4 => exact (Kd.R_reads' HO674.out).2.1)
            rintro e w39 ⟨rfl, hb⟩
            refine ⟨_, rfl, ?_⟩
            have n0_ := Aside0.mk (Kd.R_below (by (with_reducible repeat (first | apply Kd.R_alloc | apply Kd.R_drewN | apply Kd.R_drew)); exact HO_669000.out) hb)
            have n1_ := Aside0.mk (Kd.R_below (by (with_reducible repeat (first | apply Kd.R_alloc | apply Kd.R_drewN | apply Kd.R_drew)); exact HO674.out) hb)
            have n2_ := Aside0.mk (blk_below (g := gb653) (o := .cells #[.slice A0_0 l0_0.length c0_0, .int .i64 a0_1, .int .i64 a0_2] 24 (0, 0)) (by (with_reducible repeat (first | refine blk_drewN ?_ _ | refine blk_drew ?_ | refine blk_alloc ?_ _)); exact BK653.out) hb)
            have n3_ := Aside0.mk (blk_below (g := gb668) (o := .cells #[.slice Ao22 t663.length co22, .int .i64 t666, .int .i64 t667] 27 (0, 0)) (by (with_reducible repeat (first | refine blk_drewN ?_ _ | refine blk_drew ?_ | refine blk_alloc ?_ _)); exact BK668.out) hb)
            have n4_ := Aside0.mk (below_step (by repeat (first | (with_reducible first | exact HB.out | apply below_alloc | apply pw_below_drewN | apply below_drew1 | refine below_set ?_ GE653.out | refine below_set ?_ GE668.out) | exact HB.out)) hb)
            clear HO_669000
            clear HO674
            clear BK653
            clear BK668
            clear HB
            have HO_669000 := n0_
            have HO674 := n1_
            have BK653 := n2_
            have BK668 := n3_
            have HB := n4_
            clear n0_ n1_ n2_ n3_ n4_
            (try clear hb)
            (try clear hb2)
            (try clear hk)
            (try clear hi)
            refine hK.out _ _ ⟨(blk_cell BK668.out 0).trans rfl, (blk_cell BK668.out 1).trans rfl, (blk_cell BK668.out 2).trans rfl, (blk_cell BK653.out 0).trans rfl, (blk_cell BK653.out 1).trans rfl, (blk_cell BK653.out 2).trans rfl⟩ (fun hHeld => ?_)
            clear hK K
            refine norm_ (a' := ?_) ?_ ?_
            rotate_left
            · show Act.put _ (some 47) _ = _
              simp only [Act.put, List.setIfInBounds_toArray, List.set_cons_zero, List.set_cons_succ, i64_w, i32_w]
              rfl
            refine pure_ (i := 4) (N := some 48) (v := ?_) (a' := ?_) #[true, true, true, true, true] rfl rfl (by kernel_rfl) (fun _ _ _ h => h) (Or.inl ⟨by rfl, ?_⟩) ?_ ?_
            rotate_left
            · intro w'
              go_simp
              with_reducible rfl
            rotate_left
            · simp only [Act.put, List.setIfInBounds_toArray, List.set_cons_zero, List.set_cons_succ, i64_w, i32_w]
              rfl
            refine done_ (by kernel_rfl) ?_
            try go_wp2
            go_ret
            exact ⟨by first | rfl | (simp [errW_none, errW_some] <;> rfl) | (simp [*, errW_none, errW_some] <;> rfl), by repeat (first | (with_reducible first | exact HB.out | apply below_alloc | apply pw_below_drewN | apply below_drew1 | refine below_set ?_ GE653.out | refine below_set ?_ GE668.out) | exact HB.out)⟩

/-- The statement of laws_FnExactHintOf over numbers and lists. -/
def laws_FnExactHintOf.Pure : Prop := ∀ (l0_0 : List Int) (a0_1 : Int) (a0_2 : Int), l0_0.length ≤ maxLen → l0_0.length * 8 ≤ 140737488351232 → (∀ x ∈ l0_0, (Lit.int .i64 x).wf = true) → (Lit.int .i64 a0_1).wf = true → (Lit.int .i64 a0_2).wf = true → ∃ k, laws_FnExactHintOf.f k l0_0 a0_1 a0_2 = some true
theorem laws_FnExactHintOf.walk (P : laws_FnExactHintOf.Pure) (a0_0 : Option Addr) (len0_0 cap0_0 : Nat) (z0_0 : List Int) (a0_1 : Int) (a0_2 : Int) (w : World) (w0_0 : (a0_0 = none ∧ len0_0 = 0 ∧ cap0_0 = 0 ∧ z0_0 = []) ∨ ∃ x, a0_0 = some x ∧ len0_0 ≤ cap0_0 ∧ cap0_0 ≤ maxLen ∧ z0_0.length = cap0_0 ∧ (∀ i, i < z0_0.length → w.cell? (x.add i) = some (.int .i64 (z0_0.getD i 0))) ∧ ∀ n ∈ z0_0, (Lit.int .i64 n).wf = true) (y0_0 : len0_0 * 8 ≤ 140737488351232) (w0_1 : (Lit.int .i64 a0_1).wf = true) (w0_2 : (Lit.int .i64 a0_2).wf = true) :
    Calls Try.prog 11 #[.agg #[.slice a0_0 len0_0 cap0_0, .int .i64 a0_1, .int .i64 a0_2]] w fun e w' => e = .returned (.bool true) ∧ Below w.heap.size w w' := by
  obtain ⟨l0_0, rfl, hr0_0, hm0_0, hw0_0, hc0_0⟩ := ReadsInt.ofRowC w0_0
  obtain ⟨k, h⟩ := P l0_0 a0_1 a0_2 hm0_0 y0_0 hw0_0 w0_1 w0_2
  refine (laws_FnExactHintOf.calls k _ _ l0_0 a0_1 a0_2 true w (Kd.C_of_reads (d := (0 : Int)) (h1 := fun _ => rfl) hr0_0) hc0_0 h).mono ?_
  rintro e w' ⟨rfl, hd⟩
  exact ⟨rfl, hd⟩

noncomputable def laws_FnExactHintOf.J0 (x43 : Bool) (x654000 : List Int) (x654001 : Int) (x654002 : Int) (x669000 : List Int) (x669001 : Int) (x669002 : Int) : Option (Bool) := lim fun k => laws_FnExactHintOf.j0 k x43 x654000 x654001 x654002 x669000 x669001 x669002
theorem laws_FnExactHintOf.J0_lim (x43 : Bool) (x654000 : List Int) (x654001 : Int) (x654002 : Int) (x669000 : List Int) (x669001 : Int) (x669002 : Int) : Lim (fun k => laws_FnExactHintOf.j0 k x43 x654000 x654001 x654002 x669000 x669001 x669002) (laws_FnExactHintOf.J0 x43 x654000 x654001 x654002 x669000 x669001 x669002) := Lim.of fun k => (laws_FnExactHintOf.mono_l k) x43 x654000 x654001 x654002 x669000 x669001 x669002
noncomputable def laws_FnExactHintOf.F (l0_0 : List Int) (a0_1 : Int) (a0_2 : Int) : Option (Bool) := lim fun k => laws_FnExactHintOf.f k l0_0 a0_1 a0_2
theorem laws_FnExactHintOf.F_lim (l0_0 : List Int) (a0_1 : Int) (a0_2 : Int) : Lim (fun k => laws_FnExactHintOf.f k l0_0 a0_1 a0_2) (laws_FnExactHintOf.F l0_0 a0_1 a0_2) := Lim.of fun k => laws_FnExactHintOf.mono l0_0 a0_1 a0_2 k
theorem laws_FnExactHintOf.J0_eq (x43 : Bool) (x654000 : List Int) (x654001 : Int) (x654002 : Int) (x669000 : List Int) (x669001 : Int) (x669002 : Int) : laws_FnExactHintOf.J0 x43 x654000 x654001 x654002 x669000 x669001 x669002 = (if x43 = true then (some false) else ((laws_toPuzzle.F x654000 x654001 x654002).bind fun bt672 => ((laws_eqPuzzle.F x669000 x669001 x669002 bt672.1 bt672.2.1 bt672.2.2).bind fun t677 => (if t677 = true then (some true) else (some false))))) :=
  Lim.step (f := fun k => (if x43 = true then (some false) else ((laws_toPuzzle.f k x654000 x654001 x654002).bind fun bt672 => ((laws_eqPuzzle.f k x669000 x669001 x669002 bt672.1 bt672.2.1 bt672.2.2).bind fun t677 => (if t677 = true then (some true) else (some false)))))) (laws_FnExactHintOf.J0_lim x43 x654000 x654001 x654002 x669000 x669001 x669002) (fun k => by first | rfl | rw [laws_FnExactHintOf.j0]) (by
    repeat' first
    | (with_reducible exact Lim.const _)
    | (with_reducible exact laws_eqPuzzle.F_lim _ _ _ _ _ _)
    | (with_reducible exact laws_toPuzzle.F_lim _ _ _)
    | (with_reducible refine Lim.ite ?_ ?_)
    | (with_reducible refine Lim.bind ?_ (fun _ => ?_)))
theorem laws_FnExactHintOf.F_eq (l0_0 : List Int) (a0_1 : Int) (a0_2 : Int) : laws_FnExactHintOf.F l0_0 a0_1 a0_2 = ((laws_szPuzzle.f l0_0 a0_1 a0_2 1048576).bind fun t654 => (if t654 < 0 then (some true) else ((laws_toPuzzle.F l0_0 a0_1 a0_2).bind fun bt655 => ((spec_HintOf.F bt655.1 bt655.2.1 bt655.2.2).bind fun bt660 => ((laws_toPuzzle.F l0_0 a0_1 a0_2).bind fun bt663 => ((impl_HintOf.F bt663.1 bt663.2.1 bt663.2.2).bind fun bt669 => (if bt669.1 = bt660.1 then (if bt669.2.1 = bt660.2.1 then (laws_FnExactHintOf.J0 (bt669.2.2 != bt660.2.2) l0_0 a0_1 a0_2 bt663.1 bt663.2.1 bt663.2.2) else (laws_FnExactHintOf.J0 true l0_0 a0_1 a0_2 bt663.1 bt663.2.1 bt663.2.2)) else (laws_FnExactHintOf.J0 true l0_0 a0_1 a0_2 bt663.1 bt663.2.1 bt663.2.2)))))))) :=
  Lim.unique (laws_FnExactHintOf.F_lim l0_0 a0_1 a0_2) (by
    unfold laws_FnExactHintOf.f
    repeat' first
    | (with_reducible exact Lim.const _)
    | (with_reducible exact impl_HintOf.F_lim _ _ _)
    | (with_reducible exact laws_FnExactHintOf.J0_lim _ _ _ _ _ _ _)
    | (with_reducible exact laws_toPuzzle.F_lim _ _ _)
    | (with_reducible exact spec_HintOf.F_lim _ _ _)
    | (with_reducible refine Lim.ite ?_ ?_)
    | (with_reducible refine Lim.bind ?_ (fun _ => ?_)))

end Go.Proofs.Ytjfhcddahahdfaa.Fn
namespace Go.Proofs.Ytjfhcddahahdfaa.Fn
open Go.RowKit Go.Proofs.YtjfhcddahahdfaaW.PrintWords Go.Proofs.YtjfhcddahahdfaaW.PrintLast Go.Proofs.YtjfhcddahahdfaaW.PrintMore
set_option linter.unusedVariables false
set_option linter.unusedSimpArgs false
theorem laws_toIntS.L0_val : ∀ (suf pre junk : List Int), (pre ++ suf).length < 4611686018427387904 → junk.length = suf.length → laws_toIntS.L0 (pre ++ suf) (pre ++ junk) (pre.length : Int) = some (pre ++ suf)
  | [], pre, junk, h, hj => by
    obtain rfl : junk = [] := List.eq_nil_of_length_eq_zero hj
    rw [laws_toIntS.L0_eq, range_end]
  | x :: suf, pre, j :: junk, h, hj => by
    have hj' : junk.length = suf.length := by simpa using hj
    have h1 : (pre.length : Int) < ((pre ++ x :: suf).length : Int) := by rw [List.length_append, List.length_cons]; omega
    have h2 : (pre.length : Int) < ((pre ++ j :: junk).length : Int) := by rw [List.length_append, List.length_cons]; omega
    have ih := laws_toIntS.L0_val suf (pre ++ [x]) junk (by simpa using h) hj'
    rw [laws_toIntS.L0_eq, if_pos h1, if_pos (by omega), if_pos h2, rd_mid, wrap_mid h]
    have e : (pre ++ j :: junk).set ((pre.length : Int)).toNat x = (pre ++ [x]) ++ junk := by simp
    rw [e, app_mid]
    exact ih
theorem laws_toIntS.F_val (l : List Int) (h : l.length ≤ 35184372088832) : laws_toIntS.F l = some l := by
  rw [laws_toIntS.F_eq, if_pos (by omega), if_pos (by simpa using h)]
  have := laws_toIntS.L0_val l [] (List.replicate l.length 0) (by simp; omega) (by simp)
  simpa using this
theorem laws_eqIntS.L0_val : ∀ (sa pre sb : List Int), (pre ++ sa).length < 4611686018427387904 → sa.length = sb.length → laws_eqIntS.L0 (pre ++ sa) (pre ++ sb) (pre.length : Int) = some (decide (sa = sb))
  | [], pre, sb, h, hj => by
    obtain rfl : sb = [] := List.eq_nil_of_length_eq_zero hj.symm
    rw [laws_eqIntS.L0_eq, range_end]
    simp
  | x :: sa, pre, y :: sb, h, hj => by
    have h1 : (pre.length : Int) < ((pre ++ x :: sa).length : Int) := by rw [List.length_append, List.length_cons]; omega
    have h2 : (pre.length : Int) < ((pre ++ y :: sb).length : Int) := by rw [List.length_append, List.length_cons]; omega
    rw [laws_eqIntS.L0_eq, if_pos h1, if_pos (by omega), if_pos h2, rd_mid, rd_mid, wrap_mid h]
    by_cases e : x = y
    · subst e
      rw [if_pos rfl, app_mid pre x sa, app_mid pre x sb, laws_eqIntS.L0_val sa (pre ++ [x]) sb (by simpa using h) (by simpa using hj)]
      simp
    · rw [if_neg e]
      simp [e]
theorem laws_eqIntS.F_val (a b : List Int) (h : a.length < 4611686018427387904) : laws_eqIntS.F a b = some (decide (a = b)) := by
  rw [laws_eqIntS.F_eq]
  by_cases e : (a.length : Int) = (b.length : Int)
  · rw [if_pos e]
    have := laws_eqIntS.L0_val a [] b (by simpa using h) (by omega)
    simpa using this
  · rw [if_neg e]
    have : ¬ a = b := fun hab => e (by rw [hab])
    simp [this]
theorem laws_eqIntS.F_same (a : List Int) (h : a.length < 4611686018427387904) : laws_eqIntS.F a a = some true := by
  rw [laws_eqIntS.F_val a a h]
  simp
end Go.Proofs.Ytjfhcddahahdfaa.Fn
namespace Go.Proofs.Ytjfhcddahahdfaa.Fn
open Go.RowKit Go.Proofs.YtjfhcddahahdfaaW.PrintWords Go.Proofs.YtjfhcddahahdfaaW.PrintLast Go.Proofs.YtjfhcddahahdfaaW.PrintMore
set_option linter.unusedVariables false
set_option linter.unusedSimpArgs false
theorem spec_l1Own.f_val (l : List Int) (h : l.length < 17592186044416) : spec_l1Own.f l = some l := by
  unfold spec_l1Own.f
  simp [h]
theorem spec_l1In.f_val (a b c : Int) : spec_l1In.f a b c = some (decide (b ≤ a) && decide (a ≤ c)) := by
  unfold spec_l1In.f
  by_cases h : a ≥ b
  · rw [if_pos h]
    simp [show b ≤ a from h]
  · rw [if_neg h]
    simp [show ¬ b ≤ a from h]
end Go.Proofs.Ytjfhcddahahdfaa.Fn
namespace Go.Proofs.Ytjfhcddahahdfaa.Fn
open Go.RowKit Go.Proofs.YtjfhcddahahdfaaW.PrintWords Go.Proofs.YtjfhcddahahdfaaW.PrintLast Go.Proofs.YtjfhcddahahdfaaW.PrintMore
set_option linter.unusedVariables false
set_option linter.unusedSimpArgs false
theorem laws_szPuzzle.f_val (l : List Int) (a s : Int) (h : l.length ≤ 35184372088832) : laws_szPuzzle.f l a s 1048576 = some (if l.length ≤ 1048576 then 1048576 - (l.length : Int) else -1) := by
  unfold laws_szPuzzle.f laws_szIntS.f
  rw [wrap_in (by omega) (by omega)]
  by_cases h1 : l.length ≤ 1048576
  · rw [if_neg (by omega), if_pos h1]
    simp only [Option.bind_some]
    rw [if_neg (by omega)]
  · rw [if_pos (by omega), if_neg h1]
    rfl
theorem laws_toPuzzle.F_val (l : List Int) (a s : Int) (h : l.length ≤ 35184372088832) : laws_toPuzzle.F l a s = some (l, a, s) := by
  rw [laws_toPuzzle.F_eq, laws_toIntS.F_val l h]
  rfl
theorem laws_eqPuzzle.F_same (l : List Int) (a s : Int) (h : l.length < 4611686018427387904) : laws_eqPuzzle.F l a s l a s = some true := by
  rw [laws_eqPuzzle.F_eq, laws_eqIntS.F_same l h]
  simp only [Option.bind_some, if_true]
/-- What a puzzle's length, first number and shift must be. -/
def puzzleHead (n : Nat) (a s : Int) : Prop := n % 2 = 0 ∧ 1 ≤ n / 2 ∧ n / 2 ≤ 9 ∧ 1 ≤ a ∧ a ≤ 20 ∧ (s = 0 ∨ s = 1) ∧ a + ((n / 2 : Nat) : Int) ≤ 21
instance (n : Nat) (a s : Int) : Decidable (puzzleHead n a s) := by unfold puzzleHead; infer_instance
def amongOf (n : Nat) (a x : Int) : Bool := decide (a ≤ x) && decide (x < a + ((n / 2 : Nat) : Int))
def isPuzzle (l : List Int) (a s : Int) : Bool := decide (puzzleHead l.length a s) && l.all (fun x => decide (x = 0) || amongOf l.length a x)
theorem isPuzzle_head {l : List Int} {a s : Int} (h : isPuzzle l a s = true) : puzzleHead l.length a s := by
  unfold isPuzzle at h
  simp only [Bool.and_eq_true, decide_eq_true_eq] at h
  exact h.1
theorem isPuzzle_no {l : List Int} {a s : Int} (h : ¬ puzzleHead l.length a s) : isPuzzle l a s = false := by
  unfold isPuzzle
  rw [decide_eq_false h, Bool.false_and]
theorem isPuzzle_yes {l : List Int} {a s : Int} (h : puzzleHead l.length a s) : isPuzzle l a s = l.all (fun x => decide (x = 0) || amongOf l.length a x) := by
  unfold isPuzzle
  rw [decide_eq_true h, Bool.true_and]
theorem spec_pzGood.L0_val (l : List Int) (a s : Int) (n : Nat) (hn : n / 2 ≤ 9) (ha : 1 ≤ a ∧ a ≤ 20) : ∀ (suf pre : List Int), (pre ++ suf).length < 4611686018427387904 → spec_pzGood.L0 ((n / 2 : Nat) : Int) (pre ++ suf) ((pre ++ suf).length : Int) (pre.length : Int) l a s = some (suf.all (fun x => decide (x = 0) || amongOf n a x))
  | [], pre, h => by
    rw [spec_pzGood.L0_eq, range_end]
    rfl
  | x :: suf, pre, h => by
    have w : wrap64 (wrap64 (a + ((n / 2 : Nat) : Int)) - 1) = a + ((n / 2 : Nat) : Int) - 1 := by rw [wrap_in (n := a + _) (by omega) (by omega), wrap_in (by omega) (by omega)]
    rw [spec_pzGood.L0_eq, range_step, rd_mid, wrap_mid h, app_mid pre x suf, spec_pzGood.L0_val l a s n hn ha suf (pre ++ [x]) (by simpa using h), w, spec_l1In.f_val]
    simp only [Option.bind_some]
    by_cases h1 : x = 0
    · rw [if_pos h1]
      simp [h1]
    · rw [if_neg h1]
      have e : (decide (a ≤ x) && decide (x ≤ a + ((n / 2 : Nat) : Int) - 1)) = amongOf n a x := by
        unfold amongOf
        congr 1
        rw [decide_eq_decide]
        omega
      rw [e]
      by_cases h2 : amongOf n a x = true
      · rw [if_pos h2]
        simp [h1, h2]
      · rw [if_neg h2]
        simp [h1, h2]
theorem spec_pzGood.F_val (l : List Int) (a s : Int) (h : l.length < 4611686018427387904) : spec_pzGood.F l a s = some (isPuzzle l a s) := by
  have w : wrap64 ((l.length : Int) / 2) = ((l.length / 2 : Nat) : Int) := by rw [wrap_in (by omega) (by omega)]; omega
  rw [spec_pzGood.F_eq, w]
  simp only [spec_l1In.f_val, Option.bind_some, spec_pzGood.J0_eq]
  by_cases h1 : l.length % 2 = 0
  · rw [if_pos (show (l.length : Int) % 2 = 0 by omega)]
    by_cases h2 : 1 ≤ l.length / 2 ∧ l.length / 2 ≤ 9
    · have h2' : (decide ((1 : Int) ≤ ((l.length / 2 : Nat) : Int)) && decide (((l.length / 2 : Nat) : Int) ≤ 9)) = true := by simp; omega
      rw [if_pos h2']
      by_cases h3 : 1 ≤ a ∧ a ≤ 20
      · have h3' : (decide (1 ≤ a) && decide (a ≤ 20)) = true := by simp; omega
        have w2 : wrap64 (wrap64 (a + ((l.length / 2 : Nat) : Int)) - 1) = a + ((l.length / 2 : Nat) : Int) - 1 := by rw [wrap_in (n := a + _) (by omega) (by omega), wrap_in (by omega) (by omega)]
        rw [if_pos h3', w2]
        by_cases h4 : s = 0 ∨ s = 1
        · have h4' : (decide ((0 : Int) ≤ s) && decide (s ≤ 1)) = true := by simp; omega
          rw [if_pos h4']
          by_cases h5 : a + ((l.length / 2 : Nat) : Int) ≤ 21
          · have := spec_pzGood.L0_val l a s l.length h2.2 h3 l [] (by simpa using h)
            rw [if_neg (by simp; omega), isPuzzle_yes ⟨h1, h2.1, h2.2, h3.1, h3.2, h4, h5⟩]
            exact this
          · rw [if_pos (by simp; omega), isPuzzle_no (fun h => h5 h.2.2.2.2.2.2)]
        · have h4' : ¬ (decide ((0 : Int) ≤ s) && decide (s ≤ 1)) = true := by simp; omega
          rw [if_neg h4', if_pos (by trivial), isPuzzle_no (fun h => h4 h.2.2.2.2.2.1)]
      · have h3' : ¬ (decide (1 ≤ a) && decide (a ≤ 20)) = true := by simp; omega
        rw [if_neg h3', if_pos (by trivial), isPuzzle_no (fun h => h3 ⟨h.2.2.2.1, h.2.2.2.2.1⟩)]
    · have h2' : ¬ (decide ((1 : Int) ≤ ((l.length / 2 : Nat) : Int)) && decide (((l.length / 2 : Nat) : Int) ≤ 9)) = true := by simp; omega
      rw [if_neg h2', if_pos (by trivial), isPuzzle_no (fun h => h2 ⟨h.2.1, h.2.2.1⟩)]
  · rw [if_neg (show ¬ (l.length : Int) % 2 = 0 by omega), if_pos (by trivial), isPuzzle_no (fun h => h1 h.1)]
theorem impl_Puzzle_among.f_val (l : List Int) (a s x : Int) (hl : l.length < 4611686018427387904) (ha : 1 ≤ a ∧ a ≤ 20) : impl_Puzzle_among.f l a s x = some (amongOf l.length a x) := by
  have w : wrap64 ((l.length : Int) / 2) = ((l.length / 2 : Nat) : Int) := by rw [wrap_in (by omega) (by omega)]; omega
  unfold impl_Puzzle_among.f amongOf
  rw [w, wrap_in (n := a + _) (by omega) (by omega)]
  by_cases h : x ≥ a
  · rw [if_pos h, decide_eq_true (show a ≤ x from h), Bool.true_and]
  · rw [if_neg h, decide_eq_false (show ¬ a ≤ x from h), Bool.false_and]
theorem impl_IsPuzzle.L0_val (l : List Int) (a s : Int) (hl : l.length < 4611686018427387904) (ha : 1 ≤ a ∧ a ≤ 20) : ∀ (suf pre : List Int), (pre ++ suf).length < 4611686018427387904 → impl_IsPuzzle.L0 (pre ++ suf) ((pre ++ suf).length : Int) (pre.length : Int) l a s = some (suf.all (fun x => decide (x = 0) || amongOf l.length a x))
  | [], pre, h => by
    rw [impl_IsPuzzle.L0_eq, range_end]
    rfl
  | x :: suf, pre, h => by
    rw [impl_IsPuzzle.L0_eq, range_step, rd_mid, wrap_mid h, app_mid pre x suf, impl_IsPuzzle.L0_val l a s hl ha suf (pre ++ [x]) (by simpa using h), impl_Puzzle_among.f_val l a s x hl ha]
    simp only [Option.bind_some]
    by_cases h1 : x = 0
    · rw [if_pos h1]
      simp [h1]
    · rw [if_neg h1]
      by_cases h2 : amongOf l.length a x = true
      · rw [if_pos h2]
        simp [h1, h2]
      · rw [if_neg h2]
        simp [h1, h2]
theorem impl_IsPuzzle.F_val (l : List Int) (a s : Int) (h : l.length < 4611686018427387904) : impl_IsPuzzle.F l a s = some (isPuzzle l a s) := by
  have w : wrap64 ((l.length : Int) / 2) = ((l.length / 2 : Nat) : Int) := by rw [wrap_in (by omega) (by omega)]; omega
  have es : impl_sought.f ((l.length / 2 : Nat) : Int) = some (decide (1 ≤ l.length / 2 ∧ l.length / 2 ≤ 9)) := by
    unfold impl_sought.f
    by_cases h1 : ((l.length / 2 : Nat) : Int) ≥ 1
    · rw [if_pos h1]
      congr 1
      rw [decide_eq_decide]
      omega
    · rw [if_neg h1, decide_eq_false (by omega)]
  have ei : impl_isShift.f s = some (decide (s = 0 ∨ s = 1)) := by
    unfold impl_isShift.f
    by_cases h1 : s = 0
    · rw [if_pos h1]
      simp [h1]
    · rw [if_neg h1]
      simp [h1]
      rfl
  rw [impl_IsPuzzle.F_eq, w, es, ei]
  simp only [Option.bind_some, impl_IsPuzzle.J0_eq, decide_eq_true_eq]
  by_cases h1 : l.length % 2 = 0
  · rw [if_neg (show ¬ (l.length : Int) % 2 = 1 by omega)]
    by_cases h2 : 1 ≤ l.length / 2 ∧ l.length / 2 ≤ 9
    · rw [if_pos h2]
      by_cases h3 : a < 1
      · rw [if_pos h3, if_pos (by trivial), isPuzzle_no (fun h => by have := h.2.2.2.1; omega)]
      · rw [if_neg h3]
        by_cases h4 : a > 20
        · rw [if_pos h4, if_pos (by trivial), isPuzzle_no (fun h => by have := h.2.2.2.2.1; omega)]
        · have w2 : wrap64 (wrap64 (a + ((l.length / 2 : Nat) : Int)) - 1) = a + ((l.length / 2 : Nat) : Int) - 1 := by rw [wrap_in (n := a + _) (by omega) (by omega), wrap_in (by omega) (by omega)]
          rw [if_neg h4, w2]
          by_cases h5 : a + ((l.length / 2 : Nat) : Int) ≤ 21
          · rw [if_neg (show ¬ a + ((l.length / 2 : Nat) : Int) - 1 > 20 by omega)]
            by_cases h6 : s = 0 ∨ s = 1
            · have := impl_IsPuzzle.L0_val l a s h (by omega) l [] (by simpa using h)
              rw [if_neg (by simp [h6]), isPuzzle_yes ⟨h1, h2.1, h2.2, by omega, by omega, h6, h5⟩]
              exact this
            · rw [if_pos (by simp [h6]), isPuzzle_no (fun h => h6 h.2.2.2.2.2.1)]
          · rw [if_pos (show a + ((l.length / 2 : Nat) : Int) - 1 > 20 by omega), if_pos (by trivial), isPuzzle_no (fun h => h5 h.2.2.2.2.2.2)]
    · rw [if_neg h2, if_pos (by trivial), isPuzzle_no (fun h => h2 ⟨h.2.1, h.2.2.1⟩)]
  · rw [if_pos (show (l.length : Int) % 2 = 1 by omega), if_pos (by trivial), isPuzzle_no (fun h => h1 h.1)]
end Go.Proofs.Ytjfhcddahahdfaa.Fn
namespace Go.Proofs.Ytjfhcddahahdfaa.Fn
open Go.RowKit Go.Proofs.YtjfhcddahahdfaaW.PrintWords Go.Proofs.YtjfhcddahahdfaaW.PrintLast Go.Proofs.YtjfhcddahahdfaaW.PrintMore
set_option linter.unusedVariables false
set_option linter.unusedSimpArgs false
theorem zeroAt_rd : ∀ l : List Int, zeroAt l < l.length → rd l (zeroAt l) = 0
  | [], h => by simp at h
  | x :: l, h => by
    unfold zeroAt at h ⊢
    split
    · rename_i hx
      simp [rd, hx]
    · rename_i hx
      rw [if_neg hx] at h
      have := zeroAt_rd l (by simpa using h)
      simpa [rd] using this
/-- All solutions, in order. -/
def solsLoop (rec : List Int → Nat → List (List Int)) (prow row : List Int) (shift : Int) (used a : Nat) : Nat → Int → List (List Int)
  | 0, _ => []
  | m + 1, n => (if pzPassed row used n ((a : Int) + n + shift) ∨ pzWrong prow a n ((a : Int) + n + shift) then [] else rec ((row.set a n).set ((a : Int) + n + shift).toNat n) (used ||| 2 ^ n.toNat)) ++ solsLoop rec prow row shift used a m (n + 1)
def sols (prow : List Int) (from_ shift : Int) : Nat → List Int → Nat → List (List Int)
  | 0, _, _ => []
  | k + 1, row, used => if zeroAt row = row.length then [row] else solsLoop (sols prow from_ shift k) prow row shift used (zeroAt row) (row.length / 2) from_
theorem take_more {α : Type} (a b : List α) (n : Nat) : (a.take n ++ b).take n = (a ++ b).take n := by
  rcases Nat.le_total n a.length with h | h
  · rw [List.take_append_of_le_length (by rw [List.length_take]; omega), List.take_append_of_le_length h, List.take_take, Nat.min_self]
  · rw [List.take_of_length_le h]
theorem count_put {row : List Int} {a : Nat} {n : Int} (t : Nat) (ha : a < row.length) (h0 : rd row a = 0) (hn : n ≠ 0) : ((row.set a n).set t n).count 0 < row.count 0 := by
  have hmem : (0 : Int) ∈ row := by
    rw [rd_nat row a ha] at h0
    rw [← h0]
    exact List.getElem_mem ha
  have hpos := List.count_pos_iff.2 hmem
  have hb : ((n == (0 : Int)) = true) = False := by simp [hn]
  have h1 : (row.set a n).count 0 = row.count 0 - 1 := by
    rw [List.count_set ha]
    rw [rd_nat row a ha] at h0
    simp [h0, hn]
  rcases Nat.lt_or_ge t (row.set a n).length with h | h
  · rw [List.count_set h, h1]
    simp only [beq_iff_eq, hn, if_false, Nat.add_zero]
    omega
  · rw [List.set_eq_of_length_le h, h1]
    omega
theorem pzLoop_val {prow row : List Int} {shift : Int} {used a k : Nat} {rec : List (List Int) → List Int → Nat → Option (List (List Int))} {recS : List Int → Nat → List (List Int)} (hrec : ∀ xs row' used', row'.count 0 < k → xs.length ≤ 301 → rec xs row' used' = some ((xs ++ recS row' used').take 301)) (hk : row.count 0 < k + 1) (ha : a < row.length) (h0 : rd row a = 0) : ∀ (m : Nat) (n : Int) (xs : List (List Int)), 1 ≤ n → xs.length ≤ 301 → pzLoop rec prow row shift used a m n xs = some ((xs ++ solsLoop recS prow row shift used a m n).take 301)
  | 0, n, xs, hn, hx => by
    simp only [pzLoop, solsLoop, List.append_nil]
    rw [List.take_of_length_le hx]
  | m + 1, n, xs, hn, hx => by
    by_cases hp : pzPassed row used n ((a : Int) + n + shift) ∨ pzWrong prow a n ((a : Int) + n + shift)
    · rw [pzLoop_pass rfl hp, pzLoop_val hrec hk ha h0 m (n + 1) xs (by omega) hx, solsLoop, if_pos hp, List.nil_append]
    · have hc := count_put (((a : Int) + n + shift).toNat) ha h0 (show n ≠ 0 by omega)
      rw [pzLoop_put rfl hp, hrec xs _ _ (by omega) hx, solsLoop, if_neg hp, Option.bind_some, pzLoop_val hrec hk ha h0 m (n + 1) _ (by omega) (by rw [List.length_take]; omega), take_more, List.append_assoc]
theorem pzF_val (prow : List Int) (from_ shift : Int) (hf : 1 ≤ from_) : ∀ (k : Nat) (xs : List (List Int)) (row : List Int) (used : Nat), row.count 0 < k → xs.length ≤ 301 → pzF prow from_ shift k xs row used = some ((xs ++ sols prow from_ shift k row used).take 301)
  | 0, xs, row, used, h, hx => by omega
  | k + 1, xs, row, used, h, hx => by
    unfold pzF sols
    by_cases h1 : 300 < xs.length
    · rw [if_pos h1, List.take_append_of_le_length (by omega), List.take_of_length_le hx]
    · rw [if_neg h1]
      by_cases h2 : zeroAt row = row.length
      · rw [if_pos h2, if_pos h2, List.take_of_length_le (by simp; omega)]
      · have := zeroAt_le row
        rw [if_neg h2, if_neg h2]
        exact pzLoop_val (fun xs row' used' h hx => pzF_val prow from_ shift hf k xs row' used' h hx) h (by omega) (zeroAt_rd row (by omega)) _ _ _ hf hx
/-- The row as the program's search has it: its free places. -/
def toFree (row : List Int) : List Int := row.map fun x => if x = 0 then -1 else x
def leftOf (from_ : Int) (n used : Nat) : List Int := (List.range n).map fun i => if used.testBit (from_.toNat + i) = true then 0 else from_ + (i : Int)
theorem toFree_len (row : List Int) : (toFree row).length = row.length := by simp [toFree]
theorem toFree_rd {row : List Int} {t : Int} (h0 : 0 ≤ t) (h1 : t < row.length) : rd (toFree row) t = if rd row t = 0 then -1 else rd row t := by
  obtain ⟨i, rfl⟩ : ∃ i : Nat, t = i := ⟨t.toNat, by omega⟩
  have hi : i < row.length := by omega
  rw [rd_nat _ i (by rw [toFree_len]; exact hi), rd_nat row i hi]
  simp [toFree]
theorem toFree_free : ∀ row : List Int, (∀ x ∈ row, 0 ≤ x) → freeAt (toFree row) = zeroAt row
  | [], _ => rfl
  | x :: l, h => by
    have ih := toFree_free l (fun y hy => h y (by simp [hy]))
    have hx := h x (by simp)
    have e : toFree (x :: l) = (if x = 0 then -1 else x) :: toFree l := rfl
    rw [e]
    unfold freeAt zeroAt
    by_cases h0 : x = 0
    · simp [h0]
    · rw [if_neg h0, if_neg h0, if_neg (by omega), ih]
theorem toFree_set {row : List Int} {a t : Nat} {n : Int} (hn : n ≠ 0) : ((toFree row).set a n).set t n = toFree ((row.set a n).set t n) := by
  simp [toFree, List.map_set, hn]
theorem toFree_full : ∀ row : List Int, zeroAt row = row.length → toFree row = row
  | [], _ => rfl
  | x :: l, h => by
    by_cases h0 : x = 0
    · subst h0
      simp [zeroAt] at h
    · have h2 : zeroAt l = l.length := by simpa [zeroAt, h0] using h
      have ih := toFree_full l h2
      have e : toFree (x :: l) = (if x = 0 then -1 else x) :: toFree l := rfl
      rw [e, ih, if_neg h0]
theorem leftOf_len (from_ : Int) (n used : Nat) : (leftOf from_ n used).length = n := by simp [leftOf]
theorem leftOf_rd {from_ : Int} {n used i : Nat} (h : i < n) : rd (leftOf from_ n used) i = if used.testBit (from_.toNat + i) = true then 0 else from_ + (i : Int) := by
  rw [rd_nat _ i (by rw [leftOf_len]; exact h)]
  simp [leftOf]
theorem leftOf_set {from_ : Int} {n used i : Nat} (h : i < n) : (leftOf from_ n used).set i 0 = leftOf from_ n (used ||| 2 ^ (from_.toNat + i)) := by
  apply List.ext_getElem?
  intro j
  rw [List.getElem?_set, leftOf_len]
  by_cases hj : i = j
  · subst hj
    rw [if_pos rfl, if_pos h]
    simp [leftOf, h, Nat.testBit_or, Nat.testBit_two_pow]
  · rw [if_neg hj]
    rcases Nat.lt_or_ge j n with h2 | h2
    · simp [leftOf, h2, Nat.testBit_or, Nat.testBit_two_pow, hj]
    · rw [List.getElem?_eq_none (by rw [leftOf_len]; exact h2), List.getElem?_eq_none (by rw [leftOf_len]; exact h2)]
/-- So many of the rows, and whether there are more. -/
def upTo (most : Int) (xs : List (List Int)) : List (List Int) × Bool := (xs.take (most.toNat + 1), decide (most < (xs.length : Int)))
theorem fillLoop_val {prow row : List Int} {from_ shift most : Int} {used k : Nat} {rec : List (List Int) → List Int → List Int → Option (List (List Int) × Bool)} {recS : List Int → Nat → List (List Int)} (hm0 : 0 ≤ most) (hf : 1 ≤ from_) (hs : 0 ≤ shift) (hpos : ∀ x ∈ row, 0 ≤ x)
    (hrec : ∀ xs row' used', row'.count 0 < k → (∀ x ∈ row', 0 ≤ x) → row'.length = row.length → (xs.length : Int) ≤ most → rec xs (toFree row') (leftOf from_ (row.length / 2) used') = some (upTo most (xs ++ recS row' used'))) (hk : row.count 0 < k + 1) (ha : zeroAt row < row.length) :
    ∀ (m i : Nat) (xs : List (List Int)), i + m = row.length / 2 → (xs.length : Int) ≤ most → fillLoop rec (toFree row) prow (leftOf from_ (row.length / 2) used) shift m i xs = some (upTo most (xs ++ solsLoop recS prow row shift used (zeroAt row) m (from_ + (i : Int))))
  | 0, i, xs, hi, hx => by
    simp only [fillLoop, solsLoop, List.append_nil, upTo]
    rw [List.take_of_length_le (by omega), decide_eq_false (by omega)]
  | m + 1, i, xs, hi, hx => by
    have hfa := toFree_free row hpos
    have hn := leftOf_rd (from_ := from_) (n := row.length / 2) (used := used) (i := i) (by omega)
    have hnx : from_ + (i : Int) + 1 = from_ + ((i + 1 : Nat) : Int) := by omega
    have hb : (from_ + (i : Int)).toNat = from_.toNat + i := by omega
    by_cases hbit : used.testBit (from_.toNat + i) = true
    · rw [if_pos hbit] at hn
      have hp : pzPassed row used (from_ + (i : Int)) ((zeroAt row : Int) + (from_ + (i : Int)) + shift) := .inl (by rw [hb]; exact hbit)
      rw [fillLoop_pass hfa hn rfl (.inl rfl), fillLoop_val hm0 hf hs hpos hrec hk ha m (i + 1) xs (by omega) hx, solsLoop, if_pos (.inl hp), List.nil_append, hnx]
    · rw [if_neg hbit] at hn
      obtain ⟨n, hne⟩ : ∃ n, from_ + (i : Int) = n := ⟨_, rfl⟩
      rw [hne] at hn hnx hb ⊢
      obtain ⟨t, ht⟩ : ∃ t, (zeroAt row : Int) + n + shift = t := ⟨_, rfl⟩
      have hn1 : 1 ≤ n := by omega
      have ht0 : 0 ≤ t := by omega
      have hcond : passed (toFree row) prow (zeroAt row) n t ↔ (pzPassed row used n t ∨ pzWrong prow (zeroAt row) n t) := by
        have hb2 : ¬ used.testBit n.toNat = true := by rw [hb]; exact hbit
        have hrd : t < (row.length : Int) → (rd (toFree row) t ≠ -1 ↔ rd row t ≠ 0) := fun h => by
          rw [toFree_rd ht0 h]
          by_cases h3 : rd row t = 0
          · simp [h3]
          · rw [if_neg h3]
            have : 0 ≤ rd row t := by
              obtain ⟨j, rfl⟩ : ∃ j : Nat, t = j := ⟨t.toNat, by omega⟩
              rw [rd_nat row j (by omega)]
              exact hpos _ (List.getElem_mem _)
            constructor
            · intro _; exact h3
            · intro _ h4; omega
        unfold passed
        rw [toFree_len]
        constructor
        · rintro (h | h | h | h)
          · omega
          · exact .inl (.inr (.inl h))
          · by_cases h5 : (row.length : Int) ≤ t
            · exact .inl (.inr (.inl h5))
            · exact .inl (.inr (.inr ((hrd (by omega)).1 h)))
          · exact .inr h
        · rintro ((h | h | h) | h)
          · exact absurd h hb2
          · exact .inr (.inl h)
          · by_cases h5 : (row.length : Int) ≤ t
            · exact .inr (.inl h5)
            · exact .inr (.inr (.inl ((hrd (by omega)).2 h)))
          · exact .inr (.inr (.inr h))
      by_cases hp : pzPassed row used n t ∨ pzWrong prow (zeroAt row) n t
      · rw [fillLoop_pass hfa hn ht (hcond.2 hp), fillLoop_val hm0 hf hs hpos hrec hk ha m (i + 1) xs (by omega) hx, solsLoop, ht, if_pos hp, List.nil_append, hnx]
      · have hc := count_put t.toNat ha (zeroAt_rd row ha) (show n ≠ 0 by omega)
        rw [fillLoop_put hfa hn ht (fun h => hp (hcond.1 h)), toFree_set (show n ≠ 0 by omega), leftOf_set (show i < row.length / 2 by omega), hrec xs _ _ (by omega) (fun x hx => by
          rcases List.mem_or_eq_of_mem_set hx with hx | hx
          · rcases List.mem_or_eq_of_mem_set hx with hx | hx
            · exact hpos x hx
            · omega
          · omega) (by simp) hx, solsLoop, ht, if_neg hp, Option.bind_some, ← hb]
        generalize recS ((row.set (zeroAt row) n).set t.toNat n) (used ||| 2 ^ n.toNat) = S
        by_cases hfull : most < ((xs ++ S).length : Int)
        · simp only [upTo, decide_eq_true hfull, if_true]
          have hlen : (xs ++ S ++ solsLoop recS prow row shift used (zeroAt row) m (n + 1)).length = (xs ++ S).length + (solsLoop recS prow row shift used (zeroAt row) m (n + 1)).length := List.length_append
          rw [← List.append_assoc, decide_eq_true (show most < ((xs ++ S ++ solsLoop recS prow row shift used (zeroAt row) m (n + 1)).length : Int) by omega), List.take_append_of_le_length (l₁ := xs ++ S) (by omega)]
        · simp only [upTo, decide_eq_false hfull, Bool.false_eq_true, if_false]
          rw [List.take_of_length_le (by omega), fillLoop_val hm0 hf hs hpos hrec hk ha m (i + 1) (xs ++ S) (by omega) (by omega), hnx, List.append_assoc]
          rfl
theorem fillF_val (prow : List Int) (from_ shift most : Int) (hm0 : 0 ≤ most) (hm1 : most ≤ 1000000) (hf : 1 ≤ from_) (hs : 0 ≤ shift) : ∀ (k : Nat) (xs : List (List Int)) (row : List Int) (used : Nat), row.count 0 < k → (∀ x ∈ row, 0 ≤ x) → (xs.length : Int) ≤ most → fillF (eachAll most) prow shift k xs (toFree row) (leftOf from_ (row.length / 2) used) = some (upTo most (xs ++ sols prow from_ shift k row used))
  | 0, xs, row, used, h, hp, hx => by omega
  | k + 1, xs, row, used, h, hp, hx => by
    have hfa := toFree_free row hp
    unfold fillF sols
    rw [hfa, toFree_len]
    by_cases h2 : zeroAt row = row.length
    · rw [if_pos h2, if_pos h2, toFree_full row h2]
      unfold eachAll upTo
      rw [if_pos (by omega), List.take_of_length_le (by simp; omega)]
      simp
    · have := zeroAt_le row
      rw [if_neg h2, if_neg h2, leftOf_len, fillLoop_val hm0 hf hs hp (fun xs row' used' h1 h2 h3 h4 => by
        have := fillF_val prow from_ shift most hm0 hm1 hf hs k xs row' used' h1 h2 h4
        rwa [h3] at this) h (by omega) (row.length / 2) 0 xs (by omega) hx]
      simp
/-- All solutions of a puzzle. -/
def allSols (l : List Int) (a s : Int) : List (List Int) := sols l a s (l.length + 1) (List.replicate l.length 0) 0
theorem spec_pzAll.f_val (l : List Int) (a s : Int) (h : puzzleHead l.length a s) : spec_pzAll.f l a s = some ((allSols l a s).take 301, decide ((((allSols l a s).take 301).length : Int) ≤ 300)) := by
  obtain ⟨h1, h2, h3, h4, h5, h6, h7⟩ := h
  unfold spec_pzAll.f
  rw [if_pos (by omega), pzF_val l a s h4 _ _ _ _ (by simp) (by simp)]
  rfl
theorem solveAll_val (l : List Int) (a s most : Int) (h : puzzleHead l.length a s) (hm0 : 0 ≤ most) (hm1 : most ≤ 1000000) : solveAll l a s most = some (upTo most (allSols l a s)) := by
  obtain ⟨h1, h2, h3, h4, h5, h6, h7⟩ := h
  have := fillF_val l a s most hm0 hm1 h4 (by omega) (l.length + 1) [] (List.replicate l.length 0) 0 (by simp) (fun x hx => by have := List.eq_of_mem_replicate hx; omega) (by simpa using hm0)
  have e1 : toFree (List.replicate l.length 0) = List.replicate l.length (-1) := by simp [toFree]
  have e2 : leftOf a ((List.replicate l.length (0 : Int)).length / 2) 0 = numbersUp a (l.length / 2) := by simp [leftOf, numbersUp]
  rw [e1, e2, List.nil_append] at this
  exact this
/-- The solutions, if they are not too many. -/
def foundOf (l : List Int) (a s : Int) : List (List Int) × Bool := if isPuzzle l a s = true then (if (((allSols l a s).take 301).length : Int) ≤ 300 then (allSols l a s).take 301 else [], decide ((((allSols l a s).take 301).length : Int) ≤ 300)) else ([], false)
theorem impl_Puzzle_solutions.F_val (l : List Int) (a s : Int) (hl : l.length < 4611686018427387904) : impl_Puzzle_solutions.F l a s = some (foundOf l a s) := by
  rw [impl_Puzzle_solutions.F_eq, impl_IsPuzzle.F_val l a s hl]
  simp only [Option.bind_some]
  unfold foundOf
  by_cases h : isPuzzle l a s = true
  · have hh := isPuzzle_head h
    rw [if_pos h, if_pos h, solveAll_val l a s 300 hh (by omega) (by omega)]
    obtain ⟨h1, h2, h3, h4, h5, h6, h7⟩ := hh
    rw [if_pos (by omega)]
    rfl
  · rw [if_neg h, if_neg h]
theorem spec_pzAsked.F_val (l : List Int) (a s : Int) (hl : l.length < 4611686018427387904) : spec_pzAsked.F l a s = some (if isPuzzle l a s = true then ((allSols l a s).take 301, decide ((((allSols l a s).take 301).length : Int) ≤ 300)) else ([], false)) := by
  rw [spec_pzAsked.F_eq, spec_pzGood.F_val l a s hl]
  simp only [Option.bind_some]
  by_cases h : isPuzzle l a s = true
  · rw [if_pos h, if_pos h, spec_pzAll.f_val l a s (isPuzzle_head h)]
    rfl
  · rw [if_neg h, if_neg h]
theorem solsLoop_mem {rec : List Int → Nat → List (List Int)} {prow row : List Int} {shift : Int} {used a L : Nat} (hrec : ∀ row' used' x, row'.length = L → x ∈ rec row' used' → x.length = L) (hL : row.length = L) : ∀ (m : Nat) (n : Int) (x : List Int), x ∈ solsLoop rec prow row shift used a m n → x.length = L
  | 0, n, x, h => by simp [solsLoop] at h
  | m + 1, n, x, h => by
    unfold solsLoop at h
    rcases List.mem_append.1 h with h | h
    · split at h
      · cases h
      · exact hrec _ _ x (by simpa using hL) h
    · exact solsLoop_mem hrec hL m (n + 1) x h
theorem sols_mem (prow : List Int) (from_ shift : Int) : ∀ (k : Nat) (row : List Int) (used : Nat) (x : List Int), x ∈ sols prow from_ shift k row used → x.length = row.length
  | 0, row, used, x, h => by simp [sols] at h
  | k + 1, row, used, x, h => by
    unfold sols at h
    split at h
    · rw [List.mem_singleton.1 h]
    · exact solsLoop_mem (fun row' used' x h1 h2 => (sols_mem prow from_ shift k row' used' x h2).trans h1) rfl _ _ x h
theorem allSols_mem {l : List Int} {a s : Int} {x : List Int} (h : x ∈ allSols l a s) : x.length = l.length := by
  have := sols_mem l a s _ _ _ x h
  simpa using this
theorem foundOf_mem {l : List Int} {a s : Int} {x : List Int} (h : x ∈ (foundOf l a s).1) : x.length = l.length := by
  unfold foundOf at h
  split at h
  · simp only at h
    split at h
    · exact allSols_mem (List.mem_of_mem_take h)
    · cases h
  · cases h
end Go.Proofs.Ytjfhcddahahdfaa.Fn
namespace Go.Proofs.Ytjfhcddahahdfaa.Fn
open Go.RowKit Go.Proofs.YtjfhcddahahdfaaW.PrintWords Go.Proofs.YtjfhcddahahdfaaW.PrintLast Go.Proofs.YtjfhcddahahdfaaW.PrintMore
set_option linter.unusedVariables false
set_option linter.unusedSimpArgs false
theorem solsLoop_pos {rec : List Int → Nat → List (List Int)} {prow row : List Int} {shift : Int} {used a : Nat} (hrec : ∀ row' used' x, (∀ y ∈ row', (0 : Int) ≤ y) → x ∈ rec row' used' → ∀ y ∈ x, 0 ≤ y) (hp : ∀ y ∈ row, (0 : Int) ≤ y) : ∀ (m : Nat) (n : Int) (x : List Int), 0 ≤ n → x ∈ solsLoop rec prow row shift used a m n → ∀ y ∈ x, 0 ≤ y
  | 0, n, x, hn, h => by simp [solsLoop] at h
  | m + 1, n, x, hn, h => by
    unfold solsLoop at h
    rcases List.mem_append.1 h with h | h
    · split at h
      · cases h
      · exact hrec _ _ x (fun y hy => by
          rcases List.mem_or_eq_of_mem_set hy with hy | hy
          · rcases List.mem_or_eq_of_mem_set hy with hy | hy
            · exact hp y hy
            · omega
          · omega) h
    · exact solsLoop_pos hrec hp m (n + 1) x (by omega) h
theorem sols_pos (prow : List Int) (from_ shift : Int) (hf : 0 ≤ from_) : ∀ (k : Nat) (row : List Int) (used : Nat) (x : List Int), (∀ y ∈ row, (0 : Int) ≤ y) → x ∈ sols prow from_ shift k row used → ∀ y ∈ x, 0 ≤ y
  | 0, row, used, x, hp, h => by simp [sols] at h
  | k + 1, row, used, x, hp, h => by
    unfold sols at h
    split at h
    · rw [List.mem_singleton.1 h]
      exact hp
    · exact solsLoop_pos (fun row' used' x h1 h2 => sols_pos prow from_ shift hf k row' used' x h1 h2) hp _ _ x hf h
theorem allSols_pos {l : List Int} {a s : Int} (ha : 0 ≤ a) {x : List Int} (h : x ∈ allSols l a s) : ∀ y ∈ x, 0 ≤ y :=
  sols_pos l a s ha _ _ _ x (fun y hy => by have := List.eq_of_mem_replicate hy; omega) h
theorem foundOf_parts {l : List Int} {a s : Int} (h : (foundOf l a s).2 = true) : isPuzzle l a s = true ∧ (foundOf l a s).1 = (allSols l a s).take 301 ∧ (foundOf l a s).1.length ≤ 300 := by
  unfold foundOf at h ⊢
  split at h
  · rename_i h1
    simp only [decide_eq_true_eq] at h
    rw [if_pos h1]
    simp only [h, if_true]
    exact ⟨h1, trivial, by omega⟩
  · cases h
/-- The numbers that all solutions have. -/
def sureNumbers (l : List Int) (a s : Int) : List Int × Bool := if (foundOf l a s).2 = true then (if (foundOf l a s).1 = [] then ([], false) else (sureOf (foundOf l a s).1, true)) else ([], false)
theorem sureFrom_len (xs : List (List Int)) : ∀ (m j : Nat) (out : List Int), (sureFrom xs m j out).length = out.length
  | 0, _, _ => rfl
  | m + 1, j, out => by
    unfold sureFrom
    rw [sureFrom_len xs m (j + 1), sureAt_len]
theorem getD_mem {xs : List (List Int)} (h : xs ≠ []) : xs.getD 0 [] ∈ xs := by
  cases xs with
  | nil => exact absurd rfl h
  | cons x t => simp
theorem sureNumbers_len (l : List Int) (a s : Int) : (sureNumbers l a s).1.length ≤ l.length := by
  have h := @foundOf_mem l a s
  unfold sureNumbers
  split
  · split
    · simp
    · rename_i h1
      simp only [sureOf, sureFrom_len]
      rw [h (getD_mem h1)]
      exact Nat.le_refl _
  · simp
theorem sureAt_pos (row : List Int) : ∀ (m i : Nat) (out : List Int), (∀ y ∈ out, (0 : Int) ≤ y) → ∀ y ∈ sureAt row m i out, 0 ≤ y
  | 0, _, _, h => h
  | m + 1, i, out, h => by
    unfold sureAt
    refine sureAt_pos row m (i + 1) _ ?_
    split
    · exact h
    · intro y hy
      rcases List.mem_or_eq_of_mem_set hy with hy | hy
      · exact h y hy
      · omega
theorem sureFrom_pos (xs : List (List Int)) : ∀ (m j : Nat) (out : List Int), (∀ y ∈ out, (0 : Int) ≤ y) → ∀ y ∈ sureFrom xs m j out, 0 ≤ y
  | 0, _, _, h => h
  | m + 1, j, out, h => by
    unfold sureFrom
    exact sureFrom_pos xs m (j + 1) _ (sureAt_pos _ _ _ _ h)
theorem impl_SureNumbers.F_val (l : List Int) (a s : Int) (hl : l.length < 4611686018427387904) : impl_SureNumbers.F l a s = some (sureNumbers l a s) := by
  rw [impl_SureNumbers.F_eq, impl_Puzzle_solutions.F_val l a s hl]
  simp only [Option.bind_some]
  unfold sureNumbers
  by_cases h : (foundOf l a s).2 = true
  · obtain ⟨h1, h2, h3⟩ := foundOf_parts h
    obtain ⟨g1, g2, g3, g4, g5, g6, g7⟩ := isPuzzle_head h1
    rw [if_pos h, if_pos h]
    by_cases h4 : (foundOf l a s).1 = []
    · rw [if_pos h4, if_pos h4]
    · rw [if_neg h4, if_neg h4, if_pos ⟨by omega, by omega, fun x hx => foundOf_mem hx, h3⟩]
  · rw [if_neg h, if_neg h]
theorem spec_pzSure.L1_val (xs : List (List Int)) (row : List Int) (hr : row.length ≤ 100) (len j : Int) : ∀ (m i : Nat) (out : List Int), i + m = row.length → out.length = row.length → spec_pzSure.L1 out xs len j row (row.length : Int) (i : Int) = spec_pzSure.L0 (sureAt row m i out) xs len (wrap64 (j + 1))
  | 0, i, out, hi, ho => by
    rw [spec_pzSure.L1_eq, if_neg (by omega)]
    rfl
  | m + 1, i, out, hi, ho => by
    rw [spec_pzSure.L1_eq, if_pos (by omega), if_pos (by omega), if_pos (by omega), if_pos (by omega), show wrap64 ((i : Int) + 1) = ((i + 1 : Nat) : Int) by rw [wrap_in (by omega) (by omega)]; rfl, Int.toNat_natCast, sureAt]
    by_cases h : rd out i = rd row i
    · rw [if_pos h, if_pos h, spec_pzSure.L1_val xs row hr len j m (i + 1) out (by omega) ho]
    · rw [if_neg h, if_neg h, spec_pzSure.L1_val xs row hr len j m (i + 1) _ (by omega) (by rw [List.length_set]; exact ho)]
theorem spec_pzSure.L0_val (xs : List (List Int)) (n : Nat) (hn : n ≤ 100) (hx : ∀ x ∈ xs, x.length = n) (hl : xs.length ≤ 300) : ∀ (m j : Nat) (out : List Int), j + m = xs.length → out.length = n → spec_pzSure.L0 out xs (xs.length : Int) (j : Int) = some (sureFrom xs m j out)
  | 0, j, out, hj, ho => by
    rw [spec_pzSure.L0_eq, if_neg (by omega)]
    rfl
  | m + 1, j, out, hj, ho => by
    have e : rd_L1 xs (j : Int) = xs.getD j [] := by unfold rd_L1; rw [Int.toNat_natCast]
    have hlen : (xs.getD j []).length = n := hx _ (by rw [List.getD_eq_getElem?_getD, List.getElem?_eq_getElem (by omega)]; exact List.getElem_mem (by omega))
    have := spec_pzSure.L1_val xs (xs.getD j []) (by omega) (xs.length : Int) (j : Int) (xs.getD j []).length 0 out (by omega) (by omega)
    simp only [Int.natCast_zero, Int.ofNat_zero] at this
    rw [spec_pzSure.L0_eq, if_pos (by omega), if_pos (by omega), if_pos (by omega), e, this, show wrap64 ((j : Int) + 1) = ((j + 1 : Nat) : Int) by rw [wrap_in (by omega) (by omega)]; rfl, spec_pzSure.L0_val xs n hn hx hl m (j + 1) _ (by omega) (by rw [sureAt_len]; exact ho), sureFrom]
theorem spec_pzSure.F_val (xs : List (List Int)) (n : Nat) (hn : n ≤ 100) (hx : ∀ x ∈ xs, x.length = n) (hl : xs.length ≤ 300) (hne : xs ≠ []) : spec_pzSure.F xs = some (sureOf xs) := by
  have hpos : 0 < xs.length := by
    cases xs with
    | nil => exact absurd rfl hne
    | cons x t => simp
  have e : rd_L1 xs 0 = xs.getD 0 [] := rfl
  have hlen := hx _ (getD_mem hne)
  rw [spec_pzSure.F_eq, if_pos (by omega), e, spec_l1Own.f_val _ (by omega)]
  simp only [Option.bind_some]
  have := spec_pzSure.L0_val xs n hn hx hl xs.length 0 (xs.getD 0 []) (by omega) hlen
  simpa [sureOf] using this
def hintFrom (prow sure : List Int) : Nat → Nat → Int × Int × Bool
  | 0, _ => (0, 0, false)
  | m + 1, i => if rd prow i = 0 ∧ rd sure i ≠ 0 then ((i : Int), rd sure i, true) else hintFrom prow sure m (i + 1)
def hintOf (l : List Int) (a s : Int) : Int × Int × Bool := if (sureNumbers l a s).2 = true then hintFrom l (sureNumbers l a s).1 l.length 0 else (0, 0, false)
theorem sureNumbers_parts {l : List Int} {a s : Int} (h : (sureNumbers l a s).2 = true) : isPuzzle l a s = true ∧ (sureNumbers l a s).1.length = l.length ∧ ∀ y ∈ (sureNumbers l a s).1, 0 ≤ y := by
  have hm := @foundOf_mem l a s
  unfold sureNumbers at h ⊢
  split at h
  · rename_i h1
    obtain ⟨h2, h3, h4⟩ := foundOf_parts h1
    rw [if_pos h1]
    split at h
    · cases h
    · rename_i h5
      rw [if_neg h5]
      refine ⟨h2, ?_, ?_⟩
      · simp only [sureOf, sureFrom_len]
        exact hm (getD_mem h5)
      · have hh := isPuzzle_head h2
        obtain ⟨g1, g2, g3, g4, g5, g6, g7⟩ := hh
        have h6 := getD_mem h5
        rw [h3] at h6
        exact sureFrom_pos _ _ _ _ (by rw [h3]; exact allSols_pos (by omega) (List.mem_of_mem_take h6))
  · cases h
theorem impl_HintOf.L0_val (prow sure : List Int) (a s : Int) (hs : sure.length = prow.length) (hl : prow.length ≤ 100) (hp : ∀ y ∈ sure, (0 : Int) ≤ y) : ∀ (m i : Nat), i + m = prow.length → impl_HintOf.L0 sure (sure.length : Int) (i : Int) prow a s = some (hintFrom prow sure m i)
  | 0, i, hi => by
    rw [impl_HintOf.L0_eq, if_neg (by omega)]
    rfl
  | m + 1, i, hi => by
    have hpos : 0 ≤ rd sure i := by
      rw [rd_nat sure i (by omega)]
      exact hp _ (List.getElem_mem _)
    have hw : wrap64 ((i : Int) + 1) = ((i + 1 : Nat) : Int) := by rw [wrap_in (by omega) (by omega)]; rfl
    rw [impl_HintOf.L0_eq, if_pos (by omega), if_pos (by omega), if_pos (by omega), hw, hintFrom]
    by_cases h1 : rd sure i > 0
    · rw [if_pos h1, if_pos (by omega)]
      by_cases h2 : rd prow i = 0
      · rw [if_pos h2, if_pos ⟨h2, by omega⟩]
      · rw [if_neg h2, if_neg (fun h => h2 h.1), impl_HintOf.L0_val prow sure a s hs hl hp m (i + 1) (by omega)]
    · rw [if_neg h1, if_neg (fun h => h.2 (by omega)), impl_HintOf.L0_val prow sure a s hs hl hp m (i + 1) (by omega)]
theorem impl_HintOf.F_val (l : List Int) (a s : Int) (hl : l.length < 4611686018427387904) : impl_HintOf.F l a s = some (hintOf l a s) := by
  rw [impl_HintOf.F_eq, impl_SureNumbers.F_val l a s hl]
  simp only [Option.bind_some]
  unfold hintOf
  by_cases h : (sureNumbers l a s).2 = true
  · obtain ⟨h1, h2, h3⟩ := sureNumbers_parts h
    obtain ⟨g1, g2, g3, g4, g5, g6, g7⟩ := isPuzzle_head h1
    rw [if_pos h, if_pos h]
    have := impl_HintOf.L0_val l (sureNumbers l a s).1 a s h2 (by omega) h3 l.length 0 (by omega)
    simpa using this
  · rw [if_neg h, if_neg h]
theorem spec_HintOf.L0_val (prow sure : List Int) (a s : Int) (hs : sure.length = prow.length) (hl : prow.length ≤ 100) : ∀ (m i : Nat), i + m = prow.length → spec_HintOf.L0 sure (sure.length : Int) (i : Int) prow a s = some (hintFrom prow sure m i)
  | 0, i, hi => by
    rw [spec_HintOf.L0_eq, if_neg (by omega)]
    rfl
  | m + 1, i, hi => by
    have hw : wrap64 ((i : Int) + 1) = ((i + 1 : Nat) : Int) := by rw [wrap_in (by omega) (by omega)]; rfl
    rw [spec_HintOf.L0_eq, if_pos (by omega), if_pos (by omega), if_pos (by omega), if_pos (by omega), hw, hintFrom]
    by_cases h2 : rd prow i = 0
    · rw [if_pos h2]
      by_cases h1 : rd sure i = 0
      · rw [if_pos h1, if_neg (fun h => h.2 h1), spec_HintOf.L0_val prow sure a s hs hl m (i + 1) (by omega)]
      · rw [if_neg h1, if_pos ⟨h2, h1⟩]
    · rw [if_neg h2, if_neg (fun h => h2 h.1), spec_HintOf.L0_val prow sure a s hs hl m (i + 1) (by omega)]
theorem spec_HintOf.F_val (l : List Int) (a s : Int) (hl : l.length < 4611686018427387904) : spec_HintOf.F l a s = some (hintOf l a s) := by
  rw [spec_HintOf.F_eq, spec_pzAsked.F_val l a s hl]
  simp only [Option.bind_some, spec_HintOf.J0_eq]
  have hm := @foundOf_mem l a s
  unfold hintOf sureNumbers foundOf
  unfold foundOf at hm
  by_cases h : isPuzzle l a s = true
  · obtain ⟨g1, g2, g3, g4, g5, g6, g7⟩ := isPuzzle_head h
    rw [if_pos h] at hm
    rw [if_pos h, if_pos h]
    by_cases h2 : (((allSols l a s).take 301).length : Int) ≤ 300
    · simp only [h2, decide_true, if_true] at hm ⊢
      generalize (allSols l a s).take 301 = xs at hm h2
      by_cases h3 : xs = []
      · subst h3
        rfl
      · have hpos : ((xs.length : Int) == 0) = false := by
          cases xs with
          | nil => exact absurd rfl h3
          | cons x t => rw [List.length_cons, beq_eq_false_iff_ne]; omega
        rw [hpos, if_neg (by decide), if_neg h3, spec_pzSure.F_val xs l.length (by omega) (fun x hx => hm hx) (by omega) h3]
        simp only [Option.bind_some, if_true]
        have hsl : (sureOf xs).length = l.length := by
          simp only [sureOf, sureFrom_len]
          exact hm (getD_mem h3)
        have := spec_HintOf.L0_val l (sureOf xs) a s hsl (by omega) l.length 0 (by omega)
        simpa using this
    · simp only [h2, decide_false, if_false, Bool.false_eq_true, if_true]
  · rw [if_neg h, if_neg h]
    rfl
end Go.Proofs.Ytjfhcddahahdfaa.Fn
namespace Go.Proofs.Ytjfhcddahahdfaa.Pure
open Go.RowKit Go.Proofs.Ytjfhcddahahdfaa.Fn Go.Proofs.YtjfhcddahahdfaaW.PrintWords Go.Proofs.YtjfhcddahahdfaaW.PrintLast Go.Proofs.YtjfhcddahahdfaaW.PrintMore
set_option linter.unusedVariables false
set_option linter.unusedSimpArgs false
theorem FnExactHintOf : laws_FnExactHintOf.Pure := by
  intro l0_0 a0_1 a0_2 hl _ _ _ _
  refine Lim.rounds (laws_FnExactHintOf.F_lim l0_0 a0_1 a0_2) ?_
  rw [laws_FnExactHintOf.F_eq]
  have hl' : l0_0.length ≤ 35184372088832 := by simp only [maxLen] at hl; omega
  have e1 := laws_szPuzzle.f_val l0_0 a0_1 a0_2 (by omega)
  by_cases h0 : l0_0.length ≤ 1048576
  case neg =>
    rw [if_neg h0] at e1
    rw [e1]
    rfl
  rw [if_pos h0] at e1
  have n0 : ¬ (1048576 - (l0_0.length : Int) < 0) := by omega
  have e0 := laws_toPuzzle.F_val l0_0 a0_1 a0_2 (by omega)
  have q0 := laws_eqPuzzle.F_same l0_0 a0_1 a0_2 (by omega)
  have s := spec_HintOf.F_val l0_0 a0_1 a0_2 (by omega)
  have i := impl_HintOf.F_val l0_0 a0_1 a0_2 (by omega)
  simp only [e1, n0, e0, s, i, q0, Option.bind_some, if_true, bne_self_eq_false, if_false, Bool.false_eq_true, laws_FnExactHintOf.J0_eq]
end Go.Proofs.Ytjfhcddahahdfaa.Pure
