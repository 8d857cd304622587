/- The machine's side and plain lemmas for FnExactSureNumbers: texts of this session, merged by its program (part 2). -/
import Derived.Test.YtjfhcddahahdfaaMFnExactSureNumbers0
import Derived.Test.YtjfhcddahahdfaaMFnExactSureNumbers1
namespace Go.Proofs.Ytjfhcddahahdfaa.Fn
open Go.RowKit Go.Proofs.YtjfhcddahahdfaaW.PrintWords Go.Proofs.YtjfhcddahahdfaaW.PrintLast Go.Proofs.YtjfhcddahahdfaaW.PrintMore
attribute [local go_sem] max2_int min2_int max_two min_two max_three min_three max_four min_four   -- for this text's walks alone
set_option linter.unusedVariables false
set_option linter.unusedSimpArgs false

/-! ### laws_FnExactSureNumbers: function 12 -/
mutual
def laws_FnExactSureNumbers.j0 : Nat → List Int → Bool → List Int → Bool → Bool → List Int → Int → Int → List Int → Int → Int → Option (Bool)
  | 0, _, _, _, _, _, _, _, _, _, _, _ => none
  | k + 1, x4, x5, x7, x8, x40, x687000, x687001, x687002, x703000, x703001, x703002 => if x40 = true then (some false) else ((laws_toPuzzle.f k x687000 x687001 x687002).bind fun bt708 => ((laws_eqPuzzle.f k x703000 x703001 x703002 bt708.1 bt708.2.1 bt708.2.2).bind fun t713 => (if t713 = true then ((laws_markPuzzle.f k x703000 x703001 x703002 1).bind fun bt714 => (if bt714.1 < 0 then (laws_FnExactSureNumbers.j1 k x4 x5 x7 true x687000 x687001 x687002) else ((laws_eqIntS.f k x7 x4).bind fun t716 => (if t716 = true then (laws_FnExactSureNumbers.j1 k x4 x5 x7 (x8 != x5) x687000 x687001 x687002) else (laws_FnExactSureNumbers.j1 k x4 x5 x7 true x687000 x687001 x687002))))) else (some false))))
def laws_FnExactSureNumbers.j1 : Nat → List Int → Bool → List Int → Bool → List Int → Int → Int → Option (Bool)
  | 0, _, _, _, _, _, _, _ => none
  | k + 1, x4, x5, x7, x61, x687000, x687001, x687002 => if x61 = true then (some false) else ((laws_markIntS.f k x7 1).bind fun bt717 => ((laws_heldIntS.f k bt717.2 1).bind fun t719 => (if t719 < 0 then (some false) else (if t719 = bt717.1 then ((laws_toPuzzle.f k x687000 x687001 x687002).bind fun bt720 => ((impl_SureNumbers.f k bt720.1 bt720.2.1 bt720.2.2).bind fun bt725 => ((laws_eqIntS.f k bt725.1 x4).bind fun t729 => (if t729 = true then (laws_FnExactSureNumbers.j2 k bt717.2 bt717.1 (bt725.2 != x5)) else (laws_FnExactSureNumbers.j2 k bt717.2 bt717.1 true))))) else (some false)))))
def laws_FnExactSureNumbers.j2 : Nat → List Int → Int → Bool → Option (Bool)
  | 0, _, _, _ => none
  | k + 1, x7, x10, x87 => if x87 = true then (some false) else ((laws_heldIntS.f k x7 1).bind fun t730 => (if t730 < 0 then (some false) else (if t730 = x10 then (some true) else (some false))))
end
def laws_FnExactSureNumbers.f (k : Nat) (l0_0 : List Int) (a0_1 : Int) (a0_2 : Int) : Option (Bool) := (laws_szPuzzle.f l0_0 a0_1 a0_2 1048576).bind fun t687 => (if t687 < 0 then (some true) else ((laws_toPuzzle.f k l0_0 a0_1 a0_2).bind fun bt688 => ((spec_SureNumbers.f k bt688.1 bt688.2.1 bt688.2.2).bind fun bt693 => ((laws_toPuzzle.f k l0_0 a0_1 a0_2).bind fun bt697 => ((impl_SureNumbers.f k bt697.1 bt697.2.1 bt697.2.2).bind fun bt703 => ((laws_eqIntS.f k bt703.1 bt693.1).bind fun t707 => (if t707 = true then (laws_FnExactSureNumbers.j0 k bt693.1 bt693.2 bt703.1 bt703.2 (bt703.2 != bt693.2) l0_0 a0_1 a0_2 bt697.1 bt697.2.1 bt697.2.2) else (laws_FnExactSureNumbers.j0 k bt693.1 bt693.2 bt703.1 bt703.2 true l0_0 a0_1 a0_2 bt697.1 bt697.2.1 bt697.2.2))))))))
theorem laws_FnExactSureNumbers.mono_l : ∀ k, (∀ y0 y1 y2 y3 y4 y5 y6 y7 y8 y9 y10, LeO (laws_FnExactSureNumbers.j0 k y0 y1 y2 y3 y4 y5 y6 y7 y8 y9 y10) (laws_FnExactSureNumbers.j0 (k + 1) y0 y1 y2 y3 y4 y5 y6 y7 y8 y9 y10)) ∧ (∀ y0 y1 y2 y3 y4 y5 y6, LeO (laws_FnExactSureNumbers.j1 k y0 y1 y2 y3 y4 y5 y6) (laws_FnExactSureNumbers.j1 (k + 1) y0 y1 y2 y3 y4 y5 y6)) ∧ (∀ y0 y1 y2, LeO (laws_FnExactSureNumbers.j2 k y0 y1 y2) (laws_FnExactSureNumbers.j2 (k + 1) y0 y1 y2))
  | 0 => ⟨fun _ _ _ _ _ _ _ _ _ _ _ r h => by simp [laws_FnExactSureNumbers.j0] at h, fun _ _ _ _ _ _ _ r h => by simp [laws_FnExactSureNumbers.j1] at h, fun _ _ _ r h => by simp [laws_FnExactSureNumbers.j2] at h⟩
  | k + 1 => by
    obtain ⟨ih0, ih1, ih2⟩ := laws_FnExactSureNumbers.mono_l k
    refine ⟨?_, ?_, ?_⟩
    · intro y0 y1 y2 y3 y4 y5 y6 y7 y8 y9 y10
      unfold laws_FnExactSureNumbers.j0
      repeat' first
      | (with_reducible exact ih0 _ _ _ _ _ _ _ _ _ _ _)
      | (with_reducible exact ih1 _ _ _ _ _ _ _)
      | (with_reducible exact ih2 _ _ _)
      | (with_reducible exact impl_SureNumbers.mono _ _ _ _)
      | (with_reducible exact laws_eqIntS.mono _ _ _)
      | (with_reducible exact laws_eqPuzzle.mono _ _ _ _ _ _ _)
      | (with_reducible exact laws_heldIntS.mono _ _ _)
      | (with_reducible exact laws_markIntS.mono _ _ _)
      | (with_reducible exact laws_markPuzzle.mono _ _ _ _ _)
      | (with_reducible exact laws_toPuzzle.mono _ _ _ _)
      | (with_reducible exact spec_SureNumbers.mono _ _ _ _)
      | (with_reducible exact LeO.refl _)
      | (with_reducible exact LeO.none _)
      | (with_reducible refine LeO.ite ?_ ?_)
      | (with_reducible refine LeO.bind ?_ (fun _ => ?_))
      | exact ih0 _ _ _ _ _ _ _ _ _ _ _
      | exact ih1 _ _ _ _ _ _ _
      | exact ih2 _ _ _
      | exact impl_SureNumbers.mono _ _ _ _
      | exact laws_eqIntS.mono _ _ _
      | exact laws_eqPuzzle.mono _ _ _ _ _ _ _
      | exact laws_heldIntS.mono _ _ _
      | exact laws_markIntS.mono _ _ _
      | exact laws_markPuzzle.mono _ _ _ _ _
      | exact laws_toPuzzle.mono _ _ _ _
      | exact spec_SureNumbers.mono _ _ _ _
      | exact LeO.none _
      | refine LeO.ite ?_ ?_
      | refine LeO.bind ?_ (fun _ => ?_)
    · intro y0 y1 y2 y3 y4 y5 y6
      unfold laws_FnExactSureNumbers.j1
      repeat' first
      | (with_reducible exact ih0 _ _ _ _ _ _ _ _ _ _ _)
      | (with_reducible exact ih1 _ _ _ _ _ _ _)
      | (with_reducible exact ih2 _ _ _)
      | (with_reducible exact impl_SureNumbers.mono _ _ _ _)
      | (with_reducible exact laws_eqIntS.mono _ _ _)
      | (with_reducible exact laws_eqPuzzle.mono _ _ _ _ _ _ _)
      | (with_reducible exact laws_heldIntS.mono _ _ _)
      | (with_reducible exact laws_markIntS.mono _ _ _)
      | (with_reducible exact laws_markPuzzle.mono _ _ _ _ _)
      | (with_reducible exact laws_toPuzzle.mono _ _ _ _)
      | (with_reducible exact spec_SureNumbers.mono _ _ _ _)
      | (with_reducible exact LeO.refl _)
      | (with_reducible exact LeO.none _)
      | (with_reducible refine LeO.ite ?_ ?_)
      | (with_reducible refine LeO.bind ?_ (fun _ => ?_))
      | exact ih0 _ _ _ _ _ _ _ _ _ _ _
      | exact ih1 _ _ _ _ _ _ _
      | exact ih2 _ _ _
      | exact impl_SureNumbers.mono _ _ _ _
      | exact laws_eqIntS.mono _ _ _
      | exact laws_eqPuzzle.mono _ _ _ _ _ _ _
      | exact laws_heldIntS.mono _ _ _
      | exact laws_markIntS.mono _ _ _
      | exact laws_markPuzzle.mono _ _ _ _ _
      | exact laws_toPuzzle.mono _ _ _ _
      | exact spec_SureNumbers.mono _ _ _ _
      | exact LeO.none _
      | refine LeO.ite ?_ ?_
      | refine LeO.bind ?_ (fun _ => ?_)
    · intro y0 y1 y2
      unfold laws_FnExactSureNumbers.j2
      repeat' first
      | (with_reducible exact ih0 _ _ _ _ _ _ _ _ _ _ _)
      | (with_reducible exact ih1 _ _ _ _ _ _ _)
      | (with_reducible exact ih2 _ _ _)
      | (with_reducible exact impl_SureNumbers.mono _ _ _ _)
      | (with_reducible exact laws_eqIntS.mono _ _ _)
      | (with_reducible exact laws_eqPuzzle.mono _ _ _ _ _ _ _)
      | (with_reducible exact laws_heldIntS.mono _ _ _)
      | (with_reducible exact laws_markIntS.mono _ _ _)
      | (with_reducible exact laws_markPuzzle.mono _ _ _ _ _)
      | (with_reducible exact laws_toPuzzle.mono _ _ _ _)
      | (with_reducible exact spec_SureNumbers.mono _ _ _ _)
      | (with_reducible exact LeO.refl _)
      | (with_reducible exact LeO.none _)
      | (with_reducible refine LeO.ite ?_ ?_)
      | (with_reducible refine LeO.bind ?_ (fun _ => ?_))
      | exact ih0 _ _ _ _ _ _ _ _ _ _ _
      | exact ih1 _ _ _ _ _ _ _
      | exact ih2 _ _ _
      | exact impl_SureNumbers.mono _ _ _ _
      | exact laws_eqIntS.mono _ _ _
      | exact laws_eqPuzzle.mono _ _ _ _ _ _ _
      | exact laws_heldIntS.mono _ _ _
      | exact laws_markIntS.mono _ _ _
      | exact laws_markPuzzle.mono _ _ _ _ _
      | exact laws_toPuzzle.mono _ _ _ _
      | exact spec_SureNumbers.mono _ _ _ _
      | exact LeO.none _
      | refine LeO.ite ?_ ?_
      | refine LeO.bind ?_ (fun _ => ?_)
theorem laws_FnExactSureNumbers.mono : ∀ a0 a1 a2 k, LeO (laws_FnExactSureNumbers.f k a0 a1 a2) (laws_FnExactSureNumbers.f (k + 1) a0 a1 a2) := by
  intro a0 a1 a2 k
  obtain ⟨ih0, ih1, ih2⟩ := laws_FnExactSureNumbers.mono_l k
  unfold laws_FnExactSureNumbers.f
  repeat' first
      | (with_reducible exact ih0 _ _ _ _ _ _ _ _ _ _ _)
      | (with_reducible exact ih1 _ _ _ _ _ _ _)
      | (with_reducible exact ih2 _ _ _)
      | (with_reducible exact impl_SureNumbers.mono _ _ _ _)
      | (with_reducible exact laws_eqIntS.mono _ _ _)
      | (with_reducible exact laws_eqPuzzle.mono _ _ _ _ _ _ _)
      | (with_reducible exact laws_heldIntS.mono _ _ _)
      | (with_reducible exact laws_markIntS.mono _ _ _)
      | (with_reducible exact laws_markPuzzle.mono _ _ _ _ _)
      | (with_reducible exact laws_toPuzzle.mono _ _ _ _)
      | (with_reducible exact spec_SureNumbers.mono _ _ _ _)
      | (with_reducible exact LeO.refl _)
      | (with_reducible exact LeO.none _)
      | (with_reducible refine LeO.ite ?_ ?_)
      | (with_reducible refine LeO.bind ?_ (fun _ => ?_))
      | exact ih0 _ _ _ _ _ _ _ _ _ _ _
      | exact ih1 _ _ _ _ _ _ _
      | exact ih2 _ _ _
      | exact impl_SureNumbers.mono _ _ _ _
      | exact laws_eqIntS.mono _ _ _
      | exact laws_eqPuzzle.mono _ _ _ _ _ _ _
      | exact laws_heldIntS.mono _ _ _
      | exact laws_markIntS.mono _ _ _
      | exact laws_markPuzzle.mono _ _ _ _ _
      | exact laws_toPuzzle.mono _ _ _ _
      | exact spec_SureNumbers.mono _ _ _ _
      | exact LeO.none _
      | refine LeO.ite ?_ ?_
      | refine LeO.bind ?_ (fun _ => ?_)
set_option maxHeartbeats 8000000 in
set_option maxRecDepth 100000 in
theorem laws_FnExactSureNumbers.calls (k : Nat) (A0_0 : Option Addr) (c0_0 : Nat) (l0_0 : List Int) (a0_1 : Int) (a0_2 : Int) (r : Bool) (w : World) (hr0_0 : Kd.C (Kd.int .i64) w A0_0 l0_0.length l0_0) (hc0_0 : l0_0.length ≤ c0_0) (h : laws_FnExactSureNumbers.f k l0_0 a0_1 a0_2 = some r) :
    Calls Try.prog 12 #[.agg #[.slice A0_0 l0_0.length c0_0, .int .i64 a0_1, .int .i64 a0_2]] w fun e w' => e = .returned (.bool r) ∧ Below w.heap.size w w' := by
  have hu24 := Try.underlying24
  have hu27 := Try.underlying27
  have HR0_0 := Aside0.mk hr0_0
  have HC0_0 := Aside0.mk hc0_0
  clear hr0_0 hc0_0
  have HB := Aside0.mk (Below.refl w.heap.size w)
  have H : ((laws_szPuzzle.f l0_0 a0_1 a0_2 1048576).bind fun t687 => (if t687 < 0 then (some true) else ((laws_toPuzzle.f k l0_0 a0_1 a0_2).bind fun bt688 => ((spec_SureNumbers.f k bt688.1 bt688.2.1 bt688.2.2).bind fun bt693 => ((laws_toPuzzle.f k l0_0 a0_1 a0_2).bind fun bt697 => ((impl_SureNumbers.f k bt697.1 bt697.2.1 bt697.2.2).bind fun bt703 => ((laws_eqIntS.f k bt703.1 bt693.1).bind fun t707 => (if t707 = true then (laws_FnExactSureNumbers.j0 k bt693.1 bt693.2 bt703.1 bt703.2 (bt703.2 != bt693.2) l0_0 a0_1 a0_2 bt697.1 bt697.2.1 bt697.2.2) else (laws_FnExactSureNumbers.j0 k bt693.1 bt693.2 bt703.1 bt703.2 true l0_0 a0_1 a0_2 bt697.1 bt697.2.1 bt697.2.2))))))))) = some r := h
  clear h
  replace H := Option.bind_eq_some_iff.mp H
  obtain ⟨t687, A20, H⟩ := H
  replace H : (if t687 < 0 then (some true) else ((laws_toPuzzle.f k l0_0 a0_1 a0_2).bind fun bt688 => ((spec_SureNumbers.f k bt688.1 bt688.2.1 bt688.2.2).bind fun bt693 => ((laws_toPuzzle.f k l0_0 a0_1 a0_2).bind fun bt697 => ((impl_SureNumbers.f k bt697.1 bt697.2.1 bt697.2.2).bind fun bt703 => ((laws_eqIntS.f k bt703.1 bt693.1).bind fun t707 => (if t707 = true then (laws_FnExactSureNumbers.j0 k bt693.1 bt693.2 bt703.1 bt703.2 (bt703.2 != bt693.2) l0_0 a0_1 a0_2 bt697.1 bt697.2.1 bt697.2.2) else (laws_FnExactSureNumbers.j0 k bt693.1 bt693.2 bt703.1 bt703.2 true l0_0 a0_1 a0_2 bt697.1 bt697.2.1 bt697.2.2)))))))) = some r := H
  have A2 := Aside0.mk A20
  clear A20
  by_cases c3 : t687 < 0
  · rw [if_pos c3] at H
    have c3b0 : decide (t687 < 0) = true := decide_eq_true c3
    clear c3
    obtain rfl := Option.some.inj H
    go_enter Try.func12, Try.ntmps12
    go_wp2_with (first | ((with_reducible refine gate_dst (N := 1) rfl ?_); refine box_event ?hg (N := 1) ?hd (cs := #[.slice A0_0 l0_0.length c0_0, .int .i64 a0_1, .int .i64 a0_2]) (t := 24) ?hr ?_; (case hd => rfl); (case hg => rfl); (case hr => first | (go_simp; done) | (go_simp; rfl)); intro gb686 hg w4 hbox hb; have n0_ := Aside0.mk (below_step (by repeat (first | (with_reducible first | exact HB.out | apply below_alloc | apply pw_below_drewN | apply below_drew1) | exact HB.out)) hb); have n1_ := Aside0.mk (hbox); have n2_ := Aside0.mk ((by rw [hg]; exact (below_size (by repeat (first | (with_reducible first | exact HB.out | apply below_alloc | apply pw_below_drewN | apply below_drew1) | exact HB.out))) : w.heap.size ≤ gb686)); have n3_ := Aside0.mk ((by rw [hg]; exact (below_size (by repeat (first | (with_reducible first | exact HB.out | apply below_alloc | apply pw_below_drewN | apply below_drew1) | exact HB.out))) : w.heap.size ≤ gb686)); clear HB; have HB := n0_; have BK686 := n1_; have GW686 := n2_; have GE686 := n3_; clear n0_ n1_ n2_ n3_; clear hb hbox hg; have hcz5_0 : w4.cell? ⟨gb686, 0, none⟩ = some (.slice A0_0 l0_0.length c0_0) := (blk_cell BK686.out 0).trans rfl; have hcz5_1 : w4.cell? ⟨gb686, 1, none⟩ = some (.int .i64 a0_1) := (blk_cell BK686.out 1).trans rfl; have hcz5_2 : w4.cell? ⟨gb686, 2, none⟩ = some (.int .i64 a0_2) := (blk_cell BK686.out 2).trans rfl; have hfz5_0 := blk_frozen BK686.out 0; have hfz5_1 := blk_frozen BK686.out 1; have hfz5_2 := blk_frozen BK686.out 2) | ((with_reducible refine gate_callee (f := 15) rfl ?_); refine goesL_ (some 16) rfl rfl Try.func15 (by kernel_rfl) rfl #[.agg #[.slice A0_0 l0_0.length c0_0, .int .i64 a0_1, .int .i64 a0_2], .int .i64 1048576] rfl (by (try simp only [List.map_toArray, List.map_cons, List.map_nil]); first | done | rfl | (simp only [List.length_drop, List.length_take]; rfl)) ?_; (with_reducible refine (laws_szPuzzle.calls _ _ l0_0 a0_1 a0_2 1048576 t687 _ ?side1 ?side2 A2.out).mono ?_); (case side1 => repeat (first | exact (Kd.C_below HR0_0.out HB.out) | (with_reducible refine Kd.C_alloc ?_ _) | (with_reducible refine Kd.C_drewN ?_ _) | (with_reducible refine Kd.C_drew ?_))); (case side2 => exact HC0_0.out); rintro e w6 ⟨rfl, hb⟩; refine ⟨_, rfl, ?_⟩; have n0_ := Aside0.mk (blk_below (g := gb686) (o := .cells #[.slice A0_0 l0_0.length c0_0, .int .i64 a0_1, .int .i64 a0_2] 24 (0, 0)) (by (with_reducible repeat (first | refine blk_drewN ?_ _ | refine blk_drew ?_ | refine blk_alloc ?_ _)); exact BK686.out) hb); have n1_ := Aside0.mk (below_step (by repeat (first | (with_reducible first | exact HB.out | apply below_alloc | apply pw_below_drewN | apply below_drew1 | refine below_set ?_ GE686.out) | exact HB.out)) hb); clear BK686; clear HB; have BK686 := n0_; have HB := n1_; clear n0_ n1_; (try clear hb); (try clear hb2); (try clear hk); (try clear hi)))
    go_ret
    exact ⟨by first | rfl | (simp [errW_none, errW_some] <;> rfl) | (simp [*, errW_none, errW_some] <;> rfl), by repeat (first | (with_reducible first | exact HB.out | apply below_alloc | apply pw_below_drewN | apply below_drew1 | refine below_set ?_ GE686.out) | exact HB.out)⟩
  · rw [if_neg c3] at H
    have c3b0 : decide (t687 < 0) = false := decide_eq_false c3
    clear c3
    replace H := Option.bind_eq_some_iff.mp H
    obtain ⟨⟨t688, t691, t692⟩, A70, H⟩ := H
    replace H : ((spec_SureNumbers.f k t688 t691 t692).bind fun bt693 => ((laws_toPuzzle.f k l0_0 a0_1 a0_2).bind fun bt697 => ((impl_SureNumbers.f k bt697.1 bt697.2.1 bt697.2.2).bind fun bt703 => ((laws_eqIntS.f k bt703.1 bt693.1).bind fun t707 => (if t707 = true then (laws_FnExactSureNumbers.j0 k bt693.1 bt693.2 bt703.1 bt703.2 (bt703.2 != bt693.2) l0_0 a0_1 a0_2 bt697.1 bt697.2.1 bt697.2.2) else (laws_FnExactSureNumbers.j0 k bt693.1 bt693.2 bt703.1 bt703.2 true l0_0 a0_1 a0_2 bt697.1 bt697.2.1 bt697.2.2)))))) = some r := H
    have A7 := Aside0.mk A70
    clear A70
    replace H := Option.bind_eq_some_iff.mp H
    obtain ⟨⟨t693, t696⟩, A80, H⟩ := H
    replace H : ((laws_toPuzzle.f k l0_0 a0_1 a0_2).bind fun bt697 => ((impl_SureNumbers.f k bt697.1 bt697.2.1 bt697.2.2).bind fun bt703 => ((laws_eqIntS.f k bt703.1 t693).bind fun t707 => (if t707 = true then (laws_FnExactSureNumbers.j0 k t693 t696 bt703.1 bt703.2 (bt703.2 != t696) l0_0 a0_1 a0_2 bt697.1 bt697.2.1 bt697.2.2) else (laws_FnExactSureNumbers.j0 k t693 t696 bt703.1 bt703.2 true l0_0 a0_1 a0_2 bt697.1 bt697.2.1 bt697.2.2))))) = some r := H
    have A8 := Aside0.mk A80
    clear A80
    replace H := Option.bind_eq_some_iff.mp H
    obtain ⟨⟨t697, t700, t701⟩, A90, H⟩ := H
    replace H : ((impl_SureNumbers.f k t697 t700 t701).bind fun bt703 => ((laws_eqIntS.f k bt703.1 t693).bind fun t707 => (if t707 = true then (laws_FnExactSureNumbers.j0 k t693 t696 bt703.1 bt703.2 (bt703.2 != t696) l0_0 a0_1 a0_2 t697 t700 t701) else (laws_FnExactSureNumbers.j0 k t693 t696 bt703.1 bt703.2 true l0_0 a0_1 a0_2 t697 t700 t701)))) = some r := H
    have A9 := Aside0.mk A90
    clear A90
    replace H := Option.bind_eq_some_iff.mp H
    obtain ⟨⟨t703, t706⟩, A100, H⟩ := H
    replace H : ((laws_eqIntS.f k t703 t693).bind fun t707 => (if t707 = true then (laws_FnExactSureNumbers.j0 k t693 t696 t703 t706 (t706 != t696) l0_0 a0_1 a0_2 t697 t700 t701) else (laws_FnExactSureNumbers.j0 k t693 t696 t703 t706 true l0_0 a0_1 a0_2 t697 t700 t701))) = some r := H
    have A10 := Aside0.mk A100
    clear A100
    have HC11 := Aside0.mk H
    clear H
    go_enter Try.func12, Try.ntmps12
    go_upto_region 8 with (first | ((with_reducible refine gate_dst (N := 1) rfl ?_); refine box_event ?hg (N := 1) ?hd (cs := #[.slice A0_0 l0_0.length c0_0, .int .i64 a0_1, .int .i64 a0_2]) (t := 24) ?hr ?_; (case hd => rfl); (case hg => rfl); (case hr => first | (go_simp; done) | (go_simp; rfl)); intro gb686 hg w12 hbox hb; have n0_ := Aside0.mk (below_step (by repeat (first | (with_reducible first | exact HB.out | apply below_alloc | apply pw_below_drewN | apply below_drew1) | exact HB.out)) hb); have n1_ := Aside0.mk (hbox); have n2_ := Aside0.mk ((by rw [hg]; exact (below_size (by repeat (first | (with_reducible first | exact HB.out | apply below_alloc | apply pw_below_drewN | apply below_drew1) | exact HB.out))) : w.heap.size ≤ gb686)); have n3_ := Aside0.mk ((by rw [hg]; exact (below_size (by repeat (first | (with_reducible first | exact HB.out | apply below_alloc | apply pw_below_drewN | apply below_drew1) | exact HB.out))) : w.heap.size ≤ gb686)); clear HB; have HB := n0_; have BK686 := n1_; have GW686 := n2_; have GE686 := n3_; clear n0_ n1_ n2_ n3_; clear hb hbox hg; have hcz13_0 : w12.cell? ⟨gb686, 0, none⟩ = some (.slice A0_0 l0_0.length c0_0) := (blk_cell BK686.out 0).trans rfl; have hcz13_1 : w12.cell? ⟨gb686, 1, none⟩ = some (.int .i64 a0_1) := (blk_cell BK686.out 1).trans rfl; have hcz13_2 : w12.cell? ⟨gb686, 2, none⟩ = some (.int .i64 a0_2) := (blk_cell BK686.out 2).trans rfl; have hfz13_0 := blk_frozen BK686.out 0; have hfz13_1 := blk_frozen BK686.out 1; have hfz13_2 := blk_frozen BK686.out 2) | ((with_reducible refine gate_callee (f := 15) rfl ?_); refine goesL_ (some 16) rfl rfl Try.func15 (by kernel_rfl) rfl #[.agg #[.slice A0_0 l0_0.length c0_0, .int .i64 a0_1, .int .i64 a0_2], .int .i64 1048576] rfl (by (try simp only [List.map_toArray, List.map_cons, List.map_nil]); first | done | rfl | (simp only [List.length_drop, List.length_take]; rfl)) ?_; (with_reducible refine (laws_szPuzzle.calls _ _ l0_0 a0_1 a0_2 1048576 t687 _ ?side1 ?side2 A2.out).mono ?_); (case side1 => repeat (first | exact (Kd.C_below HR0_0.out HB.out) | (with_reducible refine Kd.C_alloc ?_ _) | (with_reducible refine Kd.C_drewN ?_ _) | (with_reducible refine Kd.C_drew ?_))); (case side2 => exact HC0_0.out); rintro e w14 ⟨rfl, hb⟩; refine ⟨_, rfl, ?_⟩; have n0_ := Aside0.mk (blk_below (g := gb686) (o := .cells #[.slice A0_0 l0_0.length c0_0, .int .i64 a0_1, .int .i64 a0_2] 24 (0, 0)) (by (with_reducible repeat (first | refine blk_drewN ?_ _ | refine blk_drew ?_ | refine blk_alloc ?_ _)); exact BK686.out) hb); have n1_ := Aside0.mk (below_step (by repeat (first | (with_reducible first | exact HB.out | apply below_alloc | apply pw_below_drewN | apply below_drew1 | refine below_set ?_ GE686.out) | exact HB.out)) hb); clear BK686; clear HB; have BK686 := n0_; have HB := n1_; clear n0_ n1_; (try clear hb); (try clear hb2); (try clear hk); (try clear hi); have hcz15_0 : w14.cell? ⟨gb686, 0, none⟩ = some (.slice A0_0 l0_0.length c0_0) := (blk_cell BK686.out 0).trans rfl; have hcz15_1 : w14.cell? ⟨gb686, 1, none⟩ = some (.int .i64 a0_1) := (blk_cell BK686.out 1).trans rfl; have hcz15_2 : w14.cell? ⟨gb686, 2, none⟩ = some (.int .i64 a0_2) := (blk_cell BK686.out 2).trans rfl; have hfz15_0 := blk_frozen BK686.out 0; have hfz15_1 := blk_frozen BK686.out 1; have hfz15_2 := blk_frozen BK686.out 2) | ((with_reducible refine gate_callee (f := 17) rfl ?_); refine goesL_ (some 21) rfl rfl Try.func17 (by kernel_rfl) rfl #[.agg #[.slice A0_0 l0_0.length c0_0, .int .i64 a0_1, .int .i64 a0_2]] rfl (by (try simp only [List.map_toArray, List.map_cons, List.map_nil]); first | done | rfl | (simp only [List.length_drop, List.length_take]; rfl)) ?_; (with_reducible refine (laws_toPuzzle.calls k _ _ l0_0 a0_1 a0_2 t688 t691 t692 _ ?side1 ?side2 A7.out).mono ?_); (case side1 => repeat (first | exact (Kd.C_below HR0_0.out HB.out) | (with_reducible refine Kd.C_alloc ?_ _) | (with_reducible refine Kd.C_drewN ?_ _) | (with_reducible refine Kd.C_drew ?_))); (case side2 => exact HC0_0.out); rintro e w16 ⟨v689, rfl, ho0, hb⟩; refine ⟨_, rfl, ?_⟩; have n0_ := Aside0.mk (Kd.R_lower ho0 (below_size (by repeat (first | (with_reducible first | exact HB.out | apply below_alloc | apply pw_below_drewN | apply below_drew1 | refine below_set ?_ GE686.out) | exact HB.out)))); have n1_ := Aside0.mk (blk_below (g := gb686) (o := .cells #[.slice A0_0 l0_0.length c0_0, .int .i64 a0_1, .int .i64 a0_2] 24 (0, 0)) (by (with_reducible repeat (first | refine blk_drewN ?_ _ | refine blk_drew ?_ | refine blk_alloc ?_ _)); exact BK686.out) hb); have n2_ := Aside0.mk (below_step (by repeat (first | (with_reducible first | exact HB.out | apply below_alloc | apply pw_below_drewN | apply below_drew1 | refine below_set ?_ GE686.out) | exact HB.out)) hb); clear BK686; clear HB; have HO690 := n0_; have BK686 := n1_; have HB := n2_; clear n0_ n1_ n2_; (try clear hb); (try clear hb2); (try clear hk); (try clear hi); (try clear ho0); obtain ⟨Ao17, co17, eo17⟩ := Kd.R_slice HO690.out; subst eo17) | ((with_reducible refine gate_callee (f := 42) rfl ?_); refine goesL_ (some 22) rfl rfl Try.func42 (by kernel_rfl) rfl #[.agg #[.slice Ao17 t688.length co17, .int .i64 t691, .int .i64 t692]] rfl (by (try simp only [List.map_toArray, List.map_cons, List.map_nil]); first | done | rfl | (simp only [List.length_drop, List.length_take]; rfl)) ?_; (with_reducible refine (spec_SureNumbers.calls k _ _ t688 t691 t692 t693 t696 _ ?side1 ?side2 A8.out).mono ?_); (case side1 => repeat (first | exact (Kd.R_reads' HO690.out).2.2 | (with_reducible refine Kd.C_alloc ?_ _) | (with_reducible refine Kd.C_drewN ?_ _) | (with_reducible refine Kd.C_drew ?_))); (case side2 => exact (Kd.R_reads' HO690.out).2.1); rintro e w18 ⟨v694, rfl, ho0, hb⟩; refine ⟨_, rfl, ?_⟩; have n0_ := Aside0.mk (Kd.R_elder' (by (with_reducible repeat (first | apply Kd.R_alloc | apply Kd.R_drewN | apply Kd.R_drew)); exact HO690.out) (Kd.R_base ho0) hb); have n1_ := Aside0.mk (Kd.R_lower (Kd.R_new' ho0 (Kd.R_lt (by (with_reducible repeat (first | apply Kd.R_alloc | apply Kd.R_drewN | apply Kd.R_drew)); exact HO690.out))) (below_size (by repeat (first | (with_reducible first | exact HB.out | apply below_alloc | apply pw_below_drewN | apply below_drew1 | refine below_set ?_ GE686.out) | exact HB.out)))); have n2_ := Aside0.mk (blk_below (g := gb686) (o := .cells #[.slice A0_0 l0_0.length c0_0, .int .i64 a0_1, .int .i64 a0_2] 24 (0, 0)) (by (with_reducible repeat (first | refine blk_drewN ?_ _ | refine blk_drew ?_ | refine blk_alloc ?_ _)); exact BK686.out) hb); have n3_ := Aside0.mk (below_step (by repeat (first | (with_reducible first | exact HB.out | apply below_alloc | apply pw_below_drewN | apply below_drew1 | refine below_set ?_ GE686.out) | exact HB.out)) hb); clear HO690; clear BK686; clear HB; have HO690 := n0_; have HO695 := n1_; have BK686 := n2_; have HB := n3_; clear n0_ n1_ n2_ n3_; (try clear hb); (try clear hb2); (try clear hk); (try clear hi); (try clear ho0); have hcz19_0 : w18.cell? ⟨gb686, 0, none⟩ = some (.slice A0_0 l0_0.length c0_0) := (blk_cell BK686.out 0).trans rfl; have hcz19_1 : w18.cell? ⟨gb686, 1, none⟩ = some (.int .i64 a0_1) := (blk_cell BK686.out 1).trans rfl; have hcz19_2 : w18.cell? ⟨gb686, 2, none⟩ = some (.int .i64 a0_2) := (blk_cell BK686.out 2).trans rfl; have hfz19_0 := blk_frozen BK686.out 0; have hfz19_1 := blk_frozen BK686.out 1; have hfz19_2 := blk_frozen BK686.out 2) | ((with_reducible refine gate_callee (f := 17) rfl ?_); refine goesL_ (some 26) rfl rfl Try.func17 (by kernel_rfl) rfl #[.agg #[.slice A0_0 l0_0.length c0_0, .int .i64 a0_1, .int .i64 a0_2]] rfl (by (try simp only [List.map_toArray, List.map_cons, List.map_nil]); first | done | rfl | (simp only [List.length_drop, List.length_take]; rfl)) ?_; (with_reducible refine (laws_toPuzzle.calls k _ _ l0_0 a0_1 a0_2 t697 t700 t701 _ ?side1 ?side2 A9.out).mono ?_); (case side1 => repeat (first | exact (Kd.C_below HR0_0.out HB.out) | (with_reducible refine Kd.C_alloc ?_ _) | (with_reducible refine Kd.C_drewN ?_ _) | (with_reducible refine Kd.C_drew ?_))); (case side2 => exact HC0_0.out); rintro e w20 ⟨v698, rfl, ho0, hb⟩; refine ⟨_, rfl, ?_⟩; have n0_ := Aside0.mk (Kd.R_elder' (by (with_reducible repeat (first | apply Kd.R_alloc | apply Kd.R_drewN | apply Kd.R_drew)); exact HO690.out) (Kd.R_base ho0) hb); have n1_ := Aside0.mk (Kd.R_elder' (by (with_reducible repeat (first | apply Kd.R_alloc | apply Kd.R_drewN | apply Kd.R_drew)); exact HO695.out) (Kd.R_base ho0) hb); have n2_ := Aside0.mk (Kd.R_lower (Kd.R_new' (Kd.R_new' ho0 (Kd.R_lt (by (with_reducible repeat (first | apply Kd.R_alloc | apply Kd.R_drewN | apply Kd.R_drew)); exact HO690.out))) (Kd.R_lt (by (with_reducible repeat (first | apply Kd.R_alloc | apply Kd.R_drewN | apply Kd.R_drew)); exact HO695.out))) (below_size (by repeat (first | (with_reducible first | exact HB.out | apply below_alloc | apply pw_below_drewN | apply below_drew1 | refine below_set ?_ GE686.out) | exact HB.out)))); have n3_ := Aside0.mk (blk_below (g := gb686) (o := .cells #[.slice A0_0 l0_0.length c0_0, .int .i64 a0_1, .int .i64 a0_2] 24 (0, 0)) (by (with_reducible repeat (first | refine blk_drewN ?_ _ | refine blk_drew ?_ | refine blk_alloc ?_ _)); exact BK686.out) hb); have n4_ := Aside0.mk (below_step (by repeat (first | (with_reducible first | exact HB.out | apply below_alloc | apply pw_below_drewN | apply below_drew1 | refine below_set ?_ GE686.out) | exact HB.out)) hb); clear HO690; clear HO695; clear BK686; clear HB; have HO690 := n0_; have HO695 := n1_; have HO699 := n2_; have BK686 := n3_; have HB := n4_; clear n0_ n1_ n2_ n3_ n4_; (try clear hb); (try clear hb2); (try clear hk); (try clear hi); (try clear ho0)) | ((with_reducible refine gate_dst (N := 6) rfl ?_); refine box_event ?hg (N := 6) ?hd (cs := #[.slice none 0 0, .int .i64 0, .int .i64 0]) (t := 27) ?hr ?_; (case hd => rfl); (case hg => rfl); (case hr => first | (go_simp; done) | (go_simp; rfl)); intro gb702 hg w21 hbox hb; have n0_ := Aside0.mk (Kd.R_below (by (with_reducible repeat (first | apply Kd.R_alloc | apply Kd.R_drewN | apply Kd.R_drew)); exact HO690.out) hb); have n1_ := Aside0.mk (Kd.R_below (by (with_reducible repeat (first | apply Kd.R_alloc | apply Kd.R_drewN | apply Kd.R_drew)); exact HO695.out) hb); have n2_ := Aside0.mk (Kd.R_below (by (with_reducible repeat (first | apply Kd.R_alloc | apply Kd.R_drewN | apply Kd.R_drew)); exact HO699.out) hb); have n3_ := Aside0.mk (blk_below (g := gb686) (o := .cells #[.slice A0_0 l0_0.length c0_0, .int .i64 a0_1, .int .i64 a0_2] 24 (0, 0)) (by (with_reducible repeat (first | refine blk_drewN ?_ _ | refine blk_drew ?_ | refine blk_alloc ?_ _)); exact BK686.out) hb); have n4_ := Aside0.mk (below_step (by repeat (first | (with_reducible first | exact HB.out | apply below_alloc | apply pw_below_drewN | apply below_drew1 | refine below_set ?_ GE686.out) | exact HB.out)) hb); have n5_ := Aside0.mk (hbox); have n6_ := Aside0.mk ((by rw [hg]; exact (below_size (by repeat (first | (with_reducible first | exact HB.out | apply below_alloc | apply pw_below_drewN | apply below_drew1 | refine below_set ?_ GE686.out) | exact HB.out))) : w.heap.size ≤ gb702)); have n7_ := Aside0.mk ((by rw [hg]; exact (below_size (by repeat (first | (with_reducible first | exact HB.out | apply below_alloc | apply pw_below_drewN | apply below_drew1 | refine below_set ?_ GE686.out) | exact HB.out))) : w.heap.size ≤ gb702)); have n8_ := Aside0.mk ((by rw [hg]; exact Nat.ne_of_lt (blk_lt (g := gb686) (o := .cells #[.slice A0_0 l0_0.length c0_0, .int .i64 a0_1, .int .i64 a0_2] 24 (0, 0)) (by (with_reducible repeat (first | refine blk_drewN ?_ _ | refine blk_drew ?_ | refine blk_alloc ?_ _)); exact BK686.out)) : gb686 ≠ gb702)); have n9_ := Aside0.mk ((by rw [hg]; exact Nat.ne_of_gt (blk_lt (g := gb686) (o := .cells #[.slice A0_0 l0_0.length c0_0, .int .i64 a0_1, .int .i64 a0_2] 24 (0, 0)) (by (with_reducible repeat (first | refine blk_drewN ?_ _ | refine blk_drew ?_ | refine blk_alloc ?_ _)); exact BK686.out)) : gb702 ≠ gb686)); clear HO690; clear HO695; clear HO699; clear BK686; clear HB; have HO690 := n0_; have HO695 := n1_; have HO699 := n2_; have BK686 := n3_; have HB := n4_; have BK702 := n5_; have GW702 := n6_; have GE702 := n7_; have NB686_702 := n8_; have NB702_686 := n9_; clear n0_ n1_ n2_ n3_ n4_ n5_ n6_ n7_ n8_ n9_; clear hb hbox hg; obtain ⟨Ao22, co22, eo22⟩ := Kd.R_slice HO699.out; subst eo22; have hnb23 := NB702_686.out; have hnc23 := NB686_702.out; have hcz24_0 : w21.cell? ⟨gb702, 0, none⟩ = some (.slice none 0 0) := (blk_cell BK702.out 0).trans rfl; have hcz24_1 : w21.cell? ⟨gb702, 1, none⟩ = some (.int .i64 0) := (blk_cell BK702.out 1).trans rfl; have hcz24_2 : w21.cell? ⟨gb702, 2, none⟩ = some (.int .i64 0) := (blk_cell BK702.out 2).trans rfl; have hfz24_0 := blk_frozen BK702.out 0; have hfz24_1 := blk_frozen BK702.out 1; have hfz24_2 := blk_frozen BK702.out 2) | ((with_reducible refine gate_callee (f := 43) rfl ?_); refine goesL_ (some 29) rfl rfl Try.func43 (by kernel_rfl) rfl #[.agg #[.slice Ao22 t697.length co22, .int .i64 t700, .int .i64 t701]] rfl (by (try simp only [List.map_toArray, List.map_cons, List.map_nil]); first | done | rfl | (simp only [List.length_drop, List.length_take]; rfl)) ?_; (with_reducible refine (impl_SureNumbers.calls k _ _ t697 t700 t701 t703 t706 _ ?side1 ?side2 A10.out).mono ?_); (case side1 => refine (Kd.R_reads' (e := 3) (base := w.heap.size) (ok := fun k_ => ((True ∧ some k_ ≠ (.slice Ao17 t688.length co17 : Value).ownBlock) ∧ some k_ ≠ (v694 : Value).ownBlock)) (n := t697.length) (c := co22) ?_).2.2; exact (by (with_reducible repeat (first | apply Kd.R_alloc | apply Kd.R_drewN | apply Kd.R_drew)); exact (Kd.R_mono (Kd.R_far (p := ⟨gb702, 2, none⟩) (Kd.R_far (p := ⟨gb702, 1, none⟩) (Kd.R_far (p := ⟨gb702, 0, none⟩) (Kd.R_types HO699.out BK702.out (by decide)) (fun _ hk => hk.2) (.slice Ao22 t697.length co22)) (fun _ hk => hk.2) (.int .i64 t700)) (fun _ hk => hk.2) (.int .i64 t701)) (fun _ h_ => h_.1)))); (case side2 => exact (Kd.R_reads' HO699.out).2.1); rintro e w25 ⟨v704, rfl, ho0, hb⟩; refine ⟨_, rfl, ?_⟩; have n0_ := Aside0.mk (Kd.R_elder' (by (with_reducible repeat (first | apply Kd.R_alloc | apply Kd.R_drewN | apply Kd.R_drew)); exact (Kd.R_mono (Kd.R_far (p := ⟨gb702, 2, none⟩) (Kd.R_far (p := ⟨gb702, 1, none⟩) (Kd.R_far (p := ⟨gb702, 0, none⟩) (Kd.R_types HO690.out BK702.out (by decide)) (fun _ hk => hk.2) (.slice Ao22 t697.length co22)) (fun _ hk => hk.2) (.int .i64 t700)) (fun _ hk => hk.2) (.int .i64 t701)) (fun _ h_ => h_.1))) (Kd.R_base ho0) hb); have n1_ := Aside0.mk (Kd.R_elder' (by (with_reducible repeat (first | apply Kd.R_alloc | apply Kd.R_drewN | apply Kd.R_drew)); exact (Kd.R_mono (Kd.R_far (p := ⟨gb702, 2, none⟩) (Kd.R_far (p := ⟨gb702, 1, none⟩) (Kd.R_far (p := ⟨gb702, 0, none⟩) (Kd.R_types HO695.out BK702.out (by decide)) (fun _ hk => hk.2) (.slice Ao22 t697.length co22)) (fun _ hk => hk.2) (.int .i64 t700)) (fun _ hk => hk.2) (.int .i64 t701)) (fun _ h_ => h_.1))) (Kd.R_base ho0) hb); have n2_ := Aside0.mk (Kd.R_elder' (by (with_reducible repeat (first | apply Kd.R_alloc | apply Kd.R_drewN | apply Kd.R_drew)); exact (Kd.R_mono (Kd.R_far (p := ⟨gb702, 2, none⟩) (Kd.R_far (p := ⟨gb702, 1, none⟩) (Kd.R_far (p := ⟨gb702, 0, none⟩) (Kd.R_types HO699.out BK702.out (by decide)) (fun _ hk => hk.2) (.slice Ao22 t697.length co22)) (fun _ hk => hk.2) (.int .i64 t700)) (fun _ hk => hk.2) (.int .i64 t701)) (fun _ h_ => h_.1))) (Kd.R_base ho0) hb); have n3_ := Aside0.mk (Kd.R_lower (Kd.R_new' (Kd.R_new' (Kd.R_new' ho0 (Kd.R_lt (by (with_reducible repeat (first | apply Kd.R_alloc | apply Kd.R_drewN | apply Kd.R_drew)); exact (Kd.R_mono (Kd.R_far (p := ⟨gb702, 2, none⟩) (Kd.R_far (p := ⟨gb702, 1, none⟩) (Kd.R_far (p := ⟨gb702, 0, none⟩) (Kd.R_types HO690.out BK702.out (by decide)) (fun _ hk => hk.2) (.slice Ao22 t697.length co22)) (fun _ hk => hk.2) (.int .i64 t700)) (fun _ hk => hk.2) (.int .i64 t701)) (fun _ h_ => h_.1))))) (Kd.R_lt (by (with_reducible repeat (first | apply Kd.R_alloc | apply Kd.R_drewN | apply Kd.R_drew)); exact (Kd.R_mono (Kd.R_far (p := ⟨gb702, 2, none⟩) (Kd.R_far (p := ⟨gb702, 1, none⟩) (Kd.R_far (p := ⟨gb702, 0, none⟩) (Kd.R_types HO695.out BK702.out (by decide)) (fun _ hk => hk.2) (.slice Ao22 t697.length co22)) (fun _ hk => hk.2) (.int .i64 t700)) (fun _ hk => hk.2) (.int .i64 t701)) (fun _ h_ => h_.1))))) (Kd.R_lt (by (with_reducible repeat (first | apply Kd.R_alloc | apply Kd.R_drewN | apply Kd.R_drew)); exact (Kd.R_mono (Kd.R_far (p := ⟨gb702, 2, none⟩) (Kd.R_far (p := ⟨gb702, 1, none⟩) (Kd.R_far (p := ⟨gb702, 0, none⟩) (Kd.R_types HO699.out BK702.out (by decide)) (fun _ hk => hk.2) (.slice Ao22 t697.length co22)) (fun _ hk => hk.2) (.int .i64 t700)) (fun _ hk => hk.2) (.int .i64 t701)) (fun _ h_ => h_.1))))) (below_size (by repeat (first | (with_reducible first | exact HB.out | apply below_alloc | apply pw_below_drewN | apply below_drew1 | refine below_set ?_ GE686.out | refine below_set ?_ GE702.out) | exact HB.out)))); have n4_ := Aside0.mk (blk_below (g := gb686) (o := .cells #[.slice A0_0 l0_0.length c0_0, .int .i64 a0_1, .int .i64 a0_2] 24 (0, 0)) (by (with_reducible repeat (first | refine blk_drewN ?_ _ | refine blk_drew ?_ | refine blk_alloc ?_ _)); refine blk_far ?_ NB686_702.out _; (with_reducible repeat (first | refine blk_drewN ?_ _ | refine blk_drew ?_ | refine blk_alloc ?_ _)); refine blk_far ?_ NB686_702.out _; (with_reducible repeat (first | refine blk_drewN ?_ _ | refine blk_drew ?_ | refine blk_alloc ?_ _)); refine blk_far ?_ NB686_702.out _; (with_reducible repeat (first | refine blk_drewN ?_ _ | refine blk_drew ?_ | refine blk_alloc ?_ _)); exact BK686.out) hb); have n5_ := Aside0.mk (blk_below (g := gb702) (o := .cells #[.slice Ao22 t697.length co22, .int .i64 t700, .int .i64 t701] 27 (0, 0)) (by (with_reducible repeat (first | refine blk_drewN ?_ _ | refine blk_drew ?_ | refine blk_alloc ?_ _)); refine blk_put (cs := #[.slice Ao22 t697.length co22, .int .i64 t700, .int .i64 0]) ?_ 2 _ rfl; (with_reducible repeat (first | refine blk_drewN ?_ _ | refine blk_drew ?_ | refine blk_alloc ?_ _)); refine blk_put (cs := #[.slice Ao22 t697.length co22, .int .i64 0, .int .i64 0]) ?_ 1 _ rfl; (with_reducible repeat (first | refine blk_drewN ?_ _ | refine blk_drew ?_ | refine blk_alloc ?_ _)); refine blk_put (cs := #[.slice none 0 0, .int .i64 0, .int .i64 0]) ?_ 0 _ rfl; (with_reducible repeat (first | refine blk_drewN ?_ _ | refine blk_drew ?_ | refine blk_alloc ?_ _)); exact BK702.out) hb); have n6_ := Aside0.mk (below_step (by repeat (first | (with_reducible first | exact HB.out | apply below_alloc | apply pw_below_drewN | apply below_drew1 | refine below_set ?_ GE686.out | refine below_set ?_ GE702.out) | exact HB.out)) hb); clear HO690; clear HO695; clear HO699; clear BK686; clear BK702; clear HB; have HO690 := n0_; have HO695 := n1_; have HO699 := n2_; have HO705 := n3_; have BK686 := n4_; have BK702 := n5_; have HB := n6_; clear n0_ n1_ n2_ n3_ n4_ n5_ n6_; (try clear hb); (try clear hb2); (try clear hk); (try clear hi); (try clear ho0)))
    (try simp only [Act.put, List.setIfInBounds_toArray, List.set_cons_zero, List.set_cons_succ])
    go_cut [40] (fun v40 wc => ∃ (kq : Nat) (x40_10 : Bool), v40 = .bool x40_10 ∧ Aside0 (laws_FnExactSureNumbers.j0 kq t693 t696 t703 t706 x40_10 l0_0 a0_1 a0_2 t697 t700 t701 = some r) ∧ Aside0 (kq ≤ k) ∧ Aside0 (Kd.R (Kd.int .i64) 3 wc w.heap.size (fun k_ => some k_ ≠ (v704 : Value).ownBlock ∧ some k_ ≠ ((.slice Ao22 t697.length co22) : Value).ownBlock) v694 t693) ∧ Aside0 (Kd.R (Kd.int .i64) 3 wc w.heap.size (fun k_ => some k_ ≠ (v694 : Value).ownBlock ∧ some k_ ≠ ((.slice Ao22 t697.length co22) : Value).ownBlock) v704 t703) ∧ Aside0 (Kd.R (Kd.int .i64) 3 wc w.heap.size (fun k_ => some k_ ≠ (v694 : Value).ownBlock ∧ some k_ ≠ (v704 : Value).ownBlock) (.slice Ao22 t697.length co22) t697) ∧ Aside0 (wc.heap[gb686]? = some (.cells #[(.slice A0_0 l0_0.length c0_0), .int .i64 a0_1, .int .i64 a0_2] 24 (0, 0))) ∧ Aside0 (wc.heap[gb702]? = some (.cells #[(.slice Ao22 t697.length co22), .int .i64 t700, .int .i64 t701] 27 (0, 0))) ∧ Aside0 (Below w.heap.size w wc))
    case first =>
      have H := HC11.out
      clear HC11
      replace H := Option.bind_eq_some_iff.mp H
      obtain ⟨t707, A260, H⟩ := H
      replace H : (if t707 = true then (laws_FnExactSureNumbers.j0 k t693 t696 t703 t706 (t706 != t696) l0_0 a0_1 a0_2 t697 t700 t701) else (laws_FnExactSureNumbers.j0 k t693 t696 t703 t706 true l0_0 a0_1 a0_2 t697 t700 t701)) = some r := H
      have A26 := Aside0.mk A260
      clear A260
      by_cases c27 : t707 = true
      · subst c27
        have H1 : (laws_FnExactSureNumbers.j0 k t693 t696 t703 t706 (t706 != t696) l0_0 a0_1 a0_2 t697 t700 t701) = some r := by rw [if_pos rfl] at H; exact H
        clear H
        have H := H1
        clear H1
        have H' := Aside0.mk H
        clear H
        obtain ⟨Ao28, co28, eo28⟩ := Kd.R_slice HO705.out
        subst eo28
        obtain ⟨Ao29, co29, eo29⟩ := Kd.R_slice HO695.out
        subst eo29
        go_wp2_with (first | ((with_reducible refine gate_callee (f := 35) rfl ?_); refine goesL_ (some 34) rfl rfl Try.func35 (by kernel_rfl) rfl #[.slice Ao28 t703.length co28, .slice Ao29 t693.length co29] rfl (by (try simp only [List.map_toArray, List.map_cons, List.map_nil]); first | done | rfl | (simp only [List.length_drop, List.length_take]; rfl)) ?_; (with_reducible refine (laws_eqIntS.calls k _ _ t703 _ _ t693 true _ ?side1 ?side2 ?side3 ?side4 A26.out).mono ?_); (case side1 => repeat (first | exact (Kd.R_reads' HO705.out).2.2 | (with_reducible refine Kd.C_alloc ?_ _) | (with_reducible refine Kd.C_drewN ?_ _) | (with_reducible refine Kd.C_drew ?_))); (case side2 => exact (Kd.R_reads' HO705.out).2.1); (case side3 => repeat (first | exact (Kd.R_reads' HO695.out).2.2 | (with_reducible refine Kd.C_alloc ?_ _) | (with_reducible refine Kd.C_drewN ?_ _) | (with_reducible refine Kd.C_drew ?_))); (case side4 => exact (Kd.R_reads' HO695.out).2.1); rintro e w' ⟨rfl, ⟨nd, rfl⟩⟩; refine ⟨_, rfl, ?_⟩))
        go_meet
        case rel => exact ⟨_, ((t706 != t696)), (by first | rfl | (simp; done) | (simp [*]; done)), H', ⟨by first | omega | exact Nat.le_refl _⟩, ⟨by (with_reducible repeat (first | apply Kd.R_alloc | apply Kd.R_drewN | apply Kd.R_drew)); exact Kd.R_mono HO695.out (fun _ hk => ⟨hk.2, hk.1.2⟩)⟩, ⟨by (with_reducible repeat (first | apply Kd.R_alloc | apply Kd.R_drewN | apply Kd.R_drew)); exact Kd.R_mono HO705.out (fun _ hk => ⟨hk.1.2, hk.2⟩)⟩, ⟨by (with_reducible repeat (first | apply Kd.R_alloc | apply Kd.R_drewN | apply Kd.R_drew)); exact Kd.R_mono HO699.out (fun _ hk => ⟨hk.1.2, hk.2⟩)⟩, ⟨by (with_reducible repeat (first | refine blk_drewN ?_ _ | refine blk_drew ?_ | refine blk_alloc ?_ _)); exact BK686.out⟩, ⟨by (with_reducible repeat (first | refine blk_drewN ?_ _ | refine blk_drew ?_ | refine blk_alloc ?_ _)); exact BK702.out⟩, ⟨by repeat (first | (with_reducible first | exact HB.out | apply below_alloc | apply pw_below_drewN | apply below_drew1 | refine below_set ?_ GE686.out | refine below_set ?_ GE702.out) | exact HB.out)⟩⟩
      · replace c27 := Bool.eq_false_iff.mpr c27
        subst c27
        have H1 : (laws_FnExactSureNumbers.j0 k t693 t696 t703 t706 true l0_0 a0_1 a0_2 t697 t700 t701) = some r := by rw [if_neg (show ¬ (false = true) by decide)] at H; exact H
        clear H
        have H := H1
        clear H1
        have H' := Aside0.mk H
        clear H
        obtain ⟨Ao30, co30, eo30⟩ := Kd.R_slice HO705.out
        subst eo30
        obtain ⟨Ao31, co31, eo31⟩ := Kd.R_slice HO695.out
        subst eo31
        go_wp2_with (first | ((with_reducible refine gate_callee (f := 35) rfl ?_); refine goesL_ (some 34) rfl rfl Try.func35 (by kernel_rfl) rfl #[.slice Ao30 t703.length co30, .slice Ao31 t693.length co31] rfl (by (try simp only [List.map_toArray, List.map_cons, List.map_nil]); first | done | rfl | (simp only [List.length_drop, List.length_take]; rfl)) ?_; (with_reducible refine (laws_eqIntS.calls k _ _ t703 _ _ t693 false _ ?side1 ?side2 ?side3 ?side4 A26.out).mono ?_); (case side1 => repeat (first | exact (Kd.R_reads' HO705.out).2.2 | (with_reducible refine Kd.C_alloc ?_ _) | (with_reducible refine Kd.C_drewN ?_ _) | (with_reducible refine Kd.C_drew ?_))); (case side2 => exact (Kd.R_reads' HO705.out).2.1); (case side3 => repeat (first | exact (Kd.R_reads' HO695.out).2.2 | (with_reducible refine Kd.C_alloc ?_ _) | (with_reducible refine Kd.C_drewN ?_ _) | (with_reducible refine Kd.C_drew ?_))); (case side4 => exact (Kd.R_reads' HO695.out).2.1); rintro e w' ⟨rfl, ⟨nd, rfl⟩⟩; refine ⟨_, rfl, ?_⟩))
        go_meet
        case rel => exact ⟨_, (true), (by first | rfl | (simp; done) | (simp [*]; done)), H', ⟨by first | omega | exact Nat.le_refl _⟩, ⟨by (with_reducible repeat (first | apply Kd.R_alloc | apply Kd.R_drewN | apply Kd.R_drew)); exact Kd.R_mono HO695.out (fun _ hk => ⟨hk.2, hk.1.2⟩)⟩, ⟨by (with_reducible repeat (first | apply Kd.R_alloc | apply Kd.R_drewN | apply Kd.R_drew)); exact Kd.R_mono HO705.out (fun _ hk => ⟨hk.1.2, hk.2⟩)⟩, ⟨by (with_reducible repeat (first | apply Kd.R_alloc | apply Kd.R_drewN | apply Kd.R_drew)); exact Kd.R_mono HO699.out (fun _ hk => ⟨hk.1.2, hk.2⟩)⟩, ⟨by (with_reducible repeat (first | refine blk_drewN ?_ _ | refine blk_drew ?_ | refine blk_alloc ?_ _)); exact BK686.out⟩, ⟨by (with_reducible repeat (first | refine blk_drewN ?_ _ | refine blk_drew ?_ | refine blk_alloc ?_ _)); exact BK702.out⟩, ⟨by repeat (first | (with_reducible first | exact HB.out | apply below_alloc | apply pw_below_drewN | apply below_drew1 | refine below_set ?_ GE686.out | refine below_set ?_ GE702.out) | exact HB.out)⟩⟩
    case rest =>
      clear HC11
      try clear c1
      try clear c2
      try clear p2
      try clear c3
      try clear c3b0
      try clear c4
      try clear c12
      try clear c15
      try clear c17
      try clear c23
      try clear c27
      try clear hcz13_0
      try clear hcz13_1
      try clear hcz13_2
      try clear hcz15_0
      try clear hcz15_1
      try clear hcz15_2
      try clear hcz19_0
      try clear hcz19_1
      try clear hcz19_2
      try clear hcz24_0
      try clear hcz24_1
      try clear hcz24_2
      try clear hcz5_0
      try clear hcz5_1
      try clear hcz5_2
      try clear hfz13_0
      try clear hfz13_1
      try clear hfz13_2
      try clear hfz15_0
      try clear hfz15_1
      try clear hfz15_2
      try clear hfz19_0
      try clear hfz19_1
      try clear hfz19_2
      try clear hfz24_0
      try clear hfz24_1
      try clear hfz24_2
      try clear hfz5_0
      try clear hfz5_1
      try clear hfz5_2
      obtain ⟨kq, x40_10, rfl, HA, HJ10, HO_4, HO_7, HO_703000, BK686, BK702, HB⟩ := hcut
      cases kq with
      | zero => exact absurd HA.out (by simp [laws_FnExactSureNumbers.j0])
      | succ kj10 =>
        have H := HA.out
        clear HA
        simp only [laws_FnExactSureNumbers.j0] at H
        by_cases c32 : x40_10 = true
        · subst c32
          have H1 : (some false) = some r := by rw [if_pos rfl] at H; exact H
          clear H
          have H := H1
          clear H1
          obtain rfl := Option.some.inj H
          go_wp2
          go_ret
          exact ⟨by first | rfl | (simp [errW_none, errW_some] <;> rfl) | (simp [*, errW_none, errW_some] <;> rfl), by repeat (first | (with_reducible first | exact HB.out | apply below_alloc | apply pw_below_drewN | apply below_drew1 | refine below_set ?_ GE686.out | refine below_set ?_ GE702.out) | exact HB.out)⟩
        · replace c32 := Bool.eq_false_iff.mpr c32
          subst c32
          have H1 : ((laws_toPuzzle.f kj10 l0_0 a0_1 a0_2).bind fun bt708 => ((laws_eqPuzzle.f kj10 t697 t700 t701 bt708.1 bt708.2.1 bt708.2.2).bind fun t713 => (if t713 = true then ((laws_markPuzzle.f kj10 t697 t700 t701 1).bind fun bt714 => (if bt714.1 < 0 then (laws_FnExactSureNumbers.j1 kj10 t693 t696 t703 true l0_0 a0_1 a0_2) else ((laws_eqIntS.f kj10 t703 t693).bind fun t716 => (if t716 = true then (laws_FnExactSureNumbers.j1 kj10 t693 t696 t703 (t706 != t696) l0_0 a0_1 a0_2) else (laws_FnExactSureNumbers.j1 kj10 t693 t696 t703 true l0_0 a0_1 a0_2))))) else (some false)))) = some r := by rw [if_neg (show ¬ (false = true) by decide)] at H; exact H
          clear H
          have H := H1
          clear H1
          replace H := Option.bind_eq_some_iff.mp H
          obtain ⟨⟨t708, t711, t712⟩, A330, H⟩ := H
          replace H : ((laws_eqPuzzle.f kj10 t697 t700 t701 t708 t711 t712).bind fun t713 => (if t713 = true then ((laws_markPuzzle.f kj10 t697 t700 t701 1).bind fun bt714 => (if bt714.1 < 0 then (laws_FnExactSureNumbers.j1 kj10 t693 t696 t703 true l0_0 a0_1 a0_2) else ((laws_eqIntS.f kj10 t703 t693).bind fun t716 => (if t716 = true then (laws_FnExactSureNumbers.j1 kj10 t693 t696 t703 (t706 != t696) l0_0 a0_1 a0_2) else (laws_FnExactSureNumbers.j1 kj10 t693 t696 t703 true l0_0 a0_1 a0_2))))) else (some false))) = some r := H
          have A33 := Aside0.mk A330
          clear A330
          replace H := Option.bind_eq_some_iff.mp H
          obtain ⟨t713, A340, H⟩ := H
          replace H : (if t713 = true then ((laws_markPuzzle.f kj10 t697 t700 t701 1).bind fun bt714 => (if bt714.1 < 0 then (laws_FnExactSureNumbers.j1 kj10 t693 t696 t703 true l0_0 a0_1 a0_2) else ((laws_eqIntS.f kj10 t703 t693).bind fun t716 => (if t716 = true then (laws_FnExactSureNumbers.j1 kj10 t693 t696 t703 (t706 != t696) l0_0 a0_1 a0_2) else (laws_FnExactSureNumbers.j1 kj10 t693 t696 t703 true l0_0 a0_1 a0_2))))) else (some false)) = some r := H
          have A34 := Aside0.mk A340
          clear A340
          by_cases c35 : t713 = true
          · subst c35
            have H1 : ((laws_markPuzzle.f kj10 t697 t700 t701 1).bind fun bt714 => (if bt714.1 < 0 then (laws_FnExactSureNumbers.j1 kj10 t693 t696 t703 true l0_0 a0_1 a0_2) else ((laws_eqIntS.f kj10 t703 t693).bind fun t716 => (if t716 = true then (laws_FnExactSureNumbers.j1 kj10 t693 t696 t703 (t706 != t696) l0_0 a0_1 a0_2) else (laws_FnExactSureNumbers.j1 kj10 t693 t696 t703 true l0_0 a0_1 a0_2))))) = some r := by rw [if_pos rfl] at H; exact H
            clear H
            have H := H1
            clear H1
            replace H := Option.bind_eq_some_iff.mp H
            obtain ⟨⟨t714, t715⟩, A360, H⟩ := H
            replace H : (if t714 < 0 then (laws_FnExactSureNumbers.j1 kj10 t693 t696 t703 true l0_0 a0_1 a0_2) else ((laws_eqIntS.f kj10 t703 t693).bind fun t716 => (if t716 = true then (laws_FnExactSureNumbers.j1 kj10 t693 t696 t703 (t706 != t696) l0_0 a0_1 a0_2) else (laws_FnExactSureNumbers.j1 kj10 t693 t696 t703 true l0_0 a0_1 a0_2)))) = some r := H
            have A36 := Aside0.mk A360
            clear A360
            have HC37 := Aside0.mk H
            clear H
            try go_wp2
            have n0_ := Aside0.mk (Kd.R_drew HO_4.out)
            have n1_ := Aside0.mk (Kd.R_drew HO_7.out)
            have n2_ := Aside0.mk (Kd.R_drew HO_703000.out)
            have n3_ := Aside0.mk (blk_drew BK686.out)
            have n4_ := Aside0.mk (blk_drew BK702.out)
            have n5_ := Aside0.mk (below_drew1 HB.out)
            clear HO_4
            clear HO_7
            clear HO_703000
            clear BK686
            clear BK702
            clear HB
            have HO_4 := n0_
            have HO_7 := n1_
            have HO_703000 := n2_
            have BK686 := n3_
            have BK702 := n4_
            have HB := n5_
            clear n0_ n1_ n2_ n3_ n4_ n5_
            refine start_ (n := 5) (S := fun w' => w'.cell? ⟨gb702, 0, none⟩ = some (.slice Ao22 t697.length co22) ∧ w'.cell? ⟨gb702, 1, none⟩ = some (.int .i64 t700) ∧ w'.cell? ⟨gb702, 2, none⟩ = some (.int .i64 t701) ∧ w'.cell? ⟨gb686, 0, none⟩ = some (.slice A0_0 l0_0.length c0_0) ∧ w'.cell? ⟨gb686, 1, none⟩ = some (.int .i64 a0_1) ∧ w'.cell? ⟨gb686, 2, none⟩ = some (.int .i64 a0_2)) (ds := []) #[false, false, false, false, false] (by kernel_rfl) rfl rfl ⟨(blk_cell BK702.out 0).trans rfl, (blk_cell BK702.out 1).trans rfl, (blk_cell BK702.out 2).trans rfl, (blk_cell BK686.out 0).trans rfl, (blk_cell BK686.out 1).trans rfl, (blk_cell BK686.out 2).trans rfl⟩ (fun hHeld => ?_)
            generalize wc.drew = w38 at HO_4 HO_7 HO_703000 BK686 BK702 HB hHeld ⊢
            refine take_ (i := 0) (N := some 41) (v := ?_) (a' := ?_) #[true, false, false, false, false] rfl rfl (by kernel_rfl) (fun _ _ _ h => h) (Or.inl ⟨by rfl, ?_⟩) hHeld ?_ ?_
            rotate_left
            · rintro w' ⟨s0, s1, s2, s3, s4, s5⟩
              go_simp
              with_reducible rfl
            rotate_left
            · simp only [Act.put, List.setIfInBounds_toArray, List.set_cons_zero, List.set_cons_succ, i64_w, i32_w]
              rfl
            refine take_ (i := 1) (N := some 42) (v := ?_) (a' := ?_) #[true, true, false, false, false] rfl rfl (by kernel_rfl) (fun _ _ _ h => h) (Or.inl ⟨by rfl, ?_⟩) hHeld ?_ ?_
            rotate_left
            · rintro w' ⟨s0, s1, s2, s3, s4, s5⟩
              go_simp
              with_reducible rfl
            rotate_left
            · simp only [Act.put, List.setIfInBounds_toArray, List.set_cons_zero, List.set_cons_succ, i64_w, i32_w]
              rfl
            refine one_ (i := 2) (N := some 43) #[true, true, true, false, false] rfl rfl (by kernel_rfl) (by decide) (fun K hK => ?_)
            refine goes_ Try.func17 (by kernel_rfl) rfl #[.agg #[.slice A0_0 l0_0.length c0_0, .int .i64 a0_1, .int .i64 a0_2]] (by rfl) rfl rfl (by (try simp only [List.map_toArray, List.map_cons, List.map_nil]); first | done | rfl | (simp only [List.length_drop, List.length_take]; rfl)) ?_
            with_reducible refine (laws_toPuzzle.calls kj10 _ _ l0_0 a0_1 a0_2 t708 t711 t712 _ ?side1 ?side2 A33.out).mono ?_
            (case side1 => repeat (first | exact (Kd.C_below HR0_0.out HB.out) | (with_reducible refine Kd.C_alloc ?_ _) | (with_reducible refine Kd.C_drewN ?_ _) | (with_reducible refine Kd.C_drew ?_)))
            (case side2 => exact HC0_0.out)
            rintro e w39 ⟨v709, rfl, ho0, hb⟩
            refine ⟨_, rfl, ?_⟩
            have n0_ := Aside0.mk (Kd.R_elder' (by (with_reducible repeat (first | apply Kd.R_alloc | apply Kd.R_drewN | apply Kd.R_drew)); exact HO_4.out) (Kd.R_base ho0) hb)
            have n1_ := Aside0.mk (Kd.R_elder' (by (with_reducible repeat (first | apply Kd.R_alloc | apply Kd.R_drewN | apply Kd.R_drew)); exact HO_7.out) (Kd.R_base ho0) hb)
            have n2_ := Aside0.mk (Kd.R_elder' (by (with_reducible repeat (first | apply Kd.R_alloc | apply Kd.R_drewN | apply Kd.R_drew)); exact HO_703000.out) (Kd.R_base ho0) hb)
            have n3_ := Aside0.mk (Kd.R_lower (Kd.R_new' (Kd.R_new' (Kd.R_new' ho0 (Kd.R_lt (by (with_reducible repeat (first | apply Kd.R_alloc | apply Kd.R_drewN | apply Kd.R_drew)); exact HO_4.out))) (Kd.R_lt (by (with_reducible repeat (first | apply Kd.R_alloc | apply Kd.R_drewN | apply Kd.R_drew)); exact HO_7.out))) (Kd.R_lt (by (with_reducible repeat (first | apply Kd.R_alloc | apply Kd.R_drewN | apply Kd.R_drew)); exact HO_703000.out))) (below_size (by repeat (first | (with_reducible first | exact HB.out | apply below_alloc | apply pw_below_drewN | apply below_drew1 | refine below_set ?_ GE686.out | refine below_set ?_ GE702.out) | exact HB.out))))
            have n4_ := Aside0.mk (blk_below (g := gb686) (o := .cells #[.slice A0_0 l0_0.length c0_0, .int .i64 a0_1, .int .i64 a0_2] 24 (0, 0)) (by (with_reducible repeat (first | refine blk_drewN ?_ _ | refine blk_drew ?_ | refine blk_alloc ?_ _)); exact BK686.out) hb)
            have n5_ := Aside0.mk (blk_below (g := gb702) (o := .cells #[.slice Ao22 t697.length co22, .int .i64 t700, .int .i64 t701] 27 (0, 0)) (by (with_reducible repeat (first | refine blk_drewN ?_ _ | refine blk_drew ?_ | refine blk_alloc ?_ _)); exact BK702.out) hb)
            have n6_ := Aside0.mk (below_step (by repeat (first | (with_reducible first | exact HB.out | apply below_alloc | apply pw_below_drewN | apply below_drew1 | refine below_set ?_ GE686.out | refine below_set ?_ GE702.out) | exact HB.out)) hb)
            clear HO_4
            clear HO_7
            clear HO_703000
            clear BK686
            clear BK702
            clear HB
            have HO_4 := n0_
            have HO_7 := n1_
            have HO_703000 := n2_
            have HO710 := n3_
            have BK686 := n4_
            have BK702 := n5_
            have HB := n6_
            clear n0_ n1_ n2_ n3_ n4_ n5_ n6_
            (try clear hb)
            (try clear hb2)
            (try clear hk)
            (try clear hi)
            (try clear ho0)
            obtain ⟨Ao40, co40, eo40⟩ := Kd.R_slice HO710.out
            (first | subst eo40 | (injection eo40 with f1_ f2_ f3_; have f4_ := f1_.symm; have f5_ := f3_.symm; clear f1_ f2_ f3_; subst f4_; subst f5_))
            refine hK.out _ _ ⟨(blk_cell BK702.out 0).trans rfl, (blk_cell BK702.out 1).trans rfl, (blk_cell BK702.out 2).trans rfl, (blk_cell BK686.out 0).trans rfl, (blk_cell BK686.out 1).trans rfl, (blk_cell BK686.out 2).trans rfl⟩ (fun hHeld => ?_)
            clear hK K
            refine norm_ (a' := ?_) ?_ ?_
            rotate_left
            · show Act.put _ (some 43) _ = _
              simp only [Act.put, List.setIfInBounds_toArray, List.set_cons_zero, List.set_cons_succ, i64_w, i32_w]
              rfl
            refine one_ (i := 3) (N := some 44) #[true, true, true, true, false] rfl rfl (by kernel_rfl) (by decide) (fun K hK => ?_)
            refine goes_ Try.func19 (by kernel_rfl) rfl #[.agg #[.slice Ao22 t697.length co22, .int .i64 t700, .int .i64 t701], .agg #[.slice Ao40 t708.length co40, .int .i64 t711, .int .i64 t712]] (by rfl) rfl rfl (by (try simp only [List.map_toArray, List.map_cons, List.map_nil]); first | done | rfl | (simp only [List.length_drop, List.length_take]; rfl)) ?_
            with_reducible refine (laws_eqPuzzle.calls kj10 _ _ t697 t700 t701 _ _ t708 t711 t712 true _ ?side1 ?side2 ?side3 ?side4 A34.out).mono ?_
            (case side1 => repeat (first | exact (Kd.R_reads' HO_703000.out).2.2 | (with_reducible refine Kd.C_alloc ?_ _) | (with_reducible refine Kd.C_drewN ?_ _) | (with_reducible refine Kd.C_drew ?_)))
            (case side2 => exact (Kd.R_reads' HO_703000.out).2.1)
            (case side3 => repeat (first | exact (Kd.R_reads' HO710.out).2.2 | (with_reducible refine Kd.C_alloc ?_ _) | (with_reducible refine Kd.C_drewN ?_ _) | (with_reducible refine Kd.C_drew ?_)))
            (case side4 => exact (Kd.R_reads' HO710.out).2.1)
            rintro e w41 ⟨rfl, hb⟩
            refine ⟨_, rfl, ?_⟩
            have n0_ := Aside0.mk (Kd.R_below (by (with_reducible repeat (first | apply Kd.R_alloc | apply Kd.R_drewN | apply Kd.R_drew)); exact HO_4.out) hb)
            have n1_ := Aside0.mk (Kd.R_below (by (with_reducible repeat (first | apply Kd.R_alloc | apply Kd.R_drewN | apply Kd.R_drew)); exact HO_7.out) hb)
            have n2_ := Aside0.mk (Kd.R_below (by (with_reducible repeat (first | apply Kd.R_alloc | apply Kd.R_drewN | apply Kd.R_drew)); exact HO_703000.out) hb)
            have n3_ := Aside0.mk (Kd.R_below (by (with_reducible repeat (first | apply Kd.R_alloc | apply Kd.R_drewN | apply Kd.R_drew)); exact HO710.out) hb)
            have n4_ := Aside0.mk (blk_below (g := gb686) (o := .cells #[.slice A0_0 l0_0.length c0_0, .int .i64 a0_1, .int .i64 a0_2] 24 (0, 0)) (by (with_reducible repeat (first | refine blk_drewN ?_ _ | refine blk_drew ?_ | refine blk_alloc ?_ _)); exact BK686.out) hb)
            have n5_ := Aside0.mk (blk_below (g := gb702) (o := .cells #[.slice Ao22 t697.length co22, .int .i64 t700, .int .i64 t701] 27 (0, 0)) (by (with_reducible repeat (first | refine blk_drewN ?_ _ | refine blk_drew ?_ | refine blk_alloc ?_ _)); exact BK702.out) hb)
            have n6_ := Aside0.mk (below_step (by repeat (first | (with_reducible first | exact HB.out | apply below_alloc | apply pw_below_drewN | apply below_drew1 | refine below_set ?_ GE686.out | refine below_set ?_ GE702.out) | exact HB.out)) hb)
            clear HO_4
            clear HO_7
            clear HO_703000
            clear HO710
            clear BK686
            clear BK702
            clear HB
            have HO_4 := n0_
            have HO_7 := n1_
            have HO_703000 := n2_
            have HO710 := n3_
            have BK686 := n4_
            have BK702 := n5_
            have HB := n6_
            clear n0_ n1_ n2_ n3_ n4_ n5_ n6_
            (try clear hb)
            (try clear hb2)
            (try clear hk)
            (try clear hi)
            refine hK.out _ _ ⟨(blk_cell BK702.out 0).trans rfl, (blk_cell BK702.out 1).trans rfl, (blk_cell BK702.out 2).trans rfl, (blk_cell BK686.out 0).trans rfl, (blk_cell BK686.out 1).trans rfl, (blk_cell BK686.out 2).trans rfl⟩ (fun hHeld => ?_)
            clear hK K
            refine norm_ (a' := ?_) ?_ ?_
            rotate_left
            · show Act.put _ (some 44) _ = _
              simp only [Act.put, List.setIfInBounds_toArray, List.set_cons_zero, List.set_cons_succ, i64_w, i32_w]
              rfl
            refine pure_ (i := 4) (N := some 45) (v := ?_) (a' := ?_) #[true, true, true, true, true] rfl rfl (by kernel_rfl) (fun _ _ _ h => h) (Or.inl ⟨by rfl, ?_⟩) ?_ ?_
            rotate_left
            · intro w'
              go_simp
              with_reducible rfl
            rotate_left
            · simp only [Act.put, List.setIfInBounds_toArray, List.set_cons_zero, List.set_cons_succ, i64_w, i32_w]
              rfl
            refine done_ (by kernel_rfl) ?_
            have hnb42 := NB702_686.out
            have hnc42 := NB686_702.out
            have hcz43_0 : w41.cell? ⟨gb702, 0, none⟩ = some (.slice Ao22 t697.length co22) := (blk_cell BK702.out 0).trans rfl
            have hcz43_1 : w41.cell? ⟨gb702, 1, none⟩ = some (.int .i64 t700) := (blk_cell BK702.out 1).trans rfl
            have hcz43_2 : w41.cell? ⟨gb702, 2, none⟩ = some (.int .i64 t701) := (blk_cell BK702.out 2).trans rfl
            have hfz43_0 := blk_frozen BK702.out 0
            have hfz43_1 := blk_frozen BK702.out 1
            have hfz43_2 := blk_frozen BK702.out 2
            go_upto_region 14 with (first | ((with_reducible refine gate_callee (f := 24) rfl ?_); refine goesL_ (some 48) rfl rfl Try.func24 (by kernel_rfl) rfl #[.agg #[.slice Ao22 t697.length co22, .int .i64 t700, .int .i64 t701], .int .i64 1] rfl (by (try simp only [List.map_toArray, List.map_cons, List.map_nil]); first | done | rfl | (simp only [List.length_drop, List.length_take]; rfl)) ?_; (with_reducible refine (laws_markPuzzle.calls kj10 (fun k_ => some k_ = (.slice Ao22 t697.length co22 : Value).ownBlock) (.slice Ao22 t697.length co22) t697 t700 t701 1 t714 t715 w _ ?side1 ?side2 A36.out).mono ?_); (case side1 => repeat (first | (with_reducible first | exact HB.out | apply below_alloc | apply pw_below_drewN | apply below_drew1 | refine below_set ?_ GE686.out | refine below_set ?_ GE702.out) | exact HB.out)); (case side2 => exact Kd.R_tight rfl HO_703000.out); rintro e w44 ⟨rfl, hy0, hb, hkp⟩; refine ⟨_, rfl, ?_⟩; have n0_ := Aside0.mk (Kd.R_mono (ok' := fun k_ => some k_ ≠ (v704 : Value).ownBlock ∧ some k_ ≠ (.slice Ao22 t697.length co22 : Value).ownBlock ∧ some k_ ≠ (.slice Ao40 t708.length co40 : Value).ownBlock) (Kd.R_keptB (HO_4.out) hkp (fun k_ hk_ hs_ => (hk_.1.2) hs_)) (fun k_ hk_ => ⟨hk_.1.1.1, hk_.1.1.2, hk_.1.2⟩)); have n1_ := Aside0.mk (Kd.R_mono (ok' := fun k_ => some k_ ≠ (v694 : Value).ownBlock ∧ some k_ ≠ (.slice Ao22 t697.length co22 : Value).ownBlock ∧ some k_ ≠ (.slice Ao40 t708.length co40 : Value).ownBlock) (Kd.R_keptB (HO_7.out) hkp (fun k_ hk_ hs_ => (hk_.1.2) hs_)) (fun k_ hk_ => ⟨hk_.1.1.1, hk_.1.1.2, hk_.1.2⟩)); have n2_ := Aside0.mk (Kd.R_reok rfl hy0 (fun k_ e_ => HO_703000.out.1 k_ e_)); have n3_ := Aside0.mk (blk_kept (by (with_reducible repeat (first | refine blk_drewN ?_ _ | refine blk_drew ?_ | refine blk_alloc ?_ _)); exact BK686.out) hkp (fun hs_ => (fun e_ => (Kd.R_ne HO_703000.out BK686.out (by decide)) e_) hs_)); have n4_ := Aside0.mk (blk_kept (by (with_reducible repeat (first | refine blk_drewN ?_ _ | refine blk_drew ?_ | refine blk_alloc ?_ _)); exact BK702.out) hkp (fun hs_ => (fun e_ => (Kd.R_ne HO_703000.out BK702.out (by decide)) e_) hs_)); have n5_ := Aside0.mk (Kd.R_mono (ok' := fun k_ => some k_ ≠ (v694 : Value).ownBlock ∧ some k_ ≠ (v704 : Value).ownBlock ∧ some k_ ≠ (.slice Ao22 t697.length co22 : Value).ownBlock) (Kd.R_keptB (HO710.out) hkp (fun k_ hk_ hs_ => (hk_.2) hs_)) (fun k_ hk_ => ⟨hk_.1.1.1.2, hk_.1.1.2, hk_.1.2⟩)); have n6_ := Aside0.mk (hb); clear HO_4; clear HO_7; clear HO_703000; clear BK686; clear BK702; clear HO710; clear HB; have HO_4 := n0_; have HO_7 := n1_; have HO_703000 := n2_; have BK686 := n3_; have BK702 := n4_; have HO710 := n5_; have HB := n6_; clear n0_ n1_ n2_ n3_ n4_ n5_ n6_; (try clear hb); (try clear hkp); (try clear hy0)))
            (try simp only [Act.put, List.setIfInBounds_toArray, List.set_cons_zero, List.set_cons_succ])
            go_cut [61] (fun v61 wc => ∃ (kq : Nat) (x61_36 : Bool), v61 = .bool x61_36 ∧ Aside0 (laws_FnExactSureNumbers.j1 kq t693 t696 t703 x61_36 l0_0 a0_1 a0_2 = some r) ∧ Aside0 (kq ≤ kj10) ∧ Aside0 (Kd.R (Kd.int .i64) 3 wc w.heap.size (fun k_ => some k_ ≠ (v704 : Value).ownBlock ∧ some k_ ≠ ((.slice Ao22 t697.length co22) : Value).ownBlock) v694 t693) ∧ Aside0 (Kd.R (Kd.int .i64) 3 wc w.heap.size (fun k_ => some k_ ≠ (v694 : Value).ownBlock ∧ some k_ ≠ ((.slice Ao22 t697.length co22) : Value).ownBlock) v704 t703) ∧ Aside0 (Kd.R (Kd.int .i64) 3 wc w.heap.size (fun k_ => some k_ ≠ (v694 : Value).ownBlock ∧ some k_ ≠ (v704 : Value).ownBlock) (.slice Ao22 t697.length co22) t715) ∧ Aside0 (wc.heap[gb686]? = some (.cells #[(.slice A0_0 l0_0.length c0_0), .int .i64 a0_1, .int .i64 a0_2] 24 (0, 0))) ∧ Aside0 (wc.heap[gb702]? = some (.cells #[(.slice Ao22 t697.length co22), .int .i64 t700, .int .i64 t701] 27 (0, 0))) ∧ Aside0 (Below w.heap.size w wc))
            case first =>
              have H := HC37.out
              clear HC37
              by_cases c45 : t714 < 0
              · rw [if_pos c45] at H
                have c45b0 : decide (t714 < 0) = true := decide_eq_true c45
                clear c45
                (first | rw [c45b0] | (simp only [i64_w, i32_w]; rw [c45b0]) | skip)
                have H' := Aside0.mk H
                clear H
                go_wp2
                go_meet
                case rel => exact ⟨_, (true), (by first | rfl | (simp; done) | (simp [*]; done)), H', ⟨by have := HJ10.out; first | omega | exact Nat.le_refl _⟩, ⟨by (with_reducible repeat (first | apply Kd.R_alloc | apply Kd.R_drewN | apply Kd.R_drew)); exact Kd.R_mono HO_4.out (fun _ hk => ⟨hk.1, hk.2.1⟩)⟩, ⟨by (with_reducible repeat (first | apply Kd.R_alloc | apply Kd.R_drewN | apply Kd.R_drew)); exact Kd.R_mono HO_7.out (fun _ hk => ⟨hk.1, hk.2.1⟩)⟩, ⟨by (with_reducible repeat (first | apply Kd.R_alloc | apply Kd.R_drewN | apply Kd.R_drew)); exact Kd.R_mono HO_703000.out (fun _ hk => ⟨hk.1.1, hk.1.2⟩)⟩, ⟨by (with_reducible repeat (first | refine blk_drewN ?_ _ | refine blk_drew ?_ | refine blk_alloc ?_ _)); exact BK686.out⟩, ⟨by (with_reducible repeat (first | refine blk_drewN ?_ _ | refine blk_drew ?_ | refine blk_alloc ?_ _)); exact BK702.out⟩, ⟨by repeat (first | (with_reducible first | exact HB.out | apply below_alloc | apply pw_below_drewN | apply below_drew1 | refine below_set ?_ GE686.out | refine below_set ?_ GE702.out) | exact HB.out)⟩⟩
              · rw [if_neg c45] at H
                have c45b0 : decide (t714 < 0) = false := decide_eq_false c45
                clear c45
                (first | rw [c45b0] | (simp only [i64_w, i32_w]; rw [c45b0]) | skip)
                replace H := Option.bind_eq_some_iff.mp H
                obtain ⟨t716, A460, H⟩ := H
                replace H : (if t716 = true then (laws_FnExactSureNumbers.j1 kj10 t693 t696 t703 (t706 != t696) l0_0 a0_1 a0_2) else (laws_FnExactSureNumbers.j1 kj10 t693 t696 t703 true l0_0 a0_1 a0_2)) = some r := H
                have A46 := Aside0.mk A460
                clear A460
                by_cases c47 : t716 = true
                · subst c47
                  have H1 : (laws_FnExactSureNumbers.j1 kj10 t693 t696 t703 (t706 != t696) l0_0 a0_1 a0_2) = some r := by rw [if_pos rfl] at H; exact H
                  clear H
                  have H := H1
                  clear H1
                  have H' := Aside0.mk H
                  clear H
                  obtain ⟨Ao48, co48, eo48⟩ := Kd.R_slice HO_7.out
                  subst eo48
                  obtain ⟨Ao49, co49, eo49⟩ := Kd.R_slice HO_4.out
                  subst eo49
                  go_wp2_with (first | (go_at_call 35; (with_reducible refine (laws_eqIntS.calls kj10 _ _ t703 _ _ t693 true _ ?side1 ?side2 ?side3 ?side4 A46.out).mono ?_); (case side1 => repeat (first | exact (Kd.R_reads' HO_7.out).2.2 | (with_reducible refine Kd.C_alloc ?_ _) | (with_reducible refine Kd.C_drewN ?_ _) | (with_reducible refine Kd.C_drew ?_))); (case side2 => exact (Kd.R_reads' HO_7.out).2.1); (case side3 => repeat (first | exact (Kd.R_reads' HO_4.out).2.2 | (with_reducible refine Kd.C_alloc ?_ _) | (with_reducible refine Kd.C_drewN ?_ _) | (with_reducible refine Kd.C_drew ?_))); (case side4 => exact (Kd.R_reads' HO_4.out).2.1); rintro e w' ⟨rfl, ⟨nd, rfl⟩⟩))
                  go_meet
                  case rel => exact ⟨_, ((t706 != t696)), (by first | rfl | (simp; done) | (simp [*]; done)), H', ⟨by have := HJ10.out; first | omega | exact Nat.le_refl _⟩, ⟨by (with_reducible repeat (first | apply Kd.R_alloc | apply Kd.R_drewN | apply Kd.R_drew)); exact Kd.R_mono HO_4.out (fun _ hk => ⟨hk.1, hk.2.1⟩)⟩, ⟨by (with_reducible repeat (first | apply Kd.R_alloc | apply Kd.R_drewN | apply Kd.R_drew)); exact Kd.R_mono HO_7.out (fun _ hk => ⟨hk.1, hk.2.1⟩)⟩, ⟨by (with_reducible repeat (first | apply Kd.R_alloc | apply Kd.R_drewN | apply Kd.R_drew)); exact Kd.R_mono HO_703000.out (fun _ hk => ⟨hk.1.1, hk.1.2⟩)⟩, ⟨by (with_reducible repeat (first | refine blk_drewN ?_ _ | refine blk_drew ?_ | refine blk_alloc ?_ _)); exact BK686.out⟩, ⟨by (with_reducible repeat (first | refine blk_drewN ?_ _ | refine blk_drew ?_ | refine blk_alloc ?_ _)); exact BK702.out⟩, ⟨by repeat (first | (with_reducible first | exact HB.out | apply below_alloc | apply pw_below_drewN | apply below_drew1 | refine below_set ?_ GE686.out | refine below_set ?_ GE702.out) | exact HB.out)⟩⟩
                · replace c47 := Bool.eq_false_iff.mpr c47
                  subst c47
                  have H1 : (laws_FnExactSureNumbers.j1 kj10 t693 t696 t703 true l0_0 a0_1 a0_2) = some r := by rw [if_neg (show ¬ (false = true) by decide)] at H; exact H
                  clear H
                  have H := H1
                  clear H1
                  have H' := Aside0.mk H
                  clear H
                  obtain ⟨Ao50, co50, eo50⟩ := Kd.R_slice HO_7.out
                  subst eo50
                  obtain ⟨Ao51, co51, eo51⟩ := Kd.R_slice HO_4.out
                  subst eo51
                  go_wp2_with (first | (go_at_call 35; (with_reducible refine (laws_eqIntS.calls kj10 _ _ t703 _ _ t693 false _ ?side1 ?side2 ?side3 ?side4 A46.out).mono ?_); (case side1 => repeat (first | exact (Kd.R_reads' HO_7.out).2.2 | (with_reducible refine Kd.C_alloc ?_ _) | (with_reducible refine Kd.C_drewN ?_ _) | (with_reducible refine Kd.C_drew ?_))); (case side2 => exact (Kd.R_reads' HO_7.out).2.1); (case side3 => repeat (first | exact (Kd.R_reads' HO_4.out).2.2 | (with_reducible refine Kd.C_alloc ?_ _) | (with_reducible refine Kd.C_drewN ?_ _) | (with_reducible refine Kd.C_drew ?_))); (case side4 => exact (Kd.R_reads' HO_4.out).2.1); rintro e w' ⟨rfl, ⟨nd, rfl⟩⟩))
                  go_meet
                  case rel => exact ⟨_, (true), (by first | rfl | (simp; done) | (simp [*]; done)), H', ⟨by have := HJ10.out; first | omega | exact Nat.le_refl _⟩, ⟨by (with_reducible repeat (first | apply Kd.R_alloc | apply Kd.R_drewN | apply Kd.R_drew)); exact Kd.R_mono HO_4.out (fun _ hk => ⟨hk.1, hk.2.1⟩)⟩, ⟨by (with_reducible repeat (first | apply Kd.R_alloc | apply Kd.R_drewN | apply Kd.R_drew)); exact Kd.R_mono HO_7.out (fun _ hk => ⟨hk.1, hk.2.1⟩)⟩, ⟨by (with_reducible repeat (first | apply Kd.R_alloc | apply Kd.R_drewN | apply Kd.R_drew)); exact Kd.R_mono HO_703000.out (fun _ hk => ⟨hk.1.1, hk.1.2⟩)⟩, ⟨by (with_reducible repeat (first | refine blk_drewN ?_ _ | refine blk_drew ?_ | refine blk_alloc ?_ _)); exact BK686.out⟩, ⟨by (with_reducible repeat (first | refine blk_drewN ?_ _ | refine blk_drew ?_ | refine blk_alloc ?_ _)); exact BK702.out⟩, ⟨by repeat (first | (with_reducible first | exact HB.out | apply below_alloc | apply pw_below_drewN | apply below_drew1 | refine below_set ?_ GE686.out | refine below_set ?_ GE702.out) | exact HB.out)⟩⟩
            case rest =>
              clear HC37
              try clear c1
              try clear c2
              try clear p2
              try clear c3
              try clear c3b0
              try clear c4
              try clear c12
              try clear c15
              try clear c17
              try clear c19
              try clear c23
              try clear c24
              try clear c27
              try clear c32
              try clear c35
              try clear c42
              try clear c43
              try clear c45
              try clear c45b0
              try clear c47
              try clear hcz13_0
              try clear hcz13_1
              try clear hcz13_2
              try clear hcz15_0
              try clear hcz15_1
              try clear hcz15_2
              try clear hcz19_0
              try clear hcz19_1
              try clear hcz19_2
              try clear hcz24_0
              try clear hcz24_1
              try clear hcz24_2
              try clear hcz43_0
              try clear hcz43_1
              try clear hcz43_2
              try clear hcz5_0
              try clear hcz5_1
              try clear hcz5_2
              try clear hfz13_0
              try clear hfz13_1
              try clear hfz13_2
              try clear hfz15_0
              try clear hfz15_1
              try clear hfz15_2
              try clear hfz19_0
              try clear hfz19_1
              try clear hfz19_2
              try clear hfz24_0
              try clear hfz24_1
              try clear hfz24_2
              try clear hfz43_0
              try clear hfz43_1
              try clear hfz43_2
              try clear hfz5_0
              try clear hfz5_1
              try clear hfz5_2
              try clear p2
              obtain ⟨kq, x61_36, rfl, HA, HJ36, HO_4, HO_7, HO_703000, BK686, BK702, HB⟩ := hcut
              have hl703000_36 := (Kd.R_reads' HO_703000.out).1
              rw [hl703000_36] at HO_703000
              (try simp only [hl703000_36])
              (try simp only [hl703000_36] at BK686)
              (try simp only [hl703000_36] at BK702)
              (try simp only [hl703000_36] at HO_4)
              (try simp only [hl703000_36] at HO_7)
              cases kq with
              | zero => exact absurd HA.out (by simp [laws_FnExactSureNumbers.j1])
              | succ kj36 =>
                have H := HA.out
                clear HA
                simp only [laws_FnExactSureNumbers.j1] at H
                by_cases c52 : x61_36 = true
                · subst c52
                  have H1 : (some false) = some r := by rw [if_pos rfl] at H; exact H
                  clear H
                  have H := H1
                  clear H1
                  obtain rfl := Option.some.inj H
                  go_wp2
                  go_ret
                  exact ⟨by first | rfl | (simp [errW_none, errW_some] <;> rfl) | (simp [*, errW_none, errW_some] <;> rfl), by repeat (first | (with_reducible first | exact HB.out | apply below_alloc | apply pw_below_drewN | apply below_drew1 | refine below_set ?_ GE686.out | refine below_set ?_ GE702.out) | exact HB.out)⟩
                · replace c52 := Bool.eq_false_iff.mpr c52
                  subst c52
                  have H1 : ((laws_markIntS.f kj36 t703 1).bind fun bt717 => ((laws_heldIntS.f kj36 bt717.2 1).bind fun t719 => (if t719 < 0 then (some false) else (if t719 = bt717.1 then ((laws_toPuzzle.f kj36 l0_0 a0_1 a0_2).bind fun bt720 => ((impl_SureNumbers.f kj36 bt720.1 bt720.2.1 bt720.2.2).bind fun bt725 => ((laws_eqIntS.f kj36 bt725.1 t693).bind fun t729 => (if t729 = true then (laws_FnExactSureNumbers.j2 kj36 bt717.2 bt717.1 (bt725.2 != t696)) else (laws_FnExactSureNumbers.j2 kj36 bt717.2 bt717.1 true))))) else (some false))))) = some r := by rw [if_neg (show ¬ (false = true) by decide)] at H; exact H
                  clear H
                  have H := H1
                  clear H1
                  replace H := Option.bind_eq_some_iff.mp H
                  obtain ⟨⟨t717, t718⟩, A530, H⟩ := H
                  replace H : ((laws_heldIntS.f kj36 t718 1).bind fun t719 => (if t719 < 0 then (some false) else (if t719 = t717 then ((laws_toPuzzle.f kj36 l0_0 a0_1 a0_2).bind fun bt720 => ((impl_SureNumbers.f kj36 bt720.1 bt720.2.1 bt720.2.2).bind fun bt725 => ((laws_eqIntS.f kj36 bt725.1 t693).bind fun t729 => (if t729 = true then (laws_FnExactSureNumbers.j2 kj36 t718 t717 (bt725.2 != t696)) else (laws_FnExactSureNumbers.j2 kj36 t718 t717 true))))) else (some false)))) = some r := H
                  have A53 := Aside0.mk A530
                  clear A530
                  replace H := Option.bind_eq_some_iff.mp H
                  obtain ⟨t719, A540, H⟩ := H
                  replace H : (if t719 < 0 then (some false) else (if t719 = t717 then ((laws_toPuzzle.f kj36 l0_0 a0_1 a0_2).bind fun bt720 => ((impl_SureNumbers.f kj36 bt720.1 bt720.2.1 bt720.2.2).bind fun bt725 => ((laws_eqIntS.f kj36 bt725.1 t693).bind fun t729 => (if t729 = true then (laws_FnExactSureNumbers.j2 kj36 t718 t717 (bt725.2 != t696)) else (laws_FnExactSureNumbers.j2 kj36 t718 t717 true))))) else (some false))) = some r := H
                  have A54 := Aside0.mk A540
                  clear A540
                  by_cases c55 : t719 < 0
                  · rw [if_pos c55] at H
                    have c55b0 : decide (t719 < 0) = true := decide_eq_true c55
                    clear c55
                    obtain rfl := Option.some.inj H
                    obtain ⟨Ao56, co56, eo56⟩ := Kd.R_slice HO_7.out
                    subst eo56
                    go_wp2_with (first | ((with_reducible refine gate_callee (f := 38) rfl ?_); refine goesL_ (some 64) rfl rfl Try.func38 (by kernel_rfl) rfl #[.slice Ao56 t703.length co56, .int .i64 1] rfl (by (try simp only [List.map_toArray, List.map_cons, List.map_nil]); first | done | rfl | (simp only [List.length_drop, List.length_take]; rfl)) ?_; (with_reducible refine (laws_markIntS.calls kj36 (fun k_ => some k_ = (.slice Ao56 t703.length co56 : Value).ownBlock) (.slice Ao56 t703.length co56) t703 1 t717 t718 w _ ?side1 ?side2 A53.out).mono ?_); (case side1 => repeat (first | (with_reducible first | exact HB.out | apply below_alloc | apply pw_below_drewN | apply below_drew1 | refine below_set ?_ GE686.out | refine below_set ?_ GE702.out) | exact HB.out)); (case side2 => exact Kd.R_tight rfl HO_7.out); rintro e w57 ⟨rfl, hy0, hb, hkp⟩; refine ⟨_, rfl, ?_⟩; have n0_ := Aside0.mk (Kd.R_mono (ok' := fun k_ => some k_ ≠ (.slice Ao56 t703.length co56 : Value).ownBlock ∧ some k_ ≠ (.slice Ao22 t715.length co22 : Value).ownBlock) (Kd.R_keptB (HO_4.out) hkp (fun k_ hk_ hs_ => (hk_.1) hs_)) (fun k_ hk_ => ⟨hk_.1.1, hk_.1.2⟩)); have n1_ := Aside0.mk (Kd.R_reok rfl hy0 (fun k_ e_ => HO_7.out.1 k_ e_)); have n2_ := Aside0.mk (Kd.R_mono (ok' := fun k_ => some k_ ≠ (v694 : Value).ownBlock ∧ some k_ ≠ (.slice Ao56 t703.length co56 : Value).ownBlock) (Kd.R_keptB (HO_703000.out) hkp (fun k_ hk_ hs_ => (hk_.2) hs_)) (fun k_ hk_ => ⟨hk_.1.1, hk_.1.2⟩)); have n3_ := Aside0.mk (blk_kept (by (with_reducible repeat (first | refine blk_drewN ?_ _ | refine blk_drew ?_ | refine blk_alloc ?_ _)); exact BK686.out) hkp (fun hs_ => (fun e_ => (Kd.R_ne HO_7.out BK686.out (by decide)) e_) hs_)); have n4_ := Aside0.mk (blk_kept (by (with_reducible repeat (first | refine blk_drewN ?_ _ | refine blk_drew ?_ | refine blk_alloc ?_ _)); exact BK702.out) hkp (fun hs_ => (fun e_ => (Kd.R_ne HO_7.out BK702.out (by decide)) e_) hs_)); have n5_ := Aside0.mk (hb); clear HO_4; clear HO_7; clear HO_703000; clear BK686; clear BK702; clear HB; have HO_4 := n0_; have HO_7 := n1_; have HO_703000 := n2_; have BK686 := n3_; have BK702 := n4_; have HB := n5_; clear n0_ n1_ n2_ n3_ n4_ n5_; (try clear hb); (try clear hkp); (try clear hy0)) | ((with_reducible refine gate_callee (f := 39) rfl ?_); refine goesL_ (some 67) rfl rfl Try.func39 (by kernel_rfl) rfl #[.slice Ao56 t718.length co56, .int .i64 1] rfl (by (try simp only [List.map_toArray, List.map_cons, List.map_nil]); first | done | (rw [show t718.length = t703.length from (Kd.R_reads' HO_7.out).1.symm] <;> rfl) | rfl | (simp only [List.length_drop, List.length_take]; rfl)) ?_; (with_reducible refine (laws_heldIntS.calls kj36 _ _ t718 1 t719 _ ?side1 ?side2 A54.out).mono ?_); (case side1 => repeat (first | exact (Kd.R_reads' HO_7.out).2.2 | (with_reducible refine Kd.C_alloc ?_ _) | (with_reducible refine Kd.C_drewN ?_ _) | (with_reducible refine Kd.C_drew ?_))); (case side2 => rw [show t718.length = t703.length from (Kd.R_reads' HO_7.out).1.symm]; exact (Kd.R_reads' HO_7.out).2.1); rintro e w' ⟨rfl, ⟨nd, rfl⟩⟩; refine ⟨_, rfl, ?_⟩))
                    go_ret
                    exact ⟨by first | rfl | (simp [errW_none, errW_some] <;> rfl) | (simp [*, errW_none, errW_some] <;> rfl), by repeat (first | (with_reducible first | exact HB.out | apply below_alloc | apply pw_below_drewN | apply below_drew1 | refine below_set ?_ GE686.out | refine below_set ?_ GE702.out) | exact HB.out)⟩
                  · rw [if_neg c55] at H
                    have c55b0 : decide (t719 < 0) = false := decide_eq_false c55
                    clear c55
                    by_cases c58 : t719 = t717
                    · rw [if_pos c58] at H
                      have c58b0 : (t719 == t717) = true := beq_iff_eq.mpr c58
                      have c58b1 : (t719 != t717) = false := bne_eq_false_iff_eq.mpr c58
                      clear c58
                      replace H := Option.bind_eq_some_iff.mp H
                      obtain ⟨⟨t720, t723, t724⟩, A590, H⟩ := H
                      replace H : ((impl_SureNumbers.f kj36 t720 t723 t724).bind fun bt725 => ((laws_eqIntS.f kj36 bt725.1 t693).bind fun t729 => (if t729 = true then (laws_FnExactSureNumbers.j2 kj36 t718 t717 (bt725.2 != t696)) else (laws_FnExactSureNumbers.j2 kj36 t718 t717 true)))) = some r := H
                      have A59 := Aside0.mk A590
                      clear A590
                      replace H := Option.bind_eq_some_iff.mp H
                      obtain ⟨⟨t725, t728⟩, A600, H⟩ := H
                      replace H : ((laws_eqIntS.f kj36 t725 t693).bind fun t729 => (if t729 = true then (laws_FnExactSureNumbers.j2 kj36 t718 t717 (t728 != t696)) else (laws_FnExactSureNumbers.j2 kj36 t718 t717 true))) = some r := H
                      have A60 := Aside0.mk A600
                      clear A600
                      have HC61 := Aside0.mk H
                      clear H
                      obtain ⟨Ao62, co62, eo62⟩ := Kd.R_slice HO_7.out
                      subst eo62
                      go_upto_region 25 with (first | ((with_reducible refine gate_callee (f := 38) rfl ?_); refine goesL_ (some 64) rfl rfl Try.func38 (by kernel_rfl) rfl #[.slice Ao62 t703.length co62, .int .i64 1] rfl (by (try simp only [List.map_toArray, List.map_cons, List.map_nil]); first | done | rfl | (simp only [List.length_drop, List.length_take]; rfl)) ?_; (with_reducible refine (laws_markIntS.calls kj36 (fun k_ => some k_ = (.slice Ao62 t703.length co62 : Value).ownBlock) (.slice Ao62 t703.length co62) t703 1 t717 t718 w _ ?side1 ?side2 A53.out).mono ?_); (case side1 => repeat (first | (with_reducible first | exact HB.out | apply below_alloc | apply pw_below_drewN | apply below_drew1 | refine below_set ?_ GE686.out | refine below_set ?_ GE702.out) | exact HB.out)); (case side2 => exact Kd.R_tight rfl HO_7.out); rintro e w63 ⟨rfl, hy0, hb, hkp⟩; refine ⟨_, rfl, ?_⟩; have n0_ := Aside0.mk (Kd.R_mono (ok' := fun k_ => some k_ ≠ (.slice Ao62 t703.length co62 : Value).ownBlock ∧ some k_ ≠ (.slice Ao22 t715.length co22 : Value).ownBlock) (Kd.R_keptB (HO_4.out) hkp (fun k_ hk_ hs_ => (hk_.1) hs_)) (fun k_ hk_ => ⟨hk_.1.1, hk_.1.2⟩)); have n1_ := Aside0.mk (Kd.R_reok rfl hy0 (fun k_ e_ => HO_7.out.1 k_ e_)); have n2_ := Aside0.mk (Kd.R_mono (ok' := fun k_ => some k_ ≠ (v694 : Value).ownBlock ∧ some k_ ≠ (.slice Ao62 t703.length co62 : Value).ownBlock) (Kd.R_keptB (HO_703000.out) hkp (fun k_ hk_ hs_ => (hk_.2) hs_)) (fun k_ hk_ => ⟨hk_.1.1, hk_.1.2⟩)); have n3_ := Aside0.mk (blk_kept (by (with_reducible repeat (first | refine blk_drewN ?_ _ | refine blk_drew ?_ | refine blk_alloc ?_ _)); exact BK686.out) hkp (fun hs_ => (fun e_ => (Kd.R_ne HO_7.out BK686.out (by decide)) e_) hs_)); have n4_ := Aside0.mk (blk_kept (by (with_reducible repeat (first | refine blk_drewN ?_ _ | refine blk_drew ?_ | refine blk_alloc ?_ _)); exact BK702.out) hkp (fun hs_ => (fun e_ => (Kd.R_ne HO_7.out BK702.out (by decide)) e_) hs_)); have n5_ := Aside0.mk (hb); clear HO_4; clear HO_7; clear HO_703000; clear BK686; clear BK702; clear HB; have HO_4 := n0_; have HO_7 := n1_; have HO_703000 := n2_; have BK686 := n3_; have BK702 := n4_; have HB := n5_; clear n0_ n1_ n2_ n3_ n4_ n5_; (try clear hb); (try clear hkp); (try clear hy0)) | ((with_reducible refine gate_callee (f := 39) rfl ?_); refine goesL_ (some 67) rfl rfl Try.func39 (by kernel_rfl) rfl #[.slice Ao62 t718.length co62, .int .i64 1] rfl (by (try simp only [List.map_toArray, List.map_cons, List.map_nil]); first | done | (rw [show t718.length = t703.length from (Kd.R_reads' HO_7.out).1.symm] <;> rfl) | rfl | (simp only [List.length_drop, List.length_take]; rfl)) ?_; (with_reducible refine (laws_heldIntS.calls kj36 _ _ t718 1 t719 _ ?side1 ?side2 A54.out).mono ?_); (case side1 => repeat (first | exact (Kd.R_reads' HO_7.out).2.2 | (with_reducible refine Kd.C_alloc ?_ _) | (with_reducible refine Kd.C_drewN ?_ _) | (with_reducible refine Kd.C_drew ?_))); (case side2 => rw [show t718.length = t703.length from (Kd.R_reads' HO_7.out).1.symm]; exact (Kd.R_reads' HO_7.out).2.1); rintro e w' ⟨rfl, ⟨nd, rfl⟩⟩; refine ⟨_, rfl, ?_⟩; have hnb64 := NB686_702.out; have hnc64 := NB702_686.out; have hcz65_0 : w63.cell? ⟨gb686, 0, none⟩ = some (.slice A0_0 l0_0.length c0_0) := (blk_cell BK686.out 0).trans rfl; have hcz65_1 : w63.cell? ⟨gb686, 1, none⟩ = some (.int .i64 a0_1) := (blk_cell BK686.out 1).trans rfl; have hcz65_2 : w63.cell? ⟨gb686, 2, none⟩ = some (.int .i64 a0_2) := (blk_cell BK686.out 2).trans rfl; have hfz65_0 := blk_frozen BK686.out 0; have hfz65_1 := blk_frozen BK686.out 1; have hfz65_2 := blk_frozen BK686.out 2) | ((with_reducible refine gate_callee (f := 17) rfl ?_); refine goesL_ (some 75) rfl rfl Try.func17 (by kernel_rfl) rfl #[.agg #[.slice A0_0 l0_0.length c0_0, .int .i64 a0_1, .int .i64 a0_2]] rfl (by (try simp only [List.map_toArray, List.map_cons, List.map_nil]); first | done | rfl | (simp only [List.length_drop, List.length_take]; rfl)) ?_; (with_reducible refine (laws_toPuzzle.calls kj36 _ _ l0_0 a0_1 a0_2 t720 t723 t724 _ ?side1 ?side2 A59.out).mono ?_); (case side1 => repeat (first | exact (Kd.C_below HR0_0.out (by repeat (first | (with_reducible first | exact HB.out | apply below_alloc | apply pw_below_drewN | apply below_drew1 | refine below_set ?_ GE686.out | refine below_set ?_ GE702.out) | exact HB.out))) | (with_reducible refine Kd.C_alloc ?_ _) | (with_reducible refine Kd.C_drewN ?_ _) | (with_reducible refine Kd.C_drew ?_))); (case side2 => exact HC0_0.out); rintro e w66 ⟨v721, rfl, ho0, hb⟩; refine ⟨_, rfl, ?_⟩; have n0_ := Aside0.mk (Kd.R_elder' (by (with_reducible repeat (first | apply Kd.R_alloc | apply Kd.R_drewN | apply Kd.R_drew)); exact HO_4.out) (Kd.R_base ho0) hb); have n1_ := Aside0.mk (Kd.R_elder' (by (with_reducible repeat (first | apply Kd.R_alloc | apply Kd.R_drewN | apply Kd.R_drew)); exact HO_7.out) (Kd.R_base ho0) hb); have n2_ := Aside0.mk (Kd.R_elder' (by (with_reducible repeat (first | apply Kd.R_alloc | apply Kd.R_drewN | apply Kd.R_drew)); exact HO_703000.out) (Kd.R_base ho0) hb); have n3_ := Aside0.mk (Kd.R_lower (Kd.R_new' (Kd.R_new' (Kd.R_new' ho0 (Kd.R_lt (by (with_reducible repeat (first | apply Kd.R_alloc | apply Kd.R_drewN | apply Kd.R_drew)); exact HO_4.out))) (Kd.R_lt (by (with_reducible repeat (first | apply Kd.R_alloc | apply Kd.R_drewN | apply Kd.R_drew)); exact HO_7.out))) (Kd.R_lt (by (with_reducible repeat (first | apply Kd.R_alloc | apply Kd.R_drewN | apply Kd.R_drew)); exact HO_703000.out))) (below_size (by repeat (first | (with_reducible first | exact HB.out | apply below_alloc | apply pw_below_drewN | apply below_drew1 | refine below_set ?_ GE686.out | refine below_set ?_ GE702.out) | exact HB.out)))); have n4_ := Aside0.mk (blk_below (g := gb686) (o := .cells #[.slice A0_0 l0_0.length c0_0, .int .i64 a0_1, .int .i64 a0_2] 24 (0, 0)) (by (with_reducible repeat (first | refine blk_drewN ?_ _ | refine blk_drew ?_ | refine blk_alloc ?_ _)); exact BK686.out) hb); have n5_ := Aside0.mk (blk_below (g := gb702) (o := .cells #[.slice Ao22 t715.length co22, .int .i64 t700, .int .i64 t701] 27 (0, 0)) (by (with_reducible repeat (first | refine blk_drewN ?_ _ | refine blk_drew ?_ | refine blk_alloc ?_ _)); exact BK702.out) hb); have n6_ := Aside0.mk (below_step (by repeat (first | (with_reducible first | exact HB.out | apply below_alloc | apply pw_below_drewN | apply below_drew1 | refine below_set ?_ GE686.out | refine below_set ?_ GE702.out) | exact HB.out)) hb); clear HO_4; clear HO_7; clear HO_703000; clear BK686; clear BK702; clear HB; have HO_4 := n0_; have HO_7 := n1_; have HO_703000 := n2_; have HO722 := n3_; have BK686 := n4_; have BK702 := n5_; have HB := n6_; clear n0_ n1_ n2_ n3_ n4_ n5_ n6_; (try clear hb); (try clear hb2); (try clear hk); (try clear hi); (try clear ho0); obtain ⟨Ao67, co67, eo67⟩ := Kd.R_slice HO722.out; subst eo67) | ((with_reducible refine gate_callee (f := 43) rfl ?_); refine goesL_ (some 76) rfl rfl Try.func43 (by kernel_rfl) rfl #[.agg #[.slice Ao67 t720.length co67, .int .i64 t723, .int .i64 t724]] rfl (by (try simp only [List.map_toArray, List.map_cons, List.map_nil]); first | done | rfl | (simp only [List.length_drop, List.length_take]; rfl)) ?_; (with_reducible refine (impl_SureNumbers.calls kj36 _ _ t720 t723 t724 t725 t728 _ ?side1 ?side2 A60.out).mono ?_); (case side1 => repeat (first | exact (Kd.R_reads' HO722.out).2.2 | (with_reducible refine Kd.C_alloc ?_ _) | (with_reducible refine Kd.C_drewN ?_ _) | (with_reducible refine Kd.C_drew ?_))); (case side2 => exact (Kd.R_reads' HO722.out).2.1); rintro e w68 ⟨v726, rfl, ho0, hb⟩; refine ⟨_, rfl, ?_⟩; have n0_ := Aside0.mk (Kd.R_elder' (by (with_reducible repeat (first | apply Kd.R_alloc | apply Kd.R_drewN | apply Kd.R_drew)); exact HO_4.out) (Kd.R_base ho0) hb); have n1_ := Aside0.mk (Kd.R_elder' (by (with_reducible repeat (first | apply Kd.R_alloc | apply Kd.R_drewN | apply Kd.R_drew)); exact HO_7.out) (Kd.R_base ho0) hb); have n2_ := Aside0.mk (Kd.R_elder' (by (with_reducible repeat (first | apply Kd.R_alloc | apply Kd.R_drewN | apply Kd.R_drew)); exact HO_703000.out) (Kd.R_base ho0) hb); have n3_ := Aside0.mk (Kd.R_elder' (by (with_reducible repeat (first | apply Kd.R_alloc | apply Kd.R_drewN | apply Kd.R_drew)); exact HO722.out) (Kd.R_base ho0) hb); have n4_ := Aside0.mk (Kd.R_lower (Kd.R_new' (Kd.R_new' (Kd.R_new' (Kd.R_new' ho0 (Kd.R_lt (by (with_reducible repeat (first | apply Kd.R_alloc | apply Kd.R_drewN | apply Kd.R_drew)); exact HO_4.out))) (Kd.R_lt (by (with_reducible repeat (first | apply Kd.R_alloc | apply Kd.R_drewN | apply Kd.R_drew)); exact HO_7.out))) (Kd.R_lt (by (with_reducible repeat (first | apply Kd.R_alloc | apply Kd.R_drewN | apply Kd.R_drew)); exact HO_703000.out))) (Kd.R_lt (by (with_reducible repeat (first | apply Kd.R_alloc | apply Kd.R_drewN | apply Kd.R_drew)); exact HO722.out))) (below_size (by repeat (first | (with_reducible first | exact HB.out | apply below_alloc | apply pw_below_drewN | apply below_drew1 | refine below_set ?_ GE686.out | refine below_set ?_ GE702.out) | exact HB.out)))); have n5_ := Aside0.mk (blk_below (g := gb686) (o := .cells #[.slice A0_0 l0_0.length c0_0, .int .i64 a0_1, .int .i64 a0_2] 24 (0, 0)) (by (with_reducible repeat (first | refine blk_drewN ?_ _ | refine blk_drew ?_ | refine blk_alloc ?_ _)); exact BK686.out) hb); have n6_ := Aside0.mk (blk_below (g := gb702) (o := .cells #[.slice Ao22 t715.length co22, .int .i64 t700, .int .i64 t701] 27 (0, 0)) (by (with_reducible repeat (first | refine blk_drewN ?_ _ | refine blk_drew ?_ | refine blk_alloc ?_ _)); exact BK702.out) hb); have n7_ := Aside0.mk (below_step (by repeat (first | (with_reducible first | exact HB.out | apply below_alloc | apply pw_below_drewN | apply below_drew1 | refine below_set ?_ GE686.out | refine below_set ?_ GE702.out) | exact HB.out)) hb); clear HO_4; clear HO_7; clear HO_703000; clear HO722; clear BK686; clear BK702; clear HB; have HO_4 := n0_; have HO_7 := n1_; have HO_703000 := n2_; have HO722 := n3_; have HO727 := n4_; have BK686 := n5_; have BK702 := n6_; have HB := n7_; clear n0_ n1_ n2_ n3_ n4_ n5_ n6_ n7_; (try clear hb); (try clear hb2); (try clear hk); (try clear hi); (try clear ho0)))
                      (try simp only [Act.put, List.setIfInBounds_toArray, List.set_cons_zero, List.set_cons_succ])
                      go_cut [87] (fun v87 wc => ∃ (kq : Nat) (x87_60 : Bool), v87 = .bool x87_60 ∧ Aside0 (laws_FnExactSureNumbers.j2 kq t718 t717 x87_60 = some r) ∧ Aside0 (kq ≤ kj36) ∧ Aside0 (Kd.R (Kd.int .i64) 3 wc w.heap.size (fun k_ => some k_ ≠ ((.slice Ao22 t715.length co22) : Value).ownBlock) (.slice Ao62 t703.length co62) t718) ∧ Aside0 (Kd.R (Kd.int .i64) 3 wc w.heap.size (fun k_ => some k_ ≠ ((.slice Ao62 t703.length co62) : Value).ownBlock) (.slice Ao22 t715.length co22) t715) ∧ Aside0 (wc.heap[gb686]? = some (.cells #[(.slice A0_0 l0_0.length c0_0), .int .i64 a0_1, .int .i64 a0_2] 24 (0, 0))) ∧ Aside0 (wc.heap[gb702]? = some (.cells #[(.slice Ao22 t715.length co22), .int .i64 t700, .int .i64 t701] 27 (0, 0))) ∧ Aside0 (Below w.heap.size w wc))
                      case first =>
                        have H := HC61.out
                        clear HC61
                        replace H := Option.bind_eq_some_iff.mp H
                        obtain ⟨t729, A690, H⟩ := H
                        replace H : (if t729 = true then (laws_FnExactSureNumbers.j2 kj36 t718 t717 (t728 != t696)) else (laws_FnExactSureNumbers.j2 kj36 t718 t717 true)) = some r := H
                        have A69 := Aside0.mk A690
                        clear A690
                        by_cases c70 : t729 = true
                        · subst c70
                          have H1 : (laws_FnExactSureNumbers.j2 kj36 t718 t717 (t728 != t696)) = some r := by rw [if_pos rfl] at H; exact H
                          clear H
                          have H := H1
                          clear H1
                          have H' := Aside0.mk H
                          clear H
                          obtain ⟨Ao71, co71, eo71⟩ := Kd.R_slice HO727.out
                          subst eo71
                          obtain ⟨Ao72, co72, eo72⟩ := Kd.R_slice HO_4.out
                          subst eo72
                          go_wp2_with (first | ((with_reducible refine gate_callee (f := 35) rfl ?_); refine goesL_ (some 81) rfl rfl Try.func35 (by kernel_rfl) rfl #[.slice Ao71 t725.length co71, .slice Ao72 t693.length co72] rfl (by (try simp only [List.map_toArray, List.map_cons, List.map_nil]); first | done | rfl | (simp only [List.length_drop, List.length_take]; rfl)) ?_; (with_reducible refine (laws_eqIntS.calls kj36 _ _ t725 _ _ t693 true _ ?side1 ?side2 ?side3 ?side4 A69.out).mono ?_); (case side1 => repeat (first | exact (Kd.R_reads' HO727.out).2.2 | (with_reducible refine Kd.C_alloc ?_ _) | (with_reducible refine Kd.C_drewN ?_ _) | (with_reducible refine Kd.C_drew ?_))); (case side2 => exact (Kd.R_reads' HO727.out).2.1); (case side3 => repeat (first | exact (Kd.R_reads' HO_4.out).2.2 | (with_reducible refine Kd.C_alloc ?_ _) | (with_reducible refine Kd.C_drewN ?_ _) | (with_reducible refine Kd.C_drew ?_))); (case side4 => exact (Kd.R_reads' HO_4.out).2.1); rintro e w' ⟨rfl, ⟨nd, rfl⟩⟩; refine ⟨_, rfl, ?_⟩))
                          go_meet
                          case rel => exact ⟨_, ((t728 != t696)), (by first | rfl | (simp; done) | (simp [*]; done)), H', ⟨by have := HJ10.out; have := HJ36.out; first | omega | exact Nat.le_refl _⟩, ⟨by (try simp only [hl703000_36]); (with_reducible repeat (first | apply Kd.R_alloc | apply Kd.R_drewN | apply Kd.R_drew)); exact Kd.R_mono HO_7.out (fun _ hk => hk.1.1.2)⟩, ⟨by (try simp only [hl703000_36]); (with_reducible repeat (first | apply Kd.R_alloc | apply Kd.R_drewN | apply Kd.R_drew)); exact Kd.R_mono HO_703000.out (fun _ hk => hk.1.1.2)⟩, ⟨by (try simp only [hl703000_36]); (with_reducible repeat (first | refine blk_drewN ?_ _ | refine blk_drew ?_ | refine blk_alloc ?_ _)); exact BK686.out⟩, ⟨by (try simp only [hl703000_36]); (with_reducible repeat (first | refine blk_drewN ?_ _ | refine blk_drew ?_ | refine blk_alloc ?_ _)); exact BK702.out⟩, ⟨by repeat (first | (with_reducible first | exact HB.out | apply below_alloc | apply pw_below_drewN | apply below_drew1 | refine below_set ?_ GE686.out | refine below_set ?_ GE702.out) | exact HB.out)⟩⟩
                        · replace c70 := Bool.eq_false_iff.mpr c70
                          subst c70
                          have H1 : (laws_FnExactSureNumbers.j2 kj36 t718 t717 true) = some r := by rw [if_neg (show ¬ (false = true) by decide)] at H; exact H
                          clear H
                          have H := H1
                          clear H1
                          have H' := Aside0.mk H
                          clear H
                          obtain ⟨Ao73, co73, eo73⟩ := Kd.R_slice HO727.out
                          subst eo73
                          obtain ⟨Ao74, co74, eo74⟩ := Kd.R_slice HO_4.out
                          subst eo74
                          go_wp2_with (first | ((with_reducible refine gate_callee (f := 35) rfl ?_); refine goesL_ (some 81) rfl rfl Try.func35 (by kernel_rfl) rfl #[.slice Ao73 t725.length co73, .slice Ao74 t693.length co74] rfl (by (try simp only [List.map_toArray, List.map_cons, List.map_nil]); first | done | rfl | (simp only [List.length_drop, List.length_take]; rfl)) ?_; (with_reducible refine (laws_eqIntS.calls kj36 _ _ t725 _ _ t693 false _ ?side1 ?side2 ?side3 ?side4 A69.out).mono ?_); (case side1 => repeat (first | exact (Kd.R_reads' HO727.out).2.2 | (with_reducible refine Kd.C_alloc ?_ _) | (with_reducible refine Kd.C_drewN ?_ _) | (with_reducible refine Kd.C_drew ?_))); (case side2 => exact (Kd.R_reads' HO727.out).2.1); (case side3 => repeat (first | exact (Kd.R_reads' HO_4.out).2.2 | (with_reducible refine Kd.C_alloc ?_ _) | (with_reducible refine Kd.C_drewN ?_ _) | (with_reducible refine Kd.C_drew ?_))); (case side4 => exact (Kd.R_reads' HO_4.out).2.1); rintro e w' ⟨rfl, ⟨nd, rfl⟩⟩; refine ⟨_, rfl, ?_⟩))
                          go_meet
                          case rel => exact ⟨_, (true), (by first | rfl | (simp; done) | (simp [*]; done)), H', ⟨by have := HJ10.out; have := HJ36.out; first | omega | exact Nat.le_refl _⟩, ⟨by (try simp only [hl703000_36]); (with_reducible repeat (first | apply Kd.R_alloc | apply Kd.R_drewN | apply Kd.R_drew)); exact Kd.R_mono HO_7.out (fun _ hk => hk.1.1.2)⟩, ⟨by (try simp only [hl703000_36]); (with_reducible repeat (first | apply Kd.R_alloc | apply Kd.R_drewN | apply Kd.R_drew)); exact Kd.R_mono HO_703000.out (fun _ hk => hk.1.1.2)⟩, ⟨by (try simp only [hl703000_36]); (with_reducible repeat (first | refine blk_drewN ?_ _ | refine blk_drew ?_ | refine blk_alloc ?_ _)); exact BK686.out⟩, ⟨by (try simp only [hl703000_36]); (with_reducible repeat (first | refine blk_drewN ?_ _ | refine blk_drew ?_ | refine blk_alloc ?_ _)); exact BK702.out⟩, ⟨by repeat (first | (with_reducible first | exact HB.out | apply below_alloc | apply pw_below_drewN | apply below_drew1 | refine below_set ?_ GE686.out | refine below_set ?_ GE702.out) | exact HB.out)⟩⟩
                      case rest =>
                        clear HC61
                        try clear c1
                        try clear c2
                        try clear p2
                        try clear c3
                        try clear c3b0
                        try clear c4
                        try clear c5
                        try clear c6
                        try clear c7
                        try clear c12
                        try clear c15
                        try clear c17
                        try clear c19
                        try clear c23
                        try clear c24
                        try clear c27
                        try clear c32
                        try clear c35
                        try clear c38
                        try clear c39
                        try clear c42
                        try clear c43
                        try clear c45
                        try clear c45b0
                        try clear c47
                        try clear c52
                        try clear c55
                        try clear c55b0
                        try clear c58
                        try clear c58b0
                        try clear c58b1
                        try clear c64
                        try clear c70
                        try clear hcz13_0
                        try clear hcz13_1
                        try clear hcz13_2
                        try clear hcz15_0
                        try clear hcz15_1
                        try clear hcz15_2
                        try clear hcz19_0
                        try clear hcz19_1
                        try clear hcz19_2
                        try clear hcz24_0
                        try clear hcz24_1
                        try clear hcz24_2
                        try clear hcz43_0
                        try clear hcz43_1
                        try clear hcz43_2
                        try clear hcz5_0
                        try clear hcz5_1
                        try clear hcz5_2
                        try clear hcz65_0
                        try clear hcz65_1
                        try clear hcz65_2
                        try clear hfz13_0
                        try clear hfz13_1
                        try clear hfz13_2
                        try clear hfz15_0
                        try clear hfz15_1
                        try clear hfz15_2
                        try clear hfz19_0
                        try clear hfz19_1
                        try clear hfz19_2
                        try clear hfz24_0
                        try clear hfz24_1
                        try clear hfz24_2
                        try clear hfz43_0
                        try clear hfz43_1
                        try clear hfz43_2
                        try clear hfz5_0
                        try clear hfz5_1
                        try clear hfz5_2
                        try clear hfz65_0
                        try clear hfz65_1
                        try clear hfz65_2
                        try clear p2
                        obtain ⟨kq, x87_60, rfl, HA, HJ60, HO_7, HO_703000, BK686, BK702, HB⟩ := hcut
                        have hl7_60 := (Kd.R_reads' HO_7.out).1
                        rw [hl7_60] at HO_7
                        (try simp only [hl7_60])
                        (try simp only [hl7_60] at BK686)
                        (try simp only [hl7_60] at BK702)
                        (try simp only [hl7_60] at HO_703000)
                        cases kq with
                        | zero => exact absurd HA.out (by simp [laws_FnExactSureNumbers.j2])
                        | succ kj60 =>
                          have H := HA.out
                          clear HA
                          simp only [laws_FnExactSureNumbers.j2] at H
                          by_cases c75 : x87_60 = true
                          · subst c75
                            have H1 : (some false) = some r := by rw [if_pos rfl] at H; exact H
                            clear H
                            have H := H1
                            clear H1
                            obtain rfl := Option.some.inj H
                            go_wp2
                            go_ret
                            exact ⟨by first | rfl | (simp [errW_none, errW_some] <;> rfl) | (simp [*, errW_none, errW_some] <;> rfl), by repeat (first | (with_reducible first | exact HB.out | apply below_alloc | apply pw_below_drewN | apply below_drew1 | refine below_set ?_ GE686.out | refine below_set ?_ GE702.out) | exact HB.out)⟩
                          · replace c75 := Bool.eq_false_iff.mpr c75
                            subst c75
                            have H1 : ((laws_heldIntS.f kj60 t718 1).bind fun t730 => (if t730 < 0 then (some false) else (if t730 = t717 then (some true) else (some false)))) = some r := by rw [if_neg (show ¬ (false = true) by decide)] at H; exact H
                            clear H
                            have H := H1
                            clear H1
                            replace H := Option.bind_eq_some_iff.mp H
                            obtain ⟨t730, A760, H⟩ := H
                            replace H : (if t730 < 0 then (some false) else (if t730 = t717 then (some true) else (some false))) = some r := H
                            have A76 := Aside0.mk A760
                            clear A760
                            by_cases c77 : t730 < 0
                            · rw [if_pos c77] at H
                              have c77b0 : decide (t730 < 0) = true := decide_eq_true c77
                              clear c77
                              obtain rfl := Option.some.inj H
                              go_wp2_with (first | ((with_reducible refine gate_callee (f := 39) rfl ?_); refine goesL_ (some 90) rfl rfl Try.func39 (by kernel_rfl) rfl #[.slice Ao62 t718.length co62, .int .i64 1] rfl (by (try simp only [List.map_toArray, List.map_cons, List.map_nil]); first | done | rfl | (simp only [List.length_drop, List.length_take]; rfl)) ?_; (with_reducible refine (laws_heldIntS.calls kj60 _ _ t718 1 t730 _ ?side1 ?side2 A76.out).mono ?_); (case side1 => repeat (first | exact (Kd.R_reads' HO_7.out).2.2 | (with_reducible refine Kd.C_alloc ?_ _) | (with_reducible refine Kd.C_drewN ?_ _) | (with_reducible refine Kd.C_drew ?_))); (case side2 => exact (Kd.R_reads' HO_7.out).2.1); rintro e w' ⟨rfl, ⟨nd, rfl⟩⟩; refine ⟨_, rfl, ?_⟩))
                              go_ret
                              exact ⟨by first | rfl | (simp [errW_none, errW_some] <;> rfl) | (simp [*, errW_none, errW_some] <;> rfl), by repeat (first | (with_reducible first | exact HB.out | apply below_alloc | apply pw_below_drewN | apply below_drew1 | refine below_set ?_ GE686.out | refine below_set ?_ GE702.out) | exact HB.out)⟩
                            · rw [if_neg c77] at H
                              have c77b0 : decide (t730 < 0) = false := decide_eq_false c77
                              clear c77
                              by_cases c78 : t730 = t717
                              · rw [if_pos c78] at H
                                have c78b0 : (t730 == t717) = true := beq_iff_eq.mpr c78
                                have c78b1 : (t730 != t717) = false := bne_eq_false_iff_eq.mpr c78
                                clear c78
                                obtain rfl := Option.some.inj H
                                go_wp2_with (first | ((with_reducible refine gate_callee (f := 39) rfl ?_); refine goesL_ (some 90) rfl rfl Try.func39 (by kernel_rfl) rfl #[.slice Ao62 t718.length co62, .int .i64 1] rfl (by (try simp only [List.map_toArray, List.map_cons, List.map_nil]); first | done | rfl | (simp only [List.length_drop, List.length_take]; rfl)) ?_; (with_reducible refine (laws_heldIntS.calls kj60 _ _ t718 1 t730 _ ?side1 ?side2 A76.out).mono ?_); (case side1 => repeat (first | exact (Kd.R_reads' HO_7.out).2.2 | (with_reducible refine Kd.C_alloc ?_ _) | (with_reducible refine Kd.C_drewN ?_ _) | (with_reducible refine Kd.C_drew ?_))); (case side2 => exact (Kd.R_reads' HO_7.out).2.1); rintro e w' ⟨rfl, ⟨nd, rfl⟩⟩; refine ⟨_, rfl, ?_⟩))
                                go_ret
                                exact ⟨by first | rfl | (simp [errW_none, errW_some] <;> rfl) | (simp [*, errW_none, errW_some] <;> rfl), by repeat (first | (with_reducible first | exact HB.out | apply below_alloc | apply pw_below_drewN | apply below_drew1 | refine below_set ?_ GE686.out | refine below_set ?_ GE702.out) | exact HB.out)⟩
                              · rw [if_neg c78] at H
                                have c78b0 : (t730 == t717) = false := beq_eq_false_iff_ne.mpr c78
                                have c78b1 : (t730 != t717) = true := bne_iff_ne.mpr c78
                                obtain rfl := Option.some.inj H
                                go_wp2_with (first | ((with_reducible refine gate_callee (f := 39) rfl ?_); refine goesL_ (some 90) rfl rfl Try.func39 (by kernel_rfl) rfl #[.slice Ao62 t718.length co62, .int .i64 1] rfl (by (try simp only [List.map_toArray, List.map_cons, List.map_nil]); first | done | rfl | (simp only [List.length_drop, List.length_take]; rfl)) ?_; (with_reducible refine (laws_heldIntS.calls kj60 _ _ t718 1 t730 _ ?side1 ?side2 A76.out).mono ?_); (case side1 => repeat (first | exact (Kd.R_reads' HO_7.out).2.2 | (with_reducible refine Kd.C_alloc ?_ _) | (with_reducible refine Kd.C_drewN ?_ _) | (with_reducible refine Kd.C_drew ?_))); (case side2 => exact (Kd.R_reads' HO_7.out).2.1); rintro e w' ⟨rfl, ⟨nd, rfl⟩⟩; refine ⟨_, rfl, ?_⟩))
                                go_ret
                                exact ⟨by first | rfl | (simp [errW_none, errW_some] <;> rfl) | (simp [*, errW_none, errW_some] <;> rfl), by repeat (first | (with_reducible first | exact HB.out | apply below_alloc | apply pw_below_drewN | apply below_drew1 | refine below_set ?_ GE686.out | refine below_set ?_ GE702.out) | exact HB.out)⟩
                    · rw [if_neg c58] at H
                      have c58b0 : (t719 == t717) = false := beq_eq_false_iff_ne.mpr c58
                      have c58b1 : (t719 != t717) = true := bne_iff_ne.mpr c58
                      obtain rfl := Option.some.inj H
                      obtain ⟨Ao79, co79, eo79⟩ := Kd.R_slice HO_7.out
                      subst eo79
                      go_wp2_with (first | ((with_reducible refine gate_callee (f := 38) rfl ?_); refine goesL_ (some 64) rfl rfl Try.func38 (by kernel_rfl) rfl #[.slice Ao79 t703.length co79, .int .i64 1] rfl (by (try simp only [List.map_toArray, List.map_cons, List.map_nil]); first | done | rfl | (simp only [List.length_drop, List.length_take]; rfl)) ?_; (with_reducible refine (laws_markIntS.calls kj36 (fun k_ => some k_ = (.slice Ao79 t703.length co79 : Value).ownBlock) (.slice Ao79 t703.length co79) t703 1 t717 t718 w _ ?side1 ?side2 A53.out).mono ?_); (case side1 => repeat (first | (with_reducible first | exact HB.out | apply below_alloc | apply pw_below_drewN | apply below_drew1 | refine below_set ?_ GE686.out | refine below_set ?_ GE702.out) | exact HB.out)); (case side2 => exact Kd.R_tight rfl HO_7.out); rintro e w80 ⟨rfl, hy0, hb, hkp⟩; refine ⟨_, rfl, ?_⟩; have n0_ := Aside0.mk (Kd.R_mono (ok' := fun k_ => some k_ ≠ (.slice Ao79 t703.length co79 : Value).ownBlock ∧ some k_ ≠ (.slice Ao22 t715.length co22 : Value).ownBlock) (Kd.R_keptB (HO_4.out) hkp (fun k_ hk_ hs_ => (hk_.1) hs_)) (fun k_ hk_ => ⟨hk_.1.1, hk_.1.2⟩)); have n1_ := Aside0.mk (Kd.R_reok rfl hy0 (fun k_ e_ => HO_7.out.1 k_ e_)); have n2_ := Aside0.mk (Kd.R_mono (ok' := fun k_ => some k_ ≠ (v694 : Value).ownBlock ∧ some k_ ≠ (.slice Ao79 t703.length co79 : Value).ownBlock) (Kd.R_keptB (HO_703000.out) hkp (fun k_ hk_ hs_ => (hk_.2) hs_)) (fun k_ hk_ => ⟨hk_.1.1, hk_.1.2⟩)); have n3_ := Aside0.mk (blk_kept (by (with_reducible repeat (first | refine blk_drewN ?_ _ | refine blk_drew ?_ | refine blk_alloc ?_ _)); exact BK686.out) hkp (fun hs_ => (fun e_ => (Kd.R_ne HO_7.out BK686.out (by decide)) e_) hs_)); have n4_ := Aside0.mk (blk_kept (by (with_reducible repeat (first | refine blk_drewN ?_ _ | refine blk_drew ?_ | refine blk_alloc ?_ _)); exact BK702.out) hkp (fun hs_ => (fun e_ => (Kd.R_ne HO_7.out BK702.out (by decide)) e_) hs_)); have n5_ := Aside0.mk (hb); clear HO_4; clear HO_7; clear HO_703000; clear BK686; clear BK702; clear HB; have HO_4 := n0_; have HO_7 := n1_; have HO_703000 := n2_; have BK686 := n3_; have BK702 := n4_; have HB := n5_; clear n0_ n1_ n2_ n3_ n4_ n5_; (try clear hb); (try clear hkp); (try clear hy0)) | ((with_reducible refine gate_callee (f := 39) rfl ?_); refine goesL_ (some 67) rfl rfl Try.func39 (by kernel_rfl) rfl #[.slice Ao79 t718.length co79, .int .i64 1] rfl (by (try simp only [List.map_toArray, List.map_cons, List.map_nil]); first | done | (rw [show t718.length = t703.length from (Kd.R_reads' HO_7.out).1.symm] <;> rfl) | rfl | (simp only [List.length_drop, List.length_take]; rfl)) ?_; (with_reducible refine (laws_heldIntS.calls kj36 _ _ t718 1 t719 _ ?side1 ?side2 A54.out).mono ?_); (case side1 => repeat (first | exact (Kd.R_reads' HO_7.out).2.2 | (with_reducible refine Kd.C_alloc ?_ _) | (with_reducible refine Kd.C_drewN ?_ _) | (with_reducible refine Kd.C_drew ?_))); (case side2 => rw [show t718.length = t703.length from (Kd.R_reads' HO_7.out).1.symm]; exact (Kd.R_reads' HO_7.out).2.1); rintro e w' ⟨rfl, ⟨nd, rfl⟩⟩; refine ⟨_, rfl, ?_⟩))
                      go_ret
                      exact ⟨by first | rfl | (simp [errW_none, errW_some] <;> rfl) | (simp [*, errW_none, errW_some] <;> rfl), by repeat (first | (with_reducible first | exact HB.out | apply below_alloc | apply pw_below_drewN | apply below_drew1 | refine below_set ?_ GE686.out | refine below_set ?_ GE702.out) | exact HB.out)⟩
          · replace c35 := Bool.eq_false_iff.mpr c35
            subst c35
            have H1 : (some false) = some r := by rw [if_neg (show ¬ (false = true) by decide)] at H; exact H
            clear H
            have H := H1
            clear H1
            obtain rfl := Option.some.inj H
            try go_wp2
            have n0_ := Aside0.mk (Kd.R_drew HO_4.out)
            have n1_ := Aside0.mk (Kd.R_drew HO_7.out)
            have n2_ := Aside0.mk (Kd.R_drew HO_703000.out)
            have n3_ := Aside0.mk (blk_drew BK686.out)
            have n4_ := Aside0.mk (blk_drew BK702.out)
            have n5_ := Aside0.mk (below_drew1 HB.out)
            clear HO_4
            clear HO_7
            clear HO_703000
            clear BK686
            clear BK702
            clear HB
            have HO_4 := n0_
            have HO_7 := n1_
            have HO_703000 := n2_
            have BK686 := n3_
            have BK702 := n4_
            have HB := n5_
            clear n0_ n1_ n2_ n3_ n4_ n5_
            refine start_ (n := 5) (S := fun w' => w'.cell? ⟨gb702, 0, none⟩ = some (.slice Ao22 t697.length co22) ∧ w'.cell? ⟨gb702, 1, none⟩ = some (.int .i64 t700) ∧ w'.cell? ⟨gb702, 2, none⟩ = some (.int .i64 t701) ∧ w'.cell? ⟨gb686, 0, none⟩ = some (.slice A0_0 l0_0.length c0_0) ∧ w'.cell? ⟨gb686, 1, none⟩ = some (.int .i64 a0_1) ∧ w'.cell? ⟨gb686, 2, none⟩ = some (.int .i64 a0_2)) (ds := []) #[false, false, false, false, false] (by kernel_rfl) rfl rfl ⟨(blk_cell BK702.out 0).trans rfl, (blk_cell BK702.out 1).trans rfl, (blk_cell BK702.out 2).trans rfl, (blk_cell BK686.out 0).trans rfl, (blk_cell BK686.out 1).trans rfl, (blk_cell BK686.out 2).trans rfl⟩ (fun hHeld => ?_)
            generalize wc.drew = w81 at HO_4 HO_7 HO_703000 BK686 BK702 HB hHeld ⊢
            refine take_ (i := 0) (N := some 41) (v := ?_) (a' := ?_) #[true, false, false, false, false] rfl rfl (by kernel_rfl) (fun _ _ _ h => h) (Or.inl ⟨by rfl, ?_⟩) hHeld ?_ ?_
            rotate_left
            · rintro w' ⟨s0, s1, s2, s3, s4, s5⟩
              go_simp
              with_reducible rfl
            rotate_left
            · simp only [Act.put, List.setIfInBounds_toArray, List.set_cons_zero, List.set_cons_succ, i64_w, i32_w]
              rfl
            refine take_ (i := 1) (N := some 42) (v := ?_) (a' := ?_) #[true, true, false, false, false] rfl rfl (by kernel_rfl) (fun _ _ _ h => h) (Or.inl ⟨by rfl, ?_⟩) hHeld ?_ ?_
            rotate_left
            · rintro w' ⟨s0, s1, s2, s3, s4, s5⟩
              go_simp
              with_reducible rfl
            rotate_left
            · simp only [Act.put, List.setIfInBounds_toArray, List.set_cons_zero, List.set_cons_succ, i64_w, i32_w]
              rfl
            refine one_ (i := 2) (N := some 43) #[true, true, true, false, false] rfl rfl (by kernel_rfl) (by decide) (fun K hK => ?_)
            refine goes_ Try.func17 (by kernel_rfl) rfl #[.agg #[.slice A0_0 l0_0.length c0_0, .int .i64 a0_1, .int .i64 a0_2]] (by rfl) rfl rfl (by (try simp only [List.map_toArray, List.map_cons, List.map_nil]); first | done | rfl | (simp only [List.length_drop, List.length_take]; rfl)) ?_
            with_reducible refine (laws_toPuzzle.calls kj10 _ _ l0_0 a0_1 a0_2 t708 t711 t712 _ ?side1 ?side2 A33.out).mono ?_
            (case side1 => repeat (first | exact (Kd.C_below HR0_0.out HB.out) | (with_reducible refine Kd.C_alloc ?_ _) | (with_reducible refine Kd.C_drewN ?_ _) | (with_reducible refine Kd.C_drew ?_)))
            (case side2 => exact HC0_0.out)
            rintro e w82 ⟨v709, rfl, ho0, hb⟩
            refine ⟨_, rfl, ?_⟩
            have n0_ := Aside0.mk (Kd.R_elder' (by (with_reducible repeat (first | apply Kd.R_alloc | apply Kd.R_drewN | apply Kd.R_drew)); exact HO_4.out) (Kd.R_base ho0) hb)
            have n1_ := Aside0.mk (Kd.R_elder' (by (with_reducible repeat (first | apply Kd.R_alloc | apply Kd.R_drewN | apply Kd.R_drew)); exact HO_7.out) (Kd.R_base ho0) hb)
            have n2_ := Aside0.mk (Kd.R_elder' (by (with_reducible repeat (first | apply Kd.R_alloc | apply Kd.R_drewN | apply Kd.R_drew)); exact HO_703000.out) (Kd.R_base ho0) hb)
            have n3_ := Aside0.mk (Kd.R_lower (Kd.R_new' (Kd.R_new' (Kd.R_new' ho0 (Kd.R_lt (by (with_reducible repeat (first | apply Kd.R_alloc | apply Kd.R_drewN | apply Kd.R_drew)); exact HO_4.out))) (Kd.R_lt (by (with_reducible repeat (first | apply Kd.R_alloc | apply Kd.R_drewN | apply Kd.R_drew)); exact HO_7.out))) (Kd.R_lt (by (with_reducible repeat (first | apply Kd.R_alloc | apply Kd.R_drewN | apply Kd.R_drew)); exact HO_703000.out))) (below_size (by repeat (first | (with_reducible first | exact HB.out | apply below_alloc | apply pw_below_drewN | apply below_drew1 | refine below_set ?_ GE686.out | refine below_set ?_ GE702.out) | exact HB.out))))
            have n4_ := Aside0.mk (blk_below (g := gb686) (o := .cells #[.slice A0_0 l0_0.length c0_0, .int .i64 a0_1, .int .i64 a0_2] 24 (0, 0)) (by (with_reducible repeat (first | refine blk_drewN ?_ _ | refine blk_drew ?_ | refine blk_alloc ?_ _)); exact BK686.out) hb)
            have n5_ := Aside0.mk (blk_below (g := gb702) (o := .cells #[.slice Ao22 t697.length co22, .int .i64 t700, .int .i64 t701] 27 (0, 0)) (by (with_reducible repeat (first | refine blk_drewN ?_ _ | refine blk_drew ?_ | refine blk_alloc ?_ _)); exact BK702.out) hb)
            have n6_ := Aside0.mk (below_step (by repeat (first | (with_reducible first | exact HB.out | apply below_alloc | apply pw_below_drewN | apply below_drew1 | refine below_set ?_ GE686.out | refine below_set ?_ GE702.out) | exact HB.out)) hb)
            clear HO_4
            clear HO_7
            clear HO_703000
            clear BK686
            clear BK702
            clear HB
            have HO_4 := n0_
            have HO_7 := n1_
            have HO_703000 := n2_
            have HO710 := n3_
            have BK686 := n4_
            have BK702 := n5_
            have HB := n6_
            clear n0_ n1_ n2_ n3_ n4_ n5_ n6_
            (try clear hb)
            (try clear hb2)
            (try clear hk)
            (try clear hi)
            (try clear ho0)
            obtain ⟨Ao83, co83, eo83⟩ := Kd.R_slice HO710.out
            (first | subst eo83 | (injection eo83 with f1_ f2_ f3_; have f4_ := f1_.symm; have f5_ := f3_.symm; clear f1_ f2_ f3_; subst f4_; subst f5_))
            refine hK.out _ _ ⟨(blk_cell BK702.out 0).trans rfl, (blk_cell BK702.out 1).trans rfl, (blk_cell BK702.out 2).trans rfl, (blk_cell BK686.out 0).trans rfl, (blk_cell BK686.out 1).trans rfl, (blk_cell BK686.out 2).trans rfl⟩ (fun hHeld => ?_)
            clear hK K
            refine norm_ (a' := ?_) ?_ ?_
            rotate_left
            · show Act.put _ (some 43) _ = _
              simp only [Act.put, List.setIfInBounds_toArray, List.set_cons_zero, List.set_cons_succ, i64_w, i32_w]
              rfl
            refine one_ (i := 3) (N := some 44) #[true, true, true, true, false] rfl rfl (by kernel_rfl) (by decide) (fun K hK => ?_)
            refine goes_ Try.func19 (by kernel_rfl) rfl #[.agg #[.slice Ao22 t697.length co22, .int .i64 t700, .int .i64 t701], .agg #[.slice Ao83 t708.length co83, .int .i64 t711, .int .i64 t712]] (by rfl) rfl rfl (by (try simp only [List.map_toArray, List.map_cons, List.map_nil]); first | done | rfl | (simp only [List.length_drop, List.length_take]; rfl)) ?_
            with_reducible refine (laws_eqPuzzle.calls kj10 _ _ t697 t700 t701 _ _ t708 t711 t712 false _ ?side1 ?side2 ?side3 ?side4 A34.out).mono ?_
            (case side1 => repeat (first | exact (Kd.R_reads' HO_703000.out).2.2 | (with_reducible refine Kd.C_alloc ?_ _) | (with_reducible refine Kd.C_drewN ?_ _) | (with_reducible refine Kd.C_drew ?_)))
            (case side2 => exact (Kd.R_reads' HO_703000.out).2.1)
            (case side3 => repeat (first | exact (Kd.R_reads' HO710.out).2.2 | (with_reducible refine Kd.C_alloc ?_ _) | (with_reducible refine Kd.C_drewN ?_ _) | (with_reducible refine Kd.C_drew ?_)))
            (case side4 => exact (Kd.R_reads' HO710.out).2.1)
            rintro e w84 ⟨rfl, hb⟩
            refine ⟨_, rfl, ?_⟩
            have n0_ := Aside0.mk (Kd.R_below (by (with_reducible repeat (first | apply Kd.R_alloc | apply Kd.R_drewN | apply Kd.R_drew)); exact HO_4.out) hb)
            have n1_ := Aside0.mk (Kd.R_below (by (with_reducible repeat (first | apply Kd.R_alloc | apply Kd.R_drewN | apply Kd.R_drew)); exact HO_7.out) hb)
            have n2_ := Aside0.mk (Kd.R_below (by (with_reducible repeat (first | apply Kd.R_alloc | apply Kd.R_drewN | apply Kd.R_drew)); exact HO_703000.out) hb)
            have n3_ := Aside0.mk (Kd.R_below (by (with_reducible repeat (first | apply Kd.R_alloc | apply Kd.R_drewN | apply Kd.R_drew)); exact HO710.out) hb)
            have n4_ := Aside0.mk (blk_below (g := gb686) (o := .cells #[.slice A0_0 l0_0.length c0_0, .int .i64 a0_1, .int .i64 a0_2] 24 (0, 0)) (by (with_reducible repeat (first | refine blk_drewN ?_ _ | refine blk_drew ?_ | refine blk_alloc ?_ _)); exact BK686.out) hb)
            have n5_ := Aside0.mk (blk_below (g := gb702) (o := .cells #[.slice Ao22 t697.length co22, .int .i64 t700, .int .i64 t701] 27 (0, 0)) (by (with_reducible repeat (first | refine blk_drewN ?_ _ | refine blk_drew ?_ | refine blk_alloc ?_ _)); exact BK702.out) hb)
            have n6_ := Aside0.mk (below_step (by repeat (first | (with_reducible first | exact HB.out | apply below_alloc | apply pw_below_drewN | apply below_drew1 | refine below_set ?_ GE686.out | refine below_set ?_ GE702.out) | exact HB.out)) hb)
            clear HO_4
            clear HO_7
            clear HO_703000
            clear HO710
            clear BK686
            clear BK702
            clear HB
            have HO_4 := n0_
            have HO_7 := n1_
            have HO_703000 := n2_
            have HO710 := n3_
            have BK686 := n4_
            have BK702 := n5_
            have HB := n6_
            clear n0_ n1_ n2_ n3_ n4_ n5_ n6_
            (try clear hb)
            (try clear hb2)
            (try clear hk)
            (try clear hi)
            refine hK.out _ _ ⟨(blk_cell BK702.out 0).trans rfl, (blk_cell BK702.out 1).trans rfl, (blk_cell BK702.out 2).trans rfl, (blk_cell BK686.out 0).trans rfl, (blk_cell BK686.out 1).trans rfl, (blk_cell BK686.out 2).trans rfl⟩ (fun hHeld => ?_)
            clear hK K
            refine norm_ (a' := ?_) ?_ ?_
            rotate_left
            · show Act.put _ (some 44) _ = _
              simp only [Act.put, List.setIfInBounds_toArray, List.set_cons_zero, List.set_cons_succ, i64_w, i32_w]
              rfl
            refine pure_ (i := 4) (N := some 45) (v := ?_) (a' := ?_) #[true, true, true, true, true] rfl rfl (by kernel_rfl) (fun _ _ _ h => h) (Or.inl ⟨by rfl, ?_⟩) ?_ ?_
            rotate_left
            · intro w'
              go_simp
              with_reducible rfl
            rotate_left
            · simp only [Act.put, List.setIfInBounds_toArray, List.set_cons_zero, List.set_cons_succ, i64_w, i32_w]
              rfl
            refine done_ (by kernel_rfl) ?_
            try go_wp2
            go_ret
            exact ⟨by first | rfl | (simp [errW_none, errW_some] <;> rfl) | (simp [*, errW_none, errW_some] <;> rfl), by repeat (first | (with_reducible first | exact HB.out | apply below_alloc | apply pw_below_drewN | apply below_drew1 | refine below_set ?_ GE686.out | refine below_set ?_ GE702.out) | exact HB.out)⟩

/-- The statement of laws_FnExactSureNumbers over numbers and lists. -/
def laws_FnExactSureNumbers.Pure : Prop := ∀ (l0_0 : List Int) (a0_1 : Int) (a0_2 : Int), l0_0.length ≤ maxLen → l0_0.length * 8 ≤ 140737488351232 → (∀ x ∈ l0_0, (Lit.int .i64 x).wf = true) → (Lit.int .i64 a0_1).wf = true → (Lit.int .i64 a0_2).wf = true → ∃ k, laws_FnExactSureNumbers.f k l0_0 a0_1 a0_2 = some true
theorem laws_FnExactSureNumbers.walk (P : laws_FnExactSureNumbers.Pure) (a0_0 : Option Addr) (len0_0 cap0_0 : Nat) (z0_0 : List Int) (a0_1 : Int) (a0_2 : Int) (w : World) (w0_0 : (a0_0 = none ∧ len0_0 = 0 ∧ cap0_0 = 0 ∧ z0_0 = []) ∨ ∃ x, a0_0 = some x ∧ len0_0 ≤ cap0_0 ∧ cap0_0 ≤ maxLen ∧ z0_0.length = cap0_0 ∧ (∀ i, i < z0_0.length → w.cell? (x.add i) = some (.int .i64 (z0_0.getD i 0))) ∧ ∀ n ∈ z0_0, (Lit.int .i64 n).wf = true) (y0_0 : len0_0 * 8 ≤ 140737488351232) (w0_1 : (Lit.int .i64 a0_1).wf = true) (w0_2 : (Lit.int .i64 a0_2).wf = true) :
    Calls Try.prog 12 #[.agg #[.slice a0_0 len0_0 cap0_0, .int .i64 a0_1, .int .i64 a0_2]] w fun e w' => e = .returned (.bool true) ∧ Below w.heap.size w w' := by
  obtain ⟨l0_0, rfl, hr0_0, hm0_0, hw0_0, hc0_0⟩ := ReadsInt.ofRowC w0_0
  obtain ⟨k, h⟩ := P l0_0 a0_1 a0_2 hm0_0 y0_0 hw0_0 w0_1 w0_2
  refine (laws_FnExactSureNumbers.calls k _ _ l0_0 a0_1 a0_2 true w (Kd.C_of_reads (d := (0 : Int)) (h1 := fun _ => rfl) hr0_0) hc0_0 h).mono ?_
  rintro e w' ⟨rfl, hd⟩
  exact ⟨rfl, hd⟩

noncomputable def laws_FnExactSureNumbers.J0 (x4 : List Int) (x5 : Bool) (x7 : List Int) (x8 : Bool) (x40 : Bool) (x687000 : List Int) (x687001 : Int) (x687002 : Int) (x703000 : List Int) (x703001 : Int) (x703002 : Int) : Option (Bool) := lim fun k => laws_FnExactSureNumbers.j0 k x4 x5 x7 x8 x40 x687000 x687001 x687002 x703000 x703001 x703002
theorem laws_FnExactSureNumbers.J0_lim (x4 : List Int) (x5 : Bool) (x7 : List Int) (x8 : Bool) (x40 : Bool) (x687000 : List Int) (x687001 : Int) (x687002 : Int) (x703000 : List Int) (x703001 : Int) (x703002 : Int) : Lim (fun k => laws_FnExactSureNumbers.j0 k x4 x5 x7 x8 x40 x687000 x687001 x687002 x703000 x703001 x703002) (laws_FnExactSureNumbers.J0 x4 x5 x7 x8 x40 x687000 x687001 x687002 x703000 x703001 x703002) := Lim.of fun k => (laws_FnExactSureNumbers.mono_l k).1 x4 x5 x7 x8 x40 x687000 x687001 x687002 x703000 x703001 x703002
noncomputable def laws_FnExactSureNumbers.J1 (x4 : List Int) (x5 : Bool) (x7 : List Int) (x61 : Bool) (x687000 : List Int) (x687001 : Int) (x687002 : Int) : Option (Bool) := lim fun k => laws_FnExactSureNumbers.j1 k x4 x5 x7 x61 x687000 x687001 x687002
theorem laws_FnExactSureNumbers.J1_lim (x4 : List Int) (x5 : Bool) (x7 : List Int) (x61 : Bool) (x687000 : List Int) (x687001 : Int) (x687002 : Int) : Lim (fun k => laws_FnExactSureNumbers.j1 k x4 x5 x7 x61 x687000 x687001 x687002) (laws_FnExactSureNumbers.J1 x4 x5 x7 x61 x687000 x687001 x687002) := Lim.of fun k => (laws_FnExactSureNumbers.mono_l k).2.1 x4 x5 x7 x61 x687000 x687001 x687002
noncomputable def laws_FnExactSureNumbers.J2 (x7 : List Int) (x10 : Int) (x87 : Bool) : Option (Bool) := lim fun k => laws_FnExactSureNumbers.j2 k x7 x10 x87
theorem laws_FnExactSureNumbers.J2_lim (x7 : List Int) (x10 : Int) (x87 : Bool) : Lim (fun k => laws_FnExactSureNumbers.j2 k x7 x10 x87) (laws_FnExactSureNumbers.J2 x7 x10 x87) := Lim.of fun k => (laws_FnExactSureNumbers.mono_l k).2.2 x7 x10 x87
noncomputable def laws_FnExactSureNumbers.F (l0_0 : List Int) (a0_1 : Int) (a0_2 : Int) : Option (Bool) := lim fun k => laws_FnExactSureNumbers.f k l0_0 a0_1 a0_2
theorem laws_FnExactSureNumbers.F_lim (l0_0 : List Int) (a0_1 : Int) (a0_2 : Int) : Lim (fun k => laws_FnExactSureNumbers.f k l0_0 a0_1 a0_2) (laws_FnExactSureNumbers.F l0_0 a0_1 a0_2) := Lim.of fun k => laws_FnExactSureNumbers.mono l0_0 a0_1 a0_2 k
theorem laws_FnExactSureNumbers.J0_eq (x4 : List Int) (x5 : Bool) (x7 : List Int) (x8 : Bool) (x40 : Bool) (x687000 : List Int) (x687001 : Int) (x687002 : Int) (x703000 : List Int) (x703001 : Int) (x703002 : Int) : laws_FnExactSureNumbers.J0 x4 x5 x7 x8 x40 x687000 x687001 x687002 x703000 x703001 x703002 = (if x40 = true then (some false) else ((laws_toPuzzle.F x687000 x687001 x687002).bind fun bt708 => ((laws_eqPuzzle.F x703000 x703001 x703002 bt708.1 bt708.2.1 bt708.2.2).bind fun t713 => (if t713 = true then ((laws_markPuzzle.F x703000 x703001 x703002 1).bind fun bt714 => (if bt714.1 < 0 then (laws_FnExactSureNumbers.J1 x4 x5 x7 true x687000 x687001 x687002) else ((laws_eqIntS.F x7 x4).bind fun t716 => (if t716 = true then (laws_FnExactSureNumbers.J1 x4 x5 x7 (x8 != x5) x687000 x687001 x687002) else (laws_FnExactSureNumbers.J1 x4 x5 x7 true x687000 x687001 x687002))))) else (some false))))) :=
  Lim.step (f := fun k => (if x40 = true then (some false) else ((laws_toPuzzle.f k x687000 x687001 x687002).bind fun bt708 => ((laws_eqPuzzle.f k x703000 x703001 x703002 bt708.1 bt708.2.1 bt708.2.2).bind fun t713 => (if t713 = true then ((laws_markPuzzle.f k x703000 x703001 x703002 1).bind fun bt714 => (if bt714.1 < 0 then (laws_FnExactSureNumbers.j1 k x4 x5 x7 true x687000 x687001 x687002) else ((laws_eqIntS.f k x7 x4).bind fun t716 => (if t716 = true then (laws_FnExactSureNumbers.j1 k x4 x5 x7 (x8 != x5) x687000 x687001 x687002) else (laws_FnExactSureNumbers.j1 k x4 x5 x7 true x687000 x687001 x687002))))) else (some false)))))) (laws_FnExactSureNumbers.J0_lim x4 x5 x7 x8 x40 x687000 x687001 x687002 x703000 x703001 x703002) (fun k => by first | rfl | rw [laws_FnExactSureNumbers.j0]) (by
    repeat' first
    | (with_reducible exact Lim.const _)
    | (with_reducible exact laws_FnExactSureNumbers.J1_lim _ _ _ _ _ _ _)
    | (with_reducible exact laws_eqIntS.F_lim _ _)
    | (with_reducible exact laws_eqPuzzle.F_lim _ _ _ _ _ _)
    | (with_reducible exact laws_markPuzzle.F_lim _ _ _ _)
    | (with_reducible exact laws_toPuzzle.F_lim _ _ _)
    | (with_reducible refine Lim.ite ?_ ?_)
    | (with_reducible refine Lim.bind ?_ (fun _ => ?_)))
theorem laws_FnExactSureNumbers.J1_eq (x4 : List Int) (x5 : Bool) (x7 : List Int) (x61 : Bool) (x687000 : List Int) (x687001 : Int) (x687002 : Int) : laws_FnExactSureNumbers.J1 x4 x5 x7 x61 x687000 x687001 x687002 = (if x61 = true then (some false) else ((laws_markIntS.F x7 1).bind fun bt717 => ((laws_heldIntS.F bt717.2 1).bind fun t719 => (if t719 < 0 then (some false) else (if t719 = bt717.1 then ((laws_toPuzzle.F x687000 x687001 x687002).bind fun bt720 => ((impl_SureNumbers.F bt720.1 bt720.2.1 bt720.2.2).bind fun bt725 => ((laws_eqIntS.F bt725.1 x4).bind fun t729 => (if t729 = true then (laws_FnExactSureNumbers.J2 bt717.2 bt717.1 (bt725.2 != x5)) else (laws_FnExactSureNumbers.J2 bt717.2 bt717.1 true))))) else (some false)))))) :=
  Lim.step (f := fun k => (if x61 = true then (some false) else ((laws_markIntS.f k x7 1).bind fun bt717 => ((laws_heldIntS.f k bt717.2 1).bind fun t719 => (if t719 < 0 then (some false) else (if t719 = bt717.1 then ((laws_toPuzzle.f k x687000 x687001 x687002).bind fun bt720 => ((impl_SureNumbers.f k bt720.1 bt720.2.1 bt720.2.2).bind fun bt725 => ((laws_eqIntS.f k bt725.1 x4).bind fun t729 => (if t729 = true then (laws_FnExactSureNumbers.j2 k bt717.2 bt717.1 (bt725.2 != x5)) else (laws_FnExactSureNumbers.j2 k bt717.2 bt717.1 true))))) else (some false))))))) (laws_FnExactSureNumbers.J1_lim x4 x5 x7 x61 x687000 x687001 x687002) (fun k => by first | rfl | rw [laws_FnExactSureNumbers.j1]) (by
    repeat' first
    | (with_reducible exact Lim.const _)
    | (with_reducible exact impl_SureNumbers.F_lim _ _ _)
    | (with_reducible exact laws_FnExactSureNumbers.J2_lim _ _ _)
    | (with_reducible exact laws_eqIntS.F_lim _ _)
    | (with_reducible exact laws_heldIntS.F_lim _ _)
    | (with_reducible exact laws_markIntS.F_lim _ _)
    | (with_reducible exact laws_toPuzzle.F_lim _ _ _)
    | (with_reducible refine Lim.ite ?_ ?_)
    | (with_reducible refine Lim.bind ?_ (fun _ => ?_)))
theorem laws_FnExactSureNumbers.J2_eq (x7 : List Int) (x10 : Int) (x87 : Bool) : laws_FnExactSureNumbers.J2 x7 x10 x87 = (if x87 = true then (some false) else ((laws_heldIntS.F x7 1).bind fun t730 => (if t730 < 0 then (some false) else (if t730 = x10 then (some true) else (some false))))) :=
  Lim.step (f := fun k => (if x87 = true then (some false) else ((laws_heldIntS.f k x7 1).bind fun t730 => (if t730 < 0 then (some false) else (if t730 = x10 then (some true) else (some false)))))) (laws_FnExactSureNumbers.J2_lim x7 x10 x87) (fun k => by first | rfl | rw [laws_FnExactSureNumbers.j2]) (by
    repeat' first
    | (with_reducible exact Lim.const _)
    | (with_reducible exact laws_heldIntS.F_lim _ _)
    | (with_reducible refine Lim.ite ?_ ?_)
    | (with_reducible refine Lim.bind ?_ (fun _ => ?_)))
theorem laws_FnExactSureNumbers.F_eq (l0_0 : List Int) (a0_1 : Int) (a0_2 : Int) : laws_FnExactSureNumbers.F l0_0 a0_1 a0_2 = ((laws_szPuzzle.f l0_0 a0_1 a0_2 1048576).bind fun t687 => (if t687 < 0 then (some true) else ((laws_toPuzzle.F l0_0 a0_1 a0_2).bind fun bt688 => ((spec_SureNumbers.F bt688.1 bt688.2.1 bt688.2.2).bind fun bt693 => ((laws_toPuzzle.F l0_0 a0_1 a0_2).bind fun bt697 => ((impl_SureNumbers.F bt697.1 bt697.2.1 bt697.2.2).bind fun bt703 => ((laws_eqIntS.F bt703.1 bt693.1).bind fun t707 => (if t707 = true then (laws_FnExactSureNumbers.J0 bt693.1 bt693.2 bt703.1 bt703.2 (bt703.2 != bt693.2) l0_0 a0_1 a0_2 bt697.1 bt697.2.1 bt697.2.2) else (laws_FnExactSureNumbers.J0 bt693.1 bt693.2 bt703.1 bt703.2 true l0_0 a0_1 a0_2 bt697.1 bt697.2.1 bt697.2.2))))))))) :=
  Lim.unique (laws_FnExactSureNumbers.F_lim l0_0 a0_1 a0_2) (by
    unfold laws_FnExactSureNumbers.f
    repeat' first
    | (with_reducible exact Lim.const _)
    | (with_reducible exact impl_SureNumbers.F_lim _ _ _)
    | (with_reducible exact laws_FnExactSureNumbers.J0_lim _ _ _ _ _ _ _ _ _ _ _)
    | (with_reducible exact laws_eqIntS.F_lim _ _)
    | (with_reducible exact laws_toPuzzle.F_lim _ _ _)
    | (with_reducible exact spec_SureNumbers.F_lim _ _ _)
    | (with_reducible refine Lim.ite ?_ ?_)
    | (with_reducible refine Lim.bind ?_ (fun _ => ?_)))

end Go.Proofs.Ytjfhcddahahdfaa.Fn
namespace Go.Proofs.Ytjfhcddahahdfaa.Fn
open Go.RowKit Go.Proofs.YtjfhcddahahdfaaW.PrintWords Go.Proofs.YtjfhcddahahdfaaW.PrintLast Go.Proofs.YtjfhcddahahdfaaW.PrintMore
set_option linter.unusedVariables false
set_option linter.unusedSimpArgs false
theorem laws_toIntS.L0_val : ∀ (suf pre junk : List Int), (pre ++ suf).length < 4611686018427387904 → junk.length = suf.length → laws_toIntS.L0 (pre ++ suf) (pre ++ junk) (pre.length : Int) = some (pre ++ suf)
  | [], pre, junk, h, hj => by
    obtain rfl : junk = [] := List.eq_nil_of_length_eq_zero hj
    rw [laws_toIntS.L0_eq, range_end]
  | x :: suf, pre, j :: junk, h, hj => by
    have hj' : junk.length = suf.length := by simpa using hj
    have h1 : (pre.length : Int) < ((pre ++ x :: suf).length : Int) := by rw [List.length_append, List.length_cons]; omega
    have h2 : (pre.length : Int) < ((pre ++ j :: junk).length : Int) := by rw [List.length_append, List.length_cons]; omega
    have ih := laws_toIntS.L0_val suf (pre ++ [x]) junk (by simpa using h) hj'
    rw [laws_toIntS.L0_eq, if_pos h1, if_pos (by omega), if_pos h2, rd_mid, wrap_mid h]
    have e : (pre ++ j :: junk).set ((pre.length : Int)).toNat x = (pre ++ [x]) ++ junk := by simp
    rw [e, app_mid]
    exact ih
theorem laws_toIntS.F_val (l : List Int) (h : l.length ≤ 35184372088832) : laws_toIntS.F l = some l := by
  rw [laws_toIntS.F_eq, if_pos (by omega), if_pos (by simpa using h)]
  have := laws_toIntS.L0_val l [] (List.replicate l.length 0) (by simp; omega) (by simp)
  simpa using this
theorem laws_eqIntS.L0_val : ∀ (sa pre sb : List Int), (pre ++ sa).length < 4611686018427387904 → sa.length = sb.length → laws_eqIntS.L0 (pre ++ sa) (pre ++ sb) (pre.length : Int) = some (decide (sa = sb))
  | [], pre, sb, h, hj => by
    obtain rfl : sb = [] := List.eq_nil_of_length_eq_zero hj.symm
    rw [laws_eqIntS.L0_eq, range_end]
    simp
  | x :: sa, pre, y :: sb, h, hj => by
    have h1 : (pre.length : Int) < ((pre ++ x :: sa).length : Int) := by rw [List.length_append, List.length_cons]; omega
    have h2 : (pre.length : Int) < ((pre ++ y :: sb).length : Int) := by rw [List.length_append, List.length_cons]; omega
    rw [laws_eqIntS.L0_eq, if_pos h1, if_pos (by omega), if_pos h2, rd_mid, rd_mid, wrap_mid h]
    by_cases e : x = y
    · subst e
      rw [if_pos rfl, app_mid pre x sa, app_mid pre x sb, laws_eqIntS.L0_val sa (pre ++ [x]) sb (by simpa using h) (by simpa using hj)]
      simp
    · rw [if_neg e]
      simp [e]
theorem laws_eqIntS.F_val (a b : List Int) (h : a.length < 4611686018427387904) : laws_eqIntS.F a b = some (decide (a = b)) := by
  rw [laws_eqIntS.F_eq]
  by_cases e : (a.length : Int) = (b.length : Int)
  · rw [if_pos e]
    have := laws_eqIntS.L0_val a [] b (by simpa using h) (by omega)
    simpa using this
  · rw [if_neg e]
    have : ¬ a = b := fun hab => e (by rw [hab])
    simp [this]
theorem laws_eqIntS.F_same (a : List Int) (h : a.length < 4611686018427387904) : laws_eqIntS.F a a = some true := by
  rw [laws_eqIntS.F_val a a h]
  simp
/-- The numbers k, k + 1, .., n of them. -/
def marks : Nat → Int → List Int
  | 0, _ => []
  | n + 1, k => k :: marks n (k + 1)
theorem marks_length : ∀ n k, (marks n k).length = n
  | 0, _ => rfl
  | n + 1, k => by simp [marks, marks_length n]
theorem laws_markIntS.L0_val : ∀ (suf pre : List Int) (k : Int), (pre ++ suf).length < 4611686018427387904 → 0 ≤ k → k + suf.length < 4611686018427387904 → laws_markIntS.L0 (pre ++ suf) k (pre.length : Int) = some (k + suf.length, pre ++ marks suf.length k)
  | [], pre, k, h, h0, hk => by
    rw [laws_markIntS.L0_eq, range_end]
    simp [marks]
  | x :: suf, pre, k, h, h0, hk => by
    have h1 : (pre.length : Int) < ((pre ++ x :: suf).length : Int) := by rw [List.length_append, List.length_cons]; omega
    have hk' : k + (suf.length + 1 : Nat) < 4611686018427387904 := by simpa using hk
    rw [laws_markIntS.L0_eq, if_pos h1, if_pos (by omega), wrap_mid h, wrap_in (n := k + 1) (by omega) (by omega)]
    have e : (pre ++ x :: suf).set ((pre.length : Int)).toNat k = (pre ++ [k]) ++ suf := by simp
    have el : ((pre ++ [x]).length : Int) = ((pre ++ [k]).length : Int) := by simp
    rw [e, el, laws_markIntS.L0_val suf (pre ++ [k]) (k + 1) (by simpa using h) (by omega) (by omega)]
    simp [marks]
    omega
theorem laws_markIntS.F_val (l : List Int) (k : Int) (h0 : 0 ≤ k) (hk : k + l.length < 4611686018427387904) : laws_markIntS.F l k = some (k + l.length, marks l.length k) := by
  rw [laws_markIntS.F_eq]
  have := laws_markIntS.L0_val l [] k (by simp; omega) h0 hk
  simpa using this
theorem laws_heldIntS.L0_val : ∀ (n : Nat) (pre : List Int) (k : Int), pre.length + n < 4611686018427387904 → 0 ≤ k → k + n < 4611686018427387904 → laws_heldIntS.L0 (pre ++ marks n k) k (pre.length : Int) = some (k + n)
  | 0, pre, k, h, h0, hk => by
    rw [laws_heldIntS.L0_eq, marks, range_end]
    simp
  | n + 1, pre, k, h, h0, hk => by
    have h1 : (pre.length : Int) < ((pre ++ k :: marks n (k + 1)).length : Int) := by rw [List.length_append, List.length_cons]; omega
    have h2 : (pre ++ k :: marks n (k + 1)).length < 4611686018427387904 := by rw [List.length_append, List.length_cons, marks_length]; omega
    rw [laws_heldIntS.L0_eq, marks, if_pos h1, if_pos (by omega), rd_mid, if_pos rfl, wrap_mid h2, wrap_in (n := k + 1) (by omega) (by omega), app_mid, laws_heldIntS.L0_val n (pre ++ [k]) (k + 1) (by simp; omega) (by omega) (by omega)]
    congr 1
    omega
theorem laws_heldIntS.F_val (n : Nat) (k : Int) (h0 : 0 ≤ k) (hk : k + n < 4611686018427387904) : laws_heldIntS.F (marks n k) k = some (k + n) := by
  rw [laws_heldIntS.F_eq]
  have := laws_heldIntS.L0_val n [] k (by simp; omega) h0 hk
  simpa using this
end Go.Proofs.Ytjfhcddahahdfaa.Fn
namespace Go.Proofs.Ytjfhcddahahdfaa.Fn
open Go.RowKit Go.Proofs.YtjfhcddahahdfaaW.PrintWords Go.Proofs.YtjfhcddahahdfaaW.PrintLast Go.Proofs.YtjfhcddahahdfaaW.PrintMore
set_option linter.unusedVariables false
set_option linter.unusedSimpArgs false
theorem spec_l1Own.f_val (l : List Int) (h : l.length < 17592186044416) : spec_l1Own.f l = some l := by
  unfold spec_l1Own.f
  simp [h]
theorem spec_l1In.f_val (a b c : Int) : spec_l1In.f a b c = some (decide (b ≤ a) && decide (a ≤ c)) := by
  unfold spec_l1In.f
  by_cases h : a ≥ b
  · rw [if_pos h]
    simp [show b ≤ a from h]
  · rw [if_neg h]
    simp [show ¬ b ≤ a from h]
end Go.Proofs.Ytjfhcddahahdfaa.Fn
namespace Go.Proofs.Ytjfhcddahahdfaa.Fn
open Go.RowKit Go.Proofs.YtjfhcddahahdfaaW.PrintWords Go.Proofs.YtjfhcddahahdfaaW.PrintLast Go.Proofs.YtjfhcddahahdfaaW.PrintMore
set_option linter.unusedVariables false
set_option linter.unusedSimpArgs false
theorem laws_szPuzzle.f_val (l : List Int) (a s : Int) (h : l.length ≤ 35184372088832) : laws_szPuzzle.f l a s 1048576 = some (if l.length ≤ 1048576 then 1048576 - (l.length : Int) else -1) := by
  unfold laws_szPuzzle.f laws_szIntS.f
  rw [wrap_in (by omega) (by omega)]
  by_cases h1 : l.length ≤ 1048576
  · rw [if_neg (by omega), if_pos h1]
    simp only [Option.bind_some]
    rw [if_neg (by omega)]
  · rw [if_pos (by omega), if_neg h1]
    rfl
theorem laws_toPuzzle.F_val (l : List Int) (a s : Int) (h : l.length ≤ 35184372088832) : laws_toPuzzle.F l a s = some (l, a, s) := by
  rw [laws_toPuzzle.F_eq, laws_toIntS.F_val l h]
  rfl
theorem laws_eqPuzzle.F_same (l : List Int) (a s : Int) (h : l.length < 4611686018427387904) : laws_eqPuzzle.F l a s l a s = some true := by
  rw [laws_eqPuzzle.F_eq, laws_eqIntS.F_same l h]
  simp only [Option.bind_some, if_true]
theorem laws_markPuzzle.F_val (l : List Int) (a s : Int) (k : Int) (h0 : 0 ≤ k) (hk : k + l.length < 4611686018427387904) : laws_markPuzzle.F l a s k = some (k + l.length, marks l.length k) := by
  rw [laws_markPuzzle.F_eq, laws_markIntS.F_val l k h0 hk]
  rfl
/-- What a puzzle's length, first number and shift must be. -/
def puzzleHead (n : Nat) (a s : Int) : Prop := n % 2 = 0 ∧ 1 ≤ n / 2 ∧ n / 2 ≤ 9 ∧ 1 ≤ a ∧ a ≤ 20 ∧ (s = 0 ∨ s = 1) ∧ a + ((n / 2 : Nat) : Int) ≤ 21
instance (n : Nat) (a s : Int) : Decidable (puzzleHead n a s) := by unfold puzzleHead; infer_instance
def amongOf (n : Nat) (a x : Int) : Bool := decide (a ≤ x) && decide (x < a + ((n / 2 : Nat) : Int))
def isPuzzle (l : List Int) (a s : Int) : Bool := decide (puzzleHead l.length a s) && l.all (fun x => decide (x = 0) || amongOf l.length a x)
theorem isPuzzle_head {l : List Int} {a s : Int} (h : isPuzzle l a s = true) : puzzleHead l.length a s := by
  unfold isPuzzle at h
  simp only [Bool.and_eq_true, decide_eq_true_eq] at h
  exact h.1
theorem isPuzzle_no {l : List Int} {a s : Int} (h : ¬ puzzleHead l.length a s) : isPuzzle l a s = false := by
  unfold isPuzzle
  rw [decide_eq_false h, Bool.false_and]
theorem isPuzzle_yes {l : List Int} {a s : Int} (h : puzzleHead l.length a s) : isPuzzle l a s = l.all (fun x => decide (x = 0) || amongOf l.length a x) := by
  unfold isPuzzle
  rw [decide_eq_true h, Bool.true_and]
theorem spec_pzGood.L0_val (l : List Int) (a s : Int) (n : Nat) (hn : n / 2 ≤ 9) (ha : 1 ≤ a ∧ a ≤ 20) : ∀ (suf pre : List Int), (pre ++ suf).length < 4611686018427387904 → spec_pzGood.L0 ((n / 2 : Nat) : Int) (pre ++ suf) ((pre ++ suf).length : Int) (pre.length : Int) l a s = some (suf.all (fun x => decide (x = 0) || amongOf n a x))
  | [], pre, h => by
    rw [spec_pzGood.L0_eq, range_end]
    rfl
  | x :: suf, pre, h => by
    have w : wrap64 (wrap64 (a + ((n / 2 : Nat) : Int)) - 1) = a + ((n / 2 : Nat) : Int) - 1 := by rw [wrap_in (n := a + _) (by omega) (by omega), wrap_in (by omega) (by omega)]
    rw [spec_pzGood.L0_eq, range_step, rd_mid, wrap_mid h, app_mid pre x suf, spec_pzGood.L0_val l a s n hn ha suf (pre ++ [x]) (by simpa using h), w, spec_l1In.f_val]
    simp only [Option.bind_some]
    by_cases h1 : x = 0
    · rw [if_pos h1]
      simp [h1]
    · rw [if_neg h1]
      have e : (decide (a ≤ x) && decide (x ≤ a + ((n / 2 : Nat) : Int) - 1)) = amongOf n a x := by
        unfold amongOf
        congr 1
        rw [decide_eq_decide]
        omega
      rw [e]
      by_cases h2 : amongOf n a x = true
      · rw [if_pos h2]
        simp [h1, h2]
      · rw [if_neg h2]
        simp [h1, h2]
theorem spec_pzGood.F_val (l : List Int) (a s : Int) (h : l.length < 4611686018427387904) : spec_pzGood.F l a s = some (isPuzzle l a s) := by
  have w : wrap64 ((l.length : Int) / 2) = ((l.length / 2 : Nat) : Int) := by rw [wrap_in (by omega) (by omega)]; omega
  rw [spec_pzGood.F_eq, w]
  simp only [spec_l1In.f_val, Option.bind_some, spec_pzGood.J0_eq]
  by_cases h1 : l.length % 2 = 0
  · rw [if_pos (show (l.length : Int) % 2 = 0 by omega)]
    by_cases h2 : 1 ≤ l.length / 2 ∧ l.length / 2 ≤ 9
    · have h2' : (decide ((1 : Int) ≤ ((l.length / 2 : Nat) : Int)) && decide (((l.length / 2 : Nat) : Int) ≤ 9)) = true := by simp; omega
      rw [if_pos h2']
      by_cases h3 : 1 ≤ a ∧ a ≤ 20
      · have h3' : (decide (1 ≤ a) && decide (a ≤ 20)) = true := by simp; omega
        have w2 : wrap64 (wrap64 (a + ((l.length / 2 : Nat) : Int)) - 1) = a + ((l.length / 2 : Nat) : Int) - 1 := by rw [wrap_in (n := a + _) (by omega) (by omega), wrap_in (by omega) (by omega)]
        rw [if_pos h3', w2]
        by_cases h4 : s = 0 ∨ s = 1
        · have h4' : (decide ((0 : Int) ≤ s) && decide (s ≤ 1)) = true := by simp; omega
          rw [if_pos h4']
          by_cases h5 : a + ((l.length / 2 : Nat) : Int) ≤ 21
          · have := spec_pzGood.L0_val l a s l.length h2.2 h3 l [] (by simpa using h)
            rw [if_neg (by simp; omega), isPuzzle_yes ⟨h1, h2.1, h2.2, h3.1, h3.2, h4, h5⟩]
            exact this
          · rw [if_pos (by simp; omega), isPuzzle_no (fun h => h5 h.2.2.2.2.2.2)]
        · have h4' : ¬ (decide ((0 : Int) ≤ s) && decide (s ≤ 1)) = true := by simp; omega
          rw [if_neg h4', if_pos (by trivial), isPuzzle_no (fun h => h4 h.2.2.2.2.2.1)]
      · have h3' : ¬ (decide (1 ≤ a) && decide (a ≤ 20)) = true := by simp; omega
        rw [if_neg h3', if_pos (by trivial), isPuzzle_no (fun h => h3 ⟨h.2.2.2.1, h.2.2.2.2.1⟩)]
    · have h2' : ¬ (decide ((1 : Int) ≤ ((l.length / 2 : Nat) : Int)) && decide (((l.length / 2 : Nat) : Int) ≤ 9)) = true := by simp; omega
      rw [if_neg h2', if_pos (by trivial), isPuzzle_no (fun h => h2 ⟨h.2.1, h.2.2.1⟩)]
  · rw [if_neg (show ¬ (l.length : Int) % 2 = 0 by omega), if_pos (by trivial), isPuzzle_no (fun h => h1 h.1)]
theorem impl_Puzzle_among.f_val (l : List Int) (a s x : Int) (hl : l.length < 4611686018427387904) (ha : 1 ≤ a ∧ a ≤ 20) : impl_Puzzle_among.f l a s x = some (amongOf l.length a x) := by
  have w : wrap64 ((l.length : Int) / 2) = ((l.length / 2 : Nat) : Int) := by rw [wrap_in (by omega) (by omega)]; omega
  unfold impl_Puzzle_among.f amongOf
  rw [w, wrap_in (n := a + _) (by omega) (by omega)]
  by_cases h : x ≥ a
  · rw [if_pos h, decide_eq_true (show a ≤ x from h), Bool.true_and]
  · rw [if_neg h, decide_eq_false (show ¬ a ≤ x from h), Bool.false_and]
theorem impl_IsPuzzle.L0_val (l : List Int) (a s : Int) (hl : l.length < 4611686018427387904) (ha : 1 ≤ a ∧ a ≤ 20) : ∀ (suf pre : List Int), (pre ++ suf).length < 4611686018427387904 → impl_IsPuzzle.L0 (pre ++ suf) ((pre ++ suf).length : Int) (pre.length : Int) l a s = some (suf.all (fun x => decide (x = 0) || amongOf l.length a x))
  | [], pre, h => by
    rw [impl_IsPuzzle.L0_eq, range_end]
    rfl
  | x :: suf, pre, h => by
    rw [impl_IsPuzzle.L0_eq, range_step, rd_mid, wrap_mid h, app_mid pre x suf, impl_IsPuzzle.L0_val l a s hl ha suf (pre ++ [x]) (by simpa using h), impl_Puzzle_among.f_val l a s x hl ha]
    simp only [Option.bind_some]
    by_cases h1 : x = 0
    · rw [if_pos h1]
      simp [h1]
    · rw [if_neg h1]
      by_cases h2 : amongOf l.length a x = true
      · rw [if_pos h2]
        simp [h1, h2]
      · rw [if_neg h2]
        simp [h1, h2]
theorem impl_IsPuzzle.F_val (l : List Int) (a s : Int) (h : l.length < 4611686018427387904) : impl_IsPuzzle.F l a s = some (isPuzzle l a s) := by
  have w : wrap64 ((l.length : Int) / 2) = ((l.length / 2 : Nat) : Int) := by rw [wrap_in (by omega) (by omega)]; omega
  have es : impl_sought.f ((l.length / 2 : Nat) : Int) = some (decide (1 ≤ l.length / 2 ∧ l.length / 2 ≤ 9)) := by
    unfold impl_sought.f
    by_cases h1 : ((l.length / 2 : Nat) : Int) ≥ 1
    · rw [if_pos h1]
      congr 1
      rw [decide_eq_decide]
      omega
    · rw [if_neg h1, decide_eq_false (by omega)]
  have ei : impl_isShift.f s = some (decide (s = 0 ∨ s = 1)) := by
    unfold impl_isShift.f
    by_cases h1 : s = 0
    · rw [if_pos h1]
      simp [h1]
    · rw [if_neg h1]
      simp [h1]
      rfl
  rw [impl_IsPuzzle.F_eq, w, es, ei]
  simp only [Option.bind_some, impl_IsPuzzle.J0_eq, decide_eq_true_eq]
  by_cases h1 : l.length % 2 = 0
  · rw [if_neg (show ¬ (l.length : Int) % 2 = 1 by omega)]
    by_cases h2 : 1 ≤ l.length / 2 ∧ l.length / 2 ≤ 9
    · rw [if_pos h2]
      by_cases h3 : a < 1
      · rw [if_pos h3, if_pos (by trivial), isPuzzle_no (fun h => by have := h.2.2.2.1; omega)]
      · rw [if_neg h3]
        by_cases h4 : a > 20
        · rw [if_pos h4, if_pos (by trivial), isPuzzle_no (fun h => by have := h.2.2.2.2.1; omega)]
        · have w2 : wrap64 (wrap64 (a + ((l.length / 2 : Nat) : Int)) - 1) = a + ((l.length / 2 : Nat) : Int) - 1 := by rw [wrap_in (n := a + _) (by omega) (by omega), wrap_in (by omega) (by omega)]
          rw [if_neg h4, w2]
          by_cases h5 : a + ((l.length / 2 : Nat) : Int) ≤ 21
          · rw [if_neg (show ¬ a + ((l.length / 2 : Nat) : Int) - 1 > 20 by omega)]
            by_cases h6 : s = 0 ∨ s = 1
            · have := impl_IsPuzzle.L0_val l a s h (by omega) l [] (by simpa using h)
              rw [if_neg (by simp [h6]), isPuzzle_yes ⟨h1, h2.1, h2.2, by omega, by omega, h6, h5⟩]
              exact this
            · rw [if_pos (by simp [h6]), isPuzzle_no (fun h => h6 h.2.2.2.2.2.1)]
          · rw [if_pos (show a + ((l.length / 2 : Nat) : Int) - 1 > 20 by omega), if_pos (by trivial), isPuzzle_no (fun h => h5 h.2.2.2.2.2.2)]
    · rw [if_neg h2, if_pos (by trivial), isPuzzle_no (fun h => h2 ⟨h.2.1, h.2.2.1⟩)]
  · rw [if_pos (show (l.length : Int) % 2 = 1 by omega), if_pos (by trivial), isPuzzle_no (fun h => h1 h.1)]
end Go.Proofs.Ytjfhcddahahdfaa.Fn
namespace Go.Proofs.Ytjfhcddahahdfaa.Fn
open Go.RowKit Go.Proofs.YtjfhcddahahdfaaW.PrintWords Go.Proofs.YtjfhcddahahdfaaW.PrintLast Go.Proofs.YtjfhcddahahdfaaW.PrintMore
set_option linter.unusedVariables false
set_option linter.unusedSimpArgs false
theorem zeroAt_rd : ∀ l : List Int, zeroAt l < l.length → rd l (zeroAt l) = 0
  | [], h => by simp at h
  | x :: l, h => by
    unfold zeroAt at h ⊢
    split
    · rename_i hx
      simp [rd, hx]
    · rename_i hx
      rw [if_neg hx] at h
      have := zeroAt_rd l (by simpa using h)
      simpa [rd] using this
/-- All solutions, in order. -/
def solsLoop (rec : List Int → Nat → List (List Int)) (prow row : List Int) (shift : Int) (used a : Nat) : Nat → Int → List (List Int)
  | 0, _ => []
  | m + 1, n => (if pzPassed row used n ((a : Int) + n + shift) ∨ pzWrong prow a n ((a : Int) + n + shift) then [] else rec ((row.set a n).set ((a : Int) + n + shift).toNat n) (used ||| 2 ^ n.toNat)) ++ solsLoop rec prow row shift used a m (n + 1)
def sols (prow : List Int) (from_ shift : Int) : Nat → List Int → Nat → List (List Int)
  | 0, _, _ => []
  | k + 1, row, used => if zeroAt row = row.length then [row] else solsLoop (sols prow from_ shift k) prow row shift used (zeroAt row) (row.length / 2) from_
theorem take_more {α : Type} (a b : List α) (n : Nat) : (a.take n ++ b).take n = (a ++ b).take n := by
  rcases Nat.le_total n a.length with h | h
  · rw [List.take_append_of_le_length (by rw [List.length_take]; omega), List.take_append_of_le_length h, List.take_take, Nat.min_self]
  · rw [List.take_of_length_le h]
theorem count_put {row : List Int} {a : Nat} {n : Int} (t : Nat) (ha : a < row.length) (h0 : rd row a = 0) (hn : n ≠ 0) : ((row.set a n).set t n).count 0 < row.count 0 := by
  have hmem : (0 : Int) ∈ row := by
    rw [rd_nat row a ha] at h0
    rw [← h0]
    exact List.getElem_mem ha
  have hpos := List.count_pos_iff.2 hmem
  have hb : ((n == (0 : Int)) = true) = False := by simp [hn]
  have h1 : (row.set a n).count 0 = row.count 0 - 1 := by
    rw [List.count_set ha]
    rw [rd_nat row a ha] at h0
    simp [h0, hn]
  rcases Nat.lt_or_ge t (row.set a n).length with h | h
  · rw [List.count_set h, h1]
    simp only [beq_iff_eq, hn, if_false, Nat.add_zero]
    omega
  · rw [List.set_eq_of_length_le h, h1]
    omega
theorem pzLoop_val {prow row : List Int} {shift : Int} {used a k : Nat} {rec : List (List Int) → List Int → Nat → Option (List (List Int))} {recS : List Int → Nat → List (List Int)} (hrec : ∀ xs row' used', row'.count 0 < k → xs.length ≤ 301 → rec xs row' used' = some ((xs ++ recS row' used').take 301)) (hk : row.count 0 < k + 1) (ha : a < row.length) (h0 : rd row a = 0) : ∀ (m : Nat) (n : Int) (xs : List (List Int)), 1 ≤ n → xs.length ≤ 301 → pzLoop rec prow row shift used a m n xs = some ((xs ++ solsLoop recS prow row shift used a m n).take 301)
  | 0, n, xs, hn, hx => by
    simp only [pzLoop, solsLoop, List.append_nil]
    rw [List.take_of_length_le hx]
  | m + 1, n, xs, hn, hx => by
    by_cases hp : pzPassed row used n ((a : Int) + n + shift) ∨ pzWrong prow a n ((a : Int) + n + shift)
    · rw [pzLoop_pass rfl hp, pzLoop_val hrec hk ha h0 m (n + 1) xs (by omega) hx, solsLoop, if_pos hp, List.nil_append]
    · have hc := count_put (((a : Int) + n + shift).toNat) ha h0 (show n ≠ 0 by omega)
      rw [pzLoop_put rfl hp, hrec xs _ _ (by omega) hx, solsLoop, if_neg hp, Option.bind_some, pzLoop_val hrec hk ha h0 m (n + 1) _ (by omega) (by rw [List.length_take]; omega), take_more, List.append_assoc]
theorem pzF_val (prow : List Int) (from_ shift : Int) (hf : 1 ≤ from_) : ∀ (k : Nat) (xs : List (List Int)) (row : List Int) (used : Nat), row.count 0 < k → xs.length ≤ 301 → pzF prow from_ shift k xs row used = some ((xs ++ sols prow from_ shift k row used).take 301)
  | 0, xs, row, used, h, hx => by omega
  | k + 1, xs, row, used, h, hx => by
    unfold pzF sols
    by_cases h1 : 300 < xs.length
    · rw [if_pos h1, List.take_append_of_le_length (by omega), List.take_of_length_le hx]
    · rw [if_neg h1]
      by_cases h2 : zeroAt row = row.length
      · rw [if_pos h2, if_pos h2, List.take_of_length_le (by simp; omega)]
      · have := zeroAt_le row
        rw [if_neg h2, if_neg h2]
        exact pzLoop_val (fun xs row' used' h hx => pzF_val prow from_ shift hf k xs row' used' h hx) h (by omega) (zeroAt_rd row (by omega)) _ _ _ hf hx
/-- The row as the program's search has it: its free places. -/
def toFree (row : List Int) : List Int := row.map fun x => if x = 0 then -1 else x
def leftOf (from_ : Int) (n used : Nat) : List Int := (List.range n).map fun i => if used.testBit (from_.toNat + i) = true then 0 else from_ + (i : Int)
theorem toFree_len (row : List Int) : (toFree row).length = row.length := by simp [toFree]
theorem toFree_rd {row : List Int} {t : Int} (h0 : 0 ≤ t) (h1 : t < row.length) : rd (toFree row) t = if rd row t = 0 then -1 else rd row t := by
  obtain ⟨i, rfl⟩ : ∃ i : Nat, t = i := ⟨t.toNat, by omega⟩
  have hi : i < row.length := by omega
  rw [rd_nat _ i (by rw [toFree_len]; exact hi), rd_nat row i hi]
  simp [toFree]
theorem toFree_free : ∀ row : List Int, (∀ x ∈ row, 0 ≤ x) → freeAt (toFree row) = zeroAt row
  | [], _ => rfl
  | x :: l, h => by
    have ih := toFree_free l (fun y hy => h y (by simp [hy]))
    have hx := h x (by simp)
    have e : toFree (x :: l) = (if x = 0 then -1 else x) :: toFree l := rfl
    rw [e]
    unfold freeAt zeroAt
    by_cases h0 : x = 0
    · simp [h0]
    · rw [if_neg h0, if_neg h0, if_neg (by omega), ih]
theorem toFree_set {row : List Int} {a t : Nat} {n : Int} (hn : n ≠ 0) : ((toFree row).set a n).set t n = toFree ((row.set a n).set t n) := by
  simp [toFree, List.map_set, hn]
theorem toFree_full : ∀ row : List Int, zeroAt row = row.length → toFree row = row
  | [], _ => rfl
  | x :: l, h => by
    by_cases h0 : x = 0
    · subst h0
      simp [zeroAt] at h
    · have h2 : zeroAt l = l.length := by simpa [zeroAt, h0] using h
      have ih := toFree_full l h2
      have e : toFree (x :: l) = (if x = 0 then -1 else x) :: toFree l := rfl
      rw [e, ih, if_neg h0]
theorem leftOf_len (from_ : Int) (n used : Nat) : (leftOf from_ n used).length = n := by simp [leftOf]
theorem leftOf_rd {from_ : Int} {n used i : Nat} (h : i < n) : rd (leftOf from_ n used) i = if used.testBit (from_.toNat + i) = true then 0 else from_ + (i : Int) := by
  rw [rd_nat _ i (by rw [leftOf_len]; exact h)]
  simp [leftOf]
theorem leftOf_set {from_ : Int} {n used i : Nat} (h : i < n) : (leftOf from_ n used).set i 0 = leftOf from_ n (used ||| 2 ^ (from_.toNat + i)) := by
  apply List.ext_getElem?
  intro j
  rw [List.getElem?_set, leftOf_len]
  by_cases hj : i = j
  · subst hj
    rw [if_pos rfl, if_pos h]
    simp [leftOf, h, Nat.testBit_or, Nat.testBit_two_pow]
  · rw [if_neg hj]
    rcases Nat.lt_or_ge j n with h2 | h2
    · simp [leftOf, h2, Nat.testBit_or, Nat.testBit_two_pow, hj]
    · rw [List.getElem?_eq_none (by rw [leftOf_len]; exact h2), List.getElem?_eq_none (by rw [leftOf_len]; exact h2)]
/-- So many of the rows, and whether there are more. -/
def upTo (most : Int) (xs : List (List Int)) : List (List Int) × Bool := (xs.take (most.toNat + 1), decide (most < (xs.length : Int)))
theorem fillLoop_val {prow row : List Int} {from_ shift most : Int} {used k : Nat} {rec : List (List Int) → List Int → List Int → Option (List (List Int) × Bool)} {recS : List Int → Nat → List (List Int)} (hm0 : 0 ≤ most) (hf : 1 ≤ from_) (hs : 0 ≤ shift) (hpos : ∀ x ∈ row, 0 ≤ x)
    (hrec : ∀ xs row' used', row'.count 0 < k → (∀ x ∈ row', 0 ≤ x) → row'.length = row.length → (xs.length : Int) ≤ most → rec xs (toFree row') (leftOf from_ (row.length / 2) used') = some (upTo most (xs ++ recS row' used'))) (hk : row.count 0 < k + 1) (ha : zeroAt row < row.length) :
    ∀ (m i : Nat) (xs : List (List Int)), i + m = row.length / 2 → (xs.length : Int) ≤ most → fillLoop rec (toFree row) prow (leftOf from_ (row.length / 2) used) shift m i xs = some (upTo most (xs ++ solsLoop recS prow row shift used (zeroAt row) m (from_ + (i : Int))))
  | 0, i, xs, hi, hx => by
    simp only [fillLoop, solsLoop, List.append_nil, upTo]
    rw [List.take_of_length_le (by omega), decide_eq_false (by omega)]
  | m + 1, i, xs, hi, hx => by
    have hfa := toFree_free row hpos
    have hn := leftOf_rd (from_ := from_) (n := row.length / 2) (used := used) (i := i) (by omega)
    have hnx : from_ + (i : Int) + 1 = from_ + ((i + 1 : Nat) : Int) := by omega
    have hb : (from_ + (i : Int)).toNat = from_.toNat + i := by omega
    by_cases hbit : used.testBit (from_.toNat + i) = true
    · rw [if_pos hbit] at hn
      have hp : pzPassed row used (from_ + (i : Int)) ((zeroAt row : Int) + (from_ + (i : Int)) + shift) := .inl (by rw [hb]; exact hbit)
      rw [fillLoop_pass hfa hn rfl (.inl rfl), fillLoop_val hm0 hf hs hpos hrec hk ha m (i + 1) xs (by omega) hx, solsLoop, if_pos (.inl hp), List.nil_append, hnx]
    · rw [if_neg hbit] at hn
      obtain ⟨n, hne⟩ : ∃ n, from_ + (i : Int) = n := ⟨_, rfl⟩
      rw [hne] at hn hnx hb ⊢
      obtain ⟨t, ht⟩ : ∃ t, (zeroAt row : Int) + n + shift = t := ⟨_, rfl⟩
      have hn1 : 1 ≤ n := by omega
      have ht0 : 0 ≤ t := by omega
      have hcond : passed (toFree row) prow (zeroAt row) n t ↔ (pzPassed row used n t ∨ pzWrong prow (zeroAt row) n t) := by
        have hb2 : ¬ used.testBit n.toNat = true := by rw [hb]; exact hbit
        have hrd : t < (row.length : Int) → (rd (toFree row) t ≠ -1 ↔ rd row t ≠ 0) := fun h => by
          rw [toFree_rd ht0 h]
          by_cases h3 : rd row t = 0
          · simp [h3]
          · rw [if_neg h3]
            have : 0 ≤ rd row t := by
              obtain ⟨j, rfl⟩ : ∃ j : Nat, t = j := ⟨t.toNat, by omega⟩
              rw [rd_nat row j (by omega)]
              exact hpos _ (List.getElem_mem _)
            constructor
            · intro _; exact h3
            · intro _ h4; omega
        unfold passed
        rw [toFree_len]
        constructor
        · rintro (h | h | h | h)
          · omega
          · exact .inl (.inr (.inl h))
          · by_cases h5 : (row.length : Int) ≤ t
            · exact .inl (.inr (.inl h5))
            · exact .inl (.inr (.inr ((hrd (by omega)).1 h)))
          · exact .inr h
        · rintro ((h | h | h) | h)
          · exact absurd h hb2
          · exact .inr (.inl h)
          · by_cases h5 : (row.length : Int) ≤ t
            · exact .inr (.inl h5)
            · exact .inr (.inr (.inl ((hrd (by omega)).2 h)))
          · exact .inr (.inr (.inr h))
      by_cases hp : pzPassed row used n t ∨ pzWrong prow (zeroAt row) n t
      · rw [fillLoop_pass hfa hn ht (hcond.2 hp), fillLoop_val hm0 hf hs hpos hrec hk ha m (i + 1) xs (by omega) hx, solsLoop, ht, if_pos hp, List.nil_append, hnx]
      · have hc := count_put t.toNat ha (zeroAt_rd row ha) (show n ≠ 0 by omega)
        rw [fillLoop_put hfa hn ht (fun h => hp (hcond.1 h)), toFree_set (show n ≠ 0 by omega), leftOf_set (show i < row.length / 2 by omega), hrec xs _ _ (by omega) (fun x hx => by
          rcases List.mem_or_eq_of_mem_set hx with hx | hx
          · rcases List.mem_or_eq_of_mem_set hx with hx | hx
            · exact hpos x hx
            · omega
          · omega) (by simp) hx, solsLoop, ht, if_neg hp, Option.bind_some, ← hb]
        generalize recS ((row.set (zeroAt row) n).set t.toNat n) (used ||| 2 ^ n.toNat) = S
        by_cases hfull : most < ((xs ++ S).length : Int)
        · simp only [upTo, decide_eq_true hfull, if_true]
          have hlen : (xs ++ S ++ solsLoop recS prow row shift used (zeroAt row) m (n + 1)).length = (xs ++ S).length + (solsLoop recS prow row shift used (zeroAt row) m (n + 1)).length := List.length_append
          rw [← List.append_assoc, decide_eq_true (show most < ((xs ++ S ++ solsLoop recS prow row shift used (zeroAt row) m (n + 1)).length : Int) by omega), List.take_append_of_le_length (l₁ := xs ++ S) (by omega)]
        · simp only [upTo, decide_eq_false hfull, Bool.false_eq_true, if_false]
          rw [List.take_of_length_le (by omega), fillLoop_val hm0 hf hs hpos hrec hk ha m (i + 1) (xs ++ S) (by omega) (by omega), hnx, List.append_assoc]
          rfl
theorem fillF_val (prow : List Int) (from_ shift most : Int) (hm0 : 0 ≤ most) (hm1 : most ≤ 1000000) (hf : 1 ≤ from_) (hs : 0 ≤ shift) : ∀ (k : Nat) (xs : List (List Int)) (row : List Int) (used : Nat), row.count 0 < k → (∀ x ∈ row, 0 ≤ x) → (xs.length : Int) ≤ most → fillF (eachAll most) prow shift k xs (toFree row) (leftOf from_ (row.length / 2) used) = some (upTo most (xs ++ sols prow from_ shift k row used))
  | 0, xs, row, used, h, hp, hx => by omega
  | k + 1, xs, row, used, h, hp, hx => by
    have hfa := toFree_free row hp
    unfold fillF sols
    rw [hfa, toFree_len]
    by_cases h2 : zeroAt row = row.length
    · rw [if_pos h2, if_pos h2, toFree_full row h2]
      unfold eachAll upTo
      rw [if_pos (by omega), List.take_of_length_le (by simp; omega)]
      simp
    · have := zeroAt_le row
      rw [if_neg h2, if_neg h2, leftOf_len, fillLoop_val hm0 hf hs hp (fun xs row' used' h1 h2 h3 h4 => by
        have := fillF_val prow from_ shift most hm0 hm1 hf hs k xs row' used' h1 h2 h4
        rwa [h3] at this) h (by omega) (row.length / 2) 0 xs (by omega) hx]
      simp
/-- All solutions of a puzzle. -/
def allSols (l : List Int) (a s : Int) : List (List Int) := sols l a s (l.length + 1) (List.replicate l.length 0) 0
theorem spec_pzAll.f_val (l : List Int) (a s : Int) (h : puzzleHead l.length a s) : spec_pzAll.f l a s = some ((allSols l a s).take 301, decide ((((allSols l a s).take 301).length : Int) ≤ 300)) := by
  obtain ⟨h1, h2, h3, h4, h5, h6, h7⟩ := h
  unfold spec_pzAll.f
  rw [if_pos (by omega), pzF_val l a s h4 _ _ _ _ (by simp) (by simp)]
  rfl
theorem solveAll_val (l : List Int) (a s most : Int) (h : puzzleHead l.length a s) (hm0 : 0 ≤ most) (hm1 : most ≤ 1000000) : solveAll l a s most = some (upTo most (allSols l a s)) := by
  obtain ⟨h1, h2, h3, h4, h5, h6, h7⟩ := h
  have := fillF_val l a s most hm0 hm1 h4 (by omega) (l.length + 1) [] (List.replicate l.length 0) 0 (by simp) (fun x hx => by have := List.eq_of_mem_replicate hx; omega) (by simpa using hm0)
  have e1 : toFree (List.replicate l.length 0) = List.replicate l.length (-1) := by simp [toFree]
  have e2 : leftOf a ((List.replicate l.length (0 : Int)).length / 2) 0 = numbersUp a (l.length / 2) := by simp [leftOf, numbersUp]
  rw [e1, e2, List.nil_append] at this
  exact this
/-- The solutions, if they are not too many. -/
def foundOf (l : List Int) (a s : Int) : List (List Int) × Bool := if isPuzzle l a s = true then (if (((allSols l a s).take 301).length : Int) ≤ 300 then (allSols l a s).take 301 else [], decide ((((allSols l a s).take 301).length : Int) ≤ 300)) else ([], false)
theorem impl_Puzzle_solutions.F_val (l : List Int) (a s : Int) (hl : l.length < 4611686018427387904) : impl_Puzzle_solutions.F l a s = some (foundOf l a s) := by
  rw [impl_Puzzle_solutions.F_eq, impl_IsPuzzle.F_val l a s hl]
  simp only [Option.bind_some]
  unfold foundOf
  by_cases h : isPuzzle l a s = true
  · have hh := isPuzzle_head h
    rw [if_pos h, if_pos h, solveAll_val l a s 300 hh (by omega) (by omega)]
    obtain ⟨h1, h2, h3, h4, h5, h6, h7⟩ := hh
    rw [if_pos (by omega)]
    rfl
  · rw [if_neg h, if_neg h]
theorem spec_pzAsked.F_val (l : List Int) (a s : Int) (hl : l.length < 4611686018427387904) : spec_pzAsked.F l a s = some (if isPuzzle l a s = true then ((allSols l a s).take 301, decide ((((allSols l a s).take 301).length : Int) ≤ 300)) else ([], false)) := by
  rw [spec_pzAsked.F_eq, spec_pzGood.F_val l a s hl]
  simp only [Option.bind_some]
  by_cases h : isPuzzle l a s = true
  · rw [if_pos h, if_pos h, spec_pzAll.f_val l a s (isPuzzle_head h)]
    rfl
  · rw [if_neg h, if_neg h]
theorem solsLoop_mem {rec : List Int → Nat → List (List Int)} {prow row : List Int} {shift : Int} {used a L : Nat} (hrec : ∀ row' used' x, row'.length = L → x ∈ rec row' used' → x.length = L) (hL : row.length = L) : ∀ (m : Nat) (n : Int) (x : List Int), x ∈ solsLoop rec prow row shift used a m n → x.length = L
  | 0, n, x, h => by simp [solsLoop] at h
  | m + 1, n, x, h => by
    unfold solsLoop at h
    rcases List.mem_append.1 h with h | h
    · split at h
      · cases h
      · exact hrec _ _ x (by simpa using hL) h
    · exact solsLoop_mem hrec hL m (n + 1) x h
theorem sols_mem (prow : List Int) (from_ shift : Int) : ∀ (k : Nat) (row : List Int) (used : Nat) (x : List Int), x ∈ sols prow from_ shift k row used → x.length = row.length
  | 0, row, used, x, h => by simp [sols] at h
  | k + 1, row, used, x, h => by
    unfold sols at h
    split at h
    · rw [List.mem_singleton.1 h]
    · exact solsLoop_mem (fun row' used' x h1 h2 => (sols_mem prow from_ shift k row' used' x h2).trans h1) rfl _ _ x h
theorem allSols_mem {l : List Int} {a s : Int} {x : List Int} (h : x ∈ allSols l a s) : x.length = l.length := by
  have := sols_mem l a s _ _ _ x h
  simpa using this
theorem foundOf_mem {l : List Int} {a s : Int} {x : List Int} (h : x ∈ (foundOf l a s).1) : x.length = l.length := by
  unfold foundOf at h
  split at h
  · simp only at h
    split at h
    · exact allSols_mem (List.mem_of_mem_take h)
    · cases h
  · cases h
end Go.Proofs.Ytjfhcddahahdfaa.Fn
namespace Go.Proofs.Ytjfhcddahahdfaa.Fn
open Go.RowKit Go.Proofs.YtjfhcddahahdfaaW.PrintWords Go.Proofs.YtjfhcddahahdfaaW.PrintLast Go.Proofs.YtjfhcddahahdfaaW.PrintMore
set_option linter.unusedVariables false
set_option linter.unusedSimpArgs false
theorem foundOf_parts {l : List Int} {a s : Int} (h : (foundOf l a s).2 = true) : isPuzzle l a s = true ∧ (foundOf l a s).1 = (allSols l a s).take 301 ∧ (foundOf l a s).1.length ≤ 300 := by
  unfold foundOf at h ⊢
  split at h
  · rename_i h1
    simp only [decide_eq_true_eq] at h
    rw [if_pos h1]
    simp only [h, if_true]
    exact ⟨h1, trivial, by omega⟩
  · cases h
/-- The numbers that all solutions have. -/
def sureNumbers (l : List Int) (a s : Int) : List Int × Bool := if (foundOf l a s).2 = true then (if (foundOf l a s).1 = [] then ([], false) else (sureOf (foundOf l a s).1, true)) else ([], false)
theorem sureFrom_len (xs : List (List Int)) : ∀ (m j : Nat) (out : List Int), (sureFrom xs m j out).length = out.length
  | 0, _, _ => rfl
  | m + 1, j, out => by
    unfold sureFrom
    rw [sureFrom_len xs m (j + 1), sureAt_len]
theorem getD_mem {xs : List (List Int)} (h : xs ≠ []) : xs.getD 0 [] ∈ xs := by
  cases xs with
  | nil => exact absurd rfl h
  | cons x t => simp
theorem sureNumbers_len (l : List Int) (a s : Int) : (sureNumbers l a s).1.length ≤ l.length := by
  have h := @foundOf_mem l a s
  unfold sureNumbers
  split
  · split
    · simp
    · rename_i h1
      simp only [sureOf, sureFrom_len]
      rw [h (getD_mem h1)]
      exact Nat.le_refl _
  · simp
theorem sureAt_pos (row : List Int) : ∀ (m i : Nat) (out : List Int), (∀ y ∈ out, (0 : Int) ≤ y) → ∀ y ∈ sureAt row m i out, 0 ≤ y
  | 0, _, _, h => h
  | m + 1, i, out, h => by
    unfold sureAt
    refine sureAt_pos row m (i + 1) _ ?_
    split
    · exact h
    · intro y hy
      rcases List.mem_or_eq_of_mem_set hy with hy | hy
      · exact h y hy
      · omega
theorem sureFrom_pos (xs : List (List Int)) : ∀ (m j : Nat) (out : List Int), (∀ y ∈ out, (0 : Int) ≤ y) → ∀ y ∈ sureFrom xs m j out, 0 ≤ y
  | 0, _, _, h => h
  | m + 1, j, out, h => by
    unfold sureFrom
    exact sureFrom_pos xs m (j + 1) _ (sureAt_pos _ _ _ _ h)
theorem impl_SureNumbers.F_val (l : List Int) (a s : Int) (hl : l.length < 4611686018427387904) : impl_SureNumbers.F l a s = some (sureNumbers l a s) := by
  rw [impl_SureNumbers.F_eq, impl_Puzzle_solutions.F_val l a s hl]
  simp only [Option.bind_some]
  unfold sureNumbers
  by_cases h : (foundOf l a s).2 = true
  · obtain ⟨h1, h2, h3⟩ := foundOf_parts h
    obtain ⟨g1, g2, g3, g4, g5, g6, g7⟩ := isPuzzle_head h1
    rw [if_pos h, if_pos h]
    by_cases h4 : (foundOf l a s).1 = []
    · rw [if_pos h4, if_pos h4]
    · rw [if_neg h4, if_neg h4, if_pos ⟨by omega, by omega, fun x hx => foundOf_mem hx, h3⟩]
  · rw [if_neg h, if_neg h]
theorem spec_pzSure.L1_val (xs : List (List Int)) (row : List Int) (hr : row.length ≤ 100) (len j : Int) : ∀ (m i : Nat) (out : List Int), i + m = row.length → out.length = row.length → spec_pzSure.L1 out xs len j row (row.length : Int) (i : Int) = spec_pzSure.L0 (sureAt row m i out) xs len (wrap64 (j + 1))
  | 0, i, out, hi, ho => by
    rw [spec_pzSure.L1_eq, if_neg (by omega)]
    rfl
  | m + 1, i, out, hi, ho => by
    rw [spec_pzSure.L1_eq, if_pos (by omega), if_pos (by omega), if_pos (by omega), if_pos (by omega), show wrap64 ((i : Int) + 1) = ((i + 1 : Nat) : Int) by rw [wrap_in (by omega) (by omega)]; rfl, Int.toNat_natCast, sureAt]
    by_cases h : rd out i = rd row i
    · rw [if_pos h, if_pos h, spec_pzSure.L1_val xs row hr len j m (i + 1) out (by omega) ho]
    · rw [if_neg h, if_neg h, spec_pzSure.L1_val xs row hr len j m (i + 1) _ (by omega) (by rw [List.length_set]; exact ho)]
theorem spec_pzSure.L0_val (xs : List (List Int)) (n : Nat) (hn : n ≤ 100) (hx : ∀ x ∈ xs, x.length = n) (hl : xs.length ≤ 300) : ∀ (m j : Nat) (out : List Int), j + m = xs.length → out.length = n → spec_pzSure.L0 out xs (xs.length : Int) (j : Int) = some (sureFrom xs m j out)
  | 0, j, out, hj, ho => by
    rw [spec_pzSure.L0_eq, if_neg (by omega)]
    rfl
  | m + 1, j, out, hj, ho => by
    have e : rd_L1 xs (j : Int) = xs.getD j [] := by unfold rd_L1; rw [Int.toNat_natCast]
    have hlen : (xs.getD j []).length = n := hx _ (by rw [List.getD_eq_getElem?_getD, List.getElem?_eq_getElem (by omega)]; exact List.getElem_mem (by omega))
    have := spec_pzSure.L1_val xs (xs.getD j []) (by omega) (xs.length : Int) (j : Int) (xs.getD j []).length 0 out (by omega) (by omega)
    simp only [Int.natCast_zero, Int.ofNat_zero] at this
    rw [spec_pzSure.L0_eq, if_pos (by omega), if_pos (by omega), if_pos (by omega), e, this, show wrap64 ((j : Int) + 1) = ((j + 1 : Nat) : Int) by rw [wrap_in (by omega) (by omega)]; rfl, spec_pzSure.L0_val xs n hn hx hl m (j + 1) _ (by omega) (by rw [sureAt_len]; exact ho), sureFrom]
theorem spec_pzSure.F_val (xs : List (List Int)) (n : Nat) (hn : n ≤ 100) (hx : ∀ x ∈ xs, x.length = n) (hl : xs.length ≤ 300) (hne : xs ≠ []) : spec_pzSure.F xs = some (sureOf xs) := by
  have hpos : 0 < xs.length := by
    cases xs with
    | nil => exact absurd rfl hne
    | cons x t => simp
  have e : rd_L1 xs 0 = xs.getD 0 [] := rfl
  have hlen := hx _ (getD_mem hne)
  rw [spec_pzSure.F_eq, if_pos (by omega), e, spec_l1Own.f_val _ (by omega)]
  simp only [Option.bind_some]
  have := spec_pzSure.L0_val xs n hn hx hl xs.length 0 (xs.getD 0 []) (by omega) hlen
  simpa [sureOf] using this
theorem spec_SureNumbers.F_val (l : List Int) (a s : Int) (hl : l.length < 4611686018427387904) : spec_SureNumbers.F l a s = some (sureNumbers l a s) := by
  rw [spec_SureNumbers.F_eq, spec_pzAsked.F_val l a s hl]
  simp only [Option.bind_some]
  have hm := @foundOf_mem l a s
  unfold sureNumbers foundOf
  unfold foundOf at hm
  by_cases h : isPuzzle l a s = true
  · obtain ⟨g1, g2, g3, g4, g5, g6, g7⟩ := isPuzzle_head h
    rw [if_pos h] at hm
    rw [if_pos h, if_pos h]
    by_cases h2 : (((allSols l a s).take 301).length : Int) ≤ 300
    · simp only [h2, decide_true, if_true] at hm ⊢
      generalize (allSols l a s).take 301 = xs at hm h2
      by_cases h3 : xs = []
      · subst h3
        rfl
      · have hpos : ¬ (xs.length : Int) = 0 := by
          cases xs with
          | nil => exact absurd rfl h3
          | cons x t => rw [List.length_cons]; omega
        rw [if_neg hpos, if_neg h3, spec_pzSure.F_val xs l.length (by omega) (fun x hx => hm hx) (by omega) h3]
        rfl
    · simp only [h2, decide_false, if_false, Bool.false_eq_true]
  · rw [if_neg h, if_neg h]
    rfl
end Go.Proofs.Ytjfhcddahahdfaa.Fn
namespace Go.Proofs.Ytjfhcddahahdfaa.Pure
open Go.RowKit Go.Proofs.Ytjfhcddahahdfaa.Fn Go.Proofs.YtjfhcddahahdfaaW.PrintWords Go.Proofs.YtjfhcddahahdfaaW.PrintLast Go.Proofs.YtjfhcddahahdfaaW.PrintMore
set_option linter.unusedVariables false
set_option linter.unusedSimpArgs false
theorem FnExactSureNumbers : laws_FnExactSureNumbers.Pure := by
  intro l0_0 a0_1 a0_2 hl _ _ _ _
  refine Lim.rounds (laws_FnExactSureNumbers.F_lim l0_0 a0_1 a0_2) ?_
  rw [laws_FnExactSureNumbers.F_eq]
  have hl' : l0_0.length ≤ 35184372088832 := by simp only [maxLen] at hl; omega
  have e1 := laws_szPuzzle.f_val l0_0 a0_1 a0_2 (by omega)
  by_cases h0 : l0_0.length ≤ 1048576
  case neg =>
    rw [if_neg h0] at e1
    rw [e1]
    rfl
  rw [if_pos h0] at e1
  have n0 : ¬ (1048576 - (l0_0.length : Int) < 0) := by omega
  have e0 := laws_toPuzzle.F_val l0_0 a0_1 a0_2 (by omega)
  have q0 := laws_eqPuzzle.F_same l0_0 a0_1 a0_2 (by omega)
  have s := spec_SureNumbers.F_val l0_0 a0_1 a0_2 (by omega)
  have i := impl_SureNumbers.F_val l0_0 a0_1 a0_2 (by omega)
  have hr := sureNumbers_len l0_0 a0_1 a0_2
  have q := laws_eqIntS.F_same (sureNumbers l0_0 a0_1 a0_2).1 (by omega)
  have m0 := laws_markPuzzle.F_val l0_0 a0_1 a0_2 1 (by omega) (by omega)
  have m := laws_markIntS.F_val (sureNumbers l0_0 a0_1 a0_2).1 1 (by omega) (by omega)
  have g := laws_heldIntS.F_val (sureNumbers l0_0 a0_1 a0_2).1.length 1 (by omega) (by omega)
  have n1 : ¬ ((1 : Int) + l0_0.length < 0) := by omega
  have n2 : ¬ ((1 : Int) + (sureNumbers l0_0 a0_1 a0_2).1.length < 0) := by omega
  simp only [e1, n0, e0, s, i, q0, q, m0, m, g, n1, n2, Option.bind_some, if_true, bne_self_eq_false, if_false, Bool.false_eq_true, laws_FnExactSureNumbers.J0_eq, laws_FnExactSureNumbers.J1_eq, laws_FnExactSureNumbers.J2_eq]
end Go.Proofs.Ytjfhcddahahdfaa.Pure
