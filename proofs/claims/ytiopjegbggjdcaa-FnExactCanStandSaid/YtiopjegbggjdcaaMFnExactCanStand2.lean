/- The machine's side and plain lemmas for FnExactCanStand: texts of this session, merged by its program (part 2). -/
import Derived.Test.YtiopjegbggjdcaaMFnExactCanStand0
import Derived.Test.YtiopjegbggjdcaaMFnExactCanStand1
namespace Go.Proofs.Ytiopjegbggjdcaa.Fn
open Go.RowKit Go.Proofs.YtiopjegbggjdcaaW.PrintWords Go.Proofs.YtiopjegbggjdcaaW.PrintLast Go.Proofs.YtiopjegbggjdcaaW.PrintMore
attribute [local go_sem] max2_int min2_int max_two min_two max_three min_three max_four min_four   -- for this text's walks alone
set_option linter.unusedVariables false
set_option linter.unusedSimpArgs false

/-! ### laws_FnExactCanStand: function 10 -/
mutual
def laws_FnExactCanStand.j0 : Nat → Int → List Int → Bool → List Int → Bool → Bool → List Int → Int → Int → List Int → Int → Int → Option (Bool)
  | 0, _, _, _, _, _, _, _, _, _, _, _, _ => none
  | k + 1, x1, x6, x7, x9, x10, x44, x818000, x818001, x818002, x834000, x834001, x834002 => if x44 = true then (some false) else ((laws_toPuzzle.f k x818000 x818001 x818002).bind fun bt839 => ((laws_eqPuzzle.f k x834000 x834001 x834002 bt839.1 bt839.2.1 bt839.2.2).bind fun t844 => (if t844 = true then ((laws_markPuzzle.f k x834000 x834001 x834002 1).bind fun bt845 => (if bt845.1 < 0 then (laws_FnExactCanStand.j1 k x1 x6 x7 x9 true x818000 x818001 x818002) else ((laws_eqIntS.f k x9 x6).bind fun t847 => (if t847 = true then (laws_FnExactCanStand.j1 k x1 x6 x7 x9 (x10 != x7) x818000 x818001 x818002) else (laws_FnExactCanStand.j1 k x1 x6 x7 x9 true x818000 x818001 x818002))))) else (some false))))
def laws_FnExactCanStand.j1 : Nat → Int → List Int → Bool → List Int → Bool → List Int → Int → Int → Option (Bool)
  | 0, _, _, _, _, _, _, _, _ => none
  | k + 1, x1, x6, x7, x9, x65, x818000, x818001, x818002 => if x65 = true then (some false) else ((laws_markIntS.f k x9 1).bind fun bt848 => ((laws_heldIntS.f k bt848.2 1).bind fun t850 => (if t850 < 0 then (some false) else (if t850 = bt848.1 then ((laws_toPuzzle.f k x818000 x818001 x818002).bind fun bt851 => ((impl_CanStand.f k bt851.1 bt851.2.1 bt851.2.2 x1).bind fun bt856 => ((laws_eqIntS.f k bt856.1 x6).bind fun t860 => (if t860 = true then (laws_FnExactCanStand.j2 k bt848.2 bt848.1 (bt856.2 != x7)) else (laws_FnExactCanStand.j2 k bt848.2 bt848.1 true))))) else (some false)))))
def laws_FnExactCanStand.j2 : Nat → List Int → Int → Bool → Option (Bool)
  | 0, _, _, _ => none
  | k + 1, x9, x12, x92 => if x92 = true then (some false) else ((laws_heldIntS.f k x9 1).bind fun t861 => (if t861 < 0 then (some false) else (if t861 = x12 then (some true) else (some false))))
end
def laws_FnExactCanStand.f (k : Nat) (l0_0 : List Int) (a0_1 : Int) (a0_2 : Int) (a1 : Int) : Option (Bool) := (laws_szPuzzle.f l0_0 a0_1 a0_2 1048576).bind fun t818 => (if t818 < 0 then (some true) else ((laws_toPuzzle.f k l0_0 a0_1 a0_2).bind fun bt819 => ((spec_CanStand.f k bt819.1 bt819.2.1 bt819.2.2 a1).bind fun bt824 => ((laws_toPuzzle.f k l0_0 a0_1 a0_2).bind fun bt828 => ((impl_CanStand.f k bt828.1 bt828.2.1 bt828.2.2 a1).bind fun bt834 => ((laws_eqIntS.f k bt834.1 bt824.1).bind fun t838 => (if t838 = true then (laws_FnExactCanStand.j0 k a1 bt824.1 bt824.2 bt834.1 bt834.2 (bt834.2 != bt824.2) l0_0 a0_1 a0_2 bt828.1 bt828.2.1 bt828.2.2) else (laws_FnExactCanStand.j0 k a1 bt824.1 bt824.2 bt834.1 bt834.2 true l0_0 a0_1 a0_2 bt828.1 bt828.2.1 bt828.2.2))))))))
theorem laws_FnExactCanStand.mono_l : ∀ k, (∀ y0 y1 y2 y3 y4 y5 y6 y7 y8 y9 y10 y11, LeO (laws_FnExactCanStand.j0 k y0 y1 y2 y3 y4 y5 y6 y7 y8 y9 y10 y11) (laws_FnExactCanStand.j0 (k + 1) y0 y1 y2 y3 y4 y5 y6 y7 y8 y9 y10 y11)) ∧ (∀ y0 y1 y2 y3 y4 y5 y6 y7, LeO (laws_FnExactCanStand.j1 k y0 y1 y2 y3 y4 y5 y6 y7) (laws_FnExactCanStand.j1 (k + 1) y0 y1 y2 y3 y4 y5 y6 y7)) ∧ (∀ y0 y1 y2, LeO (laws_FnExactCanStand.j2 k y0 y1 y2) (laws_FnExactCanStand.j2 (k + 1) y0 y1 y2))
  | 0 => ⟨fun _ _ _ _ _ _ _ _ _ _ _ _ r h => by simp [laws_FnExactCanStand.j0] at h, fun _ _ _ _ _ _ _ _ r h => by simp [laws_FnExactCanStand.j1] at h, fun _ _ _ r h => by simp [laws_FnExactCanStand.j2] at h⟩
  | k + 1 => by
    obtain ⟨ih0, ih1, ih2⟩ := laws_FnExactCanStand.mono_l k
    refine ⟨?_, ?_, ?_⟩
    · intro y0 y1 y2 y3 y4 y5 y6 y7 y8 y9 y10 y11
      unfold laws_FnExactCanStand.j0
      repeat' first
      | (with_reducible exact ih0 _ _ _ _ _ _ _ _ _ _ _ _)
      | (with_reducible exact ih1 _ _ _ _ _ _ _ _)
      | (with_reducible exact ih2 _ _ _)
      | (with_reducible exact impl_CanStand.mono _ _ _ _ _)
      | (with_reducible exact laws_eqIntS.mono _ _ _)
      | (with_reducible exact laws_eqPuzzle.mono _ _ _ _ _ _ _)
      | (with_reducible exact laws_heldIntS.mono _ _ _)
      | (with_reducible exact laws_markIntS.mono _ _ _)
      | (with_reducible exact laws_markPuzzle.mono _ _ _ _ _)
      | (with_reducible exact laws_toPuzzle.mono _ _ _ _)
      | (with_reducible exact spec_CanStand.mono _ _ _ _ _)
      | (with_reducible exact LeO.refl _)
      | (with_reducible exact LeO.none _)
      | (with_reducible refine LeO.ite ?_ ?_)
      | (with_reducible refine LeO.bind ?_ (fun _ => ?_))
      | exact ih0 _ _ _ _ _ _ _ _ _ _ _ _
      | exact ih1 _ _ _ _ _ _ _ _
      | exact ih2 _ _ _
      | exact impl_CanStand.mono _ _ _ _ _
      | exact laws_eqIntS.mono _ _ _
      | exact laws_eqPuzzle.mono _ _ _ _ _ _ _
      | exact laws_heldIntS.mono _ _ _
      | exact laws_markIntS.mono _ _ _
      | exact laws_markPuzzle.mono _ _ _ _ _
      | exact laws_toPuzzle.mono _ _ _ _
      | exact spec_CanStand.mono _ _ _ _ _
      | exact LeO.none _
      | refine LeO.ite ?_ ?_
      | refine LeO.bind ?_ (fun _ => ?_)
    · intro y0 y1 y2 y3 y4 y5 y6 y7
      unfold laws_FnExactCanStand.j1
      repeat' first
      | (with_reducible exact ih0 _ _ _ _ _ _ _ _ _ _ _ _)
      | (with_reducible exact ih1 _ _ _ _ _ _ _ _)
      | (with_reducible exact ih2 _ _ _)
      | (with_reducible exact impl_CanStand.mono _ _ _ _ _)
      | (with_reducible exact laws_eqIntS.mono _ _ _)
      | (with_reducible exact laws_eqPuzzle.mono _ _ _ _ _ _ _)
      | (with_reducible exact laws_heldIntS.mono _ _ _)
      | (with_reducible exact laws_markIntS.mono _ _ _)
      | (with_reducible exact laws_markPuzzle.mono _ _ _ _ _)
      | (with_reducible exact laws_toPuzzle.mono _ _ _ _)
      | (with_reducible exact spec_CanStand.mono _ _ _ _ _)
      | (with_reducible exact LeO.refl _)
      | (with_reducible exact LeO.none _)
      | (with_reducible refine LeO.ite ?_ ?_)
      | (with_reducible refine LeO.bind ?_ (fun _ => ?_))
      | exact ih0 _ _ _ _ _ _ _ _ _ _ _ _
      | exact ih1 _ _ _ _ _ _ _ _
      | exact ih2 _ _ _
      | exact impl_CanStand.mono _ _ _ _ _
      | exact laws_eqIntS.mono _ _ _
      | exact laws_eqPuzzle.mono _ _ _ _ _ _ _
      | exact laws_heldIntS.mono _ _ _
      | exact laws_markIntS.mono _ _ _
      | exact laws_markPuzzle.mono _ _ _ _ _
      | exact laws_toPuzzle.mono _ _ _ _
      | exact spec_CanStand.mono _ _ _ _ _
      | exact LeO.none _
      | refine LeO.ite ?_ ?_
      | refine LeO.bind ?_ (fun _ => ?_)
    · intro y0 y1 y2
      unfold laws_FnExactCanStand.j2
      repeat' first
      | (with_reducible exact ih0 _ _ _ _ _ _ _ _ _ _ _ _)
      | (with_reducible exact ih1 _ _ _ _ _ _ _ _)
      | (with_reducible exact ih2 _ _ _)
      | (with_reducible exact impl_CanStand.mono _ _ _ _ _)
      | (with_reducible exact laws_eqIntS.mono _ _ _)
      | (with_reducible exact laws_eqPuzzle.mono _ _ _ _ _ _ _)
      | (with_reducible exact laws_heldIntS.mono _ _ _)
      | (with_reducible exact laws_markIntS.mono _ _ _)
      | (with_reducible exact laws_markPuzzle.mono _ _ _ _ _)
      | (with_reducible exact laws_toPuzzle.mono _ _ _ _)
      | (with_reducible exact spec_CanStand.mono _ _ _ _ _)
      | (with_reducible exact LeO.refl _)
      | (with_reducible exact LeO.none _)
      | (with_reducible refine LeO.ite ?_ ?_)
      | (with_reducible refine LeO.bind ?_ (fun _ => ?_))
      | exact ih0 _ _ _ _ _ _ _ _ _ _ _ _
      | exact ih1 _ _ _ _ _ _ _ _
      | exact ih2 _ _ _
      | exact impl_CanStand.mono _ _ _ _ _
      | exact laws_eqIntS.mono _ _ _
      | exact laws_eqPuzzle.mono _ _ _ _ _ _ _
      | exact laws_heldIntS.mono _ _ _
      | exact laws_markIntS.mono _ _ _
      | exact laws_markPuzzle.mono _ _ _ _ _
      | exact laws_toPuzzle.mono _ _ _ _
      | exact spec_CanStand.mono _ _ _ _ _
      | exact LeO.none _
      | refine LeO.ite ?_ ?_
      | refine LeO.bind ?_ (fun _ => ?_)
theorem laws_FnExactCanStand.mono : ∀ a0 a1 a2 a3 k, LeO (laws_FnExactCanStand.f k a0 a1 a2 a3) (laws_FnExactCanStand.f (k + 1) a0 a1 a2 a3) := by
  intro a0 a1 a2 a3 k
  obtain ⟨ih0, ih1, ih2⟩ := laws_FnExactCanStand.mono_l k
  unfold laws_FnExactCanStand.f
  repeat' first
      | (with_reducible exact ih0 _ _ _ _ _ _ _ _ _ _ _ _)
      | (with_reducible exact ih1 _ _ _ _ _ _ _ _)
      | (with_reducible exact ih2 _ _ _)
      | (with_reducible exact impl_CanStand.mono _ _ _ _ _)
      | (with_reducible exact laws_eqIntS.mono _ _ _)
      | (with_reducible exact laws_eqPuzzle.mono _ _ _ _ _ _ _)
      | (with_reducible exact laws_heldIntS.mono _ _ _)
      | (with_reducible exact laws_markIntS.mono _ _ _)
      | (with_reducible exact laws_markPuzzle.mono _ _ _ _ _)
      | (with_reducible exact laws_toPuzzle.mono _ _ _ _)
      | (with_reducible exact spec_CanStand.mono _ _ _ _ _)
      | (with_reducible exact LeO.refl _)
      | (with_reducible exact LeO.none _)
      | (with_reducible refine LeO.ite ?_ ?_)
      | (with_reducible refine LeO.bind ?_ (fun _ => ?_))
      | exact ih0 _ _ _ _ _ _ _ _ _ _ _ _
      | exact ih1 _ _ _ _ _ _ _ _
      | exact ih2 _ _ _
      | exact impl_CanStand.mono _ _ _ _ _
      | exact laws_eqIntS.mono _ _ _
      | exact laws_eqPuzzle.mono _ _ _ _ _ _ _
      | exact laws_heldIntS.mono _ _ _
      | exact laws_markIntS.mono _ _ _
      | exact laws_markPuzzle.mono _ _ _ _ _
      | exact laws_toPuzzle.mono _ _ _ _
      | exact spec_CanStand.mono _ _ _ _ _
      | exact LeO.none _
      | refine LeO.ite ?_ ?_
      | refine LeO.bind ?_ (fun _ => ?_)
set_option maxHeartbeats 8000000 in
set_option maxRecDepth 100000 in
theorem laws_FnExactCanStand.calls (k : Nat) (A0_0 : Option Addr) (c0_0 : Nat) (l0_0 : List Int) (a0_1 : Int) (a0_2 : Int) (a1 : Int) (r : Bool) (w : World) (hr0_0 : Kd.C (Kd.int .i64) w A0_0 l0_0.length l0_0) (hc0_0 : l0_0.length ≤ c0_0) (h : laws_FnExactCanStand.f k l0_0 a0_1 a0_2 a1 = some r) :
    Calls Try.prog 10 #[.agg #[.slice A0_0 l0_0.length c0_0, .int .i64 a0_1, .int .i64 a0_2], .int .i64 a1] w fun e w' => e = .returned (.bool r) ∧ Below w.heap.size w w' := by
  have hu53 := Try.underlying53
  have hu35 := Try.underlying35
  have HR0_0 := Aside0.mk hr0_0
  have HC0_0 := Aside0.mk hc0_0
  clear hr0_0 hc0_0
  have HB := Aside0.mk (Below.refl w.heap.size w)
  have H : ((laws_szPuzzle.f l0_0 a0_1 a0_2 1048576).bind fun t818 => (if t818 < 0 then (some true) else ((laws_toPuzzle.f k l0_0 a0_1 a0_2).bind fun bt819 => ((spec_CanStand.f k bt819.1 bt819.2.1 bt819.2.2 a1).bind fun bt824 => ((laws_toPuzzle.f k l0_0 a0_1 a0_2).bind fun bt828 => ((impl_CanStand.f k bt828.1 bt828.2.1 bt828.2.2 a1).bind fun bt834 => ((laws_eqIntS.f k bt834.1 bt824.1).bind fun t838 => (if t838 = true then (laws_FnExactCanStand.j0 k a1 bt824.1 bt824.2 bt834.1 bt834.2 (bt834.2 != bt824.2) l0_0 a0_1 a0_2 bt828.1 bt828.2.1 bt828.2.2) else (laws_FnExactCanStand.j0 k a1 bt824.1 bt824.2 bt834.1 bt834.2 true l0_0 a0_1 a0_2 bt828.1 bt828.2.1 bt828.2.2))))))))) = some r := h
  clear h
  replace H := Option.bind_eq_some_iff.mp H
  obtain ⟨t818, A30, H⟩ := H
  replace H : (if t818 < 0 then (some true) else ((laws_toPuzzle.f k l0_0 a0_1 a0_2).bind fun bt819 => ((spec_CanStand.f k bt819.1 bt819.2.1 bt819.2.2 a1).bind fun bt824 => ((laws_toPuzzle.f k l0_0 a0_1 a0_2).bind fun bt828 => ((impl_CanStand.f k bt828.1 bt828.2.1 bt828.2.2 a1).bind fun bt834 => ((laws_eqIntS.f k bt834.1 bt824.1).bind fun t838 => (if t838 = true then (laws_FnExactCanStand.j0 k a1 bt824.1 bt824.2 bt834.1 bt834.2 (bt834.2 != bt824.2) l0_0 a0_1 a0_2 bt828.1 bt828.2.1 bt828.2.2) else (laws_FnExactCanStand.j0 k a1 bt824.1 bt824.2 bt834.1 bt834.2 true l0_0 a0_1 a0_2 bt828.1 bt828.2.1 bt828.2.2)))))))) = some r := H
  have A3 := Aside0.mk A30
  clear A30
  by_cases c4 : t818 < 0
  · rw [if_pos c4] at H
    have c4b0 : decide (t818 < 0) = true := decide_eq_true c4
    clear c4
    obtain rfl := Option.some.inj H
    go_enter Try.func10, Try.ntmps10
    go_wp2_with (first | ((with_reducible refine gate_dst (N := 2) rfl ?_); refine box_event ?hg (N := 2) ?hd (cs := #[.slice A0_0 l0_0.length c0_0, .int .i64 a0_1, .int .i64 a0_2]) (t := 53) ?hr ?_; (case hd => rfl); (case hg => rfl); (case hr => first | (go_simp; done) | (go_simp; rfl)); intro gb817 hg w5 hbox hb; have n0_ := Aside0.mk (below_step (by repeat (first | (with_reducible first | exact HB.out | apply below_alloc | apply pw_below_drewN | apply below_drew1) | exact HB.out)) hb); have n1_ := Aside0.mk (hbox); have n2_ := Aside0.mk ((by rw [hg]; exact (below_size (by repeat (first | (with_reducible first | exact HB.out | apply below_alloc | apply pw_below_drewN | apply below_drew1) | exact HB.out))) : w.heap.size ≤ gb817)); have n3_ := Aside0.mk ((by rw [hg]; exact (below_size (by repeat (first | (with_reducible first | exact HB.out | apply below_alloc | apply pw_below_drewN | apply below_drew1) | exact HB.out))) : w.heap.size ≤ gb817)); clear HB; have HB := n0_; have BK817 := n1_; have GW817 := n2_; have GE817 := n3_; clear n0_ n1_ n2_ n3_; clear hb hbox hg; have hcz6_0 : w5.cell? ⟨gb817, 0, none⟩ = some (.slice A0_0 l0_0.length c0_0) := (blk_cell BK817.out 0).trans rfl; have hcz6_1 : w5.cell? ⟨gb817, 1, none⟩ = some (.int .i64 a0_1) := (blk_cell BK817.out 1).trans rfl; have hcz6_2 : w5.cell? ⟨gb817, 2, none⟩ = some (.int .i64 a0_2) := (blk_cell BK817.out 2).trans rfl; have hfz6_0 := blk_frozen BK817.out 0; have hfz6_1 := blk_frozen BK817.out 1; have hfz6_2 := blk_frozen BK817.out 2) | ((with_reducible refine gate_callee (f := 40) rfl ?_); refine goesL_ (some 18) rfl rfl Try.func40 (by kernel_rfl) rfl #[.agg #[.slice A0_0 l0_0.length c0_0, .int .i64 a0_1, .int .i64 a0_2], .int .i64 1048576] rfl (by (try simp only [List.map_toArray, List.map_cons, List.map_nil]); first | done | rfl | (simp only [List.length_drop, List.length_take]; rfl)) ?_; (with_reducible refine (laws_szPuzzle.calls _ _ l0_0 a0_1 a0_2 1048576 t818 _ ?side1 ?side2 A3.out).mono ?_); (case side1 => repeat (first | exact (Kd.C_below HR0_0.out HB.out) | (with_reducible refine Kd.C_alloc ?_ _) | (with_reducible refine Kd.C_drewN ?_ _) | (with_reducible refine Kd.C_drew ?_))); (case side2 => exact HC0_0.out); rintro e w7 ⟨rfl, hb⟩; refine ⟨_, rfl, ?_⟩; have n0_ := Aside0.mk (blk_below (g := gb817) (o := .cells #[.slice A0_0 l0_0.length c0_0, .int .i64 a0_1, .int .i64 a0_2] 53 (0, 0)) (by (with_reducible repeat (first | refine blk_drewN ?_ _ | refine blk_drew ?_ | refine blk_alloc ?_ _)); exact BK817.out) hb); have n1_ := Aside0.mk (below_step (by repeat (first | (with_reducible first | exact HB.out | apply below_alloc | apply pw_below_drewN | apply below_drew1 | refine below_set ?_ GE817.out) | exact HB.out)) hb); clear BK817; clear HB; have BK817 := n0_; have HB := n1_; clear n0_ n1_; (try clear hb); (try clear hb2); (try clear hk); (try clear hi)))
    go_ret
    exact ⟨by first | rfl | (simp [errW_none, errW_some] <;> rfl) | (simp [*, errW_none, errW_some] <;> rfl), by repeat (first | (with_reducible first | exact HB.out | apply below_alloc | apply pw_below_drewN | apply below_drew1 | refine below_set ?_ GE817.out) | exact HB.out)⟩
  · rw [if_neg c4] at H
    have c4b0 : decide (t818 < 0) = false := decide_eq_false c4
    clear c4
    replace H := Option.bind_eq_some_iff.mp H
    obtain ⟨⟨t819, t822, t823⟩, A80, H⟩ := H
    replace H : ((spec_CanStand.f k t819 t822 t823 a1).bind fun bt824 => ((laws_toPuzzle.f k l0_0 a0_1 a0_2).bind fun bt828 => ((impl_CanStand.f k bt828.1 bt828.2.1 bt828.2.2 a1).bind fun bt834 => ((laws_eqIntS.f k bt834.1 bt824.1).bind fun t838 => (if t838 = true then (laws_FnExactCanStand.j0 k a1 bt824.1 bt824.2 bt834.1 bt834.2 (bt834.2 != bt824.2) l0_0 a0_1 a0_2 bt828.1 bt828.2.1 bt828.2.2) else (laws_FnExactCanStand.j0 k a1 bt824.1 bt824.2 bt834.1 bt834.2 true l0_0 a0_1 a0_2 bt828.1 bt828.2.1 bt828.2.2)))))) = some r := H
    have A8 := Aside0.mk A80
    clear A80
    replace H := Option.bind_eq_some_iff.mp H
    obtain ⟨⟨t824, t827⟩, A90, H⟩ := H
    replace H : ((laws_toPuzzle.f k l0_0 a0_1 a0_2).bind fun bt828 => ((impl_CanStand.f k bt828.1 bt828.2.1 bt828.2.2 a1).bind fun bt834 => ((laws_eqIntS.f k bt834.1 t824).bind fun t838 => (if t838 = true then (laws_FnExactCanStand.j0 k a1 t824 t827 bt834.1 bt834.2 (bt834.2 != t827) l0_0 a0_1 a0_2 bt828.1 bt828.2.1 bt828.2.2) else (laws_FnExactCanStand.j0 k a1 t824 t827 bt834.1 bt834.2 true l0_0 a0_1 a0_2 bt828.1 bt828.2.1 bt828.2.2))))) = some r := H
    have A9 := Aside0.mk A90
    clear A90
    replace H := Option.bind_eq_some_iff.mp H
    obtain ⟨⟨t828, t831, t832⟩, A100, H⟩ := H
    replace H : ((impl_CanStand.f k t828 t831 t832 a1).bind fun bt834 => ((laws_eqIntS.f k bt834.1 t824).bind fun t838 => (if t838 = true then (laws_FnExactCanStand.j0 k a1 t824 t827 bt834.1 bt834.2 (bt834.2 != t827) l0_0 a0_1 a0_2 t828 t831 t832) else (laws_FnExactCanStand.j0 k a1 t824 t827 bt834.1 bt834.2 true l0_0 a0_1 a0_2 t828 t831 t832)))) = some r := H
    have A10 := Aside0.mk A100
    clear A100
    replace H := Option.bind_eq_some_iff.mp H
    obtain ⟨⟨t834, t837⟩, A110, H⟩ := H
    replace H : ((laws_eqIntS.f k t834 t824).bind fun t838 => (if t838 = true then (laws_FnExactCanStand.j0 k a1 t824 t827 t834 t837 (t837 != t827) l0_0 a0_1 a0_2 t828 t831 t832) else (laws_FnExactCanStand.j0 k a1 t824 t827 t834 t837 true l0_0 a0_1 a0_2 t828 t831 t832))) = some r := H
    have A11 := Aside0.mk A110
    clear A110
    have HC12 := Aside0.mk H
    clear H
    go_enter Try.func10, Try.ntmps10
    go_upto_region 8 with (first | ((with_reducible refine gate_dst (N := 2) rfl ?_); refine box_event ?hg (N := 2) ?hd (cs := #[.slice A0_0 l0_0.length c0_0, .int .i64 a0_1, .int .i64 a0_2]) (t := 53) ?hr ?_; (case hd => rfl); (case hg => rfl); (case hr => first | (go_simp; done) | (go_simp; rfl)); intro gb817 hg w13 hbox hb; have n0_ := Aside0.mk (below_step (by repeat (first | (with_reducible first | exact HB.out | apply below_alloc | apply pw_below_drewN | apply below_drew1) | exact HB.out)) hb); have n1_ := Aside0.mk (hbox); have n2_ := Aside0.mk ((by rw [hg]; exact (below_size (by repeat (first | (with_reducible first | exact HB.out | apply below_alloc | apply pw_below_drewN | apply below_drew1) | exact HB.out))) : w.heap.size ≤ gb817)); have n3_ := Aside0.mk ((by rw [hg]; exact (below_size (by repeat (first | (with_reducible first | exact HB.out | apply below_alloc | apply pw_below_drewN | apply below_drew1) | exact HB.out))) : w.heap.size ≤ gb817)); clear HB; have HB := n0_; have BK817 := n1_; have GW817 := n2_; have GE817 := n3_; clear n0_ n1_ n2_ n3_; clear hb hbox hg; have hcz14_0 : w13.cell? ⟨gb817, 0, none⟩ = some (.slice A0_0 l0_0.length c0_0) := (blk_cell BK817.out 0).trans rfl; have hcz14_1 : w13.cell? ⟨gb817, 1, none⟩ = some (.int .i64 a0_1) := (blk_cell BK817.out 1).trans rfl; have hcz14_2 : w13.cell? ⟨gb817, 2, none⟩ = some (.int .i64 a0_2) := (blk_cell BK817.out 2).trans rfl; have hfz14_0 := blk_frozen BK817.out 0; have hfz14_1 := blk_frozen BK817.out 1; have hfz14_2 := blk_frozen BK817.out 2) | ((with_reducible refine gate_callee (f := 40) rfl ?_); refine goesL_ (some 18) rfl rfl Try.func40 (by kernel_rfl) rfl #[.agg #[.slice A0_0 l0_0.length c0_0, .int .i64 a0_1, .int .i64 a0_2], .int .i64 1048576] rfl (by (try simp only [List.map_toArray, List.map_cons, List.map_nil]); first | done | rfl | (simp only [List.length_drop, List.length_take]; rfl)) ?_; (with_reducible refine (laws_szPuzzle.calls _ _ l0_0 a0_1 a0_2 1048576 t818 _ ?side1 ?side2 A3.out).mono ?_); (case side1 => repeat (first | exact (Kd.C_below HR0_0.out HB.out) | (with_reducible refine Kd.C_alloc ?_ _) | (with_reducible refine Kd.C_drewN ?_ _) | (with_reducible refine Kd.C_drew ?_))); (case side2 => exact HC0_0.out); rintro e w15 ⟨rfl, hb⟩; refine ⟨_, rfl, ?_⟩; have n0_ := Aside0.mk (blk_below (g := gb817) (o := .cells #[.slice A0_0 l0_0.length c0_0, .int .i64 a0_1, .int .i64 a0_2] 53 (0, 0)) (by (with_reducible repeat (first | refine blk_drewN ?_ _ | refine blk_drew ?_ | refine blk_alloc ?_ _)); exact BK817.out) hb); have n1_ := Aside0.mk (below_step (by repeat (first | (with_reducible first | exact HB.out | apply below_alloc | apply pw_below_drewN | apply below_drew1 | refine below_set ?_ GE817.out) | exact HB.out)) hb); clear BK817; clear HB; have BK817 := n0_; have HB := n1_; clear n0_ n1_; (try clear hb); (try clear hb2); (try clear hk); (try clear hi); have hcz16_0 : w15.cell? ⟨gb817, 0, none⟩ = some (.slice A0_0 l0_0.length c0_0) := (blk_cell BK817.out 0).trans rfl; have hcz16_1 : w15.cell? ⟨gb817, 1, none⟩ = some (.int .i64 a0_1) := (blk_cell BK817.out 1).trans rfl; have hcz16_2 : w15.cell? ⟨gb817, 2, none⟩ = some (.int .i64 a0_2) := (blk_cell BK817.out 2).trans rfl; have hfz16_0 := blk_frozen BK817.out 0; have hfz16_1 := blk_frozen BK817.out 1; have hfz16_2 := blk_frozen BK817.out 2) | ((with_reducible refine gate_callee (f := 42) rfl ?_); refine goesL_ (some 23) rfl rfl Try.func42 (by kernel_rfl) rfl #[.agg #[.slice A0_0 l0_0.length c0_0, .int .i64 a0_1, .int .i64 a0_2]] rfl (by (try simp only [List.map_toArray, List.map_cons, List.map_nil]); first | done | rfl | (simp only [List.length_drop, List.length_take]; rfl)) ?_; (with_reducible refine (laws_toPuzzle.calls k _ _ l0_0 a0_1 a0_2 t819 t822 t823 _ ?side1 ?side2 A8.out).mono ?_); (case side1 => repeat (first | exact (Kd.C_below HR0_0.out HB.out) | (with_reducible refine Kd.C_alloc ?_ _) | (with_reducible refine Kd.C_drewN ?_ _) | (with_reducible refine Kd.C_drew ?_))); (case side2 => exact HC0_0.out); rintro e w17 ⟨v820, rfl, ho0, hb⟩; refine ⟨_, rfl, ?_⟩; have n0_ := Aside0.mk (Kd.R_lower ho0 (below_size (by repeat (first | (with_reducible first | exact HB.out | apply below_alloc | apply pw_below_drewN | apply below_drew1 | refine below_set ?_ GE817.out) | exact HB.out)))); have n1_ := Aside0.mk (blk_below (g := gb817) (o := .cells #[.slice A0_0 l0_0.length c0_0, .int .i64 a0_1, .int .i64 a0_2] 53 (0, 0)) (by (with_reducible repeat (first | refine blk_drewN ?_ _ | refine blk_drew ?_ | refine blk_alloc ?_ _)); exact BK817.out) hb); have n2_ := Aside0.mk (below_step (by repeat (first | (with_reducible first | exact HB.out | apply below_alloc | apply pw_below_drewN | apply below_drew1 | refine below_set ?_ GE817.out) | exact HB.out)) hb); clear BK817; clear HB; have HO821 := n0_; have BK817 := n1_; have HB := n2_; clear n0_ n1_ n2_; (try clear hb); (try clear hb2); (try clear hk); (try clear hi); (try clear ho0); obtain ⟨Ao18, co18, eo18⟩ := Kd.R_slice HO821.out; subst eo18) | ((with_reducible refine gate_callee (f := 41) rfl ?_); refine goesL_ (some 25) rfl rfl Try.func41 (by kernel_rfl) rfl #[.agg #[.slice Ao18 t819.length co18, .int .i64 t822, .int .i64 t823], .int .i64 a1] rfl (by (try simp only [List.map_toArray, List.map_cons, List.map_nil]); first | done | rfl | (simp only [List.length_drop, List.length_take]; rfl)) ?_; (with_reducible refine (spec_CanStand.calls k _ _ t819 t822 t823 a1 t824 t827 _ ?side1 ?side2 A9.out).mono ?_); (case side1 => repeat (first | exact (Kd.R_reads' HO821.out).2.2 | (with_reducible refine Kd.C_alloc ?_ _) | (with_reducible refine Kd.C_drewN ?_ _) | (with_reducible refine Kd.C_drew ?_))); (case side2 => exact (Kd.R_reads' HO821.out).2.1); rintro e w19 ⟨v825, rfl, ho0, hb⟩; refine ⟨_, rfl, ?_⟩; have n0_ := Aside0.mk (Kd.R_elder' (by (with_reducible repeat (first | apply Kd.R_alloc | apply Kd.R_drewN | apply Kd.R_drew)); exact HO821.out) (Kd.R_base ho0) hb); have n1_ := Aside0.mk (Kd.R_lower (Kd.R_new' ho0 (Kd.R_lt (by (with_reducible repeat (first | apply Kd.R_alloc | apply Kd.R_drewN | apply Kd.R_drew)); exact HO821.out))) (below_size (by repeat (first | (with_reducible first | exact HB.out | apply below_alloc | apply pw_below_drewN | apply below_drew1 | refine below_set ?_ GE817.out) | exact HB.out)))); have n2_ := Aside0.mk (blk_below (g := gb817) (o := .cells #[.slice A0_0 l0_0.length c0_0, .int .i64 a0_1, .int .i64 a0_2] 53 (0, 0)) (by (with_reducible repeat (first | refine blk_drewN ?_ _ | refine blk_drew ?_ | refine blk_alloc ?_ _)); exact BK817.out) hb); have n3_ := Aside0.mk (below_step (by repeat (first | (with_reducible first | exact HB.out | apply below_alloc | apply pw_below_drewN | apply below_drew1 | refine below_set ?_ GE817.out) | exact HB.out)) hb); clear HO821; clear BK817; clear HB; have HO821 := n0_; have HO826 := n1_; have BK817 := n2_; have HB := n3_; clear n0_ n1_ n2_ n3_; (try clear hb); (try clear hb2); (try clear hk); (try clear hi); (try clear ho0); have hcz20_0 : w19.cell? ⟨gb817, 0, none⟩ = some (.slice A0_0 l0_0.length c0_0) := (blk_cell BK817.out 0).trans rfl; have hcz20_1 : w19.cell? ⟨gb817, 1, none⟩ = some (.int .i64 a0_1) := (blk_cell BK817.out 1).trans rfl; have hcz20_2 : w19.cell? ⟨gb817, 2, none⟩ = some (.int .i64 a0_2) := (blk_cell BK817.out 2).trans rfl; have hfz20_0 := blk_frozen BK817.out 0; have hfz20_1 := blk_frozen BK817.out 1; have hfz20_2 := blk_frozen BK817.out 2) | ((with_reducible refine gate_callee (f := 42) rfl ?_); refine goesL_ (some 29) rfl rfl Try.func42 (by kernel_rfl) rfl #[.agg #[.slice A0_0 l0_0.length c0_0, .int .i64 a0_1, .int .i64 a0_2]] rfl (by (try simp only [List.map_toArray, List.map_cons, List.map_nil]); first | done | rfl | (simp only [List.length_drop, List.length_take]; rfl)) ?_; (with_reducible refine (laws_toPuzzle.calls k _ _ l0_0 a0_1 a0_2 t828 t831 t832 _ ?side1 ?side2 A10.out).mono ?_); (case side1 => repeat (first | exact (Kd.C_below HR0_0.out HB.out) | (with_reducible refine Kd.C_alloc ?_ _) | (with_reducible refine Kd.C_drewN ?_ _) | (with_reducible refine Kd.C_drew ?_))); (case side2 => exact HC0_0.out); rintro e w21 ⟨v829, rfl, ho0, hb⟩; refine ⟨_, rfl, ?_⟩; have n0_ := Aside0.mk (Kd.R_elder' (by (with_reducible repeat (first | apply Kd.R_alloc | apply Kd.R_drewN | apply Kd.R_drew)); exact HO821.out) (Kd.R_base ho0) hb); have n1_ := Aside0.mk (Kd.R_elder' (by (with_reducible repeat (first | apply Kd.R_alloc | apply Kd.R_drewN | apply Kd.R_drew)); exact HO826.out) (Kd.R_base ho0) hb); have n2_ := Aside0.mk (Kd.R_lower (Kd.R_new' (Kd.R_new' ho0 (Kd.R_lt (by (with_reducible repeat (first | apply Kd.R_alloc | apply Kd.R_drewN | apply Kd.R_drew)); exact HO821.out))) (Kd.R_lt (by (with_reducible repeat (first | apply Kd.R_alloc | apply Kd.R_drewN | apply Kd.R_drew)); exact HO826.out))) (below_size (by repeat (first | (with_reducible first | exact HB.out | apply below_alloc | apply pw_below_drewN | apply below_drew1 | refine below_set ?_ GE817.out) | exact HB.out)))); have n3_ := Aside0.mk (blk_below (g := gb817) (o := .cells #[.slice A0_0 l0_0.length c0_0, .int .i64 a0_1, .int .i64 a0_2] 53 (0, 0)) (by (with_reducible repeat (first | refine blk_drewN ?_ _ | refine blk_drew ?_ | refine blk_alloc ?_ _)); exact BK817.out) hb); have n4_ := Aside0.mk (below_step (by repeat (first | (with_reducible first | exact HB.out | apply below_alloc | apply pw_below_drewN | apply below_drew1 | refine below_set ?_ GE817.out) | exact HB.out)) hb); clear HO821; clear HO826; clear BK817; clear HB; have HO821 := n0_; have HO826 := n1_; have HO830 := n2_; have BK817 := n3_; have HB := n4_; clear n0_ n1_ n2_ n3_ n4_; (try clear hb); (try clear hb2); (try clear hk); (try clear hi); (try clear ho0)) | ((with_reducible refine gate_dst (N := 8) rfl ?_); refine box_event ?hg (N := 8) ?hd (cs := #[.slice none 0 0, .int .i64 0, .int .i64 0]) (t := 35) ?hr ?_; (case hd => rfl); (case hg => rfl); (case hr => first | (go_simp; done) | (go_simp; rfl)); intro gb833 hg w22 hbox hb; have n0_ := Aside0.mk (Kd.R_below (by (with_reducible repeat (first | apply Kd.R_alloc | apply Kd.R_drewN | apply Kd.R_drew)); exact HO821.out) hb); have n1_ := Aside0.mk (Kd.R_below (by (with_reducible repeat (first | apply Kd.R_alloc | apply Kd.R_drewN | apply Kd.R_drew)); exact HO826.out) hb); have n2_ := Aside0.mk (Kd.R_below (by (with_reducible repeat (first | apply Kd.R_alloc | apply Kd.R_drewN | apply Kd.R_drew)); exact HO830.out) hb); have n3_ := Aside0.mk (blk_below (g := gb817) (o := .cells #[.slice A0_0 l0_0.length c0_0, .int .i64 a0_1, .int .i64 a0_2] 53 (0, 0)) (by (with_reducible repeat (first | refine blk_drewN ?_ _ | refine blk_drew ?_ | refine blk_alloc ?_ _)); exact BK817.out) hb); have n4_ := Aside0.mk (below_step (by repeat (first | (with_reducible first | exact HB.out | apply below_alloc | apply pw_below_drewN | apply below_drew1 | refine below_set ?_ GE817.out) | exact HB.out)) hb); have n5_ := Aside0.mk (hbox); have n6_ := Aside0.mk ((by rw [hg]; exact (below_size (by repeat (first | (with_reducible first | exact HB.out | apply below_alloc | apply pw_below_drewN | apply below_drew1 | refine below_set ?_ GE817.out) | exact HB.out))) : w.heap.size ≤ gb833)); have n7_ := Aside0.mk ((by rw [hg]; exact (below_size (by repeat (first | (with_reducible first | exact HB.out | apply below_alloc | apply pw_below_drewN | apply below_drew1 | refine below_set ?_ GE817.out) | exact HB.out))) : w.heap.size ≤ gb833)); have n8_ := Aside0.mk ((by rw [hg]; exact Nat.ne_of_lt (blk_lt (g := gb817) (o := .cells #[.slice A0_0 l0_0.length c0_0, .int .i64 a0_1, .int .i64 a0_2] 53 (0, 0)) (by (with_reducible repeat (first | refine blk_drewN ?_ _ | refine blk_drew ?_ | refine blk_alloc ?_ _)); exact BK817.out)) : gb817 ≠ gb833)); have n9_ := Aside0.mk ((by rw [hg]; exact Nat.ne_of_gt (blk_lt (g := gb817) (o := .cells #[.slice A0_0 l0_0.length c0_0, .int .i64 a0_1, .int .i64 a0_2] 53 (0, 0)) (by (with_reducible repeat (first | refine blk_drewN ?_ _ | refine blk_drew ?_ | refine blk_alloc ?_ _)); exact BK817.out)) : gb833 ≠ gb817)); clear HO821; clear HO826; clear HO830; clear BK817; clear HB; have HO821 := n0_; have HO826 := n1_; have HO830 := n2_; have BK817 := n3_; have HB := n4_; have BK833 := n5_; have GW833 := n6_; have GE833 := n7_; have NB817_833 := n8_; have NB833_817 := n9_; clear n0_ n1_ n2_ n3_ n4_ n5_ n6_ n7_ n8_ n9_; clear hb hbox hg; obtain ⟨Ao23, co23, eo23⟩ := Kd.R_slice HO830.out; subst eo23; have hnb24 := NB833_817.out; have hnc24 := NB817_833.out; have hcz25_0 : w22.cell? ⟨gb833, 0, none⟩ = some (.slice none 0 0) := (blk_cell BK833.out 0).trans rfl; have hcz25_1 : w22.cell? ⟨gb833, 1, none⟩ = some (.int .i64 0) := (blk_cell BK833.out 1).trans rfl; have hcz25_2 : w22.cell? ⟨gb833, 2, none⟩ = some (.int .i64 0) := (blk_cell BK833.out 2).trans rfl; have hfz25_0 := blk_frozen BK833.out 0; have hfz25_1 := blk_frozen BK833.out 1; have hfz25_2 := blk_frozen BK833.out 2) | ((with_reducible refine gate_callee (f := 43) rfl ?_); refine goesL_ (some 33) rfl rfl Try.func43 (by kernel_rfl) rfl #[.agg #[.slice Ao23 t828.length co23, .int .i64 t831, .int .i64 t832], .int .i64 a1] rfl (by (try simp only [List.map_toArray, List.map_cons, List.map_nil]); first | done | rfl | (simp only [List.length_drop, List.length_take]; rfl)) ?_; (with_reducible refine (impl_CanStand.calls k _ _ t828 t831 t832 a1 t834 t837 _ ?side1 ?side2 A11.out).mono ?_); (case side1 => refine (Kd.R_reads' (e := 3) (base := w.heap.size) (ok := fun k_ => ((True ∧ some k_ ≠ (.slice Ao18 t819.length co18 : Value).ownBlock) ∧ some k_ ≠ (v825 : Value).ownBlock)) (n := t828.length) (c := co23) ?_).2.2; exact (by (with_reducible repeat (first | apply Kd.R_alloc | apply Kd.R_drewN | apply Kd.R_drew)); exact (Kd.R_mono (Kd.R_far (p := ⟨gb833, 2, none⟩) (Kd.R_far (p := ⟨gb833, 1, none⟩) (Kd.R_far (p := ⟨gb833, 0, none⟩) (Kd.R_types HO830.out BK833.out (by decide)) (fun _ hk => hk.2) (.slice Ao23 t828.length co23)) (fun _ hk => hk.2) (.int .i64 t831)) (fun _ hk => hk.2) (.int .i64 t832)) (fun _ h_ => h_.1)))); (case side2 => exact (Kd.R_reads' HO830.out).2.1); rintro e w26 ⟨v835, rfl, ho0, hb⟩; refine ⟨_, rfl, ?_⟩; have n0_ := Aside0.mk (Kd.R_elder' (by (with_reducible repeat (first | apply Kd.R_alloc | apply Kd.R_drewN | apply Kd.R_drew)); exact (Kd.R_mono (Kd.R_far (p := ⟨gb833, 2, none⟩) (Kd.R_far (p := ⟨gb833, 1, none⟩) (Kd.R_far (p := ⟨gb833, 0, none⟩) (Kd.R_types HO821.out BK833.out (by decide)) (fun _ hk => hk.2) (.slice Ao23 t828.length co23)) (fun _ hk => hk.2) (.int .i64 t831)) (fun _ hk => hk.2) (.int .i64 t832)) (fun _ h_ => h_.1))) (Kd.R_base ho0) hb); have n1_ := Aside0.mk (Kd.R_elder' (by (with_reducible repeat (first | apply Kd.R_alloc | apply Kd.R_drewN | apply Kd.R_drew)); exact (Kd.R_mono (Kd.R_far (p := ⟨gb833, 2, none⟩) (Kd.R_far (p := ⟨gb833, 1, none⟩) (Kd.R_far (p := ⟨gb833, 0, none⟩) (Kd.R_types HO826.out BK833.out (by decide)) (fun _ hk => hk.2) (.slice Ao23 t828.length co23)) (fun _ hk => hk.2) (.int .i64 t831)) (fun _ hk => hk.2) (.int .i64 t832)) (fun _ h_ => h_.1))) (Kd.R_base ho0) hb); have n2_ := Aside0.mk (Kd.R_elder' (by (with_reducible repeat (first | apply Kd.R_alloc | apply Kd.R_drewN | apply Kd.R_drew)); exact (Kd.R_mono (Kd.R_far (p := ⟨gb833, 2, none⟩) (Kd.R_far (p := ⟨gb833, 1, none⟩) (Kd.R_far (p := ⟨gb833, 0, none⟩) (Kd.R_types HO830.out BK833.out (by decide)) (fun _ hk => hk.2) (.slice Ao23 t828.length co23)) (fun _ hk => hk.2) (.int .i64 t831)) (fun _ hk => hk.2) (.int .i64 t832)) (fun _ h_ => h_.1))) (Kd.R_base ho0) hb); have n3_ := Aside0.mk (Kd.R_lower (Kd.R_new' (Kd.R_new' (Kd.R_new' ho0 (Kd.R_lt (by (with_reducible repeat (first | apply Kd.R_alloc | apply Kd.R_drewN | apply Kd.R_drew)); exact (Kd.R_mono (Kd.R_far (p := ⟨gb833, 2, none⟩) (Kd.R_far (p := ⟨gb833, 1, none⟩) (Kd.R_far (p := ⟨gb833, 0, none⟩) (Kd.R_types HO821.out BK833.out (by decide)) (fun _ hk => hk.2) (.slice Ao23 t828.length co23)) (fun _ hk => hk.2) (.int .i64 t831)) (fun _ hk => hk.2) (.int .i64 t832)) (fun _ h_ => h_.1))))) (Kd.R_lt (by (with_reducible repeat (first | apply Kd.R_alloc | apply Kd.R_drewN | apply Kd.R_drew)); exact (Kd.R_mono (Kd.R_far (p := ⟨gb833, 2, none⟩) (Kd.R_far (p := ⟨gb833, 1, none⟩) (Kd.R_far (p := ⟨gb833, 0, none⟩) (Kd.R_types HO826.out BK833.out (by decide)) (fun _ hk => hk.2) (.slice Ao23 t828.length co23)) (fun _ hk => hk.2) (.int .i64 t831)) (fun _ hk => hk.2) (.int .i64 t832)) (fun _ h_ => h_.1))))) (Kd.R_lt (by (with_reducible repeat (first | apply Kd.R_alloc | apply Kd.R_drewN | apply Kd.R_drew)); exact (Kd.R_mono (Kd.R_far (p := ⟨gb833, 2, none⟩) (Kd.R_far (p := ⟨gb833, 1, none⟩) (Kd.R_far (p := ⟨gb833, 0, none⟩) (Kd.R_types HO830.out BK833.out (by decide)) (fun _ hk => hk.2) (.slice Ao23 t828.length co23)) (fun _ hk => hk.2) (.int .i64 t831)) (fun _ hk => hk.2) (.int .i64 t832)) (fun _ h_ => h_.1))))) (below_size (by repeat (first | (with_reducible first | exact HB.out | apply below_alloc | apply pw_below_drewN | apply below_drew1 | refine below_set ?_ GE817.out | refine below_set ?_ GE833.out) | exact HB.out)))); have n4_ := Aside0.mk (blk_below (g := gb817) (o := .cells #[.slice A0_0 l0_0.length c0_0, .int .i64 a0_1, .int .i64 a0_2] 53 (0, 0)) (by (with_reducible repeat (first | refine blk_drewN ?_ _ | refine blk_drew ?_ | refine blk_alloc ?_ _)); refine blk_far ?_ NB817_833.out _; (with_reducible repeat (first | refine blk_drewN ?_ _ | refine blk_drew ?_ | refine blk_alloc ?_ _)); refine blk_far ?_ NB817_833.out _; (with_reducible repeat (first | refine blk_drewN ?_ _ | refine blk_drew ?_ | refine blk_alloc ?_ _)); refine blk_far ?_ NB817_833.out _; (with_reducible repeat (first | refine blk_drewN ?_ _ | refine blk_drew ?_ | refine blk_alloc ?_ _)); exact BK817.out) hb); have n5_ := Aside0.mk (blk_below (g := gb833) (o := .cells #[.slice Ao23 t828.length co23, .int .i64 t831, .int .i64 t832] 35 (0, 0)) (by (with_reducible repeat (first | refine blk_drewN ?_ _ | refine blk_drew ?_ | refine blk_alloc ?_ _)); refine blk_put (cs := #[.slice Ao23 t828.length co23, .int .i64 t831, .int .i64 0]) ?_ 2 _ rfl; (with_reducible repeat (first | refine blk_drewN ?_ _ | refine blk_drew ?_ | refine blk_alloc ?_ _)); refine blk_put (cs := #[.slice Ao23 t828.length co23, .int .i64 0, .int .i64 0]) ?_ 1 _ rfl; (with_reducible repeat (first | refine blk_drewN ?_ _ | refine blk_drew ?_ | refine blk_alloc ?_ _)); refine blk_put (cs := #[.slice none 0 0, .int .i64 0, .int .i64 0]) ?_ 0 _ rfl; (with_reducible repeat (first | refine blk_drewN ?_ _ | refine blk_drew ?_ | refine blk_alloc ?_ _)); exact BK833.out) hb); have n6_ := Aside0.mk (below_step (by repeat (first | (with_reducible first | exact HB.out | apply below_alloc | apply pw_below_drewN | apply below_drew1 | refine below_set ?_ GE817.out | refine below_set ?_ GE833.out) | exact HB.out)) hb); clear HO821; clear HO826; clear HO830; clear BK817; clear BK833; clear HB; have HO821 := n0_; have HO826 := n1_; have HO830 := n2_; have HO836 := n3_; have BK817 := n4_; have BK833 := n5_; have HB := n6_; clear n0_ n1_ n2_ n3_ n4_ n5_ n6_; (try clear hb); (try clear hb2); (try clear hk); (try clear hi); (try clear ho0)))
    (try simp only [Act.put, List.setIfInBounds_toArray, List.set_cons_zero, List.set_cons_succ])
    go_cut [44] (fun v44 wc => ∃ (kq : Nat) (x44_11 : Bool), v44 = .bool x44_11 ∧ Aside0 (laws_FnExactCanStand.j0 kq a1 t824 t827 t834 t837 x44_11 l0_0 a0_1 a0_2 t828 t831 t832 = some r) ∧ Aside0 (kq ≤ k) ∧ Aside0 (Kd.R (Kd.int .i64) 3 wc w.heap.size (fun k_ => some k_ ≠ (v835 : Value).ownBlock ∧ some k_ ≠ ((.slice Ao23 t828.length co23) : Value).ownBlock) v825 t824) ∧ Aside0 (Kd.R (Kd.int .i64) 3 wc w.heap.size (fun k_ => some k_ ≠ (v825 : Value).ownBlock ∧ some k_ ≠ ((.slice Ao23 t828.length co23) : Value).ownBlock) v835 t834) ∧ Aside0 (Kd.R (Kd.int .i64) 3 wc w.heap.size (fun k_ => some k_ ≠ (v825 : Value).ownBlock ∧ some k_ ≠ (v835 : Value).ownBlock) (.slice Ao23 t828.length co23) t828) ∧ Aside0 (wc.heap[gb817]? = some (.cells #[(.slice A0_0 l0_0.length c0_0), .int .i64 a0_1, .int .i64 a0_2] 53 (0, 0))) ∧ Aside0 (wc.heap[gb833]? = some (.cells #[(.slice Ao23 t828.length co23), .int .i64 t831, .int .i64 t832] 35 (0, 0))) ∧ Aside0 (Below w.heap.size w wc))
    case first =>
      have H := HC12.out
      clear HC12
      replace H := Option.bind_eq_some_iff.mp H
      obtain ⟨t838, A270, H⟩ := H
      replace H : (if t838 = true then (laws_FnExactCanStand.j0 k a1 t824 t827 t834 t837 (t837 != t827) l0_0 a0_1 a0_2 t828 t831 t832) else (laws_FnExactCanStand.j0 k a1 t824 t827 t834 t837 true l0_0 a0_1 a0_2 t828 t831 t832)) = some r := H
      have A27 := Aside0.mk A270
      clear A270
      by_cases c28 : t838 = true
      · subst c28
        have H1 : (laws_FnExactCanStand.j0 k a1 t824 t827 t834 t837 (t837 != t827) l0_0 a0_1 a0_2 t828 t831 t832) = some r := by rw [if_pos rfl] at H; exact H
        clear H
        have H := H1
        clear H1
        have H' := Aside0.mk H
        clear H
        obtain ⟨Ao29, co29, eo29⟩ := Kd.R_slice HO836.out
        subst eo29
        obtain ⟨Ao30, co30, eo30⟩ := Kd.R_slice HO826.out
        subst eo30
        go_wp2_with (first | ((with_reducible refine gate_callee (f := 24) rfl ?_); refine goesL_ (some 38) rfl rfl Try.func24 (by kernel_rfl) rfl #[.slice Ao29 t834.length co29, .slice Ao30 t824.length co30] rfl (by (try simp only [List.map_toArray, List.map_cons, List.map_nil]); first | done | rfl | (simp only [List.length_drop, List.length_take]; rfl)) ?_; (with_reducible refine (laws_eqIntS.calls k _ _ t834 _ _ t824 true _ ?side1 ?side2 ?side3 ?side4 A27.out).mono ?_); (case side1 => repeat (first | exact (Kd.R_reads' HO836.out).2.2 | (with_reducible refine Kd.C_alloc ?_ _) | (with_reducible refine Kd.C_drewN ?_ _) | (with_reducible refine Kd.C_drew ?_))); (case side2 => exact (Kd.R_reads' HO836.out).2.1); (case side3 => repeat (first | exact (Kd.R_reads' HO826.out).2.2 | (with_reducible refine Kd.C_alloc ?_ _) | (with_reducible refine Kd.C_drewN ?_ _) | (with_reducible refine Kd.C_drew ?_))); (case side4 => exact (Kd.R_reads' HO826.out).2.1); rintro e w' ⟨rfl, ⟨nd, rfl⟩⟩; refine ⟨_, rfl, ?_⟩))
        go_meet
        case rel => exact ⟨_, ((t837 != t827)), (by first | rfl | (simp; done) | (simp [*]; done)), H', ⟨by first | omega | exact Nat.le_refl _⟩, ⟨by (with_reducible repeat (first | apply Kd.R_alloc | apply Kd.R_drewN | apply Kd.R_drew)); exact Kd.R_mono HO826.out (fun _ hk => ⟨hk.2, hk.1.2⟩)⟩, ⟨by (with_reducible repeat (first | apply Kd.R_alloc | apply Kd.R_drewN | apply Kd.R_drew)); exact Kd.R_mono HO836.out (fun _ hk => ⟨hk.1.2, hk.2⟩)⟩, ⟨by (with_reducible repeat (first | apply Kd.R_alloc | apply Kd.R_drewN | apply Kd.R_drew)); exact Kd.R_mono HO830.out (fun _ hk => ⟨hk.1.2, hk.2⟩)⟩, ⟨by (with_reducible repeat (first | refine blk_drewN ?_ _ | refine blk_drew ?_ | refine blk_alloc ?_ _)); exact BK817.out⟩, ⟨by (with_reducible repeat (first | refine blk_drewN ?_ _ | refine blk_drew ?_ | refine blk_alloc ?_ _)); exact BK833.out⟩, ⟨by repeat (first | (with_reducible first | exact HB.out | apply below_alloc | apply pw_below_drewN | apply below_drew1 | refine below_set ?_ GE817.out | refine below_set ?_ GE833.out) | exact HB.out)⟩⟩
      · replace c28 := Bool.eq_false_iff.mpr c28
        subst c28
        have H1 : (laws_FnExactCanStand.j0 k a1 t824 t827 t834 t837 true l0_0 a0_1 a0_2 t828 t831 t832) = some r := by rw [if_neg (show ¬ (false = true) by decide)] at H; exact H
        clear H
        have H := H1
        clear H1
        have H' := Aside0.mk H
        clear H
        obtain ⟨Ao31, co31, eo31⟩ := Kd.R_slice HO836.out
        subst eo31
        obtain ⟨Ao32, co32, eo32⟩ := Kd.R_slice HO826.out
        subst eo32
        go_wp2_with (first | ((with_reducible refine gate_callee (f := 24) rfl ?_); refine goesL_ (some 38) rfl rfl Try.func24 (by kernel_rfl) rfl #[.slice Ao31 t834.length co31, .slice Ao32 t824.length co32] rfl (by (try simp only [List.map_toArray, List.map_cons, List.map_nil]); first | done | rfl | (simp only [List.length_drop, List.length_take]; rfl)) ?_; (with_reducible refine (laws_eqIntS.calls k _ _ t834 _ _ t824 false _ ?side1 ?side2 ?side3 ?side4 A27.out).mono ?_); (case side1 => repeat (first | exact (Kd.R_reads' HO836.out).2.2 | (with_reducible refine Kd.C_alloc ?_ _) | (with_reducible refine Kd.C_drewN ?_ _) | (with_reducible refine Kd.C_drew ?_))); (case side2 => exact (Kd.R_reads' HO836.out).2.1); (case side3 => repeat (first | exact (Kd.R_reads' HO826.out).2.2 | (with_reducible refine Kd.C_alloc ?_ _) | (with_reducible refine Kd.C_drewN ?_ _) | (with_reducible refine Kd.C_drew ?_))); (case side4 => exact (Kd.R_reads' HO826.out).2.1); rintro e w' ⟨rfl, ⟨nd, rfl⟩⟩; refine ⟨_, rfl, ?_⟩))
        go_meet
        case rel => exact ⟨_, (true), (by first | rfl | (simp; done) | (simp [*]; done)), H', ⟨by first | omega | exact Nat.le_refl _⟩, ⟨by (with_reducible repeat (first | apply Kd.R_alloc | apply Kd.R_drewN | apply Kd.R_drew)); exact Kd.R_mono HO826.out (fun _ hk => ⟨hk.2, hk.1.2⟩)⟩, ⟨by (with_reducible repeat (first | apply Kd.R_alloc | apply Kd.R_drewN | apply Kd.R_drew)); exact Kd.R_mono HO836.out (fun _ hk => ⟨hk.1.2, hk.2⟩)⟩, ⟨by (with_reducible repeat (first | apply Kd.R_alloc | apply Kd.R_drewN | apply Kd.R_drew)); exact Kd.R_mono HO830.out (fun _ hk => ⟨hk.1.2, hk.2⟩)⟩, ⟨by (with_reducible repeat (first | refine blk_drewN ?_ _ | refine blk_drew ?_ | refine blk_alloc ?_ _)); exact BK817.out⟩, ⟨by (with_reducible repeat (first | refine blk_drewN ?_ _ | refine blk_drew ?_ | refine blk_alloc ?_ _)); exact BK833.out⟩, ⟨by repeat (first | (with_reducible first | exact HB.out | apply below_alloc | apply pw_below_drewN | apply below_drew1 | refine below_set ?_ GE817.out | refine below_set ?_ GE833.out) | exact HB.out)⟩⟩
    case rest =>
      clear HC12
      try clear c1
      try clear c2
      try clear p2
      try clear c4
      try clear c4b0
      try clear c10
      try clear c24
      try clear c28
      try clear hcz14_0
      try clear hcz14_1
      try clear hcz14_2
      try clear hcz16_0
      try clear hcz16_1
      try clear hcz16_2
      try clear hcz20_0
      try clear hcz20_1
      try clear hcz20_2
      try clear hcz25_0
      try clear hcz25_1
      try clear hcz25_2
      try clear hcz6_0
      try clear hcz6_1
      try clear hcz6_2
      try clear hfz14_0
      try clear hfz14_1
      try clear hfz14_2
      try clear hfz16_0
      try clear hfz16_1
      try clear hfz16_2
      try clear hfz20_0
      try clear hfz20_1
      try clear hfz20_2
      try clear hfz25_0
      try clear hfz25_1
      try clear hfz25_2
      try clear hfz6_0
      try clear hfz6_1
      try clear hfz6_2
      obtain ⟨kq, x44_11, rfl, HA, HJ11, HO_6, HO_9, HO_834000, BK817, BK833, HB⟩ := hcut
      cases kq with
      | zero => exact absurd HA.out (by simp [laws_FnExactCanStand.j0])
      | succ kj11 =>
        have H := HA.out
        clear HA
        simp only [laws_FnExactCanStand.j0] at H
        by_cases c33 : x44_11 = true
        · subst c33
          have H1 : (some false) = some r := by rw [if_pos rfl] at H; exact H
          clear H
          have H := H1
          clear H1
          obtain rfl := Option.some.inj H
          go_wp2
          go_ret
          exact ⟨by first | rfl | (simp [errW_none, errW_some] <;> rfl) | (simp [*, errW_none, errW_some] <;> rfl), by repeat (first | (with_reducible first | exact HB.out | apply below_alloc | apply pw_below_drewN | apply below_drew1 | refine below_set ?_ GE817.out | refine below_set ?_ GE833.out) | exact HB.out)⟩
        · replace c33 := Bool.eq_false_iff.mpr c33
          subst c33
          have H1 : ((laws_toPuzzle.f kj11 l0_0 a0_1 a0_2).bind fun bt839 => ((laws_eqPuzzle.f kj11 t828 t831 t832 bt839.1 bt839.2.1 bt839.2.2).bind fun t844 => (if t844 = true then ((laws_markPuzzle.f kj11 t828 t831 t832 1).bind fun bt845 => (if bt845.1 < 0 then (laws_FnExactCanStand.j1 kj11 a1 t824 t827 t834 true l0_0 a0_1 a0_2) else ((laws_eqIntS.f kj11 t834 t824).bind fun t847 => (if t847 = true then (laws_FnExactCanStand.j1 kj11 a1 t824 t827 t834 (t837 != t827) l0_0 a0_1 a0_2) else (laws_FnExactCanStand.j1 kj11 a1 t824 t827 t834 true l0_0 a0_1 a0_2))))) else (some false)))) = some r := by rw [if_neg (show ¬ (false = true) by decide)] at H; exact H
          clear H
          have H := H1
          clear H1
          replace H := Option.bind_eq_some_iff.mp H
          obtain ⟨⟨t839, t842, t843⟩, A340, H⟩ := H
          replace H : ((laws_eqPuzzle.f kj11 t828 t831 t832 t839 t842 t843).bind fun t844 => (if t844 = true then ((laws_markPuzzle.f kj11 t828 t831 t832 1).bind fun bt845 => (if bt845.1 < 0 then (laws_FnExactCanStand.j1 kj11 a1 t824 t827 t834 true l0_0 a0_1 a0_2) else ((laws_eqIntS.f kj11 t834 t824).bind fun t847 => (if t847 = true then (laws_FnExactCanStand.j1 kj11 a1 t824 t827 t834 (t837 != t827) l0_0 a0_1 a0_2) else (laws_FnExactCanStand.j1 kj11 a1 t824 t827 t834 true l0_0 a0_1 a0_2))))) else (some false))) = some r := H
          have A34 := Aside0.mk A340
          clear A340
          replace H := Option.bind_eq_some_iff.mp H
          obtain ⟨t844, A350, H⟩ := H
          replace H : (if t844 = true then ((laws_markPuzzle.f kj11 t828 t831 t832 1).bind fun bt845 => (if bt845.1 < 0 then (laws_FnExactCanStand.j1 kj11 a1 t824 t827 t834 true l0_0 a0_1 a0_2) else ((laws_eqIntS.f kj11 t834 t824).bind fun t847 => (if t847 = true then (laws_FnExactCanStand.j1 kj11 a1 t824 t827 t834 (t837 != t827) l0_0 a0_1 a0_2) else (laws_FnExactCanStand.j1 kj11 a1 t824 t827 t834 true l0_0 a0_1 a0_2))))) else (some false)) = some r := H
          have A35 := Aside0.mk A350
          clear A350
          by_cases c36 : t844 = true
          · subst c36
            have H1 : ((laws_markPuzzle.f kj11 t828 t831 t832 1).bind fun bt845 => (if bt845.1 < 0 then (laws_FnExactCanStand.j1 kj11 a1 t824 t827 t834 true l0_0 a0_1 a0_2) else ((laws_eqIntS.f kj11 t834 t824).bind fun t847 => (if t847 = true then (laws_FnExactCanStand.j1 kj11 a1 t824 t827 t834 (t837 != t827) l0_0 a0_1 a0_2) else (laws_FnExactCanStand.j1 kj11 a1 t824 t827 t834 true l0_0 a0_1 a0_2))))) = some r := by rw [if_pos rfl] at H; exact H
            clear H
            have H := H1
            clear H1
            replace H := Option.bind_eq_some_iff.mp H
            obtain ⟨⟨t845, t846⟩, A370, H⟩ := H
            replace H : (if t845 < 0 then (laws_FnExactCanStand.j1 kj11 a1 t824 t827 t834 true l0_0 a0_1 a0_2) else ((laws_eqIntS.f kj11 t834 t824).bind fun t847 => (if t847 = true then (laws_FnExactCanStand.j1 kj11 a1 t824 t827 t834 (t837 != t827) l0_0 a0_1 a0_2) else (laws_FnExactCanStand.j1 kj11 a1 t824 t827 t834 true l0_0 a0_1 a0_2)))) = some r := H
            have A37 := Aside0.mk A370
            clear A370
            have HC38 := Aside0.mk H
            clear H
            try go_wp2
            have n0_ := Aside0.mk (Kd.R_drew HO_6.out)
            have n1_ := Aside0.mk (Kd.R_drew HO_9.out)
            have n2_ := Aside0.mk (Kd.R_drew HO_834000.out)
            have n3_ := Aside0.mk (blk_drew BK817.out)
            have n4_ := Aside0.mk (blk_drew BK833.out)
            have n5_ := Aside0.mk (below_drew1 HB.out)
            clear HO_6
            clear HO_9
            clear HO_834000
            clear BK817
            clear BK833
            clear HB
            have HO_6 := n0_
            have HO_9 := n1_
            have HO_834000 := n2_
            have BK817 := n3_
            have BK833 := n4_
            have HB := n5_
            clear n0_ n1_ n2_ n3_ n4_ n5_
            refine start_ (n := 5) (S := fun w' => w'.cell? ⟨gb833, 0, none⟩ = some (.slice Ao23 t828.length co23) ∧ w'.cell? ⟨gb833, 1, none⟩ = some (.int .i64 t831) ∧ w'.cell? ⟨gb833, 2, none⟩ = some (.int .i64 t832) ∧ w'.cell? ⟨gb817, 0, none⟩ = some (.slice A0_0 l0_0.length c0_0) ∧ w'.cell? ⟨gb817, 1, none⟩ = some (.int .i64 a0_1) ∧ w'.cell? ⟨gb817, 2, none⟩ = some (.int .i64 a0_2)) (ds := []) #[false, false, false, false, false] (by kernel_rfl) rfl rfl ⟨(blk_cell BK833.out 0).trans rfl, (blk_cell BK833.out 1).trans rfl, (blk_cell BK833.out 2).trans rfl, (blk_cell BK817.out 0).trans rfl, (blk_cell BK817.out 1).trans rfl, (blk_cell BK817.out 2).trans rfl⟩ (fun hHeld => ?_)
            generalize wc.drew = w39 at HO_6 HO_9 HO_834000 BK817 BK833 HB hHeld ⊢
            refine take_ (i := 0) (N := some 45) (v := ?_) (a' := ?_) #[true, false, false, false, false] rfl rfl (by kernel_rfl) (fun _ _ _ h => h) (Or.inl ⟨by rfl, ?_⟩) hHeld ?_ ?_
            rotate_left
            · rintro w' ⟨s0, s1, s2, s3, s4, s5⟩
              go_simp
              with_reducible rfl
            rotate_left
            · simp only [Act.put, List.setIfInBounds_toArray, List.set_cons_zero, List.set_cons_succ, i64_w, i32_w]
              rfl
            refine take_ (i := 1) (N := some 46) (v := ?_) (a' := ?_) #[true, true, false, false, false] rfl rfl (by kernel_rfl) (fun _ _ _ h => h) (Or.inl ⟨by rfl, ?_⟩) hHeld ?_ ?_
            rotate_left
            · rintro w' ⟨s0, s1, s2, s3, s4, s5⟩
              go_simp
              with_reducible rfl
            rotate_left
            · simp only [Act.put, List.setIfInBounds_toArray, List.set_cons_zero, List.set_cons_succ, i64_w, i32_w]
              rfl
            refine one_ (i := 2) (N := some 47) #[true, true, true, false, false] rfl rfl (by kernel_rfl) (by decide) (fun K hK => ?_)
            refine goes_ Try.func42 (by kernel_rfl) rfl #[.agg #[.slice A0_0 l0_0.length c0_0, .int .i64 a0_1, .int .i64 a0_2]] (by rfl) rfl rfl (by (try simp only [List.map_toArray, List.map_cons, List.map_nil]); first | done | rfl | (simp only [List.length_drop, List.length_take]; rfl)) ?_
            with_reducible refine (laws_toPuzzle.calls kj11 _ _ l0_0 a0_1 a0_2 t839 t842 t843 _ ?side1 ?side2 A34.out).mono ?_
            (case side1 => repeat (first | exact (Kd.C_below HR0_0.out HB.out) | (with_reducible refine Kd.C_alloc ?_ _) | (with_reducible refine Kd.C_drewN ?_ _) | (with_reducible refine Kd.C_drew ?_)))
            (case side2 => exact HC0_0.out)
            rintro e w40 ⟨v840, rfl, ho0, hb⟩
            refine ⟨_, rfl, ?_⟩
            have n0_ := Aside0.mk (Kd.R_elder' (by (with_reducible repeat (first | apply Kd.R_alloc | apply Kd.R_drewN | apply Kd.R_drew)); exact HO_6.out) (Kd.R_base ho0) hb)
            have n1_ := Aside0.mk (Kd.R_elder' (by (with_reducible repeat (first | apply Kd.R_alloc | apply Kd.R_drewN | apply Kd.R_drew)); exact HO_9.out) (Kd.R_base ho0) hb)
            have n2_ := Aside0.mk (Kd.R_elder' (by (with_reducible repeat (first | apply Kd.R_alloc | apply Kd.R_drewN | apply Kd.R_drew)); exact HO_834000.out) (Kd.R_base ho0) hb)
            have n3_ := Aside0.mk (Kd.R_lower (Kd.R_new' (Kd.R_new' (Kd.R_new' ho0 (Kd.R_lt (by (with_reducible repeat (first | apply Kd.R_alloc | apply Kd.R_drewN | apply Kd.R_drew)); exact HO_6.out))) (Kd.R_lt (by (with_reducible repeat (first | apply Kd.R_alloc | apply Kd.R_drewN | apply Kd.R_drew)); exact HO_9.out))) (Kd.R_lt (by (with_reducible repeat (first | apply Kd.R_alloc | apply Kd.R_drewN | apply Kd.R_drew)); exact HO_834000.out))) (below_size (by repeat (first | (with_reducible first | exact HB.out | apply below_alloc | apply pw_below_drewN | apply below_drew1 | refine below_set ?_ GE817.out | refine below_set ?_ GE833.out) | exact HB.out))))
            have n4_ := Aside0.mk (blk_below (g := gb817) (o := .cells #[.slice A0_0 l0_0.length c0_0, .int .i64 a0_1, .int .i64 a0_2] 53 (0, 0)) (by (with_reducible repeat (first | refine blk_drewN ?_ _ | refine blk_drew ?_ | refine blk_alloc ?_ _)); exact BK817.out) hb)
            have n5_ := Aside0.mk (blk_below (g := gb833) (o := .cells #[.slice Ao23 t828.length co23, .int .i64 t831, .int .i64 t832] 35 (0, 0)) (by (with_reducible repeat (first | refine blk_drewN ?_ _ | refine blk_drew ?_ | refine blk_alloc ?_ _)); exact BK833.out) hb)
            have n6_ := Aside0.mk (below_step (by repeat (first | (with_reducible first | exact HB.out | apply below_alloc | apply pw_below_drewN | apply below_drew1 | refine below_set ?_ GE817.out | refine below_set ?_ GE833.out) | exact HB.out)) hb)
            clear HO_6
            clear HO_9
            clear HO_834000
            clear BK817
            clear BK833
            clear HB
            have HO_6 := n0_
            have HO_9 := n1_
            have HO_834000 := n2_
            have HO841 := n3_
            have BK817 := n4_
            have BK833 := n5_
            have HB := n6_
            clear n0_ n1_ n2_ n3_ n4_ n5_ n6_
            (try clear hb)
            (try clear hb2)
            (try clear hk)
            (try clear hi)
            (try clear ho0)
            obtain ⟨Ao41, co41, eo41⟩ := Kd.R_slice HO841.out
            (first | subst eo41 | (injection eo41 with f1_ f2_ f3_; have f4_ := f1_.symm; have f5_ := f3_.symm; clear f1_ f2_ f3_; subst f4_; subst f5_))
            refine hK.out _ _ ⟨(blk_cell BK833.out 0).trans rfl, (blk_cell BK833.out 1).trans rfl, (blk_cell BK833.out 2).trans rfl, (blk_cell BK817.out 0).trans rfl, (blk_cell BK817.out 1).trans rfl, (blk_cell BK817.out 2).trans rfl⟩ (fun hHeld => ?_)
            clear hK K
            refine norm_ (a' := ?_) ?_ ?_
            rotate_left
            · show Act.put _ (some 47) _ = _
              simp only [Act.put, List.setIfInBounds_toArray, List.set_cons_zero, List.set_cons_succ, i64_w, i32_w]
              rfl
            refine one_ (i := 3) (N := some 48) #[true, true, true, true, false] rfl rfl (by kernel_rfl) (by decide) (fun K hK => ?_)
            refine goes_ Try.func23 (by kernel_rfl) rfl #[.agg #[.slice Ao23 t828.length co23, .int .i64 t831, .int .i64 t832], .agg #[.slice Ao41 t839.length co41, .int .i64 t842, .int .i64 t843]] (by rfl) rfl rfl (by (try simp only [List.map_toArray, List.map_cons, List.map_nil]); first | done | rfl | (simp only [List.length_drop, List.length_take]; rfl)) ?_
            with_reducible refine (laws_eqPuzzle.calls kj11 _ _ t828 t831 t832 _ _ t839 t842 t843 true _ ?side1 ?side2 ?side3 ?side4 A35.out).mono ?_
            (case side1 => repeat (first | exact (Kd.R_reads' HO_834000.out).2.2 | (with_reducible refine Kd.C_alloc ?_ _) | (with_reducible refine Kd.C_drewN ?_ _) | (with_reducible refine Kd.C_drew ?_)))
            (case side2 => exact (Kd.R_reads' HO_834000.out).2.1)
            (case side3 => repeat (first | exact (Kd.R_reads' HO841.out).2.2 | (with_reducible refine Kd.C_alloc ?_ _) | (with_reducible refine Kd.C_drewN ?_ _) | (with_reducible refine Kd.C_drew ?_)))
            (case side4 => exact (Kd.R_reads' HO841.out).2.1)
            rintro e w42 ⟨rfl, hb⟩
            refine ⟨_, rfl, ?_⟩
            have n0_ := Aside0.mk (Kd.R_below (by (with_reducible repeat (first | apply Kd.R_alloc | apply Kd.R_drewN | apply Kd.R_drew)); exact HO_6.out) hb)
            have n1_ := Aside0.mk (Kd.R_below (by (with_reducible repeat (first | apply Kd.R_alloc | apply Kd.R_drewN | apply Kd.R_drew)); exact HO_9.out) hb)
            have n2_ := Aside0.mk (Kd.R_below (by (with_reducible repeat (first | apply Kd.R_alloc | apply Kd.R_drewN | apply Kd.R_drew)); exact HO_834000.out) hb)
            have n3_ := Aside0.mk (Kd.R_below (by (with_reducible repeat (first | apply Kd.R_alloc | apply Kd.R_drewN | apply Kd.R_drew)); exact HO841.out) hb)
            have n4_ := Aside0.mk (blk_below (g := gb817) (o := .cells #[.slice A0_0 l0_0.length c0_0, .int .i64 a0_1, .int .i64 a0_2] 53 (0, 0)) (by (with_reducible repeat (first | refine blk_drewN ?_ _ | refine blk_drew ?_ | refine blk_alloc ?_ _)); exact BK817.out) hb)
            have n5_ := Aside0.mk (blk_below (g := gb833) (o := .cells #[.slice Ao23 t828.length co23, .int .i64 t831, .int .i64 t832] 35 (0, 0)) (by (with_reducible repeat (first | refine blk_drewN ?_ _ | refine blk_drew ?_ | refine blk_alloc ?_ _)); exact BK833.out) hb)
            have n6_ := Aside0.mk (below_step (by repeat (first | (with_reducible first | exact HB.out | apply below_alloc | apply pw_below_drewN | apply below_drew1 | refine below_set ?_ GE817.out | refine below_set ?_ GE833.out) | exact HB.out)) hb)
            clear HO_6
            clear HO_9
            clear HO_834000
            clear HO841
            clear BK817
            clear BK833
            clear HB
            have HO_6 := n0_
            have HO_9 := n1_
            have HO_834000 := n2_
            have HO841 := n3_
            have BK817 := n4_
            have BK833 := n5_
            have HB := n6_
            clear n0_ n1_ n2_ n3_ n4_ n5_ n6_
            (try clear hb)
            (try clear hb2)
            (try clear hk)
            (try clear hi)
            refine hK.out _ _ ⟨(blk_cell BK833.out 0).trans rfl, (blk_cell BK833.out 1).trans rfl, (blk_cell BK833.out 2).trans rfl, (blk_cell BK817.out 0).trans rfl, (blk_cell BK817.out 1).trans rfl, (blk_cell BK817.out 2).trans rfl⟩ (fun hHeld => ?_)
            clear hK K
            refine norm_ (a' := ?_) ?_ ?_
            rotate_left
            · show Act.put _ (some 48) _ = _
              simp only [Act.put, List.setIfInBounds_toArray, List.set_cons_zero, List.set_cons_succ, i64_w, i32_w]
              rfl
            refine pure_ (i := 4) (N := some 49) (v := ?_) (a' := ?_) #[true, true, true, true, true] rfl rfl (by kernel_rfl) (fun _ _ _ h => h) (Or.inl ⟨by rfl, ?_⟩) ?_ ?_
            rotate_left
            · intro w'
              go_simp
              with_reducible rfl
            rotate_left
            · simp only [Act.put, List.setIfInBounds_toArray, List.set_cons_zero, List.set_cons_succ, i64_w, i32_w]
              rfl
            refine done_ (by kernel_rfl) ?_
            have hnb43 := NB833_817.out
            have hnc43 := NB817_833.out
            have hcz44_0 : w42.cell? ⟨gb833, 0, none⟩ = some (.slice Ao23 t828.length co23) := (blk_cell BK833.out 0).trans rfl
            have hcz44_1 : w42.cell? ⟨gb833, 1, none⟩ = some (.int .i64 t831) := (blk_cell BK833.out 1).trans rfl
            have hcz44_2 : w42.cell? ⟨gb833, 2, none⟩ = some (.int .i64 t832) := (blk_cell BK833.out 2).trans rfl
            have hfz44_0 := blk_frozen BK833.out 0
            have hfz44_1 := blk_frozen BK833.out 1
            have hfz44_2 := blk_frozen BK833.out 2
            go_upto_region 14 with (first | ((with_reducible refine gate_callee (f := 26) rfl ?_); refine goesL_ (some 52) rfl rfl Try.func26 (by kernel_rfl) rfl #[.agg #[.slice Ao23 t828.length co23, .int .i64 t831, .int .i64 t832], .int .i64 1] rfl (by (try simp only [List.map_toArray, List.map_cons, List.map_nil]); first | done | rfl | (simp only [List.length_drop, List.length_take]; rfl)) ?_; (with_reducible refine (laws_markPuzzle.calls kj11 (fun k_ => some k_ = (.slice Ao23 t828.length co23 : Value).ownBlock) (.slice Ao23 t828.length co23) t828 t831 t832 1 t845 t846 w _ ?side1 ?side2 A37.out).mono ?_); (case side1 => repeat (first | (with_reducible first | exact HB.out | apply below_alloc | apply pw_below_drewN | apply below_drew1 | refine below_set ?_ GE817.out | refine below_set ?_ GE833.out) | exact HB.out)); (case side2 => exact Kd.R_tight rfl HO_834000.out); rintro e w45 ⟨rfl, hy0, hb, hkp⟩; refine ⟨_, rfl, ?_⟩; have n0_ := Aside0.mk (Kd.R_mono (ok' := fun k_ => some k_ ≠ (v835 : Value).ownBlock ∧ some k_ ≠ (.slice Ao23 t828.length co23 : Value).ownBlock ∧ some k_ ≠ (.slice Ao41 t839.length co41 : Value).ownBlock) (Kd.R_keptB (HO_6.out) hkp (fun k_ hk_ hs_ => (hk_.1.2) hs_)) (fun k_ hk_ => ⟨hk_.1.1.1, hk_.1.1.2, hk_.1.2⟩)); have n1_ := Aside0.mk (Kd.R_mono (ok' := fun k_ => some k_ ≠ (v825 : Value).ownBlock ∧ some k_ ≠ (.slice Ao23 t828.length co23 : Value).ownBlock ∧ some k_ ≠ (.slice Ao41 t839.length co41 : Value).ownBlock) (Kd.R_keptB (HO_9.out) hkp (fun k_ hk_ hs_ => (hk_.1.2) hs_)) (fun k_ hk_ => ⟨hk_.1.1.1, hk_.1.1.2, hk_.1.2⟩)); have n2_ := Aside0.mk (Kd.R_reok rfl hy0 (fun k_ e_ => HO_834000.out.1 k_ e_)); have n3_ := Aside0.mk (blk_kept (by (with_reducible repeat (first | refine blk_drewN ?_ _ | refine blk_drew ?_ | refine blk_alloc ?_ _)); exact BK817.out) hkp (fun hs_ => (fun e_ => (Kd.R_ne HO_834000.out BK817.out (by decide)) e_) hs_)); have n4_ := Aside0.mk (blk_kept (by (with_reducible repeat (first | refine blk_drewN ?_ _ | refine blk_drew ?_ | refine blk_alloc ?_ _)); exact BK833.out) hkp (fun hs_ => (fun e_ => (Kd.R_ne HO_834000.out BK833.out (by decide)) e_) hs_)); have n5_ := Aside0.mk (Kd.R_mono (ok' := fun k_ => some k_ ≠ (v825 : Value).ownBlock ∧ some k_ ≠ (v835 : Value).ownBlock ∧ some k_ ≠ (.slice Ao23 t828.length co23 : Value).ownBlock) (Kd.R_keptB (HO841.out) hkp (fun k_ hk_ hs_ => (hk_.2) hs_)) (fun k_ hk_ => ⟨hk_.1.1.1.2, hk_.1.1.2, hk_.1.2⟩)); have n6_ := Aside0.mk (hb); clear HO_6; clear HO_9; clear HO_834000; clear BK817; clear BK833; clear HO841; clear HB; have HO_6 := n0_; have HO_9 := n1_; have HO_834000 := n2_; have BK817 := n3_; have BK833 := n4_; have HO841 := n5_; have HB := n6_; clear n0_ n1_ n2_ n3_ n4_ n5_ n6_; (try clear hb); (try clear hkp); (try clear hy0)))
            (try simp only [Act.put, List.setIfInBounds_toArray, List.set_cons_zero, List.set_cons_succ])
            go_cut [65] (fun v65 wc => ∃ (kq : Nat) (x65_37 : Bool), v65 = .bool x65_37 ∧ Aside0 (laws_FnExactCanStand.j1 kq a1 t824 t827 t834 x65_37 l0_0 a0_1 a0_2 = some r) ∧ Aside0 (kq ≤ kj11) ∧ Aside0 (Kd.R (Kd.int .i64) 3 wc w.heap.size (fun k_ => some k_ ≠ (v835 : Value).ownBlock ∧ some k_ ≠ ((.slice Ao23 t828.length co23) : Value).ownBlock) v825 t824) ∧ Aside0 (Kd.R (Kd.int .i64) 3 wc w.heap.size (fun k_ => some k_ ≠ (v825 : Value).ownBlock ∧ some k_ ≠ ((.slice Ao23 t828.length co23) : Value).ownBlock) v835 t834) ∧ Aside0 (Kd.R (Kd.int .i64) 3 wc w.heap.size (fun k_ => some k_ ≠ (v825 : Value).ownBlock ∧ some k_ ≠ (v835 : Value).ownBlock) (.slice Ao23 t828.length co23) t846) ∧ Aside0 (wc.heap[gb817]? = some (.cells #[(.slice A0_0 l0_0.length c0_0), .int .i64 a0_1, .int .i64 a0_2] 53 (0, 0))) ∧ Aside0 (wc.heap[gb833]? = some (.cells #[(.slice Ao23 t828.length co23), .int .i64 t831, .int .i64 t832] 35 (0, 0))) ∧ Aside0 (Below w.heap.size w wc))
            case first =>
              have H := HC38.out
              clear HC38
              by_cases c46 : t845 < 0
              · rw [if_pos c46] at H
                have c46b0 : decide (t845 < 0) = true := decide_eq_true c46
                clear c46
                (first | rw [c46b0] | (simp only [i64_w, i32_w]; rw [c46b0]) | skip)
                have H' := Aside0.mk H
                clear H
                go_wp2
                go_meet
                case rel => exact ⟨_, (true), (by first | rfl | (simp; done) | (simp [*]; done)), H', ⟨by have := HJ11.out; first | omega | exact Nat.le_refl _⟩, ⟨by (with_reducible repeat (first | apply Kd.R_alloc | apply Kd.R_drewN | apply Kd.R_drew)); exact Kd.R_mono HO_6.out (fun _ hk => ⟨hk.1, hk.2.1⟩)⟩, ⟨by (with_reducible repeat (first | apply Kd.R_alloc | apply Kd.R_drewN | apply Kd.R_drew)); exact Kd.R_mono HO_9.out (fun _ hk => ⟨hk.1, hk.2.1⟩)⟩, ⟨by (with_reducible repeat (first | apply Kd.R_alloc | apply Kd.R_drewN | apply Kd.R_drew)); exact Kd.R_mono HO_834000.out (fun _ hk => ⟨hk.1.1, hk.1.2⟩)⟩, ⟨by (with_reducible repeat (first | refine blk_drewN ?_ _ | refine blk_drew ?_ | refine blk_alloc ?_ _)); exact BK817.out⟩, ⟨by (with_reducible repeat (first | refine blk_drewN ?_ _ | refine blk_drew ?_ | refine blk_alloc ?_ _)); exact BK833.out⟩, ⟨by repeat (first | (with_reducible first | exact HB.out | apply below_alloc | apply pw_below_drewN | apply below_drew1 | refine below_set ?_ GE817.out | refine below_set ?_ GE833.out) | exact HB.out)⟩⟩
              · rw [if_neg c46] at H
                have c46b0 : decide (t845 < 0) = false := decide_eq_false c46
                clear c46
                (first | rw [c46b0] | (simp only [i64_w, i32_w]; rw [c46b0]) | skip)
                replace H := Option.bind_eq_some_iff.mp H
                obtain ⟨t847, A470, H⟩ := H
                replace H : (if t847 = true then (laws_FnExactCanStand.j1 kj11 a1 t824 t827 t834 (t837 != t827) l0_0 a0_1 a0_2) else (laws_FnExactCanStand.j1 kj11 a1 t824 t827 t834 true l0_0 a0_1 a0_2)) = some r := H
                have A47 := Aside0.mk A470
                clear A470
                by_cases c48 : t847 = true
                · subst c48
                  have H1 : (laws_FnExactCanStand.j1 kj11 a1 t824 t827 t834 (t837 != t827) l0_0 a0_1 a0_2) = some r := by rw [if_pos rfl] at H; exact H
                  clear H
                  have H := H1
                  clear H1
                  have H' := Aside0.mk H
                  clear H
                  obtain ⟨Ao49, co49, eo49⟩ := Kd.R_slice HO_9.out
                  subst eo49
                  obtain ⟨Ao50, co50, eo50⟩ := Kd.R_slice HO_6.out
                  subst eo50
                  go_wp2_with (first | (go_at_call 24; (with_reducible refine (laws_eqIntS.calls kj11 _ _ t834 _ _ t824 true _ ?side1 ?side2 ?side3 ?side4 A47.out).mono ?_); (case side1 => repeat (first | exact (Kd.R_reads' HO_9.out).2.2 | (with_reducible refine Kd.C_alloc ?_ _) | (with_reducible refine Kd.C_drewN ?_ _) | (with_reducible refine Kd.C_drew ?_))); (case side2 => exact (Kd.R_reads' HO_9.out).2.1); (case side3 => repeat (first | exact (Kd.R_reads' HO_6.out).2.2 | (with_reducible refine Kd.C_alloc ?_ _) | (with_reducible refine Kd.C_drewN ?_ _) | (with_reducible refine Kd.C_drew ?_))); (case side4 => exact (Kd.R_reads' HO_6.out).2.1); rintro e w' ⟨rfl, ⟨nd, rfl⟩⟩))
                  go_meet
                  case rel => exact ⟨_, ((t837 != t827)), (by first | rfl | (simp; done) | (simp [*]; done)), H', ⟨by have := HJ11.out; first | omega | exact Nat.le_refl _⟩, ⟨by (with_reducible repeat (first | apply Kd.R_alloc | apply Kd.R_drewN | apply Kd.R_drew)); exact Kd.R_mono HO_6.out (fun _ hk => ⟨hk.1, hk.2.1⟩)⟩, ⟨by (with_reducible repeat (first | apply Kd.R_alloc | apply Kd.R_drewN | apply Kd.R_drew)); exact Kd.R_mono HO_9.out (fun _ hk => ⟨hk.1, hk.2.1⟩)⟩, ⟨by (with_reducible repeat (first | apply Kd.R_alloc | apply Kd.R_drewN | apply Kd.R_drew)); exact Kd.R_mono HO_834000.out (fun _ hk => ⟨hk.1.1, hk.1.2⟩)⟩, ⟨by (with_reducible repeat (first | refine blk_drewN ?_ _ | refine blk_drew ?_ | refine blk_alloc ?_ _)); exact BK817.out⟩, ⟨by (with_reducible repeat (first | refine blk_drewN ?_ _ | refine blk_drew ?_ | refine blk_alloc ?_ _)); exact BK833.out⟩, ⟨by repeat (first | (with_reducible first | exact HB.out | apply below_alloc | apply pw_below_drewN | apply below_drew1 | refine below_set ?_ GE817.out | refine below_set ?_ GE833.out) | exact HB.out)⟩⟩
                · replace c48 := Bool.eq_false_iff.mpr c48
                  subst c48
                  have H1 : (laws_FnExactCanStand.j1 kj11 a1 t824 t827 t834 true l0_0 a0_1 a0_2) = some r := by rw [if_neg (show ¬ (false = true) by decide)] at H; exact H
                  clear H
                  have H := H1
                  clear H1
                  have H' := Aside0.mk H
                  clear H
                  obtain ⟨Ao51, co51, eo51⟩ := Kd.R_slice HO_9.out
                  subst eo51
                  obtain ⟨Ao52, co52, eo52⟩ := Kd.R_slice HO_6.out
                  subst eo52
                  go_wp2_with (first | (go_at_call 24; (with_reducible refine (laws_eqIntS.calls kj11 _ _ t834 _ _ t824 false _ ?side1 ?side2 ?side3 ?side4 A47.out).mono ?_); (case side1 => repeat (first | exact (Kd.R_reads' HO_9.out).2.2 | (with_reducible refine Kd.C_alloc ?_ _) | (with_reducible refine Kd.C_drewN ?_ _) | (with_reducible refine Kd.C_drew ?_))); (case side2 => exact (Kd.R_reads' HO_9.out).2.1); (case side3 => repeat (first | exact (Kd.R_reads' HO_6.out).2.2 | (with_reducible refine Kd.C_alloc ?_ _) | (with_reducible refine Kd.C_drewN ?_ _) | (with_reducible refine Kd.C_drew ?_))); (case side4 => exact (Kd.R_reads' HO_6.out).2.1); rintro e w' ⟨rfl, ⟨nd, rfl⟩⟩))
                  go_meet
                  case rel => exact ⟨_, (true), (by first | rfl | (simp; done) | (simp [*]; done)), H', ⟨by have := HJ11.out; first | omega | exact Nat.le_refl _⟩, ⟨by (with_reducible repeat (first | apply Kd.R_alloc | apply Kd.R_drewN | apply Kd.R_drew)); exact Kd.R_mono HO_6.out (fun _ hk => ⟨hk.1, hk.2.1⟩)⟩, ⟨by (with_reducible repeat (first | apply Kd.R_alloc | apply Kd.R_drewN | apply Kd.R_drew)); exact Kd.R_mono HO_9.out (fun _ hk => ⟨hk.1, hk.2.1⟩)⟩, ⟨by (with_reducible repeat (first | apply Kd.R_alloc | apply Kd.R_drewN | apply Kd.R_drew)); exact Kd.R_mono HO_834000.out (fun _ hk => ⟨hk.1.1, hk.1.2⟩)⟩, ⟨by (with_reducible repeat (first | refine blk_drewN ?_ _ | refine blk_drew ?_ | refine blk_alloc ?_ _)); exact BK817.out⟩, ⟨by (with_reducible repeat (first | refine blk_drewN ?_ _ | refine blk_drew ?_ | refine blk_alloc ?_ _)); exact BK833.out⟩, ⟨by repeat (first | (with_reducible first | exact HB.out | apply below_alloc | apply pw_below_drewN | apply below_drew1 | refine below_set ?_ GE817.out | refine below_set ?_ GE833.out) | exact HB.out)⟩⟩
            case rest =>
              clear HC38
              try clear c1
              try clear c2
              try clear p2
              try clear c3
              try clear c4
              try clear c4b0
              try clear c10
              try clear c23
              try clear c24
              try clear c26
              try clear c28
              try clear c33
              try clear c36
              try clear c40
              try clear c41
              try clear c42
              try clear c43
              try clear c46
              try clear c46b0
              try clear c48
              try clear hcz14_0
              try clear hcz14_1
              try clear hcz14_2
              try clear hcz16_0
              try clear hcz16_1
              try clear hcz16_2
              try clear hcz20_0
              try clear hcz20_1
              try clear hcz20_2
              try clear hcz25_0
              try clear hcz25_1
              try clear hcz25_2
              try clear hcz44_0
              try clear hcz44_1
              try clear hcz44_2
              try clear hcz6_0
              try clear hcz6_1
              try clear hcz6_2
              try clear hfz14_0
              try clear hfz14_1
              try clear hfz14_2
              try clear hfz16_0
              try clear hfz16_1
              try clear hfz16_2
              try clear hfz20_0
              try clear hfz20_1
              try clear hfz20_2
              try clear hfz25_0
              try clear hfz25_1
              try clear hfz25_2
              try clear hfz44_0
              try clear hfz44_1
              try clear hfz44_2
              try clear hfz6_0
              try clear hfz6_1
              try clear hfz6_2
              try clear p2
              obtain ⟨kq, x65_37, rfl, HA, HJ37, HO_6, HO_9, HO_834000, BK817, BK833, HB⟩ := hcut
              have hl834000_37 := (Kd.R_reads' HO_834000.out).1
              rw [hl834000_37] at HO_834000
              (try simp only [hl834000_37])
              (try simp only [hl834000_37] at BK817)
              (try simp only [hl834000_37] at BK833)
              (try simp only [hl834000_37] at HO_6)
              (try simp only [hl834000_37] at HO_9)
              cases kq with
              | zero => exact absurd HA.out (by simp [laws_FnExactCanStand.j1])
              | succ kj37 =>
                have H := HA.out
                clear HA
                simp only [laws_FnExactCanStand.j1] at H
                by_cases c53 : x65_37 = true
                · subst c53
                  have H1 : (some false) = some r := by rw [if_pos rfl] at H; exact H
                  clear H
                  have H := H1
                  clear H1
                  obtain rfl := Option.some.inj H
                  go_wp2
                  go_ret
                  exact ⟨by first | rfl | (simp [errW_none, errW_some] <;> rfl) | (simp [*, errW_none, errW_some] <;> rfl), by repeat (first | (with_reducible first | exact HB.out | apply below_alloc | apply pw_below_drewN | apply below_drew1 | refine below_set ?_ GE817.out | refine below_set ?_ GE833.out) | exact HB.out)⟩
                · replace c53 := Bool.eq_false_iff.mpr c53
                  subst c53
                  have H1 : ((laws_markIntS.f kj37 t834 1).bind fun bt848 => ((laws_heldIntS.f kj37 bt848.2 1).bind fun t850 => (if t850 < 0 then (some false) else (if t850 = bt848.1 then ((laws_toPuzzle.f kj37 l0_0 a0_1 a0_2).bind fun bt851 => ((impl_CanStand.f kj37 bt851.1 bt851.2.1 bt851.2.2 a1).bind fun bt856 => ((laws_eqIntS.f kj37 bt856.1 t824).bind fun t860 => (if t860 = true then (laws_FnExactCanStand.j2 kj37 bt848.2 bt848.1 (bt856.2 != t827)) else (laws_FnExactCanStand.j2 kj37 bt848.2 bt848.1 true))))) else (some false))))) = some r := by rw [if_neg (show ¬ (false = true) by decide)] at H; exact H
                  clear H
                  have H := H1
                  clear H1
                  replace H := Option.bind_eq_some_iff.mp H
                  obtain ⟨⟨t848, t849⟩, A540, H⟩ := H
                  replace H : ((laws_heldIntS.f kj37 t849 1).bind fun t850 => (if t850 < 0 then (some false) else (if t850 = t848 then ((laws_toPuzzle.f kj37 l0_0 a0_1 a0_2).bind fun bt851 => ((impl_CanStand.f kj37 bt851.1 bt851.2.1 bt851.2.2 a1).bind fun bt856 => ((laws_eqIntS.f kj37 bt856.1 t824).bind fun t860 => (if t860 = true then (laws_FnExactCanStand.j2 kj37 t849 t848 (bt856.2 != t827)) else (laws_FnExactCanStand.j2 kj37 t849 t848 true))))) else (some false)))) = some r := H
                  have A54 := Aside0.mk A540
                  clear A540
                  replace H := Option.bind_eq_some_iff.mp H
                  obtain ⟨t850, A550, H⟩ := H
                  replace H : (if t850 < 0 then (some false) else (if t850 = t848 then ((laws_toPuzzle.f kj37 l0_0 a0_1 a0_2).bind fun bt851 => ((impl_CanStand.f kj37 bt851.1 bt851.2.1 bt851.2.2 a1).bind fun bt856 => ((laws_eqIntS.f kj37 bt856.1 t824).bind fun t860 => (if t860 = true then (laws_FnExactCanStand.j2 kj37 t849 t848 (bt856.2 != t827)) else (laws_FnExactCanStand.j2 kj37 t849 t848 true))))) else (some false))) = some r := H
                  have A55 := Aside0.mk A550
                  clear A550
                  by_cases c56 : t850 < 0
                  · rw [if_pos c56] at H
                    have c56b0 : decide (t850 < 0) = true := decide_eq_true c56
                    clear c56
                    obtain rfl := Option.some.inj H
                    obtain ⟨Ao57, co57, eo57⟩ := Kd.R_slice HO_9.out
                    subst eo57
                    go_wp2_with (first | ((with_reducible refine gate_callee (f := 25) rfl ?_); refine goesL_ (some 68) rfl rfl Try.func25 (by kernel_rfl) rfl #[.slice Ao57 t834.length co57, .int .i64 1] rfl (by (try simp only [List.map_toArray, List.map_cons, List.map_nil]); first | done | rfl | (simp only [List.length_drop, List.length_take]; rfl)) ?_; (with_reducible refine (laws_markIntS.calls kj37 (fun k_ => some k_ = (.slice Ao57 t834.length co57 : Value).ownBlock) (.slice Ao57 t834.length co57) t834 1 t848 t849 w _ ?side1 ?side2 A54.out).mono ?_); (case side1 => repeat (first | (with_reducible first | exact HB.out | apply below_alloc | apply pw_below_drewN | apply below_drew1 | refine below_set ?_ GE817.out | refine below_set ?_ GE833.out) | exact HB.out)); (case side2 => exact Kd.R_tight rfl HO_9.out); rintro e w58 ⟨rfl, hy0, hb, hkp⟩; refine ⟨_, rfl, ?_⟩; have n0_ := Aside0.mk (Kd.R_mono (ok' := fun k_ => some k_ ≠ (.slice Ao57 t834.length co57 : Value).ownBlock ∧ some k_ ≠ (.slice Ao23 t846.length co23 : Value).ownBlock) (Kd.R_keptB (HO_6.out) hkp (fun k_ hk_ hs_ => (hk_.1) hs_)) (fun k_ hk_ => ⟨hk_.1.1, hk_.1.2⟩)); have n1_ := Aside0.mk (Kd.R_reok rfl hy0 (fun k_ e_ => HO_9.out.1 k_ e_)); have n2_ := Aside0.mk (Kd.R_mono (ok' := fun k_ => some k_ ≠ (v825 : Value).ownBlock ∧ some k_ ≠ (.slice Ao57 t834.length co57 : Value).ownBlock) (Kd.R_keptB (HO_834000.out) hkp (fun k_ hk_ hs_ => (hk_.2) hs_)) (fun k_ hk_ => ⟨hk_.1.1, hk_.1.2⟩)); have n3_ := Aside0.mk (blk_kept (by (with_reducible repeat (first | refine blk_drewN ?_ _ | refine blk_drew ?_ | refine blk_alloc ?_ _)); exact BK817.out) hkp (fun hs_ => (fun e_ => (Kd.R_ne HO_9.out BK817.out (by decide)) e_) hs_)); have n4_ := Aside0.mk (blk_kept (by (with_reducible repeat (first | refine blk_drewN ?_ _ | refine blk_drew ?_ | refine blk_alloc ?_ _)); exact BK833.out) hkp (fun hs_ => (fun e_ => (Kd.R_ne HO_9.out BK833.out (by decide)) e_) hs_)); have n5_ := Aside0.mk (hb); clear HO_6; clear HO_9; clear HO_834000; clear BK817; clear BK833; clear HB; have HO_6 := n0_; have HO_9 := n1_; have HO_834000 := n2_; have BK817 := n3_; have BK833 := n4_; have HB := n5_; clear n0_ n1_ n2_ n3_ n4_ n5_; (try clear hb); (try clear hkp); (try clear hy0)) | ((with_reducible refine gate_callee (f := 30) rfl ?_); refine goesL_ (some 71) rfl rfl Try.func30 (by kernel_rfl) rfl #[.slice Ao57 t849.length co57, .int .i64 1] rfl (by (try simp only [List.map_toArray, List.map_cons, List.map_nil]); first | done | (rw [show t849.length = t834.length from (Kd.R_reads' HO_9.out).1.symm] <;> rfl) | rfl | (simp only [List.length_drop, List.length_take]; rfl)) ?_; (with_reducible refine (laws_heldIntS.calls kj37 _ _ t849 1 t850 _ ?side1 ?side2 A55.out).mono ?_); (case side1 => repeat (first | exact (Kd.R_reads' HO_9.out).2.2 | (with_reducible refine Kd.C_alloc ?_ _) | (with_reducible refine Kd.C_drewN ?_ _) | (with_reducible refine Kd.C_drew ?_))); (case side2 => rw [show t849.length = t834.length from (Kd.R_reads' HO_9.out).1.symm]; exact (Kd.R_reads' HO_9.out).2.1); rintro e w' ⟨rfl, ⟨nd, rfl⟩⟩; refine ⟨_, rfl, ?_⟩))
                    go_ret
                    exact ⟨by first | rfl | (simp [errW_none, errW_some] <;> rfl) | (simp [*, errW_none, errW_some] <;> rfl), by repeat (first | (with_reducible first | exact HB.out | apply below_alloc | apply pw_below_drewN | apply below_drew1 | refine below_set ?_ GE817.out | refine below_set ?_ GE833.out) | exact HB.out)⟩
                  · rw [if_neg c56] at H
                    have c56b0 : decide (t850 < 0) = false := decide_eq_false c56
                    clear c56
                    by_cases c59 : t850 = t848
                    · rw [if_pos c59] at H
                      have c59b0 : (t850 == t848) = true := beq_iff_eq.mpr c59
                      have c59b1 : (t850 != t848) = false := bne_eq_false_iff_eq.mpr c59
                      clear c59
                      replace H := Option.bind_eq_some_iff.mp H
                      obtain ⟨⟨t851, t854, t855⟩, A600, H⟩ := H
                      replace H : ((impl_CanStand.f kj37 t851 t854 t855 a1).bind fun bt856 => ((laws_eqIntS.f kj37 bt856.1 t824).bind fun t860 => (if t860 = true then (laws_FnExactCanStand.j2 kj37 t849 t848 (bt856.2 != t827)) else (laws_FnExactCanStand.j2 kj37 t849 t848 true)))) = some r := H
                      have A60 := Aside0.mk A600
                      clear A600
                      replace H := Option.bind_eq_some_iff.mp H
                      obtain ⟨⟨t856, t859⟩, A610, H⟩ := H
                      replace H : ((laws_eqIntS.f kj37 t856 t824).bind fun t860 => (if t860 = true then (laws_FnExactCanStand.j2 kj37 t849 t848 (t859 != t827)) else (laws_FnExactCanStand.j2 kj37 t849 t848 true))) = some r := H
                      have A61 := Aside0.mk A610
                      clear A610
                      have HC62 := Aside0.mk H
                      clear H
                      obtain ⟨Ao63, co63, eo63⟩ := Kd.R_slice HO_9.out
                      subst eo63
                      go_upto_region 25 with (first | ((with_reducible refine gate_callee (f := 25) rfl ?_); refine goesL_ (some 68) rfl rfl Try.func25 (by kernel_rfl) rfl #[.slice Ao63 t834.length co63, .int .i64 1] rfl (by (try simp only [List.map_toArray, List.map_cons, List.map_nil]); first | done | rfl | (simp only [List.length_drop, List.length_take]; rfl)) ?_; (with_reducible refine (laws_markIntS.calls kj37 (fun k_ => some k_ = (.slice Ao63 t834.length co63 : Value).ownBlock) (.slice Ao63 t834.length co63) t834 1 t848 t849 w _ ?side1 ?side2 A54.out).mono ?_); (case side1 => repeat (first | (with_reducible first | exact HB.out | apply below_alloc | apply pw_below_drewN | apply below_drew1 | refine below_set ?_ GE817.out | refine below_set ?_ GE833.out) | exact HB.out)); (case side2 => exact Kd.R_tight rfl HO_9.out); rintro e w64 ⟨rfl, hy0, hb, hkp⟩; refine ⟨_, rfl, ?_⟩; have n0_ := Aside0.mk (Kd.R_mono (ok' := fun k_ => some k_ ≠ (.slice Ao63 t834.length co63 : Value).ownBlock ∧ some k_ ≠ (.slice Ao23 t846.length co23 : Value).ownBlock) (Kd.R_keptB (HO_6.out) hkp (fun k_ hk_ hs_ => (hk_.1) hs_)) (fun k_ hk_ => ⟨hk_.1.1, hk_.1.2⟩)); have n1_ := Aside0.mk (Kd.R_reok rfl hy0 (fun k_ e_ => HO_9.out.1 k_ e_)); have n2_ := Aside0.mk (Kd.R_mono (ok' := fun k_ => some k_ ≠ (v825 : Value).ownBlock ∧ some k_ ≠ (.slice Ao63 t834.length co63 : Value).ownBlock) (Kd.R_keptB (HO_834000.out) hkp (fun k_ hk_ hs_ => (hk_.2) hs_)) (fun k_ hk_ => ⟨hk_.1.1, hk_.1.2⟩)); have n3_ := Aside0.mk (blk_kept (by (with_reducible repeat (first | refine blk_drewN ?_ _ | refine blk_drew ?_ | refine blk_alloc ?_ _)); exact BK817.out) hkp (fun hs_ => (fun e_ => (Kd.R_ne HO_9.out BK817.out (by decide)) e_) hs_)); have n4_ := Aside0.mk (blk_kept (by (with_reducible repeat (first | refine blk_drewN ?_ _ | refine blk_drew ?_ | refine blk_alloc ?_ _)); exact BK833.out) hkp (fun hs_ => (fun e_ => (Kd.R_ne HO_9.out BK833.out (by decide)) e_) hs_)); have n5_ := Aside0.mk (hb); clear HO_6; clear HO_9; clear HO_834000; clear BK817; clear BK833; clear HB; have HO_6 := n0_; have HO_9 := n1_; have HO_834000 := n2_; have BK817 := n3_; have BK833 := n4_; have HB := n5_; clear n0_ n1_ n2_ n3_ n4_ n5_; (try clear hb); (try clear hkp); (try clear hy0)) | ((with_reducible refine gate_callee (f := 30) rfl ?_); refine goesL_ (some 71) rfl rfl Try.func30 (by kernel_rfl) rfl #[.slice Ao63 t849.length co63, .int .i64 1] rfl (by (try simp only [List.map_toArray, List.map_cons, List.map_nil]); first | done | (rw [show t849.length = t834.length from (Kd.R_reads' HO_9.out).1.symm] <;> rfl) | rfl | (simp only [List.length_drop, List.length_take]; rfl)) ?_; (with_reducible refine (laws_heldIntS.calls kj37 _ _ t849 1 t850 _ ?side1 ?side2 A55.out).mono ?_); (case side1 => repeat (first | exact (Kd.R_reads' HO_9.out).2.2 | (with_reducible refine Kd.C_alloc ?_ _) | (with_reducible refine Kd.C_drewN ?_ _) | (with_reducible refine Kd.C_drew ?_))); (case side2 => rw [show t849.length = t834.length from (Kd.R_reads' HO_9.out).1.symm]; exact (Kd.R_reads' HO_9.out).2.1); rintro e w' ⟨rfl, ⟨nd, rfl⟩⟩; refine ⟨_, rfl, ?_⟩; have hnb65 := NB817_833.out; have hnc65 := NB833_817.out; have hcz66_0 : w64.cell? ⟨gb817, 0, none⟩ = some (.slice A0_0 l0_0.length c0_0) := (blk_cell BK817.out 0).trans rfl; have hcz66_1 : w64.cell? ⟨gb817, 1, none⟩ = some (.int .i64 a0_1) := (blk_cell BK817.out 1).trans rfl; have hcz66_2 : w64.cell? ⟨gb817, 2, none⟩ = some (.int .i64 a0_2) := (blk_cell BK817.out 2).trans rfl; have hfz66_0 := blk_frozen BK817.out 0; have hfz66_1 := blk_frozen BK817.out 1; have hfz66_2 := blk_frozen BK817.out 2) | ((with_reducible refine gate_callee (f := 42) rfl ?_); refine goesL_ (some 79) rfl rfl Try.func42 (by kernel_rfl) rfl #[.agg #[.slice A0_0 l0_0.length c0_0, .int .i64 a0_1, .int .i64 a0_2]] rfl (by (try simp only [List.map_toArray, List.map_cons, List.map_nil]); first | done | rfl | (simp only [List.length_drop, List.length_take]; rfl)) ?_; (with_reducible refine (laws_toPuzzle.calls kj37 _ _ l0_0 a0_1 a0_2 t851 t854 t855 _ ?side1 ?side2 A60.out).mono ?_); (case side1 => repeat (first | exact (Kd.C_below HR0_0.out (by repeat (first | (with_reducible first | exact HB.out | apply below_alloc | apply pw_below_drewN | apply below_drew1 | refine below_set ?_ GE817.out | refine below_set ?_ GE833.out) | exact HB.out))) | (with_reducible refine Kd.C_alloc ?_ _) | (with_reducible refine Kd.C_drewN ?_ _) | (with_reducible refine Kd.C_drew ?_))); (case side2 => exact HC0_0.out); rintro e w67 ⟨v852, rfl, ho0, hb⟩; refine ⟨_, rfl, ?_⟩; have n0_ := Aside0.mk (Kd.R_elder' (by (with_reducible repeat (first | apply Kd.R_alloc | apply Kd.R_drewN | apply Kd.R_drew)); exact HO_6.out) (Kd.R_base ho0) hb); have n1_ := Aside0.mk (Kd.R_elder' (by (with_reducible repeat (first | apply Kd.R_alloc | apply Kd.R_drewN | apply Kd.R_drew)); exact HO_9.out) (Kd.R_base ho0) hb); have n2_ := Aside0.mk (Kd.R_elder' (by (with_reducible repeat (first | apply Kd.R_alloc | apply Kd.R_drewN | apply Kd.R_drew)); exact HO_834000.out) (Kd.R_base ho0) hb); have n3_ := Aside0.mk (Kd.R_lower (Kd.R_new' (Kd.R_new' (Kd.R_new' ho0 (Kd.R_lt (by (with_reducible repeat (first | apply Kd.R_alloc | apply Kd.R_drewN | apply Kd.R_drew)); exact HO_6.out))) (Kd.R_lt (by (with_reducible repeat (first | apply Kd.R_alloc | apply Kd.R_drewN | apply Kd.R_drew)); exact HO_9.out))) (Kd.R_lt (by (with_reducible repeat (first | apply Kd.R_alloc | apply Kd.R_drewN | apply Kd.R_drew)); exact HO_834000.out))) (below_size (by repeat (first | (with_reducible first | exact HB.out | apply below_alloc | apply pw_below_drewN | apply below_drew1 | refine below_set ?_ GE817.out | refine below_set ?_ GE833.out) | exact HB.out)))); have n4_ := Aside0.mk (blk_below (g := gb817) (o := .cells #[.slice A0_0 l0_0.length c0_0, .int .i64 a0_1, .int .i64 a0_2] 53 (0, 0)) (by (with_reducible repeat (first | refine blk_drewN ?_ _ | refine blk_drew ?_ | refine blk_alloc ?_ _)); exact BK817.out) hb); have n5_ := Aside0.mk (blk_below (g := gb833) (o := .cells #[.slice Ao23 t846.length co23, .int .i64 t831, .int .i64 t832] 35 (0, 0)) (by (with_reducible repeat (first | refine blk_drewN ?_ _ | refine blk_drew ?_ | refine blk_alloc ?_ _)); exact BK833.out) hb); have n6_ := Aside0.mk (below_step (by repeat (first | (with_reducible first | exact HB.out | apply below_alloc | apply pw_below_drewN | apply below_drew1 | refine below_set ?_ GE817.out | refine below_set ?_ GE833.out) | exact HB.out)) hb); clear HO_6; clear HO_9; clear HO_834000; clear BK817; clear BK833; clear HB; have HO_6 := n0_; have HO_9 := n1_; have HO_834000 := n2_; have HO853 := n3_; have BK817 := n4_; have BK833 := n5_; have HB := n6_; clear n0_ n1_ n2_ n3_ n4_ n5_ n6_; (try clear hb); (try clear hb2); (try clear hk); (try clear hi); (try clear ho0); obtain ⟨Ao68, co68, eo68⟩ := Kd.R_slice HO853.out; subst eo68) | ((with_reducible refine gate_callee (f := 43) rfl ?_); refine goesL_ (some 81) rfl rfl Try.func43 (by kernel_rfl) rfl #[.agg #[.slice Ao68 t851.length co68, .int .i64 t854, .int .i64 t855], .int .i64 a1] rfl (by (try simp only [List.map_toArray, List.map_cons, List.map_nil]); first | done | rfl | (simp only [List.length_drop, List.length_take]; rfl)) ?_; (with_reducible refine (impl_CanStand.calls kj37 _ _ t851 t854 t855 a1 t856 t859 _ ?side1 ?side2 A61.out).mono ?_); (case side1 => repeat (first | exact (Kd.R_reads' HO853.out).2.2 | (with_reducible refine Kd.C_alloc ?_ _) | (with_reducible refine Kd.C_drewN ?_ _) | (with_reducible refine Kd.C_drew ?_))); (case side2 => exact (Kd.R_reads' HO853.out).2.1); rintro e w69 ⟨v857, rfl, ho0, hb⟩; refine ⟨_, rfl, ?_⟩; have n0_ := Aside0.mk (Kd.R_elder' (by (with_reducible repeat (first | apply Kd.R_alloc | apply Kd.R_drewN | apply Kd.R_drew)); exact HO_6.out) (Kd.R_base ho0) hb); have n1_ := Aside0.mk (Kd.R_elder' (by (with_reducible repeat (first | apply Kd.R_alloc | apply Kd.R_drewN | apply Kd.R_drew)); exact HO_9.out) (Kd.R_base ho0) hb); have n2_ := Aside0.mk (Kd.R_elder' (by (with_reducible repeat (first | apply Kd.R_alloc | apply Kd.R_drewN | apply Kd.R_drew)); exact HO_834000.out) (Kd.R_base ho0) hb); have n3_ := Aside0.mk (Kd.R_elder' (by (with_reducible repeat (first | apply Kd.R_alloc | apply Kd.R_drewN | apply Kd.R_drew)); exact HO853.out) (Kd.R_base ho0) hb); have n4_ := Aside0.mk (Kd.R_lower (Kd.R_new' (Kd.R_new' (Kd.R_new' (Kd.R_new' ho0 (Kd.R_lt (by (with_reducible repeat (first | apply Kd.R_alloc | apply Kd.R_drewN | apply Kd.R_drew)); exact HO_6.out))) (Kd.R_lt (by (with_reducible repeat (first | apply Kd.R_alloc | apply Kd.R_drewN | apply Kd.R_drew)); exact HO_9.out))) (Kd.R_lt (by (with_reducible repeat (first | apply Kd.R_alloc | apply Kd.R_drewN | apply Kd.R_drew)); exact HO_834000.out))) (Kd.R_lt (by (with_reducible repeat (first | apply Kd.R_alloc | apply Kd.R_drewN | apply Kd.R_drew)); exact HO853.out))) (below_size (by repeat (first | (with_reducible first | exact HB.out | apply below_alloc | apply pw_below_drewN | apply below_drew1 | refine below_set ?_ GE817.out | refine below_set ?_ GE833.out) | exact HB.out)))); have n5_ := Aside0.mk (blk_below (g := gb817) (o := .cells #[.slice A0_0 l0_0.length c0_0, .int .i64 a0_1, .int .i64 a0_2] 53 (0, 0)) (by (with_reducible repeat (first | refine blk_drewN ?_ _ | refine blk_drew ?_ | refine blk_alloc ?_ _)); exact BK817.out) hb); have n6_ := Aside0.mk (blk_below (g := gb833) (o := .cells #[.slice Ao23 t846.length co23, .int .i64 t831, .int .i64 t832] 35 (0, 0)) (by (with_reducible repeat (first | refine blk_drewN ?_ _ | refine blk_drew ?_ | refine blk_alloc ?_ _)); exact BK833.out) hb); have n7_ := Aside0.mk (below_step (by repeat (first | (with_reducible first | exact HB.out | apply below_alloc | apply pw_below_drewN | apply below_drew1 | refine below_set ?_ GE817.out | refine below_set ?_ GE833.out) | exact HB.out)) hb); clear HO_6; clear HO_9; clear HO_834000; clear HO853; clear BK817; clear BK833; clear HB; have HO_6 := n0_; have HO_9 := n1_; have HO_834000 := n2_; have HO853 := n3_; have HO858 := n4_; have BK817 := n5_; have BK833 := n6_; have HB := n7_; clear n0_ n1_ n2_ n3_ n4_ n5_ n6_ n7_; (try clear hb); (try clear hb2); (try clear hk); (try clear hi); (try clear ho0)))
                      (try simp only [Act.put, List.setIfInBounds_toArray, List.set_cons_zero, List.set_cons_succ])
                      go_cut [92] (fun v92 wc => ∃ (kq : Nat) (x92_61 : Bool), v92 = .bool x92_61 ∧ Aside0 (laws_FnExactCanStand.j2 kq t849 t848 x92_61 = some r) ∧ Aside0 (kq ≤ kj37) ∧ Aside0 (Kd.R (Kd.int .i64) 3 wc w.heap.size (fun k_ => some k_ ≠ ((.slice Ao23 t846.length co23) : Value).ownBlock) (.slice Ao63 t834.length co63) t849) ∧ Aside0 (Kd.R (Kd.int .i64) 3 wc w.heap.size (fun k_ => some k_ ≠ ((.slice Ao63 t834.length co63) : Value).ownBlock) (.slice Ao23 t846.length co23) t846) ∧ Aside0 (wc.heap[gb817]? = some (.cells #[(.slice A0_0 l0_0.length c0_0), .int .i64 a0_1, .int .i64 a0_2] 53 (0, 0))) ∧ Aside0 (wc.heap[gb833]? = some (.cells #[(.slice Ao23 t846.length co23), .int .i64 t831, .int .i64 t832] 35 (0, 0))) ∧ Aside0 (Below w.heap.size w wc))
                      case first =>
                        have H := HC62.out
                        clear HC62
                        replace H := Option.bind_eq_some_iff.mp H
                        obtain ⟨t860, A700, H⟩ := H
                        replace H : (if t860 = true then (laws_FnExactCanStand.j2 kj37 t849 t848 (t859 != t827)) else (laws_FnExactCanStand.j2 kj37 t849 t848 true)) = some r := H
                        have A70 := Aside0.mk A700
                        clear A700
                        by_cases c71 : t860 = true
                        · subst c71
                          have H1 : (laws_FnExactCanStand.j2 kj37 t849 t848 (t859 != t827)) = some r := by rw [if_pos rfl] at H; exact H
                          clear H
                          have H := H1
                          clear H1
                          have H' := Aside0.mk H
                          clear H
                          obtain ⟨Ao72, co72, eo72⟩ := Kd.R_slice HO858.out
                          subst eo72
                          obtain ⟨Ao73, co73, eo73⟩ := Kd.R_slice HO_6.out
                          subst eo73
                          go_wp2_with (first | ((with_reducible refine gate_callee (f := 24) rfl ?_); refine goesL_ (some 86) rfl rfl Try.func24 (by kernel_rfl) rfl #[.slice Ao72 t856.length co72, .slice Ao73 t824.length co73] rfl (by (try simp only [List.map_toArray, List.map_cons, List.map_nil]); first | done | rfl | (simp only [List.length_drop, List.length_take]; rfl)) ?_; (with_reducible refine (laws_eqIntS.calls kj37 _ _ t856 _ _ t824 true _ ?side1 ?side2 ?side3 ?side4 A70.out).mono ?_); (case side1 => repeat (first | exact (Kd.R_reads' HO858.out).2.2 | (with_reducible refine Kd.C_alloc ?_ _) | (with_reducible refine Kd.C_drewN ?_ _) | (with_reducible refine Kd.C_drew ?_))); (case side2 => exact (Kd.R_reads' HO858.out).2.1); (case side3 => repeat (first | exact (Kd.R_reads' HO_6.out).2.2 | (with_reducible refine Kd.C_alloc ?_ _) | (with_reducible refine Kd.C_drewN ?_ _) | (with_reducible refine Kd.C_drew ?_))); (case side4 => exact (Kd.R_reads' HO_6.out).2.1); rintro e w' ⟨rfl, ⟨nd, rfl⟩⟩; refine ⟨_, rfl, ?_⟩))
                          go_meet
                          case rel => exact ⟨_, ((t859 != t827)), (by first | rfl | (simp; done) | (simp [*]; done)), H', ⟨by have := HJ11.out; have := HJ37.out; first | omega | exact Nat.le_refl _⟩, ⟨by (try simp only [hl834000_37]); (with_reducible repeat (first | apply Kd.R_alloc | apply Kd.R_drewN | apply Kd.R_drew)); exact Kd.R_mono HO_9.out (fun _ hk => hk.1.1.2)⟩, ⟨by (try simp only [hl834000_37]); (with_reducible repeat (first | apply Kd.R_alloc | apply Kd.R_drewN | apply Kd.R_drew)); exact Kd.R_mono HO_834000.out (fun _ hk => hk.1.1.2)⟩, ⟨by (try simp only [hl834000_37]); (with_reducible repeat (first | refine blk_drewN ?_ _ | refine blk_drew ?_ | refine blk_alloc ?_ _)); exact BK817.out⟩, ⟨by (try simp only [hl834000_37]); (with_reducible repeat (first | refine blk_drewN ?_ _ | refine blk_drew ?_ | refine blk_alloc ?_ _)); exact BK833.out⟩, ⟨by repeat (first | (with_reducible first | exact HB.out | apply below_alloc | apply pw_below_drewN | apply below_drew1 | refine below_set ?_ GE817.out | refine below_set ?_ GE833.out) | exact HB.out)⟩⟩
                        · replace c71 := Bool.eq_false_iff.mpr c71
                          subst c71
                          have H1 : (laws_FnExactCanStand.j2 kj37 t849 t848 true) = some r := by rw [if_neg (show ¬ (false = true) by decide)] at H; exact H
                          clear H
                          have H := H1
                          clear H1
                          have H' := Aside0.mk H
                          clear H
                          obtain ⟨Ao74, co74, eo74⟩ := Kd.R_slice HO858.out
                          subst eo74
                          obtain ⟨Ao75, co75, eo75⟩ := Kd.R_slice HO_6.out
                          subst eo75
                          go_wp2_with (first | ((with_reducible refine gate_callee (f := 24) rfl ?_); refine goesL_ (some 86) rfl rfl Try.func24 (by kernel_rfl) rfl #[.slice Ao74 t856.length co74, .slice Ao75 t824.length co75] rfl (by (try simp only [List.map_toArray, List.map_cons, List.map_nil]); first | done | rfl | (simp only [List.length_drop, List.length_take]; rfl)) ?_; (with_reducible refine (laws_eqIntS.calls kj37 _ _ t856 _ _ t824 false _ ?side1 ?side2 ?side3 ?side4 A70.out).mono ?_); (case side1 => repeat (first | exact (Kd.R_reads' HO858.out).2.2 | (with_reducible refine Kd.C_alloc ?_ _) | (with_reducible refine Kd.C_drewN ?_ _) | (with_reducible refine Kd.C_drew ?_))); (case side2 => exact (Kd.R_reads' HO858.out).2.1); (case side3 => repeat (first | exact (Kd.R_reads' HO_6.out).2.2 | (with_reducible refine Kd.C_alloc ?_ _) | (with_reducible refine Kd.C_drewN ?_ _) | (with_reducible refine Kd.C_drew ?_))); (case side4 => exact (Kd.R_reads' HO_6.out).2.1); rintro e w' ⟨rfl, ⟨nd, rfl⟩⟩; refine ⟨_, rfl, ?_⟩))
                          go_meet
                          case rel => exact ⟨_, (true), (by first | rfl | (simp; done) | (simp [*]; done)), H', ⟨by have := HJ11.out; have := HJ37.out; first | omega | exact Nat.le_refl _⟩, ⟨by (try simp only [hl834000_37]); (with_reducible repeat (first | apply Kd.R_alloc | apply Kd.R_drewN | apply Kd.R_drew)); exact Kd.R_mono HO_9.out (fun _ hk => hk.1.1.2)⟩, ⟨by (try simp only [hl834000_37]); (with_reducible repeat (first | apply Kd.R_alloc | apply Kd.R_drewN | apply Kd.R_drew)); exact Kd.R_mono HO_834000.out (fun _ hk => hk.1.1.2)⟩, ⟨by (try simp only [hl834000_37]); (with_reducible repeat (first | refine blk_drewN ?_ _ | refine blk_drew ?_ | refine blk_alloc ?_ _)); exact BK817.out⟩, ⟨by (try simp only [hl834000_37]); (with_reducible repeat (first | refine blk_drewN ?_ _ | refine blk_drew ?_ | refine blk_alloc ?_ _)); exact BK833.out⟩, ⟨by repeat (first | (with_reducible first | exact HB.out | apply below_alloc | apply pw_below_drewN | apply below_drew1 | refine below_set ?_ GE817.out | refine below_set ?_ GE833.out) | exact HB.out)⟩⟩
                      case rest =>
                        clear HC62
                        try clear c1
                        try clear c2
                        try clear p2
                        try clear c3
                        try clear c4
                        try clear c4b0
                        try clear c5
                        try clear c6
                        try clear c7
                        try clear c10
                        try clear c23
                        try clear c24
                        try clear c25
                        try clear c26
                        try clear c28
                        try clear c30
                        try clear c33
                        try clear c36
                        try clear c40
                        try clear c41
                        try clear c42
                        try clear c43
                        try clear c46
                        try clear c46b0
                        try clear c48
                        try clear c53
                        try clear c56
                        try clear c56b0
                        try clear c59
                        try clear c59b0
                        try clear c59b1
                        try clear c65
                        try clear c71
                        try clear hcz14_0
                        try clear hcz14_1
                        try clear hcz14_2
                        try clear hcz16_0
                        try clear hcz16_1
                        try clear hcz16_2
                        try clear hcz20_0
                        try clear hcz20_1
                        try clear hcz20_2
                        try clear hcz25_0
                        try clear hcz25_1
                        try clear hcz25_2
                        try clear hcz44_0
                        try clear hcz44_1
                        try clear hcz44_2
                        try clear hcz66_0
                        try clear hcz66_1
                        try clear hcz66_2
                        try clear hcz6_0
                        try clear hcz6_1
                        try clear hcz6_2
                        try clear hfz14_0
                        try clear hfz14_1
                        try clear hfz14_2
                        try clear hfz16_0
                        try clear hfz16_1
                        try clear hfz16_2
                        try clear hfz20_0
                        try clear hfz20_1
                        try clear hfz20_2
                        try clear hfz25_0
                        try clear hfz25_1
                        try clear hfz25_2
                        try clear hfz44_0
                        try clear hfz44_1
                        try clear hfz44_2
                        try clear hfz66_0
                        try clear hfz66_1
                        try clear hfz66_2
                        try clear hfz6_0
                        try clear hfz6_1
                        try clear hfz6_2
                        try clear p2
                        obtain ⟨kq, x92_61, rfl, HA, HJ61, HO_9, HO_834000, BK817, BK833, HB⟩ := hcut
                        have hl9_61 := (Kd.R_reads' HO_9.out).1
                        rw [hl9_61] at HO_9
                        (try simp only [hl9_61])
                        (try simp only [hl9_61] at BK817)
                        (try simp only [hl9_61] at BK833)
                        (try simp only [hl9_61] at HO_834000)
                        cases kq with
                        | zero => exact absurd HA.out (by simp [laws_FnExactCanStand.j2])
                        | succ kj61 =>
                          have H := HA.out
                          clear HA
                          simp only [laws_FnExactCanStand.j2] at H
                          by_cases c76 : x92_61 = true
                          · subst c76
                            have H1 : (some false) = some r := by rw [if_pos rfl] at H; exact H
                            clear H
                            have H := H1
                            clear H1
                            obtain rfl := Option.some.inj H
                            go_wp2
                            go_ret
                            exact ⟨by first | rfl | (simp [errW_none, errW_some] <;> rfl) | (simp [*, errW_none, errW_some] <;> rfl), by repeat (first | (with_reducible first | exact HB.out | apply below_alloc | apply pw_below_drewN | apply below_drew1 | refine below_set ?_ GE817.out | refine below_set ?_ GE833.out) | exact HB.out)⟩
                          · replace c76 := Bool.eq_false_iff.mpr c76
                            subst c76
                            have H1 : ((laws_heldIntS.f kj61 t849 1).bind fun t861 => (if t861 < 0 then (some false) else (if t861 = t848 then (some true) else (some false)))) = some r := by rw [if_neg (show ¬ (false = true) by decide)] at H; exact H
                            clear H
                            have H := H1
                            clear H1
                            replace H := Option.bind_eq_some_iff.mp H
                            obtain ⟨t861, A770, H⟩ := H
                            replace H : (if t861 < 0 then (some false) else (if t861 = t848 then (some true) else (some false))) = some r := H
                            have A77 := Aside0.mk A770
                            clear A770
                            by_cases c78 : t861 < 0
                            · rw [if_pos c78] at H
                              have c78b0 : decide (t861 < 0) = true := decide_eq_true c78
                              clear c78
                              obtain rfl := Option.some.inj H
                              go_wp2_with (first | ((with_reducible refine gate_callee (f := 30) rfl ?_); refine goesL_ (some 95) rfl rfl Try.func30 (by kernel_rfl) rfl #[.slice Ao63 t849.length co63, .int .i64 1] rfl (by (try simp only [List.map_toArray, List.map_cons, List.map_nil]); first | done | rfl | (simp only [List.length_drop, List.length_take]; rfl)) ?_; (with_reducible refine (laws_heldIntS.calls kj61 _ _ t849 1 t861 _ ?side1 ?side2 A77.out).mono ?_); (case side1 => repeat (first | exact (Kd.R_reads' HO_9.out).2.2 | (with_reducible refine Kd.C_alloc ?_ _) | (with_reducible refine Kd.C_drewN ?_ _) | (with_reducible refine Kd.C_drew ?_))); (case side2 => exact (Kd.R_reads' HO_9.out).2.1); rintro e w' ⟨rfl, ⟨nd, rfl⟩⟩; refine ⟨_, rfl, ?_⟩))
                              go_ret
                              exact ⟨by first | rfl | (simp [errW_none, errW_some] <;> rfl) | (simp [*, errW_none, errW_some] <;> rfl), by repeat (first | (with_reducible first | exact HB.out | apply below_alloc | apply pw_below_drewN | apply below_drew1 | refine below_set ?_ GE817.out | refine below_set ?_ GE833.out) | exact HB.out)⟩
                            · rw [if_neg c78] at H
                              have c78b0 : decide (t861 < 0) = false := decide_eq_false c78
                              clear c78
                              by_cases c79 : t861 = t848
                              · rw [if_pos c79] at H
                                have c79b0 : (t861 == t848) = true := beq_iff_eq.mpr c79
                                have c79b1 : (t861 != t848) = false := bne_eq_false_iff_eq.mpr c79
                                clear c79
                                obtain rfl := Option.some.inj H
                                go_wp2_with (first | ((with_reducible refine gate_callee (f := 30) rfl ?_); refine goesL_ (some 95) rfl rfl Try.func30 (by kernel_rfl) rfl #[.slice Ao63 t849.length co63, .int .i64 1] rfl (by (try simp only [List.map_toArray, List.map_cons, List.map_nil]); first | done | rfl | (simp only [List.length_drop, List.length_take]; rfl)) ?_; (with_reducible refine (laws_heldIntS.calls kj61 _ _ t849 1 t861 _ ?side1 ?side2 A77.out).mono ?_); (case side1 => repeat (first | exact (Kd.R_reads' HO_9.out).2.2 | (with_reducible refine Kd.C_alloc ?_ _) | (with_reducible refine Kd.C_drewN ?_ _) | (with_reducible refine Kd.C_drew ?_))); (case side2 => exact (Kd.R_reads' HO_9.out).2.1); rintro e w' ⟨rfl, ⟨nd, rfl⟩⟩; refine ⟨_, rfl, ?_⟩))
                                go_ret
                                exact ⟨by first | rfl | (simp [errW_none, errW_some] <;> rfl) | (simp [*, errW_none, errW_some] <;> rfl), by repeat (first | (with_reducible first | exact HB.out | apply below_alloc | apply pw_below_drewN | apply below_drew1 | refine below_set ?_ GE817.out | refine below_set ?_ GE833.out) | exact HB.out)⟩
                              · rw [if_neg c79] at H
                                have c79b0 : (t861 == t848) = false := beq_eq_false_iff_ne.mpr c79
                                have c79b1 : (t861 != t848) = true := bne_iff_ne.mpr c79
                                obtain rfl := Option.some.inj H
                                go_wp2_with (first | ((with_reducible refine gate_callee (f := 30) rfl ?_); refine goesL_ (some 95) rfl rfl Try.func30 (by kernel_rfl) rfl #[.slice Ao63 t849.length co63, .int .i64 1] rfl (by (try simp only [List.map_toArray, List.map_cons, List.map_nil]); first | done | rfl | (simp only [List.length_drop, List.length_take]; rfl)) ?_; (with_reducible refine (laws_heldIntS.calls kj61 _ _ t849 1 t861 _ ?side1 ?side2 A77.out).mono ?_); (case side1 => repeat (first | exact (Kd.R_reads' HO_9.out).2.2 | (with_reducible refine Kd.C_alloc ?_ _) | (with_reducible refine Kd.C_drewN ?_ _) | (with_reducible refine Kd.C_drew ?_))); (case side2 => exact (Kd.R_reads' HO_9.out).2.1); rintro e w' ⟨rfl, ⟨nd, rfl⟩⟩; refine ⟨_, rfl, ?_⟩))
                                go_ret
                                exact ⟨by first | rfl | (simp [errW_none, errW_some] <;> rfl) | (simp [*, errW_none, errW_some] <;> rfl), by repeat (first | (with_reducible first | exact HB.out | apply below_alloc | apply pw_below_drewN | apply below_drew1 | refine below_set ?_ GE817.out | refine below_set ?_ GE833.out) | exact HB.out)⟩
                    · rw [if_neg c59] at H
                      have c59b0 : (t850 == t848) = false := beq_eq_false_iff_ne.mpr c59
                      have c59b1 : (t850 != t848) = true := bne_iff_ne.mpr c59
                      obtain rfl := Option.some.inj H
                      obtain ⟨Ao80, co80, eo80⟩ := Kd.R_slice HO_9.out
                      subst eo80
                      go_wp2_with (first | ((with_reducible refine gate_callee (f := 25) rfl ?_); refine goesL_ (some 68) rfl rfl Try.func25 (by kernel_rfl) rfl #[.slice Ao80 t834.length co80, .int .i64 1] rfl (by (try simp only [List.map_toArray, List.map_cons, List.map_nil]); first | done | rfl | (simp only [List.length_drop, List.length_take]; rfl)) ?_; (with_reducible refine (laws_markIntS.calls kj37 (fun k_ => some k_ = (.slice Ao80 t834.length co80 : Value).ownBlock) (.slice Ao80 t834.length co80) t834 1 t848 t849 w _ ?side1 ?side2 A54.out).mono ?_); (case side1 => repeat (first | (with_reducible first | exact HB.out | apply below_alloc | apply pw_below_drewN | apply below_drew1 | refine below_set ?_ GE817.out | refine below_set ?_ GE833.out) | exact HB.out)); (case side2 => exact Kd.R_tight rfl HO_9.out); rintro e w81 ⟨rfl, hy0, hb, hkp⟩; refine ⟨_, rfl, ?_⟩; have n0_ := Aside0.mk (Kd.R_mono (ok' := fun k_ => some k_ ≠ (.slice Ao80 t834.length co80 : Value).ownBlock ∧ some k_ ≠ (.slice Ao23 t846.length co23 : Value).ownBlock) (Kd.R_keptB (HO_6.out) hkp (fun k_ hk_ hs_ => (hk_.1) hs_)) (fun k_ hk_ => ⟨hk_.1.1, hk_.1.2⟩)); have n1_ := Aside0.mk (Kd.R_reok rfl hy0 (fun k_ e_ => HO_9.out.1 k_ e_)); have n2_ := Aside0.mk (Kd.R_mono (ok' := fun k_ => some k_ ≠ (v825 : Value).ownBlock ∧ some k_ ≠ (.slice Ao80 t834.length co80 : Value).ownBlock) (Kd.R_keptB (HO_834000.out) hkp (fun k_ hk_ hs_ => (hk_.2) hs_)) (fun k_ hk_ => ⟨hk_.1.1, hk_.1.2⟩)); have n3_ := Aside0.mk (blk_kept (by (with_reducible repeat (first | refine blk_drewN ?_ _ | refine blk_drew ?_ | refine blk_alloc ?_ _)); exact BK817.out) hkp (fun hs_ => (fun e_ => (Kd.R_ne HO_9.out BK817.out (by decide)) e_) hs_)); have n4_ := Aside0.mk (blk_kept (by (with_reducible repeat (first | refine blk_drewN ?_ _ | refine blk_drew ?_ | refine blk_alloc ?_ _)); exact BK833.out) hkp (fun hs_ => (fun e_ => (Kd.R_ne HO_9.out BK833.out (by decide)) e_) hs_)); have n5_ := Aside0.mk (hb); clear HO_6; clear HO_9; clear HO_834000; clear BK817; clear BK833; clear HB; have HO_6 := n0_; have HO_9 := n1_; have HO_834000 := n2_; have BK817 := n3_; have BK833 := n4_; have HB := n5_; clear n0_ n1_ n2_ n3_ n4_ n5_; (try clear hb); (try clear hkp); (try clear hy0)) | ((with_reducible refine gate_callee (f := 30) rfl ?_); refine goesL_ (some 71) rfl rfl Try.func30 (by kernel_rfl) rfl #[.slice Ao80 t849.length co80, .int .i64 1] rfl (by (try simp only [List.map_toArray, List.map_cons, List.map_nil]); first | done | (rw [show t849.length = t834.length from (Kd.R_reads' HO_9.out).1.symm] <;> rfl) | rfl | (simp only [List.length_drop, List.length_take]; rfl)) ?_; (with_reducible refine (laws_heldIntS.calls kj37 _ _ t849 1 t850 _ ?side1 ?side2 A55.out).mono ?_); (case side1 => repeat (first | exact (Kd.R_reads' HO_9.out).2.2 | (with_reducible refine Kd.C_alloc ?_ _) | (with_reducible refine Kd.C_drewN ?_ _) | (with_reducible refine Kd.C_drew ?_))); (case side2 => rw [show t849.length = t834.length from (Kd.R_reads' HO_9.out).1.symm]; exact (Kd.R_reads' HO_9.out).2.1); rintro e w' ⟨rfl, ⟨nd, rfl⟩⟩; refine ⟨_, rfl, ?_⟩))
                      go_ret
                      exact ⟨by first | rfl | (simp [errW_none, errW_some] <;> rfl) | (simp [*, errW_none, errW_some] <;> rfl), by repeat (first | (with_reducible first | exact HB.out | apply below_alloc | apply pw_below_drewN | apply below_drew1 | refine below_set ?_ GE817.out | refine below_set ?_ GE833.out) | exact HB.out)⟩
          · replace c36 := Bool.eq_false_iff.mpr c36
            subst c36
            have H1 : (some false) = some r := by rw [if_neg (show ¬ (false = true) by decide)] at H; exact H
            clear H
            have H := H1
            clear H1
            obtain rfl := Option.some.inj H
            try go_wp2
            have n0_ := Aside0.mk (Kd.R_drew HO_6.out)
            have n1_ := Aside0.mk (Kd.R_drew HO_9.out)
            have n2_ := Aside0.mk (Kd.R_drew HO_834000.out)
            have n3_ := Aside0.mk (blk_drew BK817.out)
            have n4_ := Aside0.mk (blk_drew BK833.out)
            have n5_ := Aside0.mk (below_drew1 HB.out)
            clear HO_6
            clear HO_9
            clear HO_834000
            clear BK817
            clear BK833
            clear HB
            have HO_6 := n0_
            have HO_9 := n1_
            have HO_834000 := n2_
            have BK817 := n3_
            have BK833 := n4_
            have HB := n5_
            clear n0_ n1_ n2_ n3_ n4_ n5_
            refine start_ (n := 5) (S := fun w' => w'.cell? ⟨gb833, 0, none⟩ = some (.slice Ao23 t828.length co23) ∧ w'.cell? ⟨gb833, 1, none⟩ = some (.int .i64 t831) ∧ w'.cell? ⟨gb833, 2, none⟩ = some (.int .i64 t832) ∧ w'.cell? ⟨gb817, 0, none⟩ = some (.slice A0_0 l0_0.length c0_0) ∧ w'.cell? ⟨gb817, 1, none⟩ = some (.int .i64 a0_1) ∧ w'.cell? ⟨gb817, 2, none⟩ = some (.int .i64 a0_2)) (ds := []) #[false, false, false, false, false] (by kernel_rfl) rfl rfl ⟨(blk_cell BK833.out 0).trans rfl, (blk_cell BK833.out 1).trans rfl, (blk_cell BK833.out 2).trans rfl, (blk_cell BK817.out 0).trans rfl, (blk_cell BK817.out 1).trans rfl, (blk_cell BK817.out 2).trans rfl⟩ (fun hHeld => ?_)
            generalize wc.drew = w82 at HO_6 HO_9 HO_834000 BK817 BK833 HB hHeld ⊢
            refine take_ (i := 0) (N := some 45) (v := ?_) (a' := ?_) #[true, false, false, false, false] rfl rfl (by kernel_rfl) (fun _ _ _ h => h) (Or.inl ⟨by rfl, ?_⟩) hHeld ?_ ?_
            rotate_left
            · rintro w' ⟨s0, s1, s2, s3, s4, s5⟩
              go_simp
              with_reducible rfl
            rotate_left
            · simp only [Act.put, List.setIfInBounds_toArray, List.set_cons_zero, List.set_cons_succ, i64_w, i32_w]
              rfl
            refine take_ (i := 1) (N := some 46) (v := ?_) (a' := ?_) #[true, true, false, false, false] rfl rfl (by kernel_rfl) (fun _ _ _ h => h) (Or.inl ⟨by rfl, ?_⟩) hHeld ?_ ?_
            rotate_left
            · rintro w' ⟨s0, s1, s2, s3, s4, s5⟩
              go_simp
              with_reducible rfl
            rotate_left
            · simp only [Act.put, List.setIfInBounds_toArray, List.set_cons_zero, List.set_cons_succ, i64_w, i32_w]
              rfl
            refine one_ (i := 2) (N := some 47) #[true, true, true, false, false] rfl rfl (by kernel_rfl) (by decide) (fun K hK => ?_)
            refine goes_ Try.func42 (by kernel_rfl) rfl #[.agg #[.slice A0_0 l0_0.length c0_0, .int .i64 a0_1, .int .i64 a0_2]] (by rfl) rfl rfl (by (try simp only [List.map_toArray, List.map_cons, List.map_nil]); first | done | rfl | (simp only [List.length_drop, List.length_take]; rfl)) ?_
            with_reducible refine (laws_toPuzzle.calls kj11 _ _ l0_0 a0_1 a0_2 t839 t842 t843 _ ?side1 ?side2 A34.out).mono ?_
            (case side1 => repeat (first | exact (Kd.C_below HR0_0.out HB.out) | (with_reducible refine Kd.C_alloc ?_ _) | (with_reducible refine Kd.C_drewN ?_ _) | (with_reducible refine Kd.C_drew ?_)))
            (case side2 => exact HC0_0.out)
            rintro e w83 ⟨v840, rfl, ho0, hb⟩
            refine ⟨_, rfl, ?_⟩
            have n0_ := Aside0.mk (Kd.R_elder' (by (with_reducible repeat (first | apply Kd.R_alloc | apply Kd.R_drewN | apply Kd.R_drew)); exact HO_6.out) (Kd.R_base ho0) hb)
            have n1_ := Aside0.mk (Kd.R_elder' (by (with_reducible repeat (first | apply Kd.R_alloc | apply Kd.R_drewN | apply Kd.R_drew)); exact HO_9.out) (Kd.R_base ho0) hb)
            have n2_ := Aside0.mk (Kd.R_elder' (by (with_reducible repeat (first | apply Kd.R_alloc | apply Kd.R_drewN | apply Kd.R_drew)); exact HO_834000.out) (Kd.R_base ho0) hb)
            have n3_ := Aside0.mk (Kd.R_lower (Kd.R_new' (Kd.R_new' (Kd.R_new' ho0 (Kd.R_lt (by (with_reducible repeat (first | apply Kd.R_alloc | apply Kd.R_drewN | apply Kd.R_drew)); exact HO_6.out))) (Kd.R_lt (by (with_reducible repeat (first | apply Kd.R_alloc | apply Kd.R_drewN | apply Kd.R_drew)); exact HO_9.out))) (Kd.R_lt (by (with_reducible repeat (first | apply Kd.R_alloc | apply Kd.R_drewN | apply Kd.R_drew)); exact HO_834000.out))) (below_size (by repeat (first | (with_reducible first | exact HB.out | apply below_alloc | apply pw_below_drewN | apply below_drew1 | refine below_set ?_ GE817.out | refine below_set ?_ GE833.out) | exact HB.out))))
            have n4_ := Aside0.mk (blk_below (g := gb817) (o := .cells #[.slice A0_0 l0_0.length c0_0, .int .i64 a0_1, .int .i64 a0_2] 53 (0, 0)) (by (with_reducible repeat (first | refine blk_drewN ?_ _ | refine blk_drew ?_ | refine blk_alloc ?_ _)); exact BK817.out) hb)
            have n5_ := Aside0.mk (blk_below (g := gb833) (o := .cells #[.slice Ao23 t828.length co23, .int .i64 t831, .int .i64 t832] 35 (0, 0)) (by (with_reducible repeat (first | refine blk_drewN ?_ _ | refine blk_drew ?_ | refine blk_alloc ?_ _)); exact BK833.out) hb)
            have n6_ := Aside0.mk (below_step (by repeat (first | (with_reducible first | exact HB.out | apply below_alloc | apply pw_below_drewN | apply below_drew1 | refine below_set ?_ GE817.out | refine below_set ?_ GE833.out) | exact HB.out)) hb)
            clear HO_6
            clear HO_9
            clear HO_834000
            clear BK817
            clear BK833
            clear HB
            have HO_6 := n0_
            have HO_9 := n1_
            have HO_834000 := n2_
            have HO841 := n3_
            have BK817 := n4_
            have BK833 := n5_
            have HB := n6_
            clear n0_ n1_ n2_ n3_ n4_ n5_ n6_
            (try clear hb)
            (try clear hb2)
            (try clear hk)
            (try clear hi)
            (try clear ho0)
            obtain ⟨Ao84, co84, eo84⟩ := Kd.R_slice HO841.out
            (first | subst eo84 | (injection eo84 with f1_ f2_ f3_; have f4_ := f1_.symm; have f5_ := f3_.symm; clear f1_ f2_ f3_; subst f4_; subst f5_))
            refine hK.out _ _ ⟨(blk_cell BK833.out 0).trans rfl, (blk_cell BK833.out 1).trans rfl, (blk_cell BK833.out 2).trans rfl, (blk_cell BK817.out 0).trans rfl, (blk_cell BK817.out 1).trans rfl, (blk_cell BK817.out 2).trans rfl⟩ (fun hHeld => ?_)
            clear hK K
            refine norm_ (a' := ?_) ?_ ?_
            rotate_left
            · show Act.put _ (some 47) _ = _
              simp only [Act.put, List.setIfInBounds_toArray, List.set_cons_zero, List.set_cons_succ, i64_w, i32_w]
              rfl
            refine one_ (i := 3) (N := some 48) #[true, true, true, true, false] rfl rfl (by kernel_rfl) (by decide) (fun K hK => ?_)
            refine goes_ Try.func23 (by kernel_rfl) rfl #[.agg #[.slice Ao23 t828.length co23, .int .i64 t831, .int .i64 t832], .agg #[.slice Ao84 t839.length co84, .int .i64 t842, .int .i64 t843]] (by rfl) rfl rfl (by (try simp only [List.map_toArray, List.map_cons, List.map_nil]); first | done | rfl | (simp only [List.length_drop, List.length_take]; rfl)) ?_
            with_reducible refine (laws_eqPuzzle.calls kj11 _ _ t828 t831 t832 _ _ t839 t842 t843 false _ ?side1 ?side2 ?side3 ?side4 A35.out).mono ?_
            (case side1 => repeat (first | exact (Kd.R_reads' HO_834000.out).2.2 | (with_reducible refine Kd.C_alloc ?_ _) | (with_reducible refine Kd.C_drewN ?_ _) | (with_reducible refine Kd.C_drew ?_)))
            (case side2 => exact (Kd.R_reads' HO_834000.out).2.1)
            (case side3 => repeat (first | exact (Kd.R_reads' HO841.out).2.2 | (with_reducible refine Kd.C_alloc ?_ _) | (with_reducible refine Kd.C_drewN ?_ _) | (with_reducible refine Kd.C_drew ?_)))
            (case side4 => exact (Kd.R_reads' HO841.out).2.1)
            rintro e w85 ⟨rfl, hb⟩
            refine ⟨_, rfl, ?_⟩
            have n0_ := Aside0.mk (Kd.R_below (by (with_reducible repeat (first | apply Kd.R_alloc | apply Kd.R_drewN | apply Kd.R_drew)); exact HO_6.out) hb)
            have n1_ := Aside0.mk (Kd.R_below (by (with_reducible repeat (first | apply Kd.R_alloc | apply Kd.R_drewN | apply Kd.R_drew)); exact HO_9.out) hb)
            have n2_ := Aside0.mk (Kd.R_below (by (with_reducible repeat (first | apply Kd.R_alloc | apply Kd.R_drewN | apply Kd.R_drew)); exact HO_834000.out) hb)
            have n3_ := Aside0.mk (Kd.R_below (by (with_reducible repeat (first | apply Kd.R_alloc | apply Kd.R_drewN | apply Kd.R_drew)); exact HO841.out) hb)
            have n4_ := Aside0.mk (blk_below (g := gb817) (o := .cells #[.slice A0_0 l0_0.length c0_0, .int .i64 a0_1, .int .i64 a0_2] 53 (0, 0)) (by (with_reducible repeat (first | refine blk_drewN ?_ _ | refine blk_drew ?_ | refine blk_alloc ?_ _)); exact BK817.out) hb)
            have n5_ := Aside0.mk (blk_below (g := gb833) (o := .cells #[.slice Ao23 t828.length co23, .int .i64 t831, .int .i64 t832] 35 (0, 0)) (by (with_reducible repeat (first | refine blk_drewN ?_ _ | refine blk_drew ?_ | refine blk_alloc ?_ _)); exact BK833.out) hb)
            have n6_ := Aside0.mk (below_step (by repeat (first | (with_reducible first | exact HB.out | apply below_alloc | apply pw_below_drewN | apply below_drew1 | refine below_set ?_ GE817.out | refine below_set ?_ GE833.out) | exact HB.out)) hb)
            clear HO_6
            clear HO_9
            clear HO_834000
            clear HO841
            clear BK817
            clear BK833
            clear HB
            have HO_6 := n0_
            have HO_9 := n1_
            have HO_834000 := n2_
            have HO841 := n3_
            have BK817 := n4_
            have BK833 := n5_
            have HB := n6_
            clear n0_ n1_ n2_ n3_ n4_ n5_ n6_
            (try clear hb)
            (try clear hb2)
            (try clear hk)
            (try clear hi)
            refine hK.out _ _ ⟨(blk_cell BK833.out 0).trans rfl, (blk_cell BK833.out 1).trans rfl, (blk_cell BK833.out 2).trans rfl, (blk_cell BK817.out 0).trans rfl, (blk_cell BK817.out 1).trans rfl, (blk_cell BK817.out 2).trans rfl⟩ (fun hHeld => ?_)
            clear hK K
            refine norm_ (a' := ?_) ?_ ?_
            rotate_left
            · show Act.put _ (some 48) _ = _
              simp only [Act.put, List.setIfInBounds_toArray, List.set_cons_zero, List.set_cons_succ, i64_w, i32_w]
              rfl
            refine pure_ (i := 4) (N := some 49) (v := ?_) (a' := ?_) #[true, true, true, true, true] rfl rfl (by kernel_rfl) (fun _ _ _ h => h) (Or.inl ⟨by rfl, ?_⟩) ?_ ?_
            rotate_left
            · intro w'
              go_simp
              with_reducible rfl
            rotate_left
            · simp only [Act.put, List.setIfInBounds_toArray, List.set_cons_zero, List.set_cons_succ, i64_w, i32_w]
              rfl
            refine done_ (by kernel_rfl) ?_
            try go_wp2
            go_ret
            exact ⟨by first | rfl | (simp [errW_none, errW_some] <;> rfl) | (simp [*, errW_none, errW_some] <;> rfl), by repeat (first | (with_reducible first | exact HB.out | apply below_alloc | apply pw_below_drewN | apply below_drew1 | refine below_set ?_ GE817.out | refine below_set ?_ GE833.out) | exact HB.out)⟩

/-- The statement of laws_FnExactCanStand over numbers and lists. -/
def laws_FnExactCanStand.Pure : Prop := ∀ (l0_0 : List Int) (a0_1 : Int) (a0_2 : Int) (a1 : Int), l0_0.length ≤ maxLen → l0_0.length * 8 ≤ 140737488351232 → (∀ x ∈ l0_0, (Lit.int .i64 x).wf = true) → (Lit.int .i64 a0_1).wf = true → (Lit.int .i64 a0_2).wf = true → (Lit.int .i64 a1).wf = true → ∃ k, laws_FnExactCanStand.f k l0_0 a0_1 a0_2 a1 = some true
theorem laws_FnExactCanStand.walk (P : laws_FnExactCanStand.Pure) (a0_0 : Option Addr) (len0_0 cap0_0 : Nat) (z0_0 : List Int) (a0_1 : Int) (a0_2 : Int) (a1 : Int) (w : World) (w0_0 : (a0_0 = none ∧ len0_0 = 0 ∧ cap0_0 = 0 ∧ z0_0 = []) ∨ ∃ x, a0_0 = some x ∧ len0_0 ≤ cap0_0 ∧ cap0_0 ≤ maxLen ∧ z0_0.length = cap0_0 ∧ (∀ i, i < z0_0.length → w.cell? (x.add i) = some (.int .i64 (z0_0.getD i 0))) ∧ ∀ n ∈ z0_0, (Lit.int .i64 n).wf = true) (y0_0 : len0_0 * 8 ≤ 140737488351232) (w0_1 : (Lit.int .i64 a0_1).wf = true) (w0_2 : (Lit.int .i64 a0_2).wf = true) (w1 : (Lit.int .i64 a1).wf = true) :
    Calls Try.prog 10 #[.agg #[.slice a0_0 len0_0 cap0_0, .int .i64 a0_1, .int .i64 a0_2], .int .i64 a1] w fun e w' => e = .returned (.bool true) ∧ Below w.heap.size w w' := by
  obtain ⟨l0_0, rfl, hr0_0, hm0_0, hw0_0, hc0_0⟩ := ReadsInt.ofRowC w0_0
  obtain ⟨k, h⟩ := P l0_0 a0_1 a0_2 a1 hm0_0 y0_0 hw0_0 w0_1 w0_2 w1
  refine (laws_FnExactCanStand.calls k _ _ l0_0 a0_1 a0_2 a1 true w (Kd.C_of_reads (d := (0 : Int)) (h1 := fun _ => rfl) hr0_0) hc0_0 h).mono ?_
  rintro e w' ⟨rfl, hd⟩
  exact ⟨rfl, hd⟩

noncomputable def laws_FnExactCanStand.J0 (x1 : Int) (x6 : List Int) (x7 : Bool) (x9 : List Int) (x10 : Bool) (x44 : Bool) (x818000 : List Int) (x818001 : Int) (x818002 : Int) (x834000 : List Int) (x834001 : Int) (x834002 : Int) : Option (Bool) := lim fun k => laws_FnExactCanStand.j0 k x1 x6 x7 x9 x10 x44 x818000 x818001 x818002 x834000 x834001 x834002
theorem laws_FnExactCanStand.J0_lim (x1 : Int) (x6 : List Int) (x7 : Bool) (x9 : List Int) (x10 : Bool) (x44 : Bool) (x818000 : List Int) (x818001 : Int) (x818002 : Int) (x834000 : List Int) (x834001 : Int) (x834002 : Int) : Lim (fun k => laws_FnExactCanStand.j0 k x1 x6 x7 x9 x10 x44 x818000 x818001 x818002 x834000 x834001 x834002) (laws_FnExactCanStand.J0 x1 x6 x7 x9 x10 x44 x818000 x818001 x818002 x834000 x834001 x834002) := Lim.of fun k => (laws_FnExactCanStand.mono_l k).1 x1 x6 x7 x9 x10 x44 x818000 x818001 x818002 x834000 x834001 x834002
noncomputable def laws_FnExactCanStand.J1 (x1 : Int) (x6 : List Int) (x7 : Bool) (x9 : List Int) (x65 : Bool) (x818000 : List Int) (x818001 : Int) (x818002 : Int) : Option (Bool) := lim fun k => laws_FnExactCanStand.j1 k x1 x6 x7 x9 x65 x818000 x818001 x818002
theorem laws_FnExactCanStand.J1_lim (x1 : Int) (x6 : List Int) (x7 : Bool) (x9 : List Int) (x65 : Bool) (x818000 : List Int) (x818001 : Int) (x818002 : Int) : Lim (fun k => laws_FnExactCanStand.j1 k x1 x6 x7 x9 x65 x818000 x818001 x818002) (laws_FnExactCanStand.J1 x1 x6 x7 x9 x65 x818000 x818001 x818002) := Lim.of fun k => (laws_FnExactCanStand.mono_l k).2.1 x1 x6 x7 x9 x65 x818000 x818001 x818002
noncomputable def laws_FnExactCanStand.J2 (x9 : List Int) (x12 : Int) (x92 : Bool) : Option (Bool) := lim fun k => laws_FnExactCanStand.j2 k x9 x12 x92
theorem laws_FnExactCanStand.J2_lim (x9 : List Int) (x12 : Int) (x92 : Bool) : Lim (fun k => laws_FnExactCanStand.j2 k x9 x12 x92) (laws_FnExactCanStand.J2 x9 x12 x92) := Lim.of fun k => (laws_FnExactCanStand.mono_l k).2.2 x9 x12 x92
noncomputable def laws_FnExactCanStand.F (l0_0 : List Int) (a0_1 : Int) (a0_2 : Int) (a1 : Int) : Option (Bool) := lim fun k => laws_FnExactCanStand.f k l0_0 a0_1 a0_2 a1
theorem laws_FnExactCanStand.F_lim (l0_0 : List Int) (a0_1 : Int) (a0_2 : Int) (a1 : Int) : Lim (fun k => laws_FnExactCanStand.f k l0_0 a0_1 a0_2 a1) (laws_FnExactCanStand.F l0_0 a0_1 a0_2 a1) := Lim.of fun k => laws_FnExactCanStand.mono l0_0 a0_1 a0_2 a1 k
theorem laws_FnExactCanStand.J0_eq (x1 : Int) (x6 : List Int) (x7 : Bool) (x9 : List Int) (x10 : Bool) (x44 : Bool) (x818000 : List Int) (x818001 : Int) (x818002 : Int) (x834000 : List Int) (x834001 : Int) (x834002 : Int) : laws_FnExactCanStand.J0 x1 x6 x7 x9 x10 x44 x818000 x818001 x818002 x834000 x834001 x834002 = (if x44 = true then (some false) else ((laws_toPuzzle.F x818000 x818001 x818002).bind fun bt839 => ((laws_eqPuzzle.F x834000 x834001 x834002 bt839.1 bt839.2.1 bt839.2.2).bind fun t844 => (if t844 = true then ((laws_markPuzzle.F x834000 x834001 x834002 1).bind fun bt845 => (if bt845.1 < 0 then (laws_FnExactCanStand.J1 x1 x6 x7 x9 true x818000 x818001 x818002) else ((laws_eqIntS.F x9 x6).bind fun t847 => (if t847 = true then (laws_FnExactCanStand.J1 x1 x6 x7 x9 (x10 != x7) x818000 x818001 x818002) else (laws_FnExactCanStand.J1 x1 x6 x7 x9 true x818000 x818001 x818002))))) else (some false))))) :=
  Lim.step (f := fun k => (if x44 = true then (some false) else ((laws_toPuzzle.f k x818000 x818001 x818002).bind fun bt839 => ((laws_eqPuzzle.f k x834000 x834001 x834002 bt839.1 bt839.2.1 bt839.2.2).bind fun t844 => (if t844 = true then ((laws_markPuzzle.f k x834000 x834001 x834002 1).bind fun bt845 => (if bt845.1 < 0 then (laws_FnExactCanStand.j1 k x1 x6 x7 x9 true x818000 x818001 x818002) else ((laws_eqIntS.f k x9 x6).bind fun t847 => (if t847 = true then (laws_FnExactCanStand.j1 k x1 x6 x7 x9 (x10 != x7) x818000 x818001 x818002) else (laws_FnExactCanStand.j1 k x1 x6 x7 x9 true x818000 x818001 x818002))))) else (some false)))))) (laws_FnExactCanStand.J0_lim x1 x6 x7 x9 x10 x44 x818000 x818001 x818002 x834000 x834001 x834002) (fun k => by first | rfl | rw [laws_FnExactCanStand.j0]) (by
    repeat' first
    | (with_reducible exact Lim.const _)
    | (with_reducible exact laws_FnExactCanStand.J1_lim _ _ _ _ _ _ _ _)
    | (with_reducible exact laws_eqIntS.F_lim _ _)
    | (with_reducible exact laws_eqPuzzle.F_lim _ _ _ _ _ _)
    | (with_reducible exact laws_markPuzzle.F_lim _ _ _ _)
    | (with_reducible exact laws_toPuzzle.F_lim _ _ _)
    | (with_reducible refine Lim.ite ?_ ?_)
    | (with_reducible refine Lim.bind ?_ (fun _ => ?_)))
theorem laws_FnExactCanStand.J1_eq (x1 : Int) (x6 : List Int) (x7 : Bool) (x9 : List Int) (x65 : Bool) (x818000 : List Int) (x818001 : Int) (x818002 : Int) : laws_FnExactCanStand.J1 x1 x6 x7 x9 x65 x818000 x818001 x818002 = (if x65 = true then (some false) else ((laws_markIntS.F x9 1).bind fun bt848 => ((laws_heldIntS.F bt848.2 1).bind fun t850 => (if t850 < 0 then (some false) else (if t850 = bt848.1 then ((laws_toPuzzle.F x818000 x818001 x818002).bind fun bt851 => ((impl_CanStand.F bt851.1 bt851.2.1 bt851.2.2 x1).bind fun bt856 => ((laws_eqIntS.F bt856.1 x6).bind fun t860 => (if t860 = true then (laws_FnExactCanStand.J2 bt848.2 bt848.1 (bt856.2 != x7)) else (laws_FnExactCanStand.J2 bt848.2 bt848.1 true))))) else (some false)))))) :=
  Lim.step (f := fun k => (if x65 = true then (some false) else ((laws_markIntS.f k x9 1).bind fun bt848 => ((laws_heldIntS.f k bt848.2 1).bind fun t850 => (if t850 < 0 then (some false) else (if t850 = bt848.1 then ((laws_toPuzzle.f k x818000 x818001 x818002).bind fun bt851 => ((impl_CanStand.f k bt851.1 bt851.2.1 bt851.2.2 x1).bind fun bt856 => ((laws_eqIntS.f k bt856.1 x6).bind fun t860 => (if t860 = true then (laws_FnExactCanStand.j2 k bt848.2 bt848.1 (bt856.2 != x7)) else (laws_FnExactCanStand.j2 k bt848.2 bt848.1 true))))) else (some false))))))) (laws_FnExactCanStand.J1_lim x1 x6 x7 x9 x65 x818000 x818001 x818002) (fun k => by first | rfl | rw [laws_FnExactCanStand.j1]) (by
    repeat' first
    | (with_reducible exact Lim.const _)
    | (with_reducible exact impl_CanStand.F_lim _ _ _ _)
    | (with_reducible exact laws_FnExactCanStand.J2_lim _ _ _)
    | (with_reducible exact laws_eqIntS.F_lim _ _)
    | (with_reducible exact laws_heldIntS.F_lim _ _)
    | (with_reducible exact laws_markIntS.F_lim _ _)
    | (with_reducible exact laws_toPuzzle.F_lim _ _ _)
    | (with_reducible refine Lim.ite ?_ ?_)
    | (with_reducible refine Lim.bind ?_ (fun _ => ?_)))
theorem laws_FnExactCanStand.J2_eq (x9 : List Int) (x12 : Int) (x92 : Bool) : laws_FnExactCanStand.J2 x9 x12 x92 = (if x92 = true then (some false) else ((laws_heldIntS.F x9 1).bind fun t861 => (if t861 < 0 then (some false) else (if t861 = x12 then (some true) else (some false))))) :=
  Lim.step (f := fun k => (if x92 = true then (some false) else ((laws_heldIntS.f k x9 1).bind fun t861 => (if t861 < 0 then (some false) else (if t861 = x12 then (some true) else (some false)))))) (laws_FnExactCanStand.J2_lim x9 x12 x92) (fun k => by first | rfl | rw [laws_FnExactCanStand.j2]) (by
    repeat' first
    | (with_reducible exact Lim.const _)
    | (with_reducible exact laws_heldIntS.F_lim _ _)
    | (with_reducible refine Lim.ite ?_ ?_)
    | (with_reducible refine Lim.bind ?_ (fun _ => ?_)))
theorem laws_FnExactCanStand.F_eq (l0_0 : List Int) (a0_1 : Int) (a0_2 : Int) (a1 : Int) : laws_FnExactCanStand.F l0_0 a0_1 a0_2 a1 = ((laws_szPuzzle.f l0_0 a0_1 a0_2 1048576).bind fun t818 => (if t818 < 0 then (some true) else ((laws_toPuzzle.F l0_0 a0_1 a0_2).bind fun bt819 => ((spec_CanStand.F bt819.1 bt819.2.1 bt819.2.2 a1).bind fun bt824 => ((laws_toPuzzle.F l0_0 a0_1 a0_2).bind fun bt828 => ((impl_CanStand.F bt828.1 bt828.2.1 bt828.2.2 a1).bind fun bt834 => ((laws_eqIntS.F bt834.1 bt824.1).bind fun t838 => (if t838 = true then (laws_FnExactCanStand.J0 a1 bt824.1 bt824.2 bt834.1 bt834.2 (bt834.2 != bt824.2) l0_0 a0_1 a0_2 bt828.1 bt828.2.1 bt828.2.2) else (laws_FnExactCanStand.J0 a1 bt824.1 bt824.2 bt834.1 bt834.2 true l0_0 a0_1 a0_2 bt828.1 bt828.2.1 bt828.2.2))))))))) :=
  Lim.unique (laws_FnExactCanStand.F_lim l0_0 a0_1 a0_2 a1) (by
    unfold laws_FnExactCanStand.f
    repeat' first
    | (with_reducible exact Lim.const _)
    | (with_reducible exact impl_CanStand.F_lim _ _ _ _)
    | (with_reducible exact laws_FnExactCanStand.J0_lim _ _ _ _ _ _ _ _ _ _ _ _)
    | (with_reducible exact laws_eqIntS.F_lim _ _)
    | (with_reducible exact laws_toPuzzle.F_lim _ _ _)
    | (with_reducible exact spec_CanStand.F_lim _ _ _ _)
    | (with_reducible refine Lim.ite ?_ ?_)
    | (with_reducible refine Lim.bind ?_ (fun _ => ?_)))

end Go.Proofs.Ytiopjegbggjdcaa.Fn
namespace Go.Proofs.Ytiopjegbggjdcaa.Fn
open Go.RowKit Go.Proofs.YtiopjegbggjdcaaW.PrintWords Go.Proofs.YtiopjegbggjdcaaW.PrintLast Go.Proofs.YtiopjegbggjdcaaW.PrintMore
set_option linter.unusedVariables false
set_option linter.unusedSimpArgs false
theorem laws_toIntS.L0_val : ∀ (suf pre junk : List Int), (pre ++ suf).length < 4611686018427387904 → junk.length = suf.length → laws_toIntS.L0 (pre ++ suf) (pre ++ junk) (pre.length : Int) = some (pre ++ suf)
  | [], pre, junk, h, hj => by
    obtain rfl : junk = [] := List.eq_nil_of_length_eq_zero hj
    rw [laws_toIntS.L0_eq, range_end]
  | x :: suf, pre, j :: junk, h, hj => by
    have hj' : junk.length = suf.length := by simpa using hj
    have h1 : (pre.length : Int) < ((pre ++ x :: suf).length : Int) := by rw [List.length_append, List.length_cons]; omega
    have h2 : (pre.length : Int) < ((pre ++ j :: junk).length : Int) := by rw [List.length_append, List.length_cons]; omega
    have ih := laws_toIntS.L0_val suf (pre ++ [x]) junk (by simpa using h) hj'
    rw [laws_toIntS.L0_eq, if_pos h1, if_pos (by omega), if_pos h2, rd_mid, wrap_mid h]
    have e : (pre ++ j :: junk).set ((pre.length : Int)).toNat x = (pre ++ [x]) ++ junk := by simp
    rw [e, app_mid]
    exact ih
theorem laws_toIntS.F_val (l : List Int) (h : l.length ≤ 35184372088832) : laws_toIntS.F l = some l := by
  rw [laws_toIntS.F_eq, if_pos (by omega), if_pos (by simpa using h)]
  have := laws_toIntS.L0_val l [] (List.replicate l.length 0) (by simp; omega) (by simp)
  simpa using this
theorem laws_eqIntS.L0_val : ∀ (sa pre sb : List Int), (pre ++ sa).length < 4611686018427387904 → sa.length = sb.length → laws_eqIntS.L0 (pre ++ sa) (pre ++ sb) (pre.length : Int) = some (decide (sa = sb))
  | [], pre, sb, h, hj => by
    obtain rfl : sb = [] := List.eq_nil_of_length_eq_zero hj.symm
    rw [laws_eqIntS.L0_eq, range_end]
    simp
  | x :: sa, pre, y :: sb, h, hj => by
    have h1 : (pre.length : Int) < ((pre ++ x :: sa).length : Int) := by rw [List.length_append, List.length_cons]; omega
    have h2 : (pre.length : Int) < ((pre ++ y :: sb).length : Int) := by rw [List.length_append, List.length_cons]; omega
    rw [laws_eqIntS.L0_eq, if_pos h1, if_pos (by omega), if_pos h2, rd_mid, rd_mid, wrap_mid h]
    by_cases e : x = y
    · subst e
      rw [if_pos rfl, app_mid pre x sa, app_mid pre x sb, laws_eqIntS.L0_val sa (pre ++ [x]) sb (by simpa using h) (by simpa using hj)]
      simp
    · rw [if_neg e]
      simp [e]
theorem laws_eqIntS.F_val (a b : List Int) (h : a.length < 4611686018427387904) : laws_eqIntS.F a b = some (decide (a = b)) := by
  rw [laws_eqIntS.F_eq]
  by_cases e : (a.length : Int) = (b.length : Int)
  · rw [if_pos e]
    have := laws_eqIntS.L0_val a [] b (by simpa using h) (by omega)
    simpa using this
  · rw [if_neg e]
    have : ¬ a = b := fun hab => e (by rw [hab])
    simp [this]
theorem laws_eqIntS.F_same (a : List Int) (h : a.length < 4611686018427387904) : laws_eqIntS.F a a = some true := by
  rw [laws_eqIntS.F_val a a h]
  simp
/-- The numbers k, k + 1, .., n of them. -/
def marks : Nat → Int → List Int
  | 0, _ => []
  | n + 1, k => k :: marks n (k + 1)
theorem marks_length : ∀ n k, (marks n k).length = n
  | 0, _ => rfl
  | n + 1, k => by simp [marks, marks_length n]
theorem laws_markIntS.L0_val : ∀ (suf pre : List Int) (k : Int), (pre ++ suf).length < 4611686018427387904 → 0 ≤ k → k + suf.length < 4611686018427387904 → laws_markIntS.L0 (pre ++ suf) k (pre.length : Int) = some (k + suf.length, pre ++ marks suf.length k)
  | [], pre, k, h, h0, hk => by
    rw [laws_markIntS.L0_eq, range_end]
    simp [marks]
  | x :: suf, pre, k, h, h0, hk => by
    have h1 : (pre.length : Int) < ((pre ++ x :: suf).length : Int) := by rw [List.length_append, List.length_cons]; omega
    have hk' : k + (suf.length + 1 : Nat) < 4611686018427387904 := by simpa using hk
    rw [laws_markIntS.L0_eq, if_pos h1, if_pos (by omega), wrap_mid h, wrap_in (n := k + 1) (by omega) (by omega)]
    have e : (pre ++ x :: suf).set ((pre.length : Int)).toNat k = (pre ++ [k]) ++ suf := by simp
    have el : ((pre ++ [x]).length : Int) = ((pre ++ [k]).length : Int) := by simp
    rw [e, el, laws_markIntS.L0_val suf (pre ++ [k]) (k + 1) (by simpa using h) (by omega) (by omega)]
    simp [marks]
    omega
theorem laws_markIntS.F_val (l : List Int) (k : Int) (h0 : 0 ≤ k) (hk : k + l.length < 4611686018427387904) : laws_markIntS.F l k = some (k + l.length, marks l.length k) := by
  rw [laws_markIntS.F_eq]
  have := laws_markIntS.L0_val l [] k (by simp; omega) h0 hk
  simpa using this
theorem laws_heldIntS.L0_val : ∀ (n : Nat) (pre : List Int) (k : Int), pre.length + n < 4611686018427387904 → 0 ≤ k → k + n < 4611686018427387904 → laws_heldIntS.L0 (pre ++ marks n k) k (pre.length : Int) = some (k + n)
  | 0, pre, k, h, h0, hk => by
    rw [laws_heldIntS.L0_eq, marks, range_end]
    simp
  | n + 1, pre, k, h, h0, hk => by
    have h1 : (pre.length : Int) < ((pre ++ k :: marks n (k + 1)).length : Int) := by rw [List.length_append, List.length_cons]; omega
    have h2 : (pre ++ k :: marks n (k + 1)).length < 4611686018427387904 := by rw [List.length_append, List.length_cons, marks_length]; omega
    rw [laws_heldIntS.L0_eq, marks, if_pos h1, if_pos (by omega), rd_mid, if_pos rfl, wrap_mid h2, wrap_in (n := k + 1) (by omega) (by omega), app_mid, laws_heldIntS.L0_val n (pre ++ [k]) (k + 1) (by simp; omega) (by omega) (by omega)]
    congr 1
    omega
theorem laws_heldIntS.F_val (n : Nat) (k : Int) (h0 : 0 ≤ k) (hk : k + n < 4611686018427387904) : laws_heldIntS.F (marks n k) k = some (k + n) := by
  rw [laws_heldIntS.F_eq]
  have := laws_heldIntS.L0_val n [] k (by simp; omega) h0 hk
  simpa using this
end Go.Proofs.Ytiopjegbggjdcaa.Fn
namespace Go.Proofs.Ytiopjegbggjdcaa.Fn
open Go.RowKit Go.Proofs.YtiopjegbggjdcaaW.PrintWords Go.Proofs.YtiopjegbggjdcaaW.PrintLast Go.Proofs.YtiopjegbggjdcaaW.PrintMore
set_option linter.unusedVariables false
set_option linter.unusedSimpArgs false
theorem spec_l1In.f_val (a b c : Int) : spec_l1In.f a b c = some (decide (b ≤ a) && decide (a ≤ c)) := by
  unfold spec_l1In.f
  by_cases h : a ≥ b
  · rw [if_pos h]
    simp [show b ≤ a from h]
  · rw [if_neg h]
    simp [show ¬ b ≤ a from h]
end Go.Proofs.Ytiopjegbggjdcaa.Fn
namespace Go.Proofs.Ytiopjegbggjdcaa.Fn
open Go.RowKit Go.Proofs.YtiopjegbggjdcaaW.PrintWords Go.Proofs.YtiopjegbggjdcaaW.PrintLast Go.Proofs.YtiopjegbggjdcaaW.PrintMore
set_option linter.unusedVariables false
set_option linter.unusedSimpArgs false
theorem laws_szPuzzle.f_val (l : List Int) (a s : Int) (h : l.length ≤ 35184372088832) : laws_szPuzzle.f l a s 1048576 = some (if l.length ≤ 1048576 then 1048576 - (l.length : Int) else -1) := by
  unfold laws_szPuzzle.f laws_szIntS.f
  rw [wrap_in (by omega) (by omega)]
  by_cases h1 : l.length ≤ 1048576
  · rw [if_neg (by omega), if_pos h1]
    simp only [Option.bind_some]
    rw [if_neg (by omega)]
  · rw [if_pos (by omega), if_neg h1]
    rfl
theorem laws_toPuzzle.F_val (l : List Int) (a s : Int) (h : l.length ≤ 35184372088832) : laws_toPuzzle.F l a s = some (l, a, s) := by
  rw [laws_toPuzzle.F_eq, laws_toIntS.F_val l h]
  rfl
theorem laws_eqPuzzle.F_same (l : List Int) (a s : Int) (h : l.length < 4611686018427387904) : laws_eqPuzzle.F l a s l a s = some true := by
  rw [laws_eqPuzzle.F_eq, laws_eqIntS.F_same l h]
  simp only [Option.bind_some, if_true]
theorem laws_markPuzzle.F_val (l : List Int) (a s : Int) (k : Int) (h0 : 0 ≤ k) (hk : k + l.length < 4611686018427387904) : laws_markPuzzle.F l a s k = some (k + l.length, marks l.length k) := by
  rw [laws_markPuzzle.F_eq, laws_markIntS.F_val l k h0 hk]
  rfl
/-- What a puzzle's length, first number and shift must be. -/
def puzzleHead (n : Nat) (a s : Int) : Prop := n % 2 = 0 ∧ 1 ≤ n / 2 ∧ n / 2 ≤ 9 ∧ 1 ≤ a ∧ a ≤ 20 ∧ (s = 0 ∨ s = 1) ∧ a + ((n / 2 : Nat) : Int) ≤ 21
instance (n : Nat) (a s : Int) : Decidable (puzzleHead n a s) := by unfold puzzleHead; infer_instance
def amongOf (n : Nat) (a x : Int) : Bool := decide (a ≤ x) && decide (x < a + ((n / 2 : Nat) : Int))
def isPuzzle (l : List Int) (a s : Int) : Bool := decide (puzzleHead l.length a s) && l.all (fun x => decide (x = 0) || amongOf l.length a x)
theorem isPuzzle_head {l : List Int} {a s : Int} (h : isPuzzle l a s = true) : puzzleHead l.length a s := by
  unfold isPuzzle at h
  simp only [Bool.and_eq_true, decide_eq_true_eq] at h
  exact h.1
theorem isPuzzle_no {l : List Int} {a s : Int} (h : ¬ puzzleHead l.length a s) : isPuzzle l a s = false := by
  unfold isPuzzle
  rw [decide_eq_false h, Bool.false_and]
theorem isPuzzle_yes {l : List Int} {a s : Int} (h : puzzleHead l.length a s) : isPuzzle l a s = l.all (fun x => decide (x = 0) || amongOf l.length a x) := by
  unfold isPuzzle
  rw [decide_eq_true h, Bool.true_and]
theorem spec_pzGood.L0_val (l : List Int) (a s : Int) (n : Nat) (hn : n / 2 ≤ 9) (ha : 1 ≤ a ∧ a ≤ 20) : ∀ (suf pre : List Int), (pre ++ suf).length < 4611686018427387904 → spec_pzGood.L0 ((n / 2 : Nat) : Int) (pre ++ suf) ((pre ++ suf).length : Int) (pre.length : Int) l a s = some (suf.all (fun x => decide (x = 0) || amongOf n a x))
  | [], pre, h => by
    rw [spec_pzGood.L0_eq, range_end]
    rfl
  | x :: suf, pre, h => by
    have w : wrap64 (wrap64 (a + ((n / 2 : Nat) : Int)) - 1) = a + ((n / 2 : Nat) : Int) - 1 := by rw [wrap_in (n := a + _) (by omega) (by omega), wrap_in (by omega) (by omega)]
    rw [spec_pzGood.L0_eq, range_step, rd_mid, wrap_mid h, app_mid pre x suf, spec_pzGood.L0_val l a s n hn ha suf (pre ++ [x]) (by simpa using h), w, spec_l1In.f_val]
    simp only [Option.bind_some]
    by_cases h1 : x = 0
    · rw [if_pos h1]
      simp [h1]
    · rw [if_neg h1]
      have e : (decide (a ≤ x) && decide (x ≤ a + ((n / 2 : Nat) : Int) - 1)) = amongOf n a x := by
        unfold amongOf
        congr 1
        rw [decide_eq_decide]
        omega
      rw [e]
      by_cases h2 : amongOf n a x = true
      · rw [if_pos h2]
        simp [h1, h2]
      · rw [if_neg h2]
        simp [h1, h2]
theorem spec_pzGood.F_val (l : List Int) (a s : Int) (h : l.length < 4611686018427387904) : spec_pzGood.F l a s = some (isPuzzle l a s) := by
  have w : wrap64 ((l.length : Int) / 2) = ((l.length / 2 : Nat) : Int) := by rw [wrap_in (by omega) (by omega)]; omega
  rw [spec_pzGood.F_eq, w]
  simp only [spec_l1In.f_val, Option.bind_some, spec_pzGood.J0_eq]
  by_cases h1 : l.length % 2 = 0
  · rw [if_pos (show (l.length : Int) % 2 = 0 by omega)]
    by_cases h2 : 1 ≤ l.length / 2 ∧ l.length / 2 ≤ 9
    · have h2' : (decide ((1 : Int) ≤ ((l.length / 2 : Nat) : Int)) && decide (((l.length / 2 : Nat) : Int) ≤ 9)) = true := by simp; omega
      rw [if_pos h2']
      by_cases h3 : 1 ≤ a ∧ a ≤ 20
      · have h3' : (decide (1 ≤ a) && decide (a ≤ 20)) = true := by simp; omega
        have w2 : wrap64 (wrap64 (a + ((l.length / 2 : Nat) : Int)) - 1) = a + ((l.length / 2 : Nat) : Int) - 1 := by rw [wrap_in (n := a + _) (by omega) (by omega), wrap_in (by omega) (by omega)]
        rw [if_pos h3', w2]
        by_cases h4 : s = 0 ∨ s = 1
        · have h4' : (decide ((0 : Int) ≤ s) && decide (s ≤ 1)) = true := by simp; omega
          rw [if_pos h4']
          by_cases h5 : a + ((l.length / 2 : Nat) : Int) ≤ 21
          · have := spec_pzGood.L0_val l a s l.length h2.2 h3 l [] (by simpa using h)
            rw [if_neg (by simp; omega), isPuzzle_yes ⟨h1, h2.1, h2.2, h3.1, h3.2, h4, h5⟩]
            exact this
          · rw [if_pos (by simp; omega), isPuzzle_no (fun h => h5 h.2.2.2.2.2.2)]
        · have h4' : ¬ (decide ((0 : Int) ≤ s) && decide (s ≤ 1)) = true := by simp; omega
          rw [if_neg h4', if_pos (by trivial), isPuzzle_no (fun h => h4 h.2.2.2.2.2.1)]
      · have h3' : ¬ (decide (1 ≤ a) && decide (a ≤ 20)) = true := by simp; omega
        rw [if_neg h3', if_pos (by trivial), isPuzzle_no (fun h => h3 ⟨h.2.2.2.1, h.2.2.2.2.1⟩)]
    · have h2' : ¬ (decide ((1 : Int) ≤ ((l.length / 2 : Nat) : Int)) && decide (((l.length / 2 : Nat) : Int) ≤ 9)) = true := by simp; omega
      rw [if_neg h2', if_pos (by trivial), isPuzzle_no (fun h => h2 ⟨h.2.1, h.2.2.1⟩)]
  · rw [if_neg (show ¬ (l.length : Int) % 2 = 0 by omega), if_pos (by trivial), isPuzzle_no (fun h => h1 h.1)]
theorem impl_Puzzle_among.f_val (l : List Int) (a s x : Int) (hl : l.length < 4611686018427387904) (ha : 1 ≤ a ∧ a ≤ 20) : impl_Puzzle_among.f l a s x = some (amongOf l.length a x) := by
  have w : wrap64 ((l.length : Int) / 2) = ((l.length / 2 : Nat) : Int) := by rw [wrap_in (by omega) (by omega)]; omega
  unfold impl_Puzzle_among.f amongOf
  rw [w, wrap_in (n := a + _) (by omega) (by omega)]
  by_cases h : x ≥ a
  · rw [if_pos h, decide_eq_true (show a ≤ x from h), Bool.true_and]
  · rw [if_neg h, decide_eq_false (show ¬ a ≤ x from h), Bool.false_and]
theorem impl_IsPuzzle.L0_val (l : List Int) (a s : Int) (hl : l.length < 4611686018427387904) (ha : 1 ≤ a ∧ a ≤ 20) : ∀ (suf pre : List Int), (pre ++ suf).length < 4611686018427387904 → impl_IsPuzzle.L0 (pre ++ suf) ((pre ++ suf).length : Int) (pre.length : Int) l a s = some (suf.all (fun x => decide (x = 0) || amongOf l.length a x))
  | [], pre, h => by
    rw [impl_IsPuzzle.L0_eq, range_end]
    rfl
  | x :: suf, pre, h => by
    rw [impl_IsPuzzle.L0_eq, range_step, rd_mid, wrap_mid h, app_mid pre x suf, impl_IsPuzzle.L0_val l a s hl ha suf (pre ++ [x]) (by simpa using h), impl_Puzzle_among.f_val l a s x hl ha]
    simp only [Option.bind_some]
    by_cases h1 : x = 0
    · rw [if_pos h1]
      simp [h1]
    · rw [if_neg h1]
      by_cases h2 : amongOf l.length a x = true
      · rw [if_pos h2]
        simp [h1, h2]
      · rw [if_neg h2]
        simp [h1, h2]
theorem impl_IsPuzzle.F_val (l : List Int) (a s : Int) (h : l.length < 4611686018427387904) : impl_IsPuzzle.F l a s = some (isPuzzle l a s) := by
  have w : wrap64 ((l.length : Int) / 2) = ((l.length / 2 : Nat) : Int) := by rw [wrap_in (by omega) (by omega)]; omega
  have es : impl_sought.f ((l.length / 2 : Nat) : Int) = some (decide (1 ≤ l.length / 2 ∧ l.length / 2 ≤ 9)) := by
    unfold impl_sought.f
    by_cases h1 : ((l.length / 2 : Nat) : Int) ≥ 1
    · rw [if_pos h1]
      congr 1
      rw [decide_eq_decide]
      omega
    · rw [if_neg h1, decide_eq_false (by omega)]
  have ei : impl_isShift.f s = some (decide (s = 0 ∨ s = 1)) := by
    unfold impl_isShift.f
    by_cases h1 : s = 0
    · rw [if_pos h1]
      simp [h1]
    · rw [if_neg h1]
      simp [h1]
      rfl
  rw [impl_IsPuzzle.F_eq, w, es, ei]
  simp only [Option.bind_some, impl_IsPuzzle.J0_eq, decide_eq_true_eq]
  by_cases h1 : l.length % 2 = 0
  · rw [if_neg (show ¬ (l.length : Int) % 2 = 1 by omega)]
    by_cases h2 : 1 ≤ l.length / 2 ∧ l.length / 2 ≤ 9
    · rw [if_pos h2]
      by_cases h3 : a < 1
      · rw [if_pos h3, if_pos (by trivial), isPuzzle_no (fun h => by have := h.2.2.2.1; omega)]
      · rw [if_neg h3]
        by_cases h4 : a > 20
        · rw [if_pos h4, if_pos (by trivial), isPuzzle_no (fun h => by have := h.2.2.2.2.1; omega)]
        · have w2 : wrap64 (wrap64 (a + ((l.length / 2 : Nat) : Int)) - 1) = a + ((l.length / 2 : Nat) : Int) - 1 := by rw [wrap_in (n := a + _) (by omega) (by omega), wrap_in (by omega) (by omega)]
          rw [if_neg h4, w2]
          by_cases h5 : a + ((l.length / 2 : Nat) : Int) ≤ 21
          · rw [if_neg (show ¬ a + ((l.length / 2 : Nat) : Int) - 1 > 20 by omega)]
            by_cases h6 : s = 0 ∨ s = 1
            · have := impl_IsPuzzle.L0_val l a s h (by omega) l [] (by simpa using h)
              rw [if_neg (by simp [h6]), isPuzzle_yes ⟨h1, h2.1, h2.2, by omega, by omega, h6, h5⟩]
              exact this
            · rw [if_pos (by simp [h6]), isPuzzle_no (fun h => h6 h.2.2.2.2.2.1)]
          · rw [if_pos (show a + ((l.length / 2 : Nat) : Int) - 1 > 20 by omega), if_pos (by trivial), isPuzzle_no (fun h => h5 h.2.2.2.2.2.2)]
    · rw [if_neg h2, if_pos (by trivial), isPuzzle_no (fun h => h2 ⟨h.2.1, h.2.2.1⟩)]
  · rw [if_pos (show (l.length : Int) % 2 = 1 by omega), if_pos (by trivial), isPuzzle_no (fun h => h1 h.1)]
def placeOk (l : List Int) (a s p : Int) : Prop := isPuzzle l a s = true ∧ 0 ≤ p ∧ p < (l.length : Int)
instance (l : List Int) (a s p : Int) : Decidable (placeOk l a s p) := by unfold placeOk; infer_instance
theorem spec_pzPlace.F_val (l : List Int) (a s p : Int) (h : l.length < 4611686018427387904) : spec_pzPlace.F l a s p = some (decide (placeOk l a s p)) := by
  rw [spec_pzPlace.F_eq, spec_pzGood.F_val l a s h]
  simp only [Option.bind_some]
  unfold placeOk
  by_cases h1 : isPuzzle l a s = true
  · rw [if_pos h1, wrap_in (by omega) (by omega), spec_l1In.f_val]
    simp only [Option.bind_some, h1, true_and]
    congr 1
    rw [← Bool.decide_and, decide_eq_decide]
    omega
  · rw [if_neg h1]
    simp [h1]
end Go.Proofs.Ytiopjegbggjdcaa.Fn
namespace Go.Proofs.Ytiopjegbggjdcaa.Fn
open Go.RowKit Go.Proofs.YtiopjegbggjdcaaW.PrintWords Go.Proofs.YtiopjegbggjdcaaW.PrintLast Go.Proofs.YtiopjegbggjdcaaW.PrintMore
set_option linter.unusedVariables false
set_option linter.unusedSimpArgs false
/-- Points of a circle, growing. -/
def growing : List Int → Bool
  | [] => true
  | [_] => true
  | x :: y :: l => decide (x < y) && growing (y :: l)
def isCircleSet (v : Int) (l : List Int) : Bool := decide (2 ≤ v ∧ v ≤ 31) && decide (1 ≤ l.length ∧ l.length ≤ 8) && decide ((l.length : Int) < v) && l.all (fun x => decide (0 ≤ x ∧ x < v)) && growing l
theorem isCircleSet_parts {v : Int} {l : List Int} (h : isCircleSet v l = true) : (2 ≤ v ∧ v ≤ 31) ∧ (1 ≤ l.length ∧ l.length ≤ 8) ∧ (l.length : Int) < v ∧ (∀ x ∈ l, 0 ≤ x ∧ x < v) ∧ growing l = true := by
  simp only [isCircleSet, Bool.and_eq_true, decide_eq_true_eq, List.all_eq_true] at h
  obtain ⟨⟨⟨⟨h1, h2⟩, h3⟩, h4⟩, h5⟩ := h
  exact ⟨h1, h2, h3, h4, h5⟩
theorem growing_snoc : ∀ (l : List Int) (x y : Int), growing (l ++ [x, y]) = (growing (l ++ [x]) && decide (x < y))
  | [], x, y => by simp [growing]
  | [z], x, y => by simp [growing]
  | z :: u :: l, x, y => by
    have ih := growing_snoc (u :: l) x y
    simp only [List.cons_append, growing] at ih ⊢
    rw [ih, Bool.and_assoc]
theorem growing_sorted : ∀ (l : List Int), growing l = true → l.Pairwise (· < ·)
  | [], _ => List.Pairwise.nil
  | [x], _ => by simp
  | x :: y :: l, h => by
    simp only [growing, Bool.and_eq_true, decide_eq_true_eq] at h
    have ih := growing_sorted (y :: l) h.2
    refine List.pairwise_cons.2 ⟨fun z hz => ?_, ih⟩
    rcases List.mem_cons.1 hz with rfl | hz
    · exact h.1
    · exact Int.lt_trans h.1 ((List.pairwise_cons.1 ih).1 z hz)
/-- The points k times x and m behind. -/
def residues (v k m : Int) (l : List Int) : List Int := l.map fun x => Int.tmod (x * k + m) v
/-- The points of a circle that are in a list, growing. -/
def pointsOf (v : Int) (r : List Int) : List Int := ((List.range v.toNat).map fun n : Nat => (n : Int)).filter fun x => decide (x ∈ r)
theorem sorted_ext : ∀ (a b : List Int), a.Pairwise (· < ·) → b.Pairwise (· < ·) → (∀ x, x ∈ a ↔ x ∈ b) → a = b
  | [], [], _, _, _ => rfl
  | [], y :: b, _, _, h => by have := (h y).2 (by simp); cases this
  | x :: a, [], _, _, h => by have := (h x).1 (by simp); cases this
  | x :: a, y :: b, ha, hb, h => by
    obtain ⟨ha1, ha2⟩ := List.pairwise_cons.1 ha
    obtain ⟨hb1, hb2⟩ := List.pairwise_cons.1 hb
    have hxy : x = y := by
      have h1 := (h x).1 (by simp)
      have h2 := (h y).2 (by simp)
      rcases List.mem_cons.1 h1 with e | h1
      · exact e
      · rcases List.mem_cons.1 h2 with e | h2
        · exact e.symm
        · have := hb1 x h1
          have := ha1 y h2
          omega
    subst hxy
    congr 1
    refine sorted_ext a b ha2 hb2 fun z => ⟨fun hz => ?_, fun hz => ?_⟩
    · rcases List.mem_cons.1 ((h z).1 (by simp [hz])) with e | h1
      · have := ha1 z hz
        omega
      · exact h1
    · rcases List.mem_cons.1 ((h z).2 (by simp [hz])) with e | h1
      · have := hb1 z hz
        omega
      · exact h1
theorem pointsOf_sorted (v : Int) (r : List Int) : (pointsOf v r).Pairwise (· < ·) := by
  unfold pointsOf
  refine List.Pairwise.filter _ ?_
  rw [List.pairwise_map]
  exact List.pairwise_lt_range.imp (fun h => by omega)
theorem mem_pointsOf {v : Int} {r : List Int} (hr : ∀ x ∈ r, 0 ≤ x ∧ x < v) (x : Int) : x ∈ pointsOf v r ↔ x ∈ r := by
  unfold pointsOf
  rw [List.mem_filter, List.mem_map, decide_eq_true_eq]
  constructor
  · exact fun h => h.2
  · intro h
    have := hr x h
    exact ⟨⟨x.toNat, List.mem_range.2 (by omega), by omega⟩, h⟩
theorem residues_bound {v k m : Int} {l : List Int} (hv : 0 < v) (h : ∀ x ∈ l, 0 ≤ x * k + m) : ∀ x ∈ residues v k m l, 0 ≤ x ∧ x < v := by
  intro x hx
  obtain ⟨y, hy, rfl⟩ := List.mem_map.1 hx
  have := h y hy
  exact ⟨Int.tmod_nonneg _ this, Int.tmod_lt_of_pos _ hv⟩
end Go.Proofs.Ytiopjegbggjdcaa.Fn
namespace Go.Proofs.Ytiopjegbggjdcaa.Fn
open Go.RowKit Go.Proofs.YtiopjegbggjdcaaW.PrintWords Go.Proofs.YtiopjegbggjdcaaW.PrintLast Go.Proofs.YtiopjegbggjdcaaW.PrintMore
set_option linter.unusedVariables false
set_option linter.unusedSimpArgs false
theorem zeroAt_rd : ∀ l : List Int, zeroAt l < l.length → rd l (zeroAt l) = 0
  | [], h => by simp at h
  | x :: l, h => by
    unfold zeroAt at h ⊢
    split
    · rename_i hx
      simp [rd, hx]
    · rename_i hx
      rw [if_neg hx] at h
      have := zeroAt_rd l (by simpa using h)
      simpa [rd] using this
/-- All solutions, in order. -/
def solsLoop (rec : List Int → Nat → List (List Int)) (prow row : List Int) (shift : Int) (used a : Nat) : Nat → Int → List (List Int)
  | 0, _ => []
  | m + 1, n => (if pzPassed row used n ((a : Int) + n + shift) ∨ pzWrong prow a n ((a : Int) + n + shift) then [] else rec ((row.set a n).set ((a : Int) + n + shift).toNat n) (used ||| 2 ^ n.toNat)) ++ solsLoop rec prow row shift used a m (n + 1)
def sols (prow : List Int) (from_ shift : Int) : Nat → List Int → Nat → List (List Int)
  | 0, _, _ => []
  | k + 1, row, used => if zeroAt row = row.length then [row] else solsLoop (sols prow from_ shift k) prow row shift used (zeroAt row) (row.length / 2) from_
theorem take_more {α : Type} (a b : List α) (n : Nat) : (a.take n ++ b).take n = (a ++ b).take n := by
  rcases Nat.le_total n a.length with h | h
  · rw [List.take_append_of_le_length (by rw [List.length_take]; omega), List.take_append_of_le_length h, List.take_take, Nat.min_self]
  · rw [List.take_of_length_le h]
theorem count_put {row : List Int} {a : Nat} {n : Int} (t : Nat) (ha : a < row.length) (h0 : rd row a = 0) (hn : n ≠ 0) : ((row.set a n).set t n).count 0 < row.count 0 := by
  have hmem : (0 : Int) ∈ row := by
    rw [rd_nat row a ha] at h0
    rw [← h0]
    exact List.getElem_mem ha
  have hpos := List.count_pos_iff.2 hmem
  have hb : ((n == (0 : Int)) = true) = False := by simp [hn]
  have h1 : (row.set a n).count 0 = row.count 0 - 1 := by
    rw [List.count_set ha]
    rw [rd_nat row a ha] at h0
    simp [h0, hn]
  rcases Nat.lt_or_ge t (row.set a n).length with h | h
  · rw [List.count_set h, h1]
    simp only [beq_iff_eq, hn, if_false, Nat.add_zero]
    omega
  · rw [List.set_eq_of_length_le h, h1]
    omega
theorem pzLoop_val {prow row : List Int} {shift : Int} {used a k : Nat} {rec : List (List Int) → List Int → Nat → Option (List (List Int))} {recS : List Int → Nat → List (List Int)} (hrec : ∀ xs row' used', row'.count 0 < k → xs.length ≤ 301 → rec xs row' used' = some ((xs ++ recS row' used').take 301)) (hk : row.count 0 < k + 1) (ha : a < row.length) (h0 : rd row a = 0) : ∀ (m : Nat) (n : Int) (xs : List (List Int)), 1 ≤ n → xs.length ≤ 301 → pzLoop rec prow row shift used a m n xs = some ((xs ++ solsLoop recS prow row shift used a m n).take 301)
  | 0, n, xs, hn, hx => by
    simp only [pzLoop, solsLoop, List.append_nil]
    rw [List.take_of_length_le hx]
  | m + 1, n, xs, hn, hx => by
    by_cases hp : pzPassed row used n ((a : Int) + n + shift) ∨ pzWrong prow a n ((a : Int) + n + shift)
    · rw [pzLoop_pass rfl hp, pzLoop_val hrec hk ha h0 m (n + 1) xs (by omega) hx, solsLoop, if_pos hp, List.nil_append]
    · have hc := count_put (((a : Int) + n + shift).toNat) ha h0 (show n ≠ 0 by omega)
      rw [pzLoop_put rfl hp, hrec xs _ _ (by omega) hx, solsLoop, if_neg hp, Option.bind_some, pzLoop_val hrec hk ha h0 m (n + 1) _ (by omega) (by rw [List.length_take]; omega), take_more, List.append_assoc]
theorem pzF_val (prow : List Int) (from_ shift : Int) (hf : 1 ≤ from_) : ∀ (k : Nat) (xs : List (List Int)) (row : List Int) (used : Nat), row.count 0 < k → xs.length ≤ 301 → pzF prow from_ shift k xs row used = some ((xs ++ sols prow from_ shift k row used).take 301)
  | 0, xs, row, used, h, hx => by omega
  | k + 1, xs, row, used, h, hx => by
    unfold pzF sols
    by_cases h1 : 300 < xs.length
    · rw [if_pos h1, List.take_append_of_le_length (by omega), List.take_of_length_le hx]
    · rw [if_neg h1]
      by_cases h2 : zeroAt row = row.length
      · rw [if_pos h2, if_pos h2, List.take_of_length_le (by simp; omega)]
      · have := zeroAt_le row
        rw [if_neg h2, if_neg h2]
        exact pzLoop_val (fun xs row' used' h hx => pzF_val prow from_ shift hf k xs row' used' h hx) h (by omega) (zeroAt_rd row (by omega)) _ _ _ hf hx
/-- The row as the program's search has it: its free places. -/
def toFree (row : List Int) : List Int := row.map fun x => if x = 0 then -1 else x
def leftOf (from_ : Int) (n used : Nat) : List Int := (List.range n).map fun i => if used.testBit (from_.toNat + i) = true then 0 else from_ + (i : Int)
theorem toFree_len (row : List Int) : (toFree row).length = row.length := by simp [toFree]
theorem toFree_rd {row : List Int} {t : Int} (h0 : 0 ≤ t) (h1 : t < row.length) : rd (toFree row) t = if rd row t = 0 then -1 else rd row t := by
  obtain ⟨i, rfl⟩ : ∃ i : Nat, t = i := ⟨t.toNat, by omega⟩
  have hi : i < row.length := by omega
  rw [rd_nat _ i (by rw [toFree_len]; exact hi), rd_nat row i hi]
  simp [toFree]
theorem toFree_free : ∀ row : List Int, (∀ x ∈ row, 0 ≤ x) → freeAt (toFree row) = zeroAt row
  | [], _ => rfl
  | x :: l, h => by
    have ih := toFree_free l (fun y hy => h y (by simp [hy]))
    have hx := h x (by simp)
    have e : toFree (x :: l) = (if x = 0 then -1 else x) :: toFree l := rfl
    rw [e]
    unfold freeAt zeroAt
    by_cases h0 : x = 0
    · simp [h0]
    · rw [if_neg h0, if_neg h0, if_neg (by omega), ih]
theorem toFree_set {row : List Int} {a t : Nat} {n : Int} (hn : n ≠ 0) : ((toFree row).set a n).set t n = toFree ((row.set a n).set t n) := by
  simp [toFree, List.map_set, hn]
theorem toFree_full : ∀ row : List Int, zeroAt row = row.length → toFree row = row
  | [], _ => rfl
  | x :: l, h => by
    by_cases h0 : x = 0
    · subst h0
      simp [zeroAt] at h
    · have h2 : zeroAt l = l.length := by simpa [zeroAt, h0] using h
      have ih := toFree_full l h2
      have e : toFree (x :: l) = (if x = 0 then -1 else x) :: toFree l := rfl
      rw [e, ih, if_neg h0]
theorem leftOf_len (from_ : Int) (n used : Nat) : (leftOf from_ n used).length = n := by simp [leftOf]
theorem leftOf_rd {from_ : Int} {n used i : Nat} (h : i < n) : rd (leftOf from_ n used) i = if used.testBit (from_.toNat + i) = true then 0 else from_ + (i : Int) := by
  rw [rd_nat _ i (by rw [leftOf_len]; exact h)]
  simp [leftOf]
theorem leftOf_set {from_ : Int} {n used i : Nat} (h : i < n) : (leftOf from_ n used).set i 0 = leftOf from_ n (used ||| 2 ^ (from_.toNat + i)) := by
  apply List.ext_getElem?
  intro j
  rw [List.getElem?_set, leftOf_len]
  by_cases hj : i = j
  · subst hj
    rw [if_pos rfl, if_pos h]
    simp [leftOf, h, Nat.testBit_or, Nat.testBit_two_pow]
  · rw [if_neg hj]
    rcases Nat.lt_or_ge j n with h2 | h2
    · simp [leftOf, h2, Nat.testBit_or, Nat.testBit_two_pow, hj]
    · rw [List.getElem?_eq_none (by rw [leftOf_len]; exact h2), List.getElem?_eq_none (by rw [leftOf_len]; exact h2)]
/-- So many of the rows, and whether there are more. -/
def upTo (most : Int) (xs : List (List Int)) : List (List Int) × Bool := (xs.take (most.toNat + 1), decide (most < (xs.length : Int)))
theorem fillLoop_val {prow row : List Int} {from_ shift most : Int} {used k : Nat} {rec : List (List Int) → List Int → List Int → Option (List (List Int) × Bool)} {recS : List Int → Nat → List (List Int)} (hm0 : 0 ≤ most) (hf : 1 ≤ from_) (hs : 0 ≤ shift) (hpos : ∀ x ∈ row, 0 ≤ x)
    (hrec : ∀ xs row' used', row'.count 0 < k → (∀ x ∈ row', 0 ≤ x) → row'.length = row.length → (xs.length : Int) ≤ most → rec xs (toFree row') (leftOf from_ (row.length / 2) used') = some (upTo most (xs ++ recS row' used'))) (hk : row.count 0 < k + 1) (ha : zeroAt row < row.length) :
    ∀ (m i : Nat) (xs : List (List Int)), i + m = row.length / 2 → (xs.length : Int) ≤ most → fillLoop rec (toFree row) prow (leftOf from_ (row.length / 2) used) shift m i xs = some (upTo most (xs ++ solsLoop recS prow row shift used (zeroAt row) m (from_ + (i : Int))))
  | 0, i, xs, hi, hx => by
    simp only [fillLoop, solsLoop, List.append_nil, upTo]
    rw [List.take_of_length_le (by omega), decide_eq_false (by omega)]
  | m + 1, i, xs, hi, hx => by
    have hfa := toFree_free row hpos
    have hn := leftOf_rd (from_ := from_) (n := row.length / 2) (used := used) (i := i) (by omega)
    have hnx : from_ + (i : Int) + 1 = from_ + ((i + 1 : Nat) : Int) := by omega
    have hb : (from_ + (i : Int)).toNat = from_.toNat + i := by omega
    by_cases hbit : used.testBit (from_.toNat + i) = true
    · rw [if_pos hbit] at hn
      have hp : pzPassed row used (from_ + (i : Int)) ((zeroAt row : Int) + (from_ + (i : Int)) + shift) := .inl (by rw [hb]; exact hbit)
      rw [fillLoop_pass hfa hn rfl (.inl rfl), fillLoop_val hm0 hf hs hpos hrec hk ha m (i + 1) xs (by omega) hx, solsLoop, if_pos (.inl hp), List.nil_append, hnx]
    · rw [if_neg hbit] at hn
      obtain ⟨n, hne⟩ : ∃ n, from_ + (i : Int) = n := ⟨_, rfl⟩
      rw [hne] at hn hnx hb ⊢
      obtain ⟨t, ht⟩ : ∃ t, (zeroAt row : Int) + n + shift = t := ⟨_, rfl⟩
      have hn1 : 1 ≤ n := by omega
      have ht0 : 0 ≤ t := by omega
      have hcond : passed (toFree row) prow (zeroAt row) n t ↔ (pzPassed row used n t ∨ pzWrong prow (zeroAt row) n t) := by
        have hb2 : ¬ used.testBit n.toNat = true := by rw [hb]; exact hbit
        have hrd : t < (row.length : Int) → (rd (toFree row) t ≠ -1 ↔ rd row t ≠ 0) := fun h => by
          rw [toFree_rd ht0 h]
          by_cases h3 : rd row t = 0
          · simp [h3]
          · rw [if_neg h3]
            have : 0 ≤ rd row t := by
              obtain ⟨j, rfl⟩ : ∃ j : Nat, t = j := ⟨t.toNat, by omega⟩
              rw [rd_nat row j (by omega)]
              exact hpos _ (List.getElem_mem _)
            constructor
            · intro _; exact h3
            · intro _ h4; omega
        unfold passed
        rw [toFree_len]
        constructor
        · rintro (h | h | h | h)
          · omega
          · exact .inl (.inr (.inl h))
          · by_cases h5 : (row.length : Int) ≤ t
            · exact .inl (.inr (.inl h5))
            · exact .inl (.inr (.inr ((hrd (by omega)).1 h)))
          · exact .inr h
        · rintro ((h | h | h) | h)
          · exact absurd h hb2
          · exact .inr (.inl h)
          · by_cases h5 : (row.length : Int) ≤ t
            · exact .inr (.inl h5)
            · exact .inr (.inr (.inl ((hrd (by omega)).2 h)))
          · exact .inr (.inr (.inr h))
      by_cases hp : pzPassed row used n t ∨ pzWrong prow (zeroAt row) n t
      · rw [fillLoop_pass hfa hn ht (hcond.2 hp), fillLoop_val hm0 hf hs hpos hrec hk ha m (i + 1) xs (by omega) hx, solsLoop, ht, if_pos hp, List.nil_append, hnx]
      · have hc := count_put t.toNat ha (zeroAt_rd row ha) (show n ≠ 0 by omega)
        rw [fillLoop_put hfa hn ht (fun h => hp (hcond.1 h)), toFree_set (show n ≠ 0 by omega), leftOf_set (show i < row.length / 2 by omega), hrec xs _ _ (by omega) (fun x hx => by
          rcases List.mem_or_eq_of_mem_set hx with hx | hx
          · rcases List.mem_or_eq_of_mem_set hx with hx | hx
            · exact hpos x hx
            · omega
          · omega) (by simp) hx, solsLoop, ht, if_neg hp, Option.bind_some, ← hb]
        generalize recS ((row.set (zeroAt row) n).set t.toNat n) (used ||| 2 ^ n.toNat) = S
        by_cases hfull : most < ((xs ++ S).length : Int)
        · simp only [upTo, decide_eq_true hfull, if_true]
          have hlen : (xs ++ S ++ solsLoop recS prow row shift used (zeroAt row) m (n + 1)).length = (xs ++ S).length + (solsLoop recS prow row shift used (zeroAt row) m (n + 1)).length := List.length_append
          rw [← List.append_assoc, decide_eq_true (show most < ((xs ++ S ++ solsLoop recS prow row shift used (zeroAt row) m (n + 1)).length : Int) by omega), List.take_append_of_le_length (l₁ := xs ++ S) (by omega)]
        · simp only [upTo, decide_eq_false hfull, Bool.false_eq_true, if_false]
          rw [List.take_of_length_le (by omega), fillLoop_val hm0 hf hs hpos hrec hk ha m (i + 1) (xs ++ S) (by omega) (by omega), hnx, List.append_assoc]
          rfl
theorem fillF_val (prow : List Int) (from_ shift most : Int) (hm0 : 0 ≤ most) (hm1 : most ≤ 1000000) (hf : 1 ≤ from_) (hs : 0 ≤ shift) : ∀ (k : Nat) (xs : List (List Int)) (row : List Int) (used : Nat), row.count 0 < k → (∀ x ∈ row, 0 ≤ x) → (xs.length : Int) ≤ most → fillF (eachAll most) prow shift k xs (toFree row) (leftOf from_ (row.length / 2) used) = some (upTo most (xs ++ sols prow from_ shift k row used))
  | 0, xs, row, used, h, hp, hx => by omega
  | k + 1, xs, row, used, h, hp, hx => by
    have hfa := toFree_free row hp
    unfold fillF sols
    rw [hfa, toFree_len]
    by_cases h2 : zeroAt row = row.length
    · rw [if_pos h2, if_pos h2, toFree_full row h2]
      unfold eachAll upTo
      rw [if_pos (by omega), List.take_of_length_le (by simp; omega)]
      simp
    · have := zeroAt_le row
      rw [if_neg h2, if_neg h2, leftOf_len, fillLoop_val hm0 hf hs hp (fun xs row' used' h1 h2 h3 h4 => by
        have := fillF_val prow from_ shift most hm0 hm1 hf hs k xs row' used' h1 h2 h4
        rwa [h3] at this) h (by omega) (row.length / 2) 0 xs (by omega) hx]
      simp
/-- All solutions of a puzzle. -/
def allSols (l : List Int) (a s : Int) : List (List Int) := sols l a s (l.length + 1) (List.replicate l.length 0) 0
theorem spec_pzAll.f_val (l : List Int) (a s : Int) (h : puzzleHead l.length a s) : spec_pzAll.f l a s = some ((allSols l a s).take 301, decide ((((allSols l a s).take 301).length : Int) ≤ 300)) := by
  obtain ⟨h1, h2, h3, h4, h5, h6, h7⟩ := h
  unfold spec_pzAll.f
  rw [if_pos (by omega), pzF_val l a s h4 _ _ _ _ (by simp) (by simp)]
  rfl
theorem solveAll_val (l : List Int) (a s most : Int) (h : puzzleHead l.length a s) (hm0 : 0 ≤ most) (hm1 : most ≤ 1000000) : solveAll l a s most = some (upTo most (allSols l a s)) := by
  obtain ⟨h1, h2, h3, h4, h5, h6, h7⟩ := h
  have := fillF_val l a s most hm0 hm1 h4 (by omega) (l.length + 1) [] (List.replicate l.length 0) 0 (by simp) (fun x hx => by have := List.eq_of_mem_replicate hx; omega) (by simpa using hm0)
  have e1 : toFree (List.replicate l.length 0) = List.replicate l.length (-1) := by simp [toFree]
  have e2 : leftOf a ((List.replicate l.length (0 : Int)).length / 2) 0 = numbersUp a (l.length / 2) := by simp [leftOf, numbersUp]
  rw [e1, e2, List.nil_append] at this
  exact this
/-- The solutions, if they are not too many. -/
def foundOf (l : List Int) (a s : Int) : List (List Int) × Bool := if isPuzzle l a s = true then (if (((allSols l a s).take 301).length : Int) ≤ 300 then (allSols l a s).take 301 else [], decide ((((allSols l a s).take 301).length : Int) ≤ 300)) else ([], false)
theorem impl_Puzzle_solutions.F_val (l : List Int) (a s : Int) (hl : l.length < 4611686018427387904) : impl_Puzzle_solutions.F l a s = some (foundOf l a s) := by
  rw [impl_Puzzle_solutions.F_eq, impl_IsPuzzle.F_val l a s hl]
  simp only [Option.bind_some]
  unfold foundOf
  by_cases h : isPuzzle l a s = true
  · have hh := isPuzzle_head h
    rw [if_pos h, if_pos h, solveAll_val l a s 300 hh (by omega) (by omega)]
    obtain ⟨h1, h2, h3, h4, h5, h6, h7⟩ := hh
    rw [if_pos (by omega)]
    rfl
  · rw [if_neg h, if_neg h]
theorem solsLoop_mem {rec : List Int → Nat → List (List Int)} {prow row : List Int} {shift : Int} {used a L : Nat} (hrec : ∀ row' used' x, row'.length = L → x ∈ rec row' used' → x.length = L) (hL : row.length = L) : ∀ (m : Nat) (n : Int) (x : List Int), x ∈ solsLoop rec prow row shift used a m n → x.length = L
  | 0, n, x, h => by simp [solsLoop] at h
  | m + 1, n, x, h => by
    unfold solsLoop at h
    rcases List.mem_append.1 h with h | h
    · split at h
      · cases h
      · exact hrec _ _ x (by simpa using hL) h
    · exact solsLoop_mem hrec hL m (n + 1) x h
theorem sols_mem (prow : List Int) (from_ shift : Int) : ∀ (k : Nat) (row : List Int) (used : Nat) (x : List Int), x ∈ sols prow from_ shift k row used → x.length = row.length
  | 0, row, used, x, h => by simp [sols] at h
  | k + 1, row, used, x, h => by
    unfold sols at h
    split at h
    · rw [List.mem_singleton.1 h]
    · exact solsLoop_mem (fun row' used' x h1 h2 => (sols_mem prow from_ shift k row' used' x h2).trans h1) rfl _ _ x h
theorem allSols_mem {l : List Int} {a s : Int} {x : List Int} (h : x ∈ allSols l a s) : x.length = l.length := by
  have := sols_mem l a s _ _ _ x h
  simpa using this
theorem foundOf_mem {l : List Int} {a s : Int} {x : List Int} (h : x ∈ (foundOf l a s).1) : x.length = l.length := by
  unfold foundOf at h
  split at h
  · simp only at h
    split at h
    · exact allSols_mem (List.mem_of_mem_take h)
    · cases h
  · cases h
end Go.Proofs.Ytiopjegbggjdcaa.Fn
namespace Go.Proofs.Ytiopjegbggjdcaa.Fn
open Go.RowKit Go.Proofs.YtiopjegbggjdcaaW.PrintWords Go.Proofs.YtiopjegbggjdcaaW.PrintLast Go.Proofs.YtiopjegbggjdcaaW.PrintMore
set_option linter.unusedVariables false
set_option linter.unusedSimpArgs false
theorem foundOf_parts {l : List Int} {a s : Int} (h : (foundOf l a s).2 = true) : isPuzzle l a s = true ∧ (foundOf l a s).1 = (allSols l a s).take 301 ∧ (foundOf l a s).1.length ≤ 300 := by
  unfold foundOf at h ⊢
  split at h
  · rename_i h1
    simp only [decide_eq_true_eq] at h
    rw [if_pos h1]
    simp only [h, if_true]
    exact ⟨h1, trivial, by omega⟩
  · cases h
end Go.Proofs.Ytiopjegbggjdcaa.Fn
namespace Go.Proofs.Ytiopjegbggjdcaa.Fn
open Go.RowKit Go.Proofs.YtiopjegbggjdcaaW.PrintWords Go.Proofs.YtiopjegbggjdcaaW.PrintLast Go.Proofs.YtiopjegbggjdcaaW.PrintMore
set_option linter.unusedVariables false
set_option linter.unusedSimpArgs false
theorem compactUpTo_val (d : Array Int) (hs : ∀ i j : Nat, i ≤ j → j < d.size → d[i]! ≤ d[j]!) : ∀ m, m ≤ d.size → (∀ x ∈ Lib.compactUpTo d m, ∃ j, j < m ∧ x = d[j]!) ∧ (∀ j, j < m → d[j]! ∈ Lib.compactUpTo d m) ∧ (Lib.compactUpTo d m).Pairwise (· < ·)
  | 0, _ => ⟨fun x hx => by simp [Lib.compactUpTo] at hx, fun j hj => by omega, by simp [Lib.compactUpTo]⟩
  | m + 1, hm => by
    obtain ⟨h1, h2, h3⟩ := compactUpTo_val d hs m (by omega)
    rw [Lib.compactUpTo_succ]
    by_cases hk : Lib.keeps d m = true
    · rw [if_pos hk]
      have hlt : ∀ x ∈ Lib.compactUpTo d m, x < d[m]! := fun x hx => by
        obtain ⟨j, hj, rfl⟩ := h1 x hx
        have e1 := hs j (m - 1) (by omega) (by omega)
        have e2 := hs (m - 1) m (by omega) (by omega)
        have e3 : m = 0 ∨ d[m]! ≠ d[m - 1]! := by simpa [Lib.keeps] using hk
        rcases e3 with e3 | e3
        · omega
        · omega
      refine ⟨fun x hx => ?_, fun j hj => ?_, ?_⟩
      · rcases List.mem_append.1 hx with hx | hx
        · obtain ⟨j, hj, e⟩ := h1 x hx
          exact ⟨j, by omega, e⟩
        · exact ⟨m, by omega, List.mem_singleton.1 hx⟩
      · by_cases e : j = m
        · subst e
          simp
        · exact List.mem_append_left _ (h2 j (by omega))
      · rw [List.pairwise_append]
        exact ⟨h3, by simp, fun x hx y hy => by rw [List.mem_singleton.1 hy]; exact hlt x hx⟩
    · rw [if_neg hk, List.append_nil]
      have e3 : ¬ (m = 0) ∧ d[m]! = d[m - 1]! := by simpa [Lib.keeps] using hk
      refine ⟨fun x hx => ?_, fun j hj => ?_, h3⟩
      · obtain ⟨j, hj, e⟩ := h1 x hx
        exact ⟨j, by omega, e⟩
      · by_cases e : j = m
        · subst e
          rw [e3.2]
          exact h2 _ (by omega)
        · exact h2 j (by omega)
theorem compact_sorted (l : List Int) : (Lib.compact (sortInt l)).Pairwise (· < ·) ∧ ∀ x, x ∈ Lib.compact (sortInt l) ↔ x ∈ l := by
  have hp : (sortInt l).Pairwise fun x y => decide (x ≤ y) = true := by
    unfold sortInt
    exact List.pairwise_mergeSort (fun a b c h1 h2 => by simp only [decide_eq_true_eq] at h1 h2 ⊢; omega) (fun a b => by simp only [Bool.or_eq_true, decide_eq_true_eq]; omega) l
  have hm : ∀ x, x ∈ sortInt l ↔ x ∈ l := fun x => (List.mergeSort_perm l _).mem_iff
  generalize sortInt l = z at hp hm
  have hs : ∀ i j : Nat, i ≤ j → j < z.toArray.size → z.toArray[i]! ≤ z.toArray[j]! := by
    intro i j hij hj
    have hj' : j < z.length := by simpa using hj
    rcases Nat.lt_or_ge i j with h | h
    · have := List.pairwise_iff_getElem.1 hp i j (by omega) hj' h
      simp only [decide_eq_true_eq] at this
      rw [getElem!_pos z.toArray i (by simpa using Nat.lt_trans h hj'), getElem!_pos z.toArray j hj]
      simpa using this
    · have : i = j := by omega
      subst this
      exact Int.le_refl _
  obtain ⟨h1, h2, h3⟩ := compactUpTo_val z.toArray hs z.length (by simp)
  refine ⟨h3, fun x => ?_⟩
  rw [← hm x]
  unfold Lib.compact
  constructor
  · intro hx
    obtain ⟨j, hj, e⟩ := h1 x hx
    rw [e, getElem!_pos z.toArray j (by simpa using hj)]
    simp
  · intro hx
    obtain ⟨j, hj, e⟩ := List.getElem_of_mem hx
    have := h2 j hj
    rw [getElem!_pos z.toArray j (by simpa using hj)] at this
    simpa [e] using this
theorem zeroAt_full : ∀ l : List Int, zeroAt l = l.length → ∀ y ∈ l, y ≠ 0
  | [], _, y, hy => by cases hy
  | x :: l, h, y, hy => by
    by_cases hx : x = 0
    · subst hx
      simp [zeroAt] at h
    · have h2 : zeroAt l = l.length := by simpa [zeroAt, hx] using h
      rcases List.mem_cons.1 hy with rfl | hy
      · exact hx
      · exact zeroAt_full l h2 y hy
theorem solsLoop_in {rec : List Int → Nat → List (List Int)} {prow row : List Int} {shift a0 b0 : Int} {used a : Nat} (hrec : ∀ row' used' x, (∀ y ∈ row', y = 0 ∨ (a0 ≤ y ∧ y < b0)) → row'.length = row.length → x ∈ rec row' used' → ∀ y ∈ x, a0 ≤ y ∧ y < b0) (hp : ∀ y ∈ row, y = 0 ∨ (a0 ≤ y ∧ y < b0)) : ∀ (m : Nat) (n : Int) (x : List Int), a0 ≤ n → n + m ≤ b0 → x ∈ solsLoop rec prow row shift used a m n → ∀ y ∈ x, a0 ≤ y ∧ y < b0
  | 0, n, x, hn, hn2, h => by simp [solsLoop] at h
  | m + 1, n, x, hn, hn2, h => by
    unfold solsLoop at h
    rcases List.mem_append.1 h with h | h
    · split at h
      · cases h
      · exact hrec _ _ x (fun y hy => by
          rcases List.mem_or_eq_of_mem_set hy with hy | hy
          · rcases List.mem_or_eq_of_mem_set hy with hy | hy
            · exact hp y hy
            · right; omega
          · right; omega) (by simp) h
    · exact solsLoop_in hrec hp m (n + 1) x (by omega) (by omega) h
theorem sols_in (prow : List Int) (from_ shift : Int) : ∀ (k : Nat) (row : List Int) (used : Nat) (x : List Int), (∀ y ∈ row, y = 0 ∨ (from_ ≤ y ∧ y < from_ + ((row.length / 2 : Nat) : Int))) → x ∈ sols prow from_ shift k row used → ∀ y ∈ x, from_ ≤ y ∧ y < from_ + ((row.length / 2 : Nat) : Int)
  | 0, row, used, x, hp, h => by simp [sols] at h
  | k + 1, row, used, x, hp, h => by
    unfold sols at h
    split at h
    · rename_i hz
      rw [List.mem_singleton.1 h]
      intro y hy
      exact (hp y hy).elim (fun e => absurd e (zeroAt_full row hz y hy)) id
    · exact solsLoop_in (fun row' used' x h1 h2 h3 => by
        have := sols_in prow from_ shift k row' used' x (by rw [h2]; exact h1) h3
        rwa [h2] at this) hp _ _ x (Int.le_refl _) (by omega) h
theorem allSols_in {l : List Int} {a s : Int} {x : List Int} (h : x ∈ allSols l a s) : ∀ y ∈ x, a ≤ y ∧ y < a + ((l.length / 2 : Nat) : Int) := by
  have := sols_in l a s _ _ _ x (fun y hy => .inl (List.eq_of_mem_replicate hy)) h
  simpa using this
/-- The numbers at a place of the rows, each once, growing. -/
def standing (xs : List (List Int)) (p : Int) : List Int := Lib.compact (sortInt (xs.map fun r => rd r p))
def canStand (l : List Int) (a s p : Int) : List Int × Bool := if (foundOf l a s).2 = true ∧ 0 ≤ p ∧ p < (l.length : Int) then (standing (foundOf l a s).1 p, true) else ([], false)
theorem standing_len (xs : List (List Int)) (p : Int) : (standing xs p).length ≤ xs.length := by
  unfold standing
  refine Nat.le_trans (slices_Compact_int_int.le _) ?_
  rw [sortInt_length]
  simp
theorem canStand_len (l : List Int) (a s p : Int) : (canStand l a s p).1.length ≤ 300 := by
  unfold canStand
  split
  · rename_i h
    exact Nat.le_trans (standing_len _ _) (foundOf_parts h.1).2.2
  · simp
theorem impl_CanStand.L0_val (p : Int) (xs : List (List Int)) (n : Nat) (hx : ∀ x ∈ xs, x.length = n) (hp : 0 ≤ p ∧ p < n) (hl : xs.length ≤ 300) : ∀ (m j : Nat) (acc : List Int), j + m = xs.length → acc.length + m ≤ 1000 → impl_CanStand.L0 p acc xs (xs.length : Int) (j : Int) = some (Lib.compact (sortInt (acc ++ (xs.drop j).map fun r => rd r p)), true)
  | 0, j, acc, hj, ha => by
    have hs : slices_Sort_int_int.f acc = some (sortInt acc) := if_pos (by omega)
    rw [impl_CanStand.L0_eq, if_neg (by omega), hs, List.drop_of_length_le (by omega)]
    simp [slices_Compact_int_int.f]
  | m + 1, j, acc, hj, ha => by
    have e : rd_L1 xs (j : Int) = xs[j]'(by omega) := by unfold rd_L1; rw [Int.toNat_natCast, List.getD_eq_getElem?_getD, List.getElem?_eq_getElem (by omega)]; rfl
    have hlen := hx _ (List.getElem_mem (l := xs) (show j < xs.length by omega))
    have hd : xs.drop j = xs[j]'(by omega) :: xs.drop (j + 1) := List.drop_eq_getElem_cons (by omega)
    rw [impl_CanStand.L0_eq, if_pos (by omega), if_pos (by omega), if_pos (by omega), if_pos hp.1, e, if_pos (by omega), if_pos (by omega), show wrap64 ((j : Int) + 1) = ((j + 1 : Nat) : Int) by rw [wrap_in (by omega) (by omega)]; rfl, impl_CanStand.L0_val p xs n hx hp hl m (j + 1) _ (by omega) (by simp; omega), hd]
    rw [List.map_cons, List.append_assoc]
    rfl
theorem impl_CanStand.F_val (l : List Int) (a s p : Int) (hl : l.length < 4611686018427387904) : impl_CanStand.F l a s p = some (canStand l a s p) := by
  rw [impl_CanStand.F_eq, impl_Puzzle_solutions.F_val l a s hl]
  simp only [Option.bind_some, impl_CanStand.J0_eq]
  have hm := @foundOf_mem l a s
  unfold canStand
  by_cases h : (foundOf l a s).2 = true
  · obtain ⟨h1, h2, h3⟩ := foundOf_parts h
    rw [if_pos h]
    by_cases h4 : p < 0
    · rw [if_pos h4, if_pos (by trivial), if_neg (by omega)]
    · rw [if_neg h4]
      by_cases h5 : p ≥ (l.length : Int)
      · rw [decide_eq_true h5, if_pos rfl, if_neg (by omega)]
      · rw [decide_eq_false h5, if_neg (by decide), if_pos ⟨h, by omega, by omega⟩]
        have := impl_CanStand.L0_val p (foundOf l a s).1 l.length (fun x hx => hm hx) (by omega) h3 (foundOf l a s).1.length 0 [] (by omega) (by simp; omega)
        simpa [standing] using this
  · rw [if_neg h, if_pos (by trivial), if_neg (fun h2 => h h2.1)]
def standFrom (xs : List (List Int)) (p : Int) : Nat → Int → List Int
  | 0, _ => []
  | m + 1, n => if n ∈ xs.map (fun r => rd r p) then n :: standFrom xs p m (n + 1) else standFrom xs p m (n + 1)
theorem standFrom_mem (xs : List (List Int)) (p : Int) : ∀ (m : Nat) (n x : Int), x ∈ standFrom xs p m n ↔ (n ≤ x ∧ x < n + m ∧ x ∈ xs.map (fun r => rd r p))
  | 0, n, x => by
    simp only [standFrom]
    constructor
    · intro h; cases h
    · rintro ⟨h1, h2, _⟩; omega
  | m + 1, n, x => by
    have ih := standFrom_mem xs p m (n + 1) x
    unfold standFrom
    by_cases h : n ∈ xs.map (fun r => rd r p)
    · rw [if_pos h, List.mem_cons, ih]
      constructor
      · rintro (rfl | ⟨h1, h2, h3⟩)
        · exact ⟨by omega, by omega, h⟩
        · exact ⟨by omega, by omega, h3⟩
      · rintro ⟨h1, h2, h3⟩
        by_cases e : x = n
        · exact .inl e
        · exact .inr ⟨by omega, by omega, h3⟩
    · rw [if_neg h, ih]
      constructor
      · rintro ⟨h1, h2, h3⟩
        exact ⟨by omega, by omega, h3⟩
      · rintro ⟨h1, h2, h3⟩
        refine ⟨?_, by omega, h3⟩
        by_cases e : x = n
        · subst e
          exact absurd h3 h
        · omega
theorem standFrom_sorted (xs : List (List Int)) (p : Int) : ∀ (m : Nat) (n : Int), (standFrom xs p m n).Pairwise (· < ·)
  | 0, n => List.Pairwise.nil
  | m + 1, n => by
    have ih := standFrom_sorted xs p m (n + 1)
    unfold standFrom
    split
    · refine List.pairwise_cons.2 ⟨fun x hx => ?_, ih⟩
      have := ((standFrom_mem xs p m (n + 1) x).1 hx).1
      omega
    · exact ih
theorem spec_CanStand.L1_val (p : Int) (xs : List (List Int)) (N : Nat) (hx : ∀ x ∈ xs, x.length = N) (hp : 0 ≤ p ∧ p < N) (hl : xs.length ≤ 300) (acc : List Int) (ha : acc.length ≤ 1000) (n : Int) (l : List Int) (a s : Int) : ∀ (m j : Nat), j + m = xs.length → spec_CanStand.L1 p xs acc n xs (xs.length : Int) (j : Int) l a s = if n ∈ (xs.drop j).map (fun r => rd r p) then spec_CanStand.L0 p xs (acc ++ [n]) (wrap64 (n + 1)) l a s else spec_CanStand.L0 p xs acc (wrap64 (n + 1)) l a s
  | 0, j, hj => by
    rw [spec_CanStand.L1_eq, if_neg (by omega), List.drop_of_length_le (by omega)]
    simp
  | m + 1, j, hj => by
    have e : rd_L1 xs (j : Int) = xs[j]'(by omega) := by unfold rd_L1; rw [Int.toNat_natCast, List.getD_eq_getElem?_getD, List.getElem?_eq_getElem (by omega)]; rfl
    have hlen := hx _ (List.getElem_mem (l := xs) (show j < xs.length by omega))
    have hd : xs.drop j = xs[j]'(by omega) :: xs.drop (j + 1) := List.drop_eq_getElem_cons (by omega)
    rw [spec_CanStand.L1_eq, if_pos (by omega), if_pos (by omega), if_pos (by omega), if_pos hp.1, e, if_pos (by omega), show wrap64 ((j : Int) + 1) = ((j + 1 : Nat) : Int) by rw [wrap_in (by omega) (by omega)]; rfl, hd, List.map_cons]
    by_cases h : rd (xs[j]'(by omega)) p = n
    · rw [if_pos h, if_pos (by omega), if_pos (by rw [h]; simp)]
    · have h2 : ¬ n = rd (xs[j]'(by omega)) p := fun e => h e.symm
      rw [if_neg h, spec_CanStand.L1_val p xs N hx hp hl acc ha n l a s m (j + 1) (by omega)]
      simp only [List.mem_cons, h2, false_or]
theorem spec_CanStand.L0_val (p : Int) (xs : List (List Int)) (N : Nat) (hx : ∀ x ∈ xs, x.length = N) (hp : 0 ≤ p ∧ p < N) (hl : xs.length ≤ 300) (l : List Int) (hll : l.length ≤ 40) (a s : Int) (ha1 : 1 ≤ a ∧ a ≤ 20) : ∀ (m : Nat) (n : Int) (acc : List Int), n + m = a + ((l.length / 2 : Nat) : Int) → a ≤ n → acc.length + m ≤ 1000 → spec_CanStand.L0 p xs acc n l a s = some (acc ++ standFrom xs p m n, true)
  | 0, n, acc, hn, hn2, hacc => by
    rw [spec_CanStand.L0_eq, wrap_in (n := (l.length : Int) / 2) (by omega) (by omega), wrap_in (by omega) (by omega), if_neg (by omega)]
    simp [standFrom]
  | m + 1, n, acc, hn, hn2, hacc => by
    have h1 := spec_CanStand.L1_val p xs N hx hp hl acc (by omega) n l a s xs.length 0 (by omega)
    simp only [Int.natCast_zero, Int.ofNat_zero, List.drop_zero] at h1
    rw [spec_CanStand.L0_eq, wrap_in (n := (l.length : Int) / 2) (by omega) (by omega), wrap_in (by omega) (by omega), if_pos (by omega), h1, wrap_in (n := n + 1) (by omega) (by omega), standFrom]
    by_cases h : n ∈ xs.map (fun r => rd r p)
    · rw [if_pos h, if_pos h, spec_CanStand.L0_val p xs N hx hp hl l hll a s ha1 m (n + 1) _ (by omega) (by omega) (by simp; omega)]
      simp
    · rw [if_neg h, if_neg h, spec_CanStand.L0_val p xs N hx hp hl l hll a s ha1 m (n + 1) acc (by omega) (by omega) (by omega)]
theorem spec_CanStand.F_val (l : List Int) (a s p : Int) (hl : l.length < 4611686018427387904) : spec_CanStand.F l a s p = some (canStand l a s p) := by
  rw [spec_CanStand.F_eq, spec_pzPlace.F_val l a s p hl]
  simp only [Option.bind_some, decide_eq_true_eq]
  have hm := @foundOf_mem l a s
  unfold canStand
  by_cases h : placeOk l a s p
  · obtain ⟨h1, h2, h3⟩ := h
    have hh := isPuzzle_head h1
    rw [if_pos ⟨h1, h2, h3⟩, spec_pzAll.f_val l a s hh]
    obtain ⟨g1, g2, g3, g4, g5, g6, g7⟩ := hh
    simp only [Option.bind_some]
    unfold foundOf at hm ⊢
    rw [if_pos h1] at hm
    rw [if_pos h1]
    by_cases h4 : (((allSols l a s).take 301).length : Int) ≤ 300
    · have hin : ∀ x ∈ (allSols l a s).take 301, ∀ y ∈ x, a ≤ y ∧ y < a + ((l.length / 2 : Nat) : Int) := fun x hx => allSols_in (List.mem_of_mem_take hx)
      simp only [h4, decide_true, if_true] at hm ⊢
      generalize (allSols l a s).take 301 = xs at hm h4 hin
      rw [if_pos (by simp; omega), spec_CanStand.L0_val p xs l.length (fun x hx => hm hx) ⟨h2, h3⟩ (by omega) l (by omega) a s ⟨g4, g5⟩ (l.length / 2) a [] (by omega) (Int.le_refl _) (by simp; omega)]
      obtain ⟨c1, c2⟩ := compact_sorted (xs.map fun r => rd r p)
      have he : standFrom xs p (l.length / 2) a = standing xs p := by
        refine sorted_ext _ _ (standFrom_sorted xs p _ _) c1 fun x => ?_
        rw [standFrom_mem]
        show _ ↔ x ∈ Lib.compact (sortInt (xs.map fun r => rd r p))
        rw [c2 x]
        constructor
        · exact fun h => h.2.2
        · intro h
          obtain ⟨r, hr, rfl⟩ := List.mem_map.1 h
          have hrl := hm hr
          obtain ⟨q, rfl⟩ : ∃ q : Nat, p = q := ⟨p.toNat, by omega⟩
          have := hin r hr (rd r q) (by rw [rd_nat r q (by omega)]; exact List.getElem_mem _)
          exact ⟨this.1, this.2, h⟩
      rw [List.nil_append, he]
    · simp only [h4, decide_false, if_false, Bool.false_eq_true, false_and]
  · rw [if_neg h, if_neg (fun h2 => h ⟨(foundOf_parts h2.1).1, h2.2.1, h2.2.2⟩)]
end Go.Proofs.Ytiopjegbggjdcaa.Fn
namespace Go.Proofs.Ytiopjegbggjdcaa.Pure
open Go.RowKit Go.Proofs.Ytiopjegbggjdcaa.Fn Go.Proofs.YtiopjegbggjdcaaW.PrintWords Go.Proofs.YtiopjegbggjdcaaW.PrintLast Go.Proofs.YtiopjegbggjdcaaW.PrintMore
set_option linter.unusedVariables false
set_option linter.unusedSimpArgs false
theorem FnExactCanStand : laws_FnExactCanStand.Pure := by
  intro l0_0 a0_1 a0_2 a1 hl _ _ _ _ _
  refine Lim.rounds (laws_FnExactCanStand.F_lim l0_0 a0_1 a0_2 a1) ?_
  rw [laws_FnExactCanStand.F_eq]
  have hl' : l0_0.length ≤ 35184372088832 := by simp only [maxLen] at hl; omega
  have e1 := laws_szPuzzle.f_val l0_0 a0_1 a0_2 (by omega)
  by_cases h0 : l0_0.length ≤ 1048576
  case neg =>
    rw [if_neg h0] at e1
    rw [e1]
    rfl
  rw [if_pos h0] at e1
  have n0 : ¬ (1048576 - (l0_0.length : Int) < 0) := by omega
  have e0 := laws_toPuzzle.F_val l0_0 a0_1 a0_2 (by omega)
  have q0 := laws_eqPuzzle.F_same l0_0 a0_1 a0_2 (by omega)
  have s := spec_CanStand.F_val l0_0 a0_1 a0_2 a1 (by omega)
  have i := impl_CanStand.F_val l0_0 a0_1 a0_2 a1 (by omega)
  have hr := canStand_len l0_0 a0_1 a0_2 a1
  have q := laws_eqIntS.F_same (canStand l0_0 a0_1 a0_2 a1).1 (by omega)
  have m0 := laws_markPuzzle.F_val l0_0 a0_1 a0_2 1 (by omega) (by omega)
  have m := laws_markIntS.F_val (canStand l0_0 a0_1 a0_2 a1).1 1 (by omega) (by omega)
  have g := laws_heldIntS.F_val (canStand l0_0 a0_1 a0_2 a1).1.length 1 (by omega) (by omega)
  have n1 : ¬ ((1 : Int) + l0_0.length < 0) := by omega
  have n2 : ¬ ((1 : Int) + (canStand l0_0 a0_1 a0_2 a1).1.length < 0) := by omega
  simp only [e1, n0, e0, s, i, q0, q, m0, m, g, n1, n2, Option.bind_some, if_true, bne_self_eq_false, if_false, Bool.false_eq_true, laws_FnExactCanStand.J0_eq, laws_FnExactCanStand.J1_eq, laws_FnExactCanStand.J2_eq]
end Go.Proofs.Ytiopjegbggjdcaa.Pure
