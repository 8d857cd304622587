/- The machine's side and plain lemmas for FnExactFillGap: texts of this session, merged by its program (part 2). -/
import Derived.Test.YtjfhcddahahdfaaMFnExactFillGap0
import Derived.Test.YtjfhcddahahdfaaMFnExactFillGap1
namespace Go.Proofs.Ytjfhcddahahdfaa.Fn
open Go.RowKit Go.Proofs.YtjfhcddahahdfaaW.PrintWords Go.Proofs.YtjfhcddahahdfaaW.PrintLast Go.Proofs.YtjfhcddahahdfaaW.PrintMore
attribute [local go_sem] max2_int min2_int max_two min_two max_three min_three max_four min_four   -- for this text's walks alone
set_option linter.unusedVariables false
set_option linter.unusedSimpArgs false

/-! ### laws_FnExactFillGap: function 5 -/
mutual
def laws_FnExactFillGap.j0 : Nat → Int → Int → Bool → Bool → Bool → List Int → Int → Int → List Int → Int → Int → List Int → Int → Int → List Int → Int → Int → Option (Bool)
  | 0, _, _, _, _, _, _, _, _, _, _, _, _, _, _, _, _, _ => none
  | k + 1, x1, x2, x9, x12, x48, x245000, x245001, x245002, x258000, x258001, x258002, x264000, x264001, x264002, x271000, x271001, x271002 => if x48 = true then (some false) else ((laws_toPuzzle.f k x245000 x245001 x245002).bind fun bt272 => ((laws_eqPuzzle.f k x264000 x264001 x264002 bt272.1 bt272.2.1 bt272.2.2).bind fun t277 => (if t277 = true then ((laws_markPuzzle.f k x264000 x264001 x264002 1).bind fun bt278 => (if bt278.1 < 0 then (laws_FnExactFillGap.j1 k x1 x2 x9 true x245000 x245001 x245002 x258000 x258001 x258002 x271000 x271001 x271002) else ((laws_eqPuzzle.f k x271000 x271001 x271002 x258000 x258001 x258002).bind fun t280 => (if t280 = true then (laws_FnExactFillGap.j1 k x1 x2 x9 (x12 != x9) x245000 x245001 x245002 x258000 x258001 x258002 x271000 x271001 x271002) else (laws_FnExactFillGap.j1 k x1 x2 x9 true x245000 x245001 x245002 x258000 x258001 x258002 x271000 x271001 x271002))))) else (some false))))
def laws_FnExactFillGap.j1 : Nat → Int → Int → Bool → Bool → List Int → Int → Int → List Int → Int → Int → List Int → Int → Int → Option (Bool)
  | 0, _, _, _, _, _, _, _, _, _, _, _, _, _ => none
  | k + 1, x1, x2, x9, x69, x245000, x245001, x245002, x258000, x258001, x258002, x271000, x271001, x271002 => if x69 = true then (some false) else ((laws_markPuzzle.f k x271000 x271001 x271002 1).bind fun bt281 => ((laws_heldPuzzle.f k bt281.2 x271001 x271002 1).bind fun t283 => (if t283 < 0 then (some false) else (if t283 = bt281.1 then ((laws_toPuzzle.f k x245000 x245001 x245002).bind fun bt284 => ((impl_FillGap.f k bt284.1 bt284.2.1 bt284.2.2 x1 x2).bind fun bt289 => ((laws_eqPuzzle.f k bt289.1 bt289.2.1 bt289.2.2.1 x258000 x258001 x258002).bind fun t296 => (if t296 = true then (laws_FnExactFillGap.j2 k bt281.1 (bt289.2.2.2 != x9) bt281.2 x271001 x271002) else (laws_FnExactFillGap.j2 k bt281.1 true bt281.2 x271001 x271002))))) else (some false)))))
def laws_FnExactFillGap.j2 : Nat → Int → Bool → List Int → Int → Int → Option (Bool)
  | 0, _, _, _, _, _ => none
  | k + 1, x14, x97, x271000, x271001, x271002 => if x97 = true then (some false) else ((laws_heldPuzzle.f k x271000 x271001 x271002 1).bind fun t297 => (if t297 < 0 then (some false) else (if t297 = x14 then (some true) else (some false))))
end
def laws_FnExactFillGap.f (k : Nat) (l0_0 : List Int) (a0_1 : Int) (a0_2 : Int) (a1 : Int) (a2 : Int) : Option (Bool) := (laws_szPuzzle.f l0_0 a0_1 a0_2 1048576).bind fun t245 => (if t245 < 0 then (some true) else ((laws_toPuzzle.f k l0_0 a0_1 a0_2).bind fun bt246 => ((spec_FillGap.f k bt246.1 bt246.2.1 bt246.2.2 a1 a2).bind fun bt251 => ((laws_toPuzzle.f k l0_0 a0_1 a0_2).bind fun bt258 => ((impl_FillGap.f k bt258.1 bt258.2.1 bt258.2.2 a1 a2).bind fun bt264 => ((laws_eqPuzzle.f k bt264.1 bt264.2.1 bt264.2.2.1 bt251.1 bt251.2.1 bt251.2.2.1).bind fun t271 => (if t271 = true then (laws_FnExactFillGap.j0 k a1 a2 bt251.2.2.2 bt264.2.2.2 (bt264.2.2.2 != bt251.2.2.2) l0_0 a0_1 a0_2 bt251.1 bt251.2.1 bt251.2.2.1 bt258.1 bt258.2.1 bt258.2.2 bt264.1 bt264.2.1 bt264.2.2.1) else (laws_FnExactFillGap.j0 k a1 a2 bt251.2.2.2 bt264.2.2.2 true l0_0 a0_1 a0_2 bt251.1 bt251.2.1 bt251.2.2.1 bt258.1 bt258.2.1 bt258.2.2 bt264.1 bt264.2.1 bt264.2.2.1))))))))
theorem laws_FnExactFillGap.mono_l : ∀ k, (∀ y0 y1 y2 y3 y4 y5 y6 y7 y8 y9 y10 y11 y12 y13 y14 y15 y16, LeO (laws_FnExactFillGap.j0 k y0 y1 y2 y3 y4 y5 y6 y7 y8 y9 y10 y11 y12 y13 y14 y15 y16) (laws_FnExactFillGap.j0 (k + 1) y0 y1 y2 y3 y4 y5 y6 y7 y8 y9 y10 y11 y12 y13 y14 y15 y16)) ∧ (∀ y0 y1 y2 y3 y4 y5 y6 y7 y8 y9 y10 y11 y12, LeO (laws_FnExactFillGap.j1 k y0 y1 y2 y3 y4 y5 y6 y7 y8 y9 y10 y11 y12) (laws_FnExactFillGap.j1 (k + 1) y0 y1 y2 y3 y4 y5 y6 y7 y8 y9 y10 y11 y12)) ∧ (∀ y0 y1 y2 y3 y4, LeO (laws_FnExactFillGap.j2 k y0 y1 y2 y3 y4) (laws_FnExactFillGap.j2 (k + 1) y0 y1 y2 y3 y4))
  | 0 => ⟨fun _ _ _ _ _ _ _ _ _ _ _ _ _ _ _ _ _ r h => by simp [laws_FnExactFillGap.j0] at h, fun _ _ _ _ _ _ _ _ _ _ _ _ _ r h => by simp [laws_FnExactFillGap.j1] at h, fun _ _ _ _ _ r h => by simp [laws_FnExactFillGap.j2] at h⟩
  | k + 1 => by
    obtain ⟨ih0, ih1, ih2⟩ := laws_FnExactFillGap.mono_l k
    refine ⟨?_, ?_, ?_⟩
    · intro y0 y1 y2 y3 y4 y5 y6 y7 y8 y9 y10 y11 y12 y13 y14 y15 y16
      unfold laws_FnExactFillGap.j0
      repeat' first
      | (with_reducible exact ih0 _ _ _ _ _ _ _ _ _ _ _ _ _ _ _ _ _)
      | (with_reducible exact ih1 _ _ _ _ _ _ _ _ _ _ _ _ _)
      | (with_reducible exact ih2 _ _ _ _ _)
      | (with_reducible exact impl_FillGap.mono _ _ _ _ _ _)
      | (with_reducible exact laws_eqPuzzle.mono _ _ _ _ _ _ _)
      | (with_reducible exact laws_heldPuzzle.mono _ _ _ _ _)
      | (with_reducible exact laws_markPuzzle.mono _ _ _ _ _)
      | (with_reducible exact laws_toPuzzle.mono _ _ _ _)
      | (with_reducible exact spec_FillGap.mono _ _ _ _ _ _)
      | (with_reducible exact LeO.refl _)
      | (with_reducible exact LeO.none _)
      | (with_reducible refine LeO.ite ?_ ?_)
      | (with_reducible refine LeO.bind ?_ (fun _ => ?_))
      | exact ih0 _ _ _ _ _ _ _ _ _ _ _ _ _ _ _ _ _
      | exact ih1 _ _ _ _ _ _ _ _ _ _ _ _ _
      | exact ih2 _ _ _ _ _
      | exact impl_FillGap.mono _ _ _ _ _ _
      | exact laws_eqPuzzle.mono _ _ _ _ _ _ _
      | exact laws_heldPuzzle.mono _ _ _ _ _
      | exact laws_markPuzzle.mono _ _ _ _ _
      | exact laws_toPuzzle.mono _ _ _ _
      | exact spec_FillGap.mono _ _ _ _ _ _
      | exact LeO.none _
      | refine LeO.ite ?_ ?_
      | refine LeO.bind ?_ (fun _ => ?_)
    · intro y0 y1 y2 y3 y4 y5 y6 y7 y8 y9 y10 y11 y12
      unfold laws_FnExactFillGap.j1
      repeat' first
      | (with_reducible exact ih0 _ _ _ _ _ _ _ _ _ _ _ _ _ _ _ _ _)
      | (with_reducible exact ih1 _ _ _ _ _ _ _ _ _ _ _ _ _)
      | (with_reducible exact ih2 _ _ _ _ _)
      | (with_reducible exact impl_FillGap.mono _ _ _ _ _ _)
      | (with_reducible exact laws_eqPuzzle.mono _ _ _ _ _ _ _)
      | (with_reducible exact laws_heldPuzzle.mono _ _ _ _ _)
      | (with_reducible exact laws_markPuzzle.mono _ _ _ _ _)
      | (with_reducible exact laws_toPuzzle.mono _ _ _ _)
      | (with_reducible exact spec_FillGap.mono _ _ _ _ _ _)
      | (with_reducible exact LeO.refl _)
      | (with_reducible exact LeO.none _)
      | (with_reducible refine LeO.ite ?_ ?_)
      | (with_reducible refine LeO.bind ?_ (fun _ => ?_))
      | exact ih0 _ _ _ _ _ _ _ _ _ _ _ _ _ _ _ _ _
      | exact ih1 _ _ _ _ _ _ _ _ _ _ _ _ _
      | exact ih2 _ _ _ _ _
      | exact impl_FillGap.mono _ _ _ _ _ _
      | exact laws_eqPuzzle.mono _ _ _ _ _ _ _
      | exact laws_heldPuzzle.mono _ _ _ _ _
      | exact laws_markPuzzle.mono _ _ _ _ _
      | exact laws_toPuzzle.mono _ _ _ _
      | exact spec_FillGap.mono _ _ _ _ _ _
      | exact LeO.none _
      | refine LeO.ite ?_ ?_
      | refine LeO.bind ?_ (fun _ => ?_)
    · intro y0 y1 y2 y3 y4
      unfold laws_FnExactFillGap.j2
      repeat' first
      | (with_reducible exact ih0 _ _ _ _ _ _ _ _ _ _ _ _ _ _ _ _ _)
      | (with_reducible exact ih1 _ _ _ _ _ _ _ _ _ _ _ _ _)
      | (with_reducible exact ih2 _ _ _ _ _)
      | (with_reducible exact impl_FillGap.mono _ _ _ _ _ _)
      | (with_reducible exact laws_eqPuzzle.mono _ _ _ _ _ _ _)
      | (with_reducible exact laws_heldPuzzle.mono _ _ _ _ _)
      | (with_reducible exact laws_markPuzzle.mono _ _ _ _ _)
      | (with_reducible exact laws_toPuzzle.mono _ _ _ _)
      | (with_reducible exact spec_FillGap.mono _ _ _ _ _ _)
      | (with_reducible exact LeO.refl _)
      | (with_reducible exact LeO.none _)
      | (with_reducible refine LeO.ite ?_ ?_)
      | (with_reducible refine LeO.bind ?_ (fun _ => ?_))
      | exact ih0 _ _ _ _ _ _ _ _ _ _ _ _ _ _ _ _ _
      | exact ih1 _ _ _ _ _ _ _ _ _ _ _ _ _
      | exact ih2 _ _ _ _ _
      | exact impl_FillGap.mono _ _ _ _ _ _
      | exact laws_eqPuzzle.mono _ _ _ _ _ _ _
      | exact laws_heldPuzzle.mono _ _ _ _ _
      | exact laws_markPuzzle.mono _ _ _ _ _
      | exact laws_toPuzzle.mono _ _ _ _
      | exact spec_FillGap.mono _ _ _ _ _ _
      | exact LeO.none _
      | refine LeO.ite ?_ ?_
      | refine LeO.bind ?_ (fun _ => ?_)
theorem laws_FnExactFillGap.mono : ∀ a0 a1 a2 a3 a4 k, LeO (laws_FnExactFillGap.f k a0 a1 a2 a3 a4) (laws_FnExactFillGap.f (k + 1) a0 a1 a2 a3 a4) := by
  intro a0 a1 a2 a3 a4 k
  obtain ⟨ih0, ih1, ih2⟩ := laws_FnExactFillGap.mono_l k
  unfold laws_FnExactFillGap.f
  repeat' first
      | (with_reducible exact ih0 _ _ _ _ _ _ _ _ _ _ _ _ _ _ _ _ _)
      | (with_reducible exact ih1 _ _ _ _ _ _ _ _ _ _ _ _ _)
      | (with_reducible exact ih2 _ _ _ _ _)
      | (with_reducible exact impl_FillGap.mono _ _ _ _ _ _)
      | (with_reducible exact laws_eqPuzzle.mono _ _ _ _ _ _ _)
      | (with_reducible exact laws_heldPuzzle.mono _ _ _ _ _)
      | (with_reducible exact laws_markPuzzle.mono _ _ _ _ _)
      | (with_reducible exact laws_toPuzzle.mono _ _ _ _)
      | (with_reducible exact spec_FillGap.mono _ _ _ _ _ _)
      | (with_reducible exact LeO.refl _)
      | (with_reducible exact LeO.none _)
      | (with_reducible refine LeO.ite ?_ ?_)
      | (with_reducible refine LeO.bind ?_ (fun _ => ?_))
      | exact ih0 _ _ _ _ _ _ _ _ _ _ _ _ _ _ _ _ _
      | exact ih1 _ _ _ _ _ _ _ _ _ _ _ _ _
      | exact ih2 _ _ _ _ _
      | exact impl_FillGap.mono _ _ _ _ _ _
      | exact laws_eqPuzzle.mono _ _ _ _ _ _ _
      | exact laws_heldPuzzle.mono _ _ _ _ _
      | exact laws_markPuzzle.mono _ _ _ _ _
      | exact laws_toPuzzle.mono _ _ _ _
      | exact spec_FillGap.mono _ _ _ _ _ _
      | exact LeO.none _
      | refine LeO.ite ?_ ?_
      | refine LeO.bind ?_ (fun _ => ?_)
set_option maxHeartbeats 8000000 in
set_option maxRecDepth 100000 in
theorem laws_FnExactFillGap.calls (k : Nat) (A0_0 : Option Addr) (c0_0 : Nat) (l0_0 : List Int) (a0_1 : Int) (a0_2 : Int) (a1 : Int) (a2 : Int) (r : Bool) (w : World) (hr0_0 : Kd.C (Kd.int .i64) w A0_0 l0_0.length l0_0) (hc0_0 : l0_0.length ≤ c0_0) (h : laws_FnExactFillGap.f k l0_0 a0_1 a0_2 a1 a2 = some r) :
    Calls Try.prog 5 #[.agg #[.slice A0_0 l0_0.length c0_0, .int .i64 a0_1, .int .i64 a0_2], .int .i64 a1, .int .i64 a2] w fun e w' => e = .returned (.bool r) ∧ Below w.heap.size w w' := by
  have hu24 := Try.underlying24
  have hu27 := Try.underlying27
  have HR0_0 := Aside0.mk hr0_0
  have HC0_0 := Aside0.mk hc0_0
  clear hr0_0 hc0_0
  have HB := Aside0.mk (Below.refl w.heap.size w)
  have H : ((laws_szPuzzle.f l0_0 a0_1 a0_2 1048576).bind fun t245 => (if t245 < 0 then (some true) else ((laws_toPuzzle.f k l0_0 a0_1 a0_2).bind fun bt246 => ((spec_FillGap.f k bt246.1 bt246.2.1 bt246.2.2 a1 a2).bind fun bt251 => ((laws_toPuzzle.f k l0_0 a0_1 a0_2).bind fun bt258 => ((impl_FillGap.f k bt258.1 bt258.2.1 bt258.2.2 a1 a2).bind fun bt264 => ((laws_eqPuzzle.f k bt264.1 bt264.2.1 bt264.2.2.1 bt251.1 bt251.2.1 bt251.2.2.1).bind fun t271 => (if t271 = true then (laws_FnExactFillGap.j0 k a1 a2 bt251.2.2.2 bt264.2.2.2 (bt264.2.2.2 != bt251.2.2.2) l0_0 a0_1 a0_2 bt251.1 bt251.2.1 bt251.2.2.1 bt258.1 bt258.2.1 bt258.2.2 bt264.1 bt264.2.1 bt264.2.2.1) else (laws_FnExactFillGap.j0 k a1 a2 bt251.2.2.2 bt264.2.2.2 true l0_0 a0_1 a0_2 bt251.1 bt251.2.1 bt251.2.2.1 bt258.1 bt258.2.1 bt258.2.2 bt264.1 bt264.2.1 bt264.2.2.1))))))))) = some r := h
  clear h
  replace H := Option.bind_eq_some_iff.mp H
  obtain ⟨t245, A40, H⟩ := H
  replace H : (if t245 < 0 then (some true) else ((laws_toPuzzle.f k l0_0 a0_1 a0_2).bind fun bt246 => ((spec_FillGap.f k bt246.1 bt246.2.1 bt246.2.2 a1 a2).bind fun bt251 => ((laws_toPuzzle.f k l0_0 a0_1 a0_2).bind fun bt258 => ((impl_FillGap.f k bt258.1 bt258.2.1 bt258.2.2 a1 a2).bind fun bt264 => ((laws_eqPuzzle.f k bt264.1 bt264.2.1 bt264.2.2.1 bt251.1 bt251.2.1 bt251.2.2.1).bind fun t271 => (if t271 = true then (laws_FnExactFillGap.j0 k a1 a2 bt251.2.2.2 bt264.2.2.2 (bt264.2.2.2 != bt251.2.2.2) l0_0 a0_1 a0_2 bt251.1 bt251.2.1 bt251.2.2.1 bt258.1 bt258.2.1 bt258.2.2 bt264.1 bt264.2.1 bt264.2.2.1) else (laws_FnExactFillGap.j0 k a1 a2 bt251.2.2.2 bt264.2.2.2 true l0_0 a0_1 a0_2 bt251.1 bt251.2.1 bt251.2.2.1 bt258.1 bt258.2.1 bt258.2.2 bt264.1 bt264.2.1 bt264.2.2.1)))))))) = some r := H
  have A4 := Aside0.mk A40
  clear A40
  by_cases c5 : t245 < 0
  · rw [if_pos c5] at H
    have c5b0 : decide (t245 < 0) = true := decide_eq_true c5
    clear c5
    obtain rfl := Option.some.inj H
    go_enter Try.func5, Try.ntmps5
    go_wp2_with (first | ((with_reducible refine gate_dst (N := 3) rfl ?_); refine box_event ?hg (N := 3) ?hd (cs := #[.slice A0_0 l0_0.length c0_0, .int .i64 a0_1, .int .i64 a0_2]) (t := 24) ?hr ?_; (case hd => rfl); (case hg => rfl); (case hr => first | (go_simp; done) | (go_simp; rfl)); intro gb244 hg w6 hbox hb; have n0_ := Aside0.mk (below_step (by repeat (first | (with_reducible first | exact HB.out | apply below_alloc | apply pw_below_drewN | apply below_drew1) | exact HB.out)) hb); have n1_ := Aside0.mk (hbox); have n2_ := Aside0.mk ((by rw [hg]; exact (below_size (by repeat (first | (with_reducible first | exact HB.out | apply below_alloc | apply pw_below_drewN | apply below_drew1) | exact HB.out))) : w.heap.size ≤ gb244)); have n3_ := Aside0.mk ((by rw [hg]; exact (below_size (by repeat (first | (with_reducible first | exact HB.out | apply below_alloc | apply pw_below_drewN | apply below_drew1) | exact HB.out))) : w.heap.size ≤ gb244)); clear HB; have HB := n0_; have BK244 := n1_; have GW244 := n2_; have GE244 := n3_; clear n0_ n1_ n2_ n3_; clear hb hbox hg; have hcz7_0 : w6.cell? ⟨gb244, 0, none⟩ = some (.slice A0_0 l0_0.length c0_0) := (blk_cell BK244.out 0).trans rfl; have hcz7_1 : w6.cell? ⟨gb244, 1, none⟩ = some (.int .i64 a0_1) := (blk_cell BK244.out 1).trans rfl; have hcz7_2 : w6.cell? ⟨gb244, 2, none⟩ = some (.int .i64 a0_2) := (blk_cell BK244.out 2).trans rfl; have hfz7_0 := blk_frozen BK244.out 0; have hfz7_1 := blk_frozen BK244.out 1; have hfz7_2 := blk_frozen BK244.out 2) | ((with_reducible refine gate_callee (f := 15) rfl ?_); refine goesL_ (some 20) rfl rfl Try.func15 (by kernel_rfl) rfl #[.agg #[.slice A0_0 l0_0.length c0_0, .int .i64 a0_1, .int .i64 a0_2], .int .i64 1048576] rfl (by (try simp only [List.map_toArray, List.map_cons, List.map_nil]); first | done | rfl | (simp only [List.length_drop, List.length_take]; rfl)) ?_; (with_reducible refine (laws_szPuzzle.calls _ _ l0_0 a0_1 a0_2 1048576 t245 _ ?side1 ?side2 A4.out).mono ?_); (case side1 => repeat (first | exact (Kd.C_below HR0_0.out HB.out) | (with_reducible refine Kd.C_alloc ?_ _) | (with_reducible refine Kd.C_drewN ?_ _) | (with_reducible refine Kd.C_drew ?_))); (case side2 => exact HC0_0.out); rintro e w8 ⟨rfl, hb⟩; refine ⟨_, rfl, ?_⟩; have n0_ := Aside0.mk (blk_below (g := gb244) (o := .cells #[.slice A0_0 l0_0.length c0_0, .int .i64 a0_1, .int .i64 a0_2] 24 (0, 0)) (by (with_reducible repeat (first | refine blk_drewN ?_ _ | refine blk_drew ?_ | refine blk_alloc ?_ _)); exact BK244.out) hb); have n1_ := Aside0.mk (below_step (by repeat (first | (with_reducible first | exact HB.out | apply below_alloc | apply pw_below_drewN | apply below_drew1 | refine below_set ?_ GE244.out) | exact HB.out)) hb); clear BK244; clear HB; have BK244 := n0_; have HB := n1_; clear n0_ n1_; (try clear hb); (try clear hb2); (try clear hk); (try clear hi)))
    go_ret
    exact ⟨by first | rfl | (simp [errW_none, errW_some] <;> rfl) | (simp [*, errW_none, errW_some] <;> rfl), by repeat (first | (with_reducible first | exact HB.out | apply below_alloc | apply pw_below_drewN | apply below_drew1 | refine below_set ?_ GE244.out) | exact HB.out)⟩
  · rw [if_neg c5] at H
    have c5b0 : decide (t245 < 0) = false := decide_eq_false c5
    clear c5
    replace H := Option.bind_eq_some_iff.mp H
    obtain ⟨⟨t246, t249, t250⟩, A90, H⟩ := H
    replace H : ((spec_FillGap.f k t246 t249 t250 a1 a2).bind fun bt251 => ((laws_toPuzzle.f k l0_0 a0_1 a0_2).bind fun bt258 => ((impl_FillGap.f k bt258.1 bt258.2.1 bt258.2.2 a1 a2).bind fun bt264 => ((laws_eqPuzzle.f k bt264.1 bt264.2.1 bt264.2.2.1 bt251.1 bt251.2.1 bt251.2.2.1).bind fun t271 => (if t271 = true then (laws_FnExactFillGap.j0 k a1 a2 bt251.2.2.2 bt264.2.2.2 (bt264.2.2.2 != bt251.2.2.2) l0_0 a0_1 a0_2 bt251.1 bt251.2.1 bt251.2.2.1 bt258.1 bt258.2.1 bt258.2.2 bt264.1 bt264.2.1 bt264.2.2.1) else (laws_FnExactFillGap.j0 k a1 a2 bt251.2.2.2 bt264.2.2.2 true l0_0 a0_1 a0_2 bt251.1 bt251.2.1 bt251.2.2.1 bt258.1 bt258.2.1 bt258.2.2 bt264.1 bt264.2.1 bt264.2.2.1)))))) = some r := H
    have A9 := Aside0.mk A90
    clear A90
    replace H := Option.bind_eq_some_iff.mp H
    obtain ⟨⟨t251, t254, t255, t256⟩, A100, H⟩ := H
    replace H : ((laws_toPuzzle.f k l0_0 a0_1 a0_2).bind fun bt258 => ((impl_FillGap.f k bt258.1 bt258.2.1 bt258.2.2 a1 a2).bind fun bt264 => ((laws_eqPuzzle.f k bt264.1 bt264.2.1 bt264.2.2.1 t251 t254 t255).bind fun t271 => (if t271 = true then (laws_FnExactFillGap.j0 k a1 a2 t256 bt264.2.2.2 (bt264.2.2.2 != t256) l0_0 a0_1 a0_2 t251 t254 t255 bt258.1 bt258.2.1 bt258.2.2 bt264.1 bt264.2.1 bt264.2.2.1) else (laws_FnExactFillGap.j0 k a1 a2 t256 bt264.2.2.2 true l0_0 a0_1 a0_2 t251 t254 t255 bt258.1 bt258.2.1 bt258.2.2 bt264.1 bt264.2.1 bt264.2.2.1))))) = some r := H
    have A10 := Aside0.mk A100
    clear A100
    replace H := Option.bind_eq_some_iff.mp H
    obtain ⟨⟨t258, t261, t262⟩, A110, H⟩ := H
    replace H : ((impl_FillGap.f k t258 t261 t262 a1 a2).bind fun bt264 => ((laws_eqPuzzle.f k bt264.1 bt264.2.1 bt264.2.2.1 t251 t254 t255).bind fun t271 => (if t271 = true then (laws_FnExactFillGap.j0 k a1 a2 t256 bt264.2.2.2 (bt264.2.2.2 != t256) l0_0 a0_1 a0_2 t251 t254 t255 t258 t261 t262 bt264.1 bt264.2.1 bt264.2.2.1) else (laws_FnExactFillGap.j0 k a1 a2 t256 bt264.2.2.2 true l0_0 a0_1 a0_2 t251 t254 t255 t258 t261 t262 bt264.1 bt264.2.1 bt264.2.2.1)))) = some r := H
    have A11 := Aside0.mk A110
    clear A110
    replace H := Option.bind_eq_some_iff.mp H
    obtain ⟨⟨t264, t267, t268, t269⟩, A120, H⟩ := H
    replace H : ((laws_eqPuzzle.f k t264 t267 t268 t251 t254 t255).bind fun t271 => (if t271 = true then (laws_FnExactFillGap.j0 k a1 a2 t256 t269 (t269 != t256) l0_0 a0_1 a0_2 t251 t254 t255 t258 t261 t262 t264 t267 t268) else (laws_FnExactFillGap.j0 k a1 a2 t256 t269 true l0_0 a0_1 a0_2 t251 t254 t255 t258 t261 t262 t264 t267 t268))) = some r := H
    have A12 := Aside0.mk A120
    clear A120
    have HC13 := Aside0.mk H
    clear H
    go_enter Try.func5, Try.ntmps5
    go_upto_region 8 with (first | ((with_reducible refine gate_dst (N := 3) rfl ?_); refine box_event ?hg (N := 3) ?hd (cs := #[.slice A0_0 l0_0.length c0_0, .int .i64 a0_1, .int .i64 a0_2]) (t := 24) ?hr ?_; (case hd => rfl); (case hg => rfl); (case hr => first | (go_simp; done) | (go_simp; rfl)); intro gb244 hg w14 hbox hb; have n0_ := Aside0.mk (below_step (by repeat (first | (with_reducible first | exact HB.out | apply below_alloc | apply pw_below_drewN | apply below_drew1) | exact HB.out)) hb); have n1_ := Aside0.mk (hbox); have n2_ := Aside0.mk ((by rw [hg]; exact (below_size (by repeat (first | (with_reducible first | exact HB.out | apply below_alloc | apply pw_below_drewN | apply below_drew1) | exact HB.out))) : w.heap.size ≤ gb244)); have n3_ := Aside0.mk ((by rw [hg]; exact (below_size (by repeat (first | (with_reducible first | exact HB.out | apply below_alloc | apply pw_below_drewN | apply below_drew1) | exact HB.out))) : w.heap.size ≤ gb244)); clear HB; have HB := n0_; have BK244 := n1_; have GW244 := n2_; have GE244 := n3_; clear n0_ n1_ n2_ n3_; clear hb hbox hg; have hcz15_0 : w14.cell? ⟨gb244, 0, none⟩ = some (.slice A0_0 l0_0.length c0_0) := (blk_cell BK244.out 0).trans rfl; have hcz15_1 : w14.cell? ⟨gb244, 1, none⟩ = some (.int .i64 a0_1) := (blk_cell BK244.out 1).trans rfl; have hcz15_2 : w14.cell? ⟨gb244, 2, none⟩ = some (.int .i64 a0_2) := (blk_cell BK244.out 2).trans rfl; have hfz15_0 := blk_frozen BK244.out 0; have hfz15_1 := blk_frozen BK244.out 1; have hfz15_2 := blk_frozen BK244.out 2) | ((with_reducible refine gate_callee (f := 15) rfl ?_); refine goesL_ (some 20) rfl rfl Try.func15 (by kernel_rfl) rfl #[.agg #[.slice A0_0 l0_0.length c0_0, .int .i64 a0_1, .int .i64 a0_2], .int .i64 1048576] rfl (by (try simp only [List.map_toArray, List.map_cons, List.map_nil]); first | done | rfl | (simp only [List.length_drop, List.length_take]; rfl)) ?_; (with_reducible refine (laws_szPuzzle.calls _ _ l0_0 a0_1 a0_2 1048576 t245 _ ?side1 ?side2 A4.out).mono ?_); (case side1 => repeat (first | exact (Kd.C_below HR0_0.out HB.out) | (with_reducible refine Kd.C_alloc ?_ _) | (with_reducible refine Kd.C_drewN ?_ _) | (with_reducible refine Kd.C_drew ?_))); (case side2 => exact HC0_0.out); rintro e w16 ⟨rfl, hb⟩; refine ⟨_, rfl, ?_⟩; have n0_ := Aside0.mk (blk_below (g := gb244) (o := .cells #[.slice A0_0 l0_0.length c0_0, .int .i64 a0_1, .int .i64 a0_2] 24 (0, 0)) (by (with_reducible repeat (first | refine blk_drewN ?_ _ | refine blk_drew ?_ | refine blk_alloc ?_ _)); exact BK244.out) hb); have n1_ := Aside0.mk (below_step (by repeat (first | (with_reducible first | exact HB.out | apply below_alloc | apply pw_below_drewN | apply below_drew1 | refine below_set ?_ GE244.out) | exact HB.out)) hb); clear BK244; clear HB; have BK244 := n0_; have HB := n1_; clear n0_ n1_; (try clear hb); (try clear hb2); (try clear hk); (try clear hi); have hcz17_0 : w16.cell? ⟨gb244, 0, none⟩ = some (.slice A0_0 l0_0.length c0_0) := (blk_cell BK244.out 0).trans rfl; have hcz17_1 : w16.cell? ⟨gb244, 1, none⟩ = some (.int .i64 a0_1) := (blk_cell BK244.out 1).trans rfl; have hcz17_2 : w16.cell? ⟨gb244, 2, none⟩ = some (.int .i64 a0_2) := (blk_cell BK244.out 2).trans rfl; have hfz17_0 := blk_frozen BK244.out 0; have hfz17_1 := blk_frozen BK244.out 1; have hfz17_2 := blk_frozen BK244.out 2) | ((with_reducible refine gate_callee (f := 17) rfl ?_); refine goesL_ (some 25) rfl rfl Try.func17 (by kernel_rfl) rfl #[.agg #[.slice A0_0 l0_0.length c0_0, .int .i64 a0_1, .int .i64 a0_2]] rfl (by (try simp only [List.map_toArray, List.map_cons, List.map_nil]); first | done | rfl | (simp only [List.length_drop, List.length_take]; rfl)) ?_; (with_reducible refine (laws_toPuzzle.calls k _ _ l0_0 a0_1 a0_2 t246 t249 t250 _ ?side1 ?side2 A9.out).mono ?_); (case side1 => repeat (first | exact (Kd.C_below HR0_0.out HB.out) | (with_reducible refine Kd.C_alloc ?_ _) | (with_reducible refine Kd.C_drewN ?_ _) | (with_reducible refine Kd.C_drew ?_))); (case side2 => exact HC0_0.out); rintro e w18 ⟨v247, rfl, ho0, hb⟩; refine ⟨_, rfl, ?_⟩; have n0_ := Aside0.mk (Kd.R_lower ho0 (below_size (by repeat (first | (with_reducible first | exact HB.out | apply below_alloc | apply pw_below_drewN | apply below_drew1 | refine below_set ?_ GE244.out) | exact HB.out)))); have n1_ := Aside0.mk (blk_below (g := gb244) (o := .cells #[.slice A0_0 l0_0.length c0_0, .int .i64 a0_1, .int .i64 a0_2] 24 (0, 0)) (by (with_reducible repeat (first | refine blk_drewN ?_ _ | refine blk_drew ?_ | refine blk_alloc ?_ _)); exact BK244.out) hb); have n2_ := Aside0.mk (below_step (by repeat (first | (with_reducible first | exact HB.out | apply below_alloc | apply pw_below_drewN | apply below_drew1 | refine below_set ?_ GE244.out) | exact HB.out)) hb); clear BK244; clear HB; have HO248 := n0_; have BK244 := n1_; have HB := n2_; clear n0_ n1_ n2_; (try clear hb); (try clear hb2); (try clear hk); (try clear hi); (try clear ho0); obtain ⟨Ao19, co19, eo19⟩ := Kd.R_slice HO248.out; subst eo19) | ((with_reducible refine gate_callee (f := 22) rfl ?_); refine goesL_ (some 28) rfl rfl Try.func22 (by kernel_rfl) rfl #[.agg #[.slice Ao19 t246.length co19, .int .i64 t249, .int .i64 t250], .int .i64 a1, .int .i64 a2] rfl (by (try simp only [List.map_toArray, List.map_cons, List.map_nil]); first | done | rfl | (simp only [List.length_drop, List.length_take]; rfl)) ?_; (with_reducible refine (spec_FillGap.calls k _ _ t246 t249 t250 a1 a2 t251 t254 t255 t256 _ ?side1 ?side2 A10.out).mono ?_); (case side1 => repeat (first | exact (Kd.R_reads' HO248.out).2.2 | (with_reducible refine Kd.C_alloc ?_ _) | (with_reducible refine Kd.C_drewN ?_ _) | (with_reducible refine Kd.C_drew ?_))); (case side2 => exact (Kd.R_reads' HO248.out).2.1); rintro e w20 ⟨v252, rfl, ho0, hb⟩; refine ⟨_, rfl, ?_⟩; have n0_ := Aside0.mk (Kd.R_elder' (by (with_reducible repeat (first | apply Kd.R_alloc | apply Kd.R_drewN | apply Kd.R_drew)); exact HO248.out) (Kd.R_base ho0) hb); have n1_ := Aside0.mk (Kd.R_lower (Kd.R_new' ho0 (Kd.R_lt (by (with_reducible repeat (first | apply Kd.R_alloc | apply Kd.R_drewN | apply Kd.R_drew)); exact HO248.out))) (below_size (by repeat (first | (with_reducible first | exact HB.out | apply below_alloc | apply pw_below_drewN | apply below_drew1 | refine below_set ?_ GE244.out) | exact HB.out)))); have n2_ := Aside0.mk (blk_below (g := gb244) (o := .cells #[.slice A0_0 l0_0.length c0_0, .int .i64 a0_1, .int .i64 a0_2] 24 (0, 0)) (by (with_reducible repeat (first | refine blk_drewN ?_ _ | refine blk_drew ?_ | refine blk_alloc ?_ _)); exact BK244.out) hb); have n3_ := Aside0.mk (below_step (by repeat (first | (with_reducible first | exact HB.out | apply below_alloc | apply pw_below_drewN | apply below_drew1 | refine below_set ?_ GE244.out) | exact HB.out)) hb); clear HO248; clear BK244; clear HB; have HO248 := n0_; have HO253 := n1_; have BK244 := n2_; have HB := n3_; clear n0_ n1_ n2_ n3_; (try clear hb); (try clear hb2); (try clear hk); (try clear hi); (try clear ho0)) | ((with_reducible refine gate_dst (N := 8) rfl ?_); refine box_event ?hg (N := 8) ?hd (cs := #[.slice none 0 0, .int .i64 0, .int .i64 0]) (t := 27) ?hr ?_; (case hd => rfl); (case hg => rfl); (case hr => first | (go_simp; done) | (go_simp; rfl)); intro gb257 hg w21 hbox hb; have n0_ := Aside0.mk (Kd.R_below (by (with_reducible repeat (first | apply Kd.R_alloc | apply Kd.R_drewN | apply Kd.R_drew)); exact HO248.out) hb); have n1_ := Aside0.mk (Kd.R_below (by (with_reducible repeat (first | apply Kd.R_alloc | apply Kd.R_drewN | apply Kd.R_drew)); exact HO253.out) hb); have n2_ := Aside0.mk (blk_below (g := gb244) (o := .cells #[.slice A0_0 l0_0.length c0_0, .int .i64 a0_1, .int .i64 a0_2] 24 (0, 0)) (by (with_reducible repeat (first | refine blk_drewN ?_ _ | refine blk_drew ?_ | refine blk_alloc ?_ _)); exact BK244.out) hb); have n3_ := Aside0.mk (below_step (by repeat (first | (with_reducible first | exact HB.out | apply below_alloc | apply pw_below_drewN | apply below_drew1 | refine below_set ?_ GE244.out) | exact HB.out)) hb); have n4_ := Aside0.mk (hbox); have n5_ := Aside0.mk ((by rw [hg]; exact (below_size (by repeat (first | (with_reducible first | exact HB.out | apply below_alloc | apply pw_below_drewN | apply below_drew1 | refine below_set ?_ GE244.out) | exact HB.out))) : w.heap.size ≤ gb257)); have n6_ := Aside0.mk ((by rw [hg]; exact (below_size (by repeat (first | (with_reducible first | exact HB.out | apply below_alloc | apply pw_below_drewN | apply below_drew1 | refine below_set ?_ GE244.out) | exact HB.out))) : w.heap.size ≤ gb257)); have n7_ := Aside0.mk ((by rw [hg]; exact Nat.ne_of_lt (blk_lt (g := gb244) (o := .cells #[.slice A0_0 l0_0.length c0_0, .int .i64 a0_1, .int .i64 a0_2] 24 (0, 0)) (by (with_reducible repeat (first | refine blk_drewN ?_ _ | refine blk_drew ?_ | refine blk_alloc ?_ _)); exact BK244.out)) : gb244 ≠ gb257)); have n8_ := Aside0.mk ((by rw [hg]; exact Nat.ne_of_gt (blk_lt (g := gb244) (o := .cells #[.slice A0_0 l0_0.length c0_0, .int .i64 a0_1, .int .i64 a0_2] 24 (0, 0)) (by (with_reducible repeat (first | refine blk_drewN ?_ _ | refine blk_drew ?_ | refine blk_alloc ?_ _)); exact BK244.out)) : gb257 ≠ gb244)); clear HO248; clear HO253; clear BK244; clear HB; have HO248 := n0_; have HO253 := n1_; have BK244 := n2_; have HB := n3_; have BK257 := n4_; have GW257 := n5_; have GE257 := n6_; have NB244_257 := n7_; have NB257_244 := n8_; clear n0_ n1_ n2_ n3_ n4_ n5_ n6_ n7_ n8_; clear hb hbox hg; obtain ⟨Ao22, co22, eo22⟩ := Kd.R_slice HO253.out; subst eo22; have hnb23 := NB257_244.out; have hnc23 := NB244_257.out; have hcz24_0 : w21.cell? ⟨gb257, 0, none⟩ = some (.slice none 0 0) := (blk_cell BK257.out 0).trans rfl; have hcz24_1 : w21.cell? ⟨gb257, 1, none⟩ = some (.int .i64 0) := (blk_cell BK257.out 1).trans rfl; have hcz24_2 : w21.cell? ⟨gb257, 2, none⟩ = some (.int .i64 0) := (blk_cell BK257.out 2).trans rfl; have hfz24_0 := blk_frozen BK257.out 0; have hfz24_1 := blk_frozen BK257.out 1; have hfz24_2 := blk_frozen BK257.out 2; have hcz25_0 : w21.cell? ⟨gb244, 0, none⟩ = some (.slice A0_0 l0_0.length c0_0) := (blk_cell BK244.out 0).trans rfl; have hcz25_1 : w21.cell? ⟨gb244, 1, none⟩ = some (.int .i64 a0_1) := (blk_cell BK244.out 1).trans rfl; have hcz25_2 : w21.cell? ⟨gb244, 2, none⟩ = some (.int .i64 a0_2) := (blk_cell BK244.out 2).trans rfl; have hfz25_0 := blk_frozen BK244.out 0; have hfz25_1 := blk_frozen BK244.out 1; have hfz25_2 := blk_frozen BK244.out 2) | ((with_reducible refine gate_callee (f := 17) rfl ?_); refine goesL_ (some 32) rfl rfl Try.func17 (by kernel_rfl) rfl #[.agg #[.slice A0_0 l0_0.length c0_0, .int .i64 a0_1, .int .i64 a0_2]] rfl (by (try simp only [List.map_toArray, List.map_cons, List.map_nil]); first | done | rfl | (simp only [List.length_drop, List.length_take]; rfl)) ?_; (with_reducible refine (laws_toPuzzle.calls k _ _ l0_0 a0_1 a0_2 t258 t261 t262 _ ?side1 ?side2 A11.out).mono ?_); (case side1 => exact Kd.C_below HR0_0.out (by repeat (first | (with_reducible first | exact HB.out | apply below_alloc | apply pw_below_drewN | apply below_drew1 | refine below_set ?_ GE244.out | refine below_set ?_ GE257.out) | exact HB.out))); (case side2 => exact HC0_0.out); rintro e w26 ⟨v259, rfl, ho0, hb⟩; refine ⟨_, rfl, ?_⟩; have n0_ := Aside0.mk (Kd.R_elder' (by (with_reducible repeat (first | apply Kd.R_alloc | apply Kd.R_drewN | apply Kd.R_drew)); exact (Kd.R_mono (Kd.R_far (p := ⟨gb257, 2, none⟩) (Kd.R_far (p := ⟨gb257, 1, none⟩) (Kd.R_far (p := ⟨gb257, 0, none⟩) (Kd.R_types HO248.out BK257.out (by decide)) (fun _ hk => hk.2) (.slice Ao22 t251.length co22)) (fun _ hk => hk.2) (.int .i64 t254)) (fun _ hk => hk.2) (.int .i64 t255)) (fun _ h_ => h_.1))) (Kd.R_base ho0) hb); have n1_ := Aside0.mk (Kd.R_elder' (by (with_reducible repeat (first | apply Kd.R_alloc | apply Kd.R_drewN | apply Kd.R_drew)); exact (Kd.R_mono (Kd.R_far (p := ⟨gb257, 2, none⟩) (Kd.R_far (p := ⟨gb257, 1, none⟩) (Kd.R_far (p := ⟨gb257, 0, none⟩) (Kd.R_types HO253.out BK257.out (by decide)) (fun _ hk => hk.2) (.slice Ao22 t251.length co22)) (fun _ hk => hk.2) (.int .i64 t254)) (fun _ hk => hk.2) (.int .i64 t255)) (fun _ h_ => h_.1))) (Kd.R_base ho0) hb); have n2_ := Aside0.mk (Kd.R_lower (Kd.R_new' (Kd.R_new' ho0 (Kd.R_lt (by (with_reducible repeat (first | apply Kd.R_alloc | apply Kd.R_drewN | apply Kd.R_drew)); exact (Kd.R_mono (Kd.R_far (p := ⟨gb257, 2, none⟩) (Kd.R_far (p := ⟨gb257, 1, none⟩) (Kd.R_far (p := ⟨gb257, 0, none⟩) (Kd.R_types HO248.out BK257.out (by decide)) (fun _ hk => hk.2) (.slice Ao22 t251.length co22)) (fun _ hk => hk.2) (.int .i64 t254)) (fun _ hk => hk.2) (.int .i64 t255)) (fun _ h_ => h_.1))))) (Kd.R_lt (by (with_reducible repeat (first | apply Kd.R_alloc | apply Kd.R_drewN | apply Kd.R_drew)); exact (Kd.R_mono (Kd.R_far (p := ⟨gb257, 2, none⟩) (Kd.R_far (p := ⟨gb257, 1, none⟩) (Kd.R_far (p := ⟨gb257, 0, none⟩) (Kd.R_types HO253.out BK257.out (by decide)) (fun _ hk => hk.2) (.slice Ao22 t251.length co22)) (fun _ hk => hk.2) (.int .i64 t254)) (fun _ hk => hk.2) (.int .i64 t255)) (fun _ h_ => h_.1))))) (below_size (by repeat (first | (with_reducible first | exact HB.out | apply below_alloc | apply pw_below_drewN | apply below_drew1 | refine below_set ?_ GE244.out | refine below_set ?_ GE257.out) | exact HB.out)))); have n3_ := Aside0.mk (blk_below (g := gb244) (o := .cells #[.slice A0_0 l0_0.length c0_0, .int .i64 a0_1, .int .i64 a0_2] 24 (0, 0)) (by (with_reducible repeat (first | refine blk_drewN ?_ _ | refine blk_drew ?_ | refine blk_alloc ?_ _)); refine blk_far ?_ NB244_257.out _; (with_reducible repeat (first | refine blk_drewN ?_ _ | refine blk_drew ?_ | refine blk_alloc ?_ _)); refine blk_far ?_ NB244_257.out _; (with_reducible repeat (first | refine blk_drewN ?_ _ | refine blk_drew ?_ | refine blk_alloc ?_ _)); refine blk_far ?_ NB244_257.out _; (with_reducible repeat (first | refine blk_drewN ?_ _ | refine blk_drew ?_ | refine blk_alloc ?_ _)); exact BK244.out) hb); have n4_ := Aside0.mk (blk_below (g := gb257) (o := .cells #[.slice Ao22 t251.length co22, .int .i64 t254, .int .i64 t255] 27 (0, 0)) (by (with_reducible repeat (first | refine blk_drewN ?_ _ | refine blk_drew ?_ | refine blk_alloc ?_ _)); refine blk_put (cs := #[.slice Ao22 t251.length co22, .int .i64 t254, .int .i64 0]) ?_ 2 _ rfl; (with_reducible repeat (first | refine blk_drewN ?_ _ | refine blk_drew ?_ | refine blk_alloc ?_ _)); refine blk_put (cs := #[.slice Ao22 t251.length co22, .int .i64 0, .int .i64 0]) ?_ 1 _ rfl; (with_reducible repeat (first | refine blk_drewN ?_ _ | refine blk_drew ?_ | refine blk_alloc ?_ _)); refine blk_put (cs := #[.slice none 0 0, .int .i64 0, .int .i64 0]) ?_ 0 _ rfl; (with_reducible repeat (first | refine blk_drewN ?_ _ | refine blk_drew ?_ | refine blk_alloc ?_ _)); exact BK257.out) hb); have n5_ := Aside0.mk (below_step (by repeat (first | (with_reducible first | exact HB.out | apply below_alloc | apply pw_below_drewN | apply below_drew1 | refine below_set ?_ GE244.out | refine below_set ?_ GE257.out) | exact HB.out)) hb); clear HO248; clear HO253; clear BK244; clear BK257; clear HB; have HO248 := n0_; have HO253 := n1_; have HO260 := n2_; have BK244 := n3_; have BK257 := n4_; have HB := n5_; clear n0_ n1_ n2_ n3_ n4_ n5_; (try clear hb); (try clear hb2); (try clear hk); (try clear hi); (try clear ho0)) | ((with_reducible refine gate_dst (N := 10) rfl ?_); refine box_event ?hg (N := 10) ?hd (cs := #[.slice none 0 0, .int .i64 0, .int .i64 0]) (t := 27) ?hr ?_; (case hd => rfl); (case hg => rfl); (case hr => first | (go_simp; done) | (go_simp; rfl)); intro gb263 hg w27 hbox hb; have n0_ := Aside0.mk (Kd.R_below (by (with_reducible repeat (first | apply Kd.R_alloc | apply Kd.R_drewN | apply Kd.R_drew)); exact HO248.out) hb); have n1_ := Aside0.mk (Kd.R_below (by (with_reducible repeat (first | apply Kd.R_alloc | apply Kd.R_drewN | apply Kd.R_drew)); exact HO253.out) hb); have n2_ := Aside0.mk (Kd.R_below (by (with_reducible repeat (first | apply Kd.R_alloc | apply Kd.R_drewN | apply Kd.R_drew)); exact HO260.out) hb); have n3_ := Aside0.mk (blk_below (g := gb244) (o := .cells #[.slice A0_0 l0_0.length c0_0, .int .i64 a0_1, .int .i64 a0_2] 24 (0, 0)) (by (with_reducible repeat (first | refine blk_drewN ?_ _ | refine blk_drew ?_ | refine blk_alloc ?_ _)); exact BK244.out) hb); have n4_ := Aside0.mk (blk_below (g := gb257) (o := .cells #[.slice Ao22 t251.length co22, .int .i64 t254, .int .i64 t255] 27 (0, 0)) (by (with_reducible repeat (first | refine blk_drewN ?_ _ | refine blk_drew ?_ | refine blk_alloc ?_ _)); exact BK257.out) hb); have n5_ := Aside0.mk (below_step (by repeat (first | (with_reducible first | exact HB.out | apply below_alloc | apply pw_below_drewN | apply below_drew1 | refine below_set ?_ GE244.out | refine below_set ?_ GE257.out) | exact HB.out)) hb); have n6_ := Aside0.mk (hbox); have n7_ := Aside0.mk ((by rw [hg]; exact (below_size (by repeat (first | (with_reducible first | exact HB.out | apply below_alloc | apply pw_below_drewN | apply below_drew1 | refine below_set ?_ GE244.out | refine below_set ?_ GE257.out) | exact HB.out))) : w.heap.size ≤ gb263)); have n8_ := Aside0.mk ((by rw [hg]; exact (below_size (by repeat (first | (with_reducible first | exact HB.out | apply below_alloc | apply pw_below_drewN | apply below_drew1 | refine below_set ?_ GE244.out | refine below_set ?_ GE257.out) | exact HB.out))) : w.heap.size ≤ gb263)); have n9_ := Aside0.mk ((by rw [hg]; exact Nat.ne_of_lt (blk_lt (g := gb244) (o := .cells #[.slice A0_0 l0_0.length c0_0, .int .i64 a0_1, .int .i64 a0_2] 24 (0, 0)) (by (with_reducible repeat (first | refine blk_drewN ?_ _ | refine blk_drew ?_ | refine blk_alloc ?_ _)); exact BK244.out)) : gb244 ≠ gb263)); have n10_ := Aside0.mk ((by rw [hg]; exact Nat.ne_of_gt (blk_lt (g := gb244) (o := .cells #[.slice A0_0 l0_0.length c0_0, .int .i64 a0_1, .int .i64 a0_2] 24 (0, 0)) (by (with_reducible repeat (first | refine blk_drewN ?_ _ | refine blk_drew ?_ | refine blk_alloc ?_ _)); exact BK244.out)) : gb263 ≠ gb244)); have n11_ := Aside0.mk ((by rw [hg]; exact Nat.ne_of_lt (blk_lt (g := gb257) (o := .cells #[.slice Ao22 t251.length co22, .int .i64 t254, .int .i64 t255] 27 (0, 0)) (by (with_reducible repeat (first | refine blk_drewN ?_ _ | refine blk_drew ?_ | refine blk_alloc ?_ _)); exact BK257.out)) : gb257 ≠ gb263)); have n12_ := Aside0.mk ((by rw [hg]; exact Nat.ne_of_gt (blk_lt (g := gb257) (o := .cells #[.slice Ao22 t251.length co22, .int .i64 t254, .int .i64 t255] 27 (0, 0)) (by (with_reducible repeat (first | refine blk_drewN ?_ _ | refine blk_drew ?_ | refine blk_alloc ?_ _)); exact BK257.out)) : gb263 ≠ gb257)); clear HO248; clear HO253; clear HO260; clear BK244; clear BK257; clear HB; have HO248 := n0_; have HO253 := n1_; have HO260 := n2_; have BK244 := n3_; have BK257 := n4_; have HB := n5_; have BK263 := n6_; have GW263 := n7_; have GE263 := n8_; have NB244_263 := n9_; have NB263_244 := n10_; have NB257_263 := n11_; have NB263_257 := n12_; clear n0_ n1_ n2_ n3_ n4_ n5_ n6_ n7_ n8_ n9_ n10_ n11_ n12_; clear hb hbox hg; obtain ⟨Ao28, co28, eo28⟩ := Kd.R_slice HO260.out; subst eo28; have hnb29 := NB263_244.out; have hnc29 := NB244_263.out; have hnb30 := NB263_257.out; have hnc30 := NB257_263.out; have hcz31_0 : w27.cell? ⟨gb263, 0, none⟩ = some (.slice none 0 0) := (blk_cell BK263.out 0).trans rfl; have hcz31_1 : w27.cell? ⟨gb263, 1, none⟩ = some (.int .i64 0) := (blk_cell BK263.out 1).trans rfl; have hcz31_2 : w27.cell? ⟨gb263, 2, none⟩ = some (.int .i64 0) := (blk_cell BK263.out 2).trans rfl; have hfz31_0 := blk_frozen BK263.out 0; have hfz31_1 := blk_frozen BK263.out 1; have hfz31_2 := blk_frozen BK263.out 2) | ((with_reducible refine gate_callee (f := 23) rfl ?_); refine goesL_ (some 37) rfl rfl Try.func23 (by kernel_rfl) rfl #[.agg #[.slice Ao28 t258.length co28, .int .i64 t261, .int .i64 t262], .int .i64 a1, .int .i64 a2] rfl (by (try simp only [List.map_toArray, List.map_cons, List.map_nil]); first | done | rfl | (simp only [List.length_drop, List.length_take]; rfl)) ?_; (with_reducible refine (impl_FillGap.calls k _ _ t258 t261 t262 a1 a2 t264 t267 t268 t269 _ ?side1 ?side2 A12.out).mono ?_); (case side1 => refine (Kd.R_reads' (e := 3) (base := w.heap.size) (ok := fun k_ => ((True ∧ some k_ ≠ (.slice Ao19 t246.length co19 : Value).ownBlock) ∧ some k_ ≠ (.slice Ao22 t251.length co22 : Value).ownBlock)) (n := t258.length) (c := co28) ?_).2.2; exact (by (with_reducible repeat (first | apply Kd.R_alloc | apply Kd.R_drewN | apply Kd.R_drew)); exact (Kd.R_mono (Kd.R_far (p := ⟨gb263, 2, none⟩) (Kd.R_far (p := ⟨gb263, 1, none⟩) (Kd.R_far (p := ⟨gb263, 0, none⟩) (Kd.R_types HO260.out BK263.out (by decide)) (fun _ hk => hk.2) (.slice Ao28 t258.length co28)) (fun _ hk => hk.2) (.int .i64 t261)) (fun _ hk => hk.2) (.int .i64 t262)) (fun _ h_ => h_.1)))); (case side2 => exact (Kd.R_reads' HO260.out).2.1); rintro e w32 ⟨v265, rfl, ho0, hb⟩; refine ⟨_, rfl, ?_⟩; have n0_ := Aside0.mk (Kd.R_elder' (by (with_reducible repeat (first | apply Kd.R_alloc | apply Kd.R_drewN | apply Kd.R_drew)); exact (Kd.R_mono (Kd.R_far (p := ⟨gb263, 2, none⟩) (Kd.R_far (p := ⟨gb263, 1, none⟩) (Kd.R_far (p := ⟨gb263, 0, none⟩) (Kd.R_types HO248.out BK263.out (by decide)) (fun _ hk => hk.2) (.slice Ao28 t258.length co28)) (fun _ hk => hk.2) (.int .i64 t261)) (fun _ hk => hk.2) (.int .i64 t262)) (fun _ h_ => h_.1))) (Kd.R_base ho0) hb); have n1_ := Aside0.mk (Kd.R_elder' (by (with_reducible repeat (first | apply Kd.R_alloc | apply Kd.R_drewN | apply Kd.R_drew)); exact (Kd.R_mono (Kd.R_far (p := ⟨gb263, 2, none⟩) (Kd.R_far (p := ⟨gb263, 1, none⟩) (Kd.R_far (p := ⟨gb263, 0, none⟩) (Kd.R_types HO253.out BK263.out (by decide)) (fun _ hk => hk.2) (.slice Ao28 t258.length co28)) (fun _ hk => hk.2) (.int .i64 t261)) (fun _ hk => hk.2) (.int .i64 t262)) (fun _ h_ => h_.1))) (Kd.R_base ho0) hb); have n2_ := Aside0.mk (Kd.R_elder' (by (with_reducible repeat (first | apply Kd.R_alloc | apply Kd.R_drewN | apply Kd.R_drew)); exact (Kd.R_mono (Kd.R_far (p := ⟨gb263, 2, none⟩) (Kd.R_far (p := ⟨gb263, 1, none⟩) (Kd.R_far (p := ⟨gb263, 0, none⟩) (Kd.R_types HO260.out BK263.out (by decide)) (fun _ hk => hk.2) (.slice Ao28 t258.length co28)) (fun _ hk => hk.2) (.int .i64 t261)) (fun _ hk => hk.2) (.int .i64 t262)) (fun _ h_ => h_.1))) (Kd.R_base ho0) hb); have n3_ := Aside0.mk (Kd.R_lower (Kd.R_new' (Kd.R_new' (Kd.R_new' ho0 (Kd.R_lt (by (with_reducible repeat (first | apply Kd.R_alloc | apply Kd.R_drewN | apply Kd.R_drew)); exact (Kd.R_mono (Kd.R_far (p := ⟨gb263, 2, none⟩) (Kd.R_far (p := ⟨gb263, 1, none⟩) (Kd.R_far (p := ⟨gb263, 0, none⟩) (Kd.R_types HO248.out BK263.out (by decide)) (fun _ hk => hk.2) (.slice Ao28 t258.length co28)) (fun _ hk => hk.2) (.int .i64 t261)) (fun _ hk => hk.2) (.int .i64 t262)) (fun _ h_ => h_.1))))) (Kd.R_lt (by (with_reducible repeat (first | apply Kd.R_alloc | apply Kd.R_drewN | apply Kd.R_drew)); exact (Kd.R_mono (Kd.R_far (p := ⟨gb263, 2, none⟩) (Kd.R_far (p := ⟨gb263, 1, none⟩) (Kd.R_far (p := ⟨gb263, 0, none⟩) (Kd.R_types HO253.out BK263.out (by decide)) (fun _ hk => hk.2) (.slice Ao28 t258.length co28)) (fun _ hk => hk.2) (.int .i64 t261)) (fun _ hk => hk.2) (.int .i64 t262)) (fun _ h_ => h_.1))))) (Kd.R_lt (by (with_reducible repeat (first | apply Kd.R_alloc | apply Kd.R_drewN | apply Kd.R_drew)); exact (Kd.R_mono (Kd.R_far (p := ⟨gb263, 2, none⟩) (Kd.R_far (p := ⟨gb263, 1, none⟩) (Kd.R_far (p := ⟨gb263, 0, none⟩) (Kd.R_types HO260.out BK263.out (by decide)) (fun _ hk => hk.2) (.slice Ao28 t258.length co28)) (fun _ hk => hk.2) (.int .i64 t261)) (fun _ hk => hk.2) (.int .i64 t262)) (fun _ h_ => h_.1))))) (below_size (by repeat (first | (with_reducible first | exact HB.out | apply below_alloc | apply pw_below_drewN | apply below_drew1 | refine below_set ?_ GE244.out | refine below_set ?_ GE257.out | refine below_set ?_ GE263.out) | exact HB.out)))); have n4_ := Aside0.mk (blk_below (g := gb244) (o := .cells #[.slice A0_0 l0_0.length c0_0, .int .i64 a0_1, .int .i64 a0_2] 24 (0, 0)) (by (with_reducible repeat (first | refine blk_drewN ?_ _ | refine blk_drew ?_ | refine blk_alloc ?_ _)); refine blk_far ?_ NB244_263.out _; (with_reducible repeat (first | refine blk_drewN ?_ _ | refine blk_drew ?_ | refine blk_alloc ?_ _)); refine blk_far ?_ NB244_263.out _; (with_reducible repeat (first | refine blk_drewN ?_ _ | refine blk_drew ?_ | refine blk_alloc ?_ _)); refine blk_far ?_ NB244_263.out _; (with_reducible repeat (first | refine blk_drewN ?_ _ | refine blk_drew ?_ | refine blk_alloc ?_ _)); exact BK244.out) hb); have n5_ := Aside0.mk (blk_below (g := gb257) (o := .cells #[.slice Ao22 t251.length co22, .int .i64 t254, .int .i64 t255] 27 (0, 0)) (by (with_reducible repeat (first | refine blk_drewN ?_ _ | refine blk_drew ?_ | refine blk_alloc ?_ _)); refine blk_far ?_ NB257_263.out _; (with_reducible repeat (first | refine blk_drewN ?_ _ | refine blk_drew ?_ | refine blk_alloc ?_ _)); refine blk_far ?_ NB257_263.out _; (with_reducible repeat (first | refine blk_drewN ?_ _ | refine blk_drew ?_ | refine blk_alloc ?_ _)); refine blk_far ?_ NB257_263.out _; (with_reducible repeat (first | refine blk_drewN ?_ _ | refine blk_drew ?_ | refine blk_alloc ?_ _)); exact BK257.out) hb); have n6_ := Aside0.mk (blk_below (g := gb263) (o := .cells #[.slice Ao28 t258.length co28, .int .i64 t261, .int .i64 t262] 27 (0, 0)) (by (with_reducible repeat (first | refine blk_drewN ?_ _ | refine blk_drew ?_ | refine blk_alloc ?_ _)); refine blk_put (cs := #[.slice Ao28 t258.length co28, .int .i64 t261, .int .i64 0]) ?_ 2 _ rfl; (with_reducible repeat (first | refine blk_drewN ?_ _ | refine blk_drew ?_ | refine blk_alloc ?_ _)); refine blk_put (cs := #[.slice Ao28 t258.length co28, .int .i64 0, .int .i64 0]) ?_ 1 _ rfl; (with_reducible repeat (first | refine blk_drewN ?_ _ | refine blk_drew ?_ | refine blk_alloc ?_ _)); refine blk_put (cs := #[.slice none 0 0, .int .i64 0, .int .i64 0]) ?_ 0 _ rfl; (with_reducible repeat (first | refine blk_drewN ?_ _ | refine blk_drew ?_ | refine blk_alloc ?_ _)); exact BK263.out) hb); have n7_ := Aside0.mk (below_step (by repeat (first | (with_reducible first | exact HB.out | apply below_alloc | apply pw_below_drewN | apply below_drew1 | refine below_set ?_ GE244.out | refine below_set ?_ GE257.out | refine below_set ?_ GE263.out) | exact HB.out)) hb); clear HO248; clear HO253; clear HO260; clear BK244; clear BK257; clear BK263; clear HB; have HO248 := n0_; have HO253 := n1_; have HO260 := n2_; have HO266 := n3_; have BK244 := n4_; have BK257 := n5_; have BK263 := n6_; have HB := n7_; clear n0_ n1_ n2_ n3_ n4_ n5_ n6_ n7_; (try clear hb); (try clear hb2); (try clear hk); (try clear hi); (try clear ho0)) | ((with_reducible refine gate_dst (N := 11) rfl ?_); refine box_event ?hg (N := 11) ?hd (cs := #[.slice none 0 0, .int .i64 0, .int .i64 0]) (t := 27) ?hr ?_; (case hd => rfl); (case hg => rfl); (case hr => first | (go_simp; done) | (go_simp; rfl)); intro gb270 hg w33 hbox hb; have n0_ := Aside0.mk (Kd.R_below (by (with_reducible repeat (first | apply Kd.R_alloc | apply Kd.R_drewN | apply Kd.R_drew)); exact HO248.out) hb); have n1_ := Aside0.mk (Kd.R_below (by (with_reducible repeat (first | apply Kd.R_alloc | apply Kd.R_drewN | apply Kd.R_drew)); exact HO253.out) hb); have n2_ := Aside0.mk (Kd.R_below (by (with_reducible repeat (first | apply Kd.R_alloc | apply Kd.R_drewN | apply Kd.R_drew)); exact HO260.out) hb); have n3_ := Aside0.mk (Kd.R_below (by (with_reducible repeat (first | apply Kd.R_alloc | apply Kd.R_drewN | apply Kd.R_drew)); exact HO266.out) hb); have n4_ := Aside0.mk (blk_below (g := gb244) (o := .cells #[.slice A0_0 l0_0.length c0_0, .int .i64 a0_1, .int .i64 a0_2] 24 (0, 0)) (by (with_reducible repeat (first | refine blk_drewN ?_ _ | refine blk_drew ?_ | refine blk_alloc ?_ _)); exact BK244.out) hb); have n5_ := Aside0.mk (blk_below (g := gb257) (o := .cells #[.slice Ao22 t251.length co22, .int .i64 t254, .int .i64 t255] 27 (0, 0)) (by (with_reducible repeat (first | refine blk_drewN ?_ _ | refine blk_drew ?_ | refine blk_alloc ?_ _)); exact BK257.out) hb); have n6_ := Aside0.mk (blk_below (g := gb263) (o := .cells #[.slice Ao28 t258.length co28, .int .i64 t261, .int .i64 t262] 27 (0, 0)) (by (with_reducible repeat (first | refine blk_drewN ?_ _ | refine blk_drew ?_ | refine blk_alloc ?_ _)); exact BK263.out) hb); have n7_ := Aside0.mk (below_step (by repeat (first | (with_reducible first | exact HB.out | apply below_alloc | apply pw_below_drewN | apply below_drew1 | refine below_set ?_ GE244.out | refine below_set ?_ GE257.out | refine below_set ?_ GE263.out) | exact HB.out)) hb); have n8_ := Aside0.mk (hbox); have n9_ := Aside0.mk ((by rw [hg]; exact (below_size (by repeat (first | (with_reducible first | exact HB.out | apply below_alloc | apply pw_below_drewN | apply below_drew1 | refine below_set ?_ GE244.out | refine below_set ?_ GE257.out | refine below_set ?_ GE263.out) | exact HB.out))) : w.heap.size ≤ gb270)); have n10_ := Aside0.mk ((by rw [hg]; exact (below_size (by repeat (first | (with_reducible first | exact HB.out | apply below_alloc | apply pw_below_drewN | apply below_drew1 | refine below_set ?_ GE244.out | refine below_set ?_ GE257.out | refine below_set ?_ GE263.out) | exact HB.out))) : w.heap.size ≤ gb270)); have n11_ := Aside0.mk ((by rw [hg]; exact Nat.ne_of_lt (blk_lt (g := gb244) (o := .cells #[.slice A0_0 l0_0.length c0_0, .int .i64 a0_1, .int .i64 a0_2] 24 (0, 0)) (by (with_reducible repeat (first | refine blk_drewN ?_ _ | refine blk_drew ?_ | refine blk_alloc ?_ _)); exact BK244.out)) : gb244 ≠ gb270)); have n12_ := Aside0.mk ((by rw [hg]; exact Nat.ne_of_gt (blk_lt (g := gb244) (o := .cells #[.slice A0_0 l0_0.length c0_0, .int .i64 a0_1, .int .i64 a0_2] 24 (0, 0)) (by (with_reducible repeat (first | refine blk_drewN ?_ _ | refine blk_drew ?_ | refine blk_alloc ?_ _)); exact BK244.out)) : gb270 ≠ gb244)); have n13_ := Aside0.mk ((by rw [hg]; exact Nat.ne_of_lt (blk_lt (g := gb257) (o := .cells #[.slice Ao22 t251.length co22, .int .i64 t254, .int .i64 t255] 27 (0, 0)) (by (with_reducible repeat (first | refine blk_drewN ?_ _ | refine blk_drew ?_ | refine blk_alloc ?_ _)); exact BK257.out)) : gb257 ≠ gb270)); have n14_ := Aside0.mk ((by rw [hg]; exact Nat.ne_of_gt (blk_lt (g := gb257) (o := .cells #[.slice Ao22 t251.length co22, .int .i64 t254, .int .i64 t255] 27 (0, 0)) (by (with_reducible repeat (first | refine blk_drewN ?_ _ | refine blk_drew ?_ | refine blk_alloc ?_ _)); exact BK257.out)) : gb270 ≠ gb257)); have n15_ := Aside0.mk ((by rw [hg]; exact Nat.ne_of_lt (blk_lt (g := gb263) (o := .cells #[.slice Ao28 t258.length co28, .int .i64 t261, .int .i64 t262] 27 (0, 0)) (by (with_reducible repeat (first | refine blk_drewN ?_ _ | refine blk_drew ?_ | refine blk_alloc ?_ _)); exact BK263.out)) : gb263 ≠ gb270)); have n16_ := Aside0.mk ((by rw [hg]; exact Nat.ne_of_gt (blk_lt (g := gb263) (o := .cells #[.slice Ao28 t258.length co28, .int .i64 t261, .int .i64 t262] 27 (0, 0)) (by (with_reducible repeat (first | refine blk_drewN ?_ _ | refine blk_drew ?_ | refine blk_alloc ?_ _)); exact BK263.out)) : gb270 ≠ gb263)); clear HO248; clear HO253; clear HO260; clear HO266; clear BK244; clear BK257; clear BK263; clear HB; have HO248 := n0_; have HO253 := n1_; have HO260 := n2_; have HO266 := n3_; have BK244 := n4_; have BK257 := n5_; have BK263 := n6_; have HB := n7_; have BK270 := n8_; have GW270 := n9_; have GE270 := n10_; have NB244_270 := n11_; have NB270_244 := n12_; have NB257_270 := n13_; have NB270_257 := n14_; have NB263_270 := n15_; have NB270_263 := n16_; clear n0_ n1_ n2_ n3_ n4_ n5_ n6_ n7_ n8_ n9_ n10_ n11_ n12_ n13_ n14_ n15_ n16_; clear hb hbox hg; obtain ⟨Ao34, co34, eo34⟩ := Kd.R_slice HO266.out; subst eo34; have hnb35 := NB270_244.out; have hnc35 := NB244_270.out; have hnb36 := NB270_257.out; have hnc36 := NB257_270.out; have hnb37 := NB270_263.out; have hnc37 := NB263_270.out; have hcz38_0 : w33.cell? ⟨gb270, 0, none⟩ = some (.slice none 0 0) := (blk_cell BK270.out 0).trans rfl; have hcz38_1 : w33.cell? ⟨gb270, 1, none⟩ = some (.int .i64 0) := (blk_cell BK270.out 1).trans rfl; have hcz38_2 : w33.cell? ⟨gb270, 2, none⟩ = some (.int .i64 0) := (blk_cell BK270.out 2).trans rfl; have hfz38_0 := blk_frozen BK270.out 0; have hfz38_1 := blk_frozen BK270.out 1; have hfz38_2 := blk_frozen BK270.out 2))
    (try simp only [Act.put, List.setIfInBounds_toArray, List.set_cons_zero, List.set_cons_succ])
    go_cut [48] (fun v48 wc => ∃ (kq : Nat) (x48_12 : Bool), v48 = .bool x48_12 ∧ Aside0 (laws_FnExactFillGap.j0 kq a1 a2 t256 t269 x48_12 l0_0 a0_1 a0_2 t251 t254 t255 t258 t261 t262 t264 t267 t268 = some r) ∧ Aside0 (kq ≤ k) ∧ Aside0 (Kd.R (Kd.int .i64) 3 wc w.heap.size (fun k_ => some k_ ≠ ((.slice Ao28 t258.length co28) : Value).ownBlock ∧ some k_ ≠ ((.slice Ao34 t264.length co34) : Value).ownBlock) (.slice Ao22 t251.length co22) t251) ∧ Aside0 (Kd.R (Kd.int .i64) 3 wc w.heap.size (fun k_ => some k_ ≠ ((.slice Ao22 t251.length co22) : Value).ownBlock ∧ some k_ ≠ ((.slice Ao34 t264.length co34) : Value).ownBlock) (.slice Ao28 t258.length co28) t258) ∧ Aside0 (Kd.R (Kd.int .i64) 3 wc w.heap.size (fun k_ => some k_ ≠ ((.slice Ao22 t251.length co22) : Value).ownBlock ∧ some k_ ≠ ((.slice Ao28 t258.length co28) : Value).ownBlock) (.slice Ao34 t264.length co34) t264) ∧ Aside0 (wc.heap[gb244]? = some (.cells #[(.slice A0_0 l0_0.length c0_0), .int .i64 a0_1, .int .i64 a0_2] 24 (0, 0))) ∧ Aside0 (wc.heap[gb257]? = some (.cells #[(.slice Ao22 t251.length co22), .int .i64 t254, .int .i64 t255] 27 (0, 0))) ∧ Aside0 (wc.heap[gb263]? = some (.cells #[(.slice Ao28 t258.length co28), .int .i64 t261, .int .i64 t262] 27 (0, 0))) ∧ Aside0 (wc.heap[gb270]? = some (.cells #[(.slice Ao34 t264.length co34), .int .i64 t267, .int .i64 t268] 27 (0, 0))) ∧ Aside0 (Below w.heap.size w wc))
    case first =>
      have H := HC13.out
      clear HC13
      replace H := Option.bind_eq_some_iff.mp H
      obtain ⟨t271, A390, H⟩ := H
      replace H : (if t271 = true then (laws_FnExactFillGap.j0 k a1 a2 t256 t269 (t269 != t256) l0_0 a0_1 a0_2 t251 t254 t255 t258 t261 t262 t264 t267 t268) else (laws_FnExactFillGap.j0 k a1 a2 t256 t269 true l0_0 a0_1 a0_2 t251 t254 t255 t258 t261 t262 t264 t267 t268)) = some r := H
      have A39 := Aside0.mk A390
      clear A390
      by_cases c40 : t271 = true
      · subst c40
        have H1 : (laws_FnExactFillGap.j0 k a1 a2 t256 t269 (t269 != t256) l0_0 a0_1 a0_2 t251 t254 t255 t258 t261 t262 t264 t267 t268) = some r := by rw [if_pos rfl] at H; exact H
        clear H
        have H := H1
        clear H1
        have H' := Aside0.mk H
        clear H
        have hnb41 := NB270_244.out
        have hnc41 := NB244_270.out
        have hnb42 := NB270_257.out
        have hnc42 := NB257_270.out
        have hnb43 := NB270_263.out
        have hnc43 := NB263_270.out
        have hcz44_0 : w33.cell? ⟨gb270, 0, none⟩ = some (.slice none 0 0) := (blk_cell BK270.out 0).trans rfl
        have hcz44_1 : w33.cell? ⟨gb270, 1, none⟩ = some (.int .i64 0) := (blk_cell BK270.out 1).trans rfl
        have hcz44_2 : w33.cell? ⟨gb270, 2, none⟩ = some (.int .i64 0) := (blk_cell BK270.out 2).trans rfl
        have hfz44_0 := blk_frozen BK270.out 0
        have hfz44_1 := blk_frozen BK270.out 1
        have hfz44_2 := blk_frozen BK270.out 2
        have hnb45 := NB257_244.out
        have hnc45 := NB244_257.out
        have hnb46 := NB257_263.out
        have hnc46 := NB263_257.out
        have hcz47_0 : w33.cell? ⟨gb257, 0, none⟩ = some (.slice Ao22 t251.length co22) := (blk_cell BK257.out 0).trans rfl
        have hcz47_1 : w33.cell? ⟨gb257, 1, none⟩ = some (.int .i64 t254) := (blk_cell BK257.out 1).trans rfl
        have hcz47_2 : w33.cell? ⟨gb257, 2, none⟩ = some (.int .i64 t255) := (blk_cell BK257.out 2).trans rfl
        have hfz47_0 := blk_frozen BK257.out 0
        have hfz47_1 := blk_frozen BK257.out 1
        have hfz47_2 := blk_frozen BK257.out 2
        go_wp2_with (first | ((with_reducible refine gate_callee (f := 19) rfl ?_); refine goesL_ (some 42) rfl rfl Try.func19 (by kernel_rfl) rfl #[.agg #[.slice Ao34 t264.length co34, .int .i64 t267, .int .i64 t268], .agg #[.slice Ao22 t251.length co22, .int .i64 t254, .int .i64 t255]] rfl (by (try simp only [List.map_toArray, List.map_cons, List.map_nil]); first | done | rfl | (simp only [List.length_drop, List.length_take]; rfl)) ?_; (with_reducible refine (laws_eqPuzzle.calls k _ _ t264 t267 t268 _ _ t251 t254 t255 true _ ?side1 ?side2 ?side3 ?side4 A39.out).mono ?_); (case side1 => refine (Kd.R_reads' (e := 3) (base := w.heap.size) (ok := fun k_ => (((True ∧ some k_ ≠ (.slice Ao19 t246.length co19 : Value).ownBlock) ∧ some k_ ≠ (.slice Ao22 t251.length co22 : Value).ownBlock) ∧ some k_ ≠ (.slice Ao28 t258.length co28 : Value).ownBlock)) (n := t264.length) (c := co34) ?_).2.2; exact (by (with_reducible repeat (first | apply Kd.R_alloc | apply Kd.R_drewN | apply Kd.R_drew)); exact (Kd.R_mono (Kd.R_far (p := ⟨gb270, 2, none⟩) (Kd.R_far (p := ⟨gb270, 1, none⟩) (Kd.R_far (p := ⟨gb270, 0, none⟩) (Kd.R_types HO266.out BK270.out (by decide)) (fun _ hk => hk.2) (.slice Ao34 t264.length co34)) (fun _ hk => hk.2) (.int .i64 t267)) (fun _ hk => hk.2) (.int .i64 t268)) (fun _ h_ => h_.1)))); (case side2 => exact (Kd.R_reads' HO266.out).2.1); (case side3 => refine (Kd.R_reads' (e := 3) (base := w.heap.size) (ok := fun k_ => (((True ∧ some k_ ≠ (.slice Ao19 t246.length co19 : Value).ownBlock) ∧ some k_ ≠ (.slice Ao28 t258.length co28 : Value).ownBlock) ∧ some k_ ≠ (.slice Ao34 t264.length co34 : Value).ownBlock)) (n := t251.length) (c := co22) ?_).2.2; exact (by (with_reducible repeat (first | apply Kd.R_alloc | apply Kd.R_drewN | apply Kd.R_drew)); exact (Kd.R_mono (Kd.R_far (p := ⟨gb270, 2, none⟩) (Kd.R_far (p := ⟨gb270, 1, none⟩) (Kd.R_far (p := ⟨gb270, 0, none⟩) (Kd.R_types HO253.out BK270.out (by decide)) (fun _ hk => hk.2) (.slice Ao34 t264.length co34)) (fun _ hk => hk.2) (.int .i64 t267)) (fun _ hk => hk.2) (.int .i64 t268)) (fun _ h_ => h_.1)))); (case side4 => exact (Kd.R_reads' HO253.out).2.1); rintro e w48 ⟨rfl, hb⟩; refine ⟨_, rfl, ?_⟩; have n0_ := Aside0.mk (Kd.R_below (by (with_reducible repeat (first | apply Kd.R_alloc | apply Kd.R_drewN | apply Kd.R_drew)); exact (Kd.R_mono (Kd.R_far (p := ⟨gb270, 2, none⟩) (Kd.R_far (p := ⟨gb270, 1, none⟩) (Kd.R_far (p := ⟨gb270, 0, none⟩) (Kd.R_types HO248.out BK270.out (by decide)) (fun _ hk => hk.2) (.slice Ao34 t264.length co34)) (fun _ hk => hk.2) (.int .i64 t267)) (fun _ hk => hk.2) (.int .i64 t268)) (fun _ h_ => h_.1))) hb); have n1_ := Aside0.mk (Kd.R_below (by (with_reducible repeat (first | apply Kd.R_alloc | apply Kd.R_drewN | apply Kd.R_drew)); exact (Kd.R_mono (Kd.R_far (p := ⟨gb270, 2, none⟩) (Kd.R_far (p := ⟨gb270, 1, none⟩) (Kd.R_far (p := ⟨gb270, 0, none⟩) (Kd.R_types HO253.out BK270.out (by decide)) (fun _ hk => hk.2) (.slice Ao34 t264.length co34)) (fun _ hk => hk.2) (.int .i64 t267)) (fun _ hk => hk.2) (.int .i64 t268)) (fun _ h_ => h_.1))) hb); have n2_ := Aside0.mk (Kd.R_below (by (with_reducible repeat (first | apply Kd.R_alloc | apply Kd.R_drewN | apply Kd.R_drew)); exact (Kd.R_mono (Kd.R_far (p := ⟨gb270, 2, none⟩) (Kd.R_far (p := ⟨gb270, 1, none⟩) (Kd.R_far (p := ⟨gb270, 0, none⟩) (Kd.R_types HO260.out BK270.out (by decide)) (fun _ hk => hk.2) (.slice Ao34 t264.length co34)) (fun _ hk => hk.2) (.int .i64 t267)) (fun _ hk => hk.2) (.int .i64 t268)) (fun _ h_ => h_.1))) hb); have n3_ := Aside0.mk (Kd.R_below (by (with_reducible repeat (first | apply Kd.R_alloc | apply Kd.R_drewN | apply Kd.R_drew)); exact (Kd.R_mono (Kd.R_far (p := ⟨gb270, 2, none⟩) (Kd.R_far (p := ⟨gb270, 1, none⟩) (Kd.R_far (p := ⟨gb270, 0, none⟩) (Kd.R_types HO266.out BK270.out (by decide)) (fun _ hk => hk.2) (.slice Ao34 t264.length co34)) (fun _ hk => hk.2) (.int .i64 t267)) (fun _ hk => hk.2) (.int .i64 t268)) (fun _ h_ => h_.1))) hb); have n4_ := Aside0.mk (blk_below (g := gb244) (o := .cells #[.slice A0_0 l0_0.length c0_0, .int .i64 a0_1, .int .i64 a0_2] 24 (0, 0)) (by (with_reducible repeat (first | refine blk_drewN ?_ _ | refine blk_drew ?_ | refine blk_alloc ?_ _)); refine blk_far ?_ NB244_270.out _; (with_reducible repeat (first | refine blk_drewN ?_ _ | refine blk_drew ?_ | refine blk_alloc ?_ _)); refine blk_far ?_ NB244_270.out _; (with_reducible repeat (first | refine blk_drewN ?_ _ | refine blk_drew ?_ | refine blk_alloc ?_ _)); refine blk_far ?_ NB244_270.out _; (with_reducible repeat (first | refine blk_drewN ?_ _ | refine blk_drew ?_ | refine blk_alloc ?_ _)); exact BK244.out) hb); have n5_ := Aside0.mk (blk_below (g := gb257) (o := .cells #[.slice Ao22 t251.length co22, .int .i64 t254, .int .i64 t255] 27 (0, 0)) (by (with_reducible repeat (first | refine blk_drewN ?_ _ | refine blk_drew ?_ | refine blk_alloc ?_ _)); refine blk_far ?_ NB257_270.out _; (with_reducible repeat (first | refine blk_drewN ?_ _ | refine blk_drew ?_ | refine blk_alloc ?_ _)); refine blk_far ?_ NB257_270.out _; (with_reducible repeat (first | refine blk_drewN ?_ _ | refine blk_drew ?_ | refine blk_alloc ?_ _)); refine blk_far ?_ NB257_270.out _; (with_reducible repeat (first | refine blk_drewN ?_ _ | refine blk_drew ?_ | refine blk_alloc ?_ _)); exact BK257.out) hb); have n6_ := Aside0.mk (blk_below (g := gb263) (o := .cells #[.slice Ao28 t258.length co28, .int .i64 t261, .int .i64 t262] 27 (0, 0)) (by (with_reducible repeat (first | refine blk_drewN ?_ _ | refine blk_drew ?_ | refine blk_alloc ?_ _)); refine blk_far ?_ NB263_270.out _; (with_reducible repeat (first | refine blk_drewN ?_ _ | refine blk_drew ?_ | refine blk_alloc ?_ _)); refine blk_far ?_ NB263_270.out _; (with_reducible repeat (first | refine blk_drewN ?_ _ | refine blk_drew ?_ | refine blk_alloc ?_ _)); refine blk_far ?_ NB263_270.out _; (with_reducible repeat (first | refine blk_drewN ?_ _ | refine blk_drew ?_ | refine blk_alloc ?_ _)); exact BK263.out) hb); have n7_ := Aside0.mk (blk_below (g := gb270) (o := .cells #[.slice Ao34 t264.length co34, .int .i64 t267, .int .i64 t268] 27 (0, 0)) (by (with_reducible repeat (first | refine blk_drewN ?_ _ | refine blk_drew ?_ | refine blk_alloc ?_ _)); refine blk_put (cs := #[.slice Ao34 t264.length co34, .int .i64 t267, .int .i64 0]) ?_ 2 _ rfl; (with_reducible repeat (first | refine blk_drewN ?_ _ | refine blk_drew ?_ | refine blk_alloc ?_ _)); refine blk_put (cs := #[.slice Ao34 t264.length co34, .int .i64 0, .int .i64 0]) ?_ 1 _ rfl; (with_reducible repeat (first | refine blk_drewN ?_ _ | refine blk_drew ?_ | refine blk_alloc ?_ _)); refine blk_put (cs := #[.slice none 0 0, .int .i64 0, .int .i64 0]) ?_ 0 _ rfl; (with_reducible repeat (first | refine blk_drewN ?_ _ | refine blk_drew ?_ | refine blk_alloc ?_ _)); exact BK270.out) hb); have n8_ := Aside0.mk (below_step (by repeat (first | (with_reducible first | exact HB.out | apply below_alloc | apply pw_below_drewN | apply below_drew1 | refine below_set ?_ GE244.out | refine below_set ?_ GE257.out | refine below_set ?_ GE263.out | refine below_set ?_ GE270.out) | exact HB.out)) hb); clear HO248; clear HO253; clear HO260; clear HO266; clear BK244; clear BK257; clear BK263; clear BK270; clear HB; have HO248 := n0_; have HO253 := n1_; have HO260 := n2_; have HO266 := n3_; have BK244 := n4_; have BK257 := n5_; have BK263 := n6_; have BK270 := n7_; have HB := n8_; clear n0_ n1_ n2_ n3_ n4_ n5_ n6_ n7_ n8_; (try clear hb); (try clear hb2); (try clear hk); (try clear hi)))
        go_meet
        case rel => exact ⟨_, ((t269 != t256)), (by first | rfl | (simp; done) | (simp [*]; done)), H', ⟨by first | omega | exact Nat.le_refl _⟩, ⟨by (with_reducible repeat (first | apply Kd.R_alloc | apply Kd.R_drewN | apply Kd.R_drew)); exact Kd.R_mono HO253.out (fun _ hk => ⟨hk.1.2, hk.2⟩)⟩, ⟨by (with_reducible repeat (first | apply Kd.R_alloc | apply Kd.R_drewN | apply Kd.R_drew)); exact Kd.R_mono HO260.out (fun _ hk => ⟨hk.1.2, hk.2⟩)⟩, ⟨by (with_reducible repeat (first | apply Kd.R_alloc | apply Kd.R_drewN | apply Kd.R_drew)); exact Kd.R_mono HO266.out (fun _ hk => ⟨hk.1.2, hk.2⟩)⟩, ⟨by (with_reducible repeat (first | refine blk_drewN ?_ _ | refine blk_drew ?_ | refine blk_alloc ?_ _)); exact BK244.out⟩, ⟨by (with_reducible repeat (first | refine blk_drewN ?_ _ | refine blk_drew ?_ | refine blk_alloc ?_ _)); exact BK257.out⟩, ⟨by (with_reducible repeat (first | refine blk_drewN ?_ _ | refine blk_drew ?_ | refine blk_alloc ?_ _)); exact BK263.out⟩, ⟨by (with_reducible repeat (first | refine blk_drewN ?_ _ | refine blk_drew ?_ | refine blk_alloc ?_ _)); exact BK270.out⟩, ⟨by repeat (first | (with_reducible first | exact HB.out | apply below_alloc | apply pw_below_drewN | apply below_drew1 | refine below_set ?_ GE244.out | refine below_set ?_ GE257.out | refine below_set ?_ GE263.out | refine below_set ?_ GE270.out) | exact HB.out)⟩⟩
      · replace c40 := Bool.eq_false_iff.mpr c40
        subst c40
        have H1 : (laws_FnExactFillGap.j0 k a1 a2 t256 t269 true l0_0 a0_1 a0_2 t251 t254 t255 t258 t261 t262 t264 t267 t268) = some r := by rw [if_neg (show ¬ (false = true) by decide)] at H; exact H
        clear H
        have H := H1
        clear H1
        have H' := Aside0.mk H
        clear H
        have hnb49 := NB270_244.out
        have hnc49 := NB244_270.out
        have hnb50 := NB270_257.out
        have hnc50 := NB257_270.out
        have hnb51 := NB270_263.out
        have hnc51 := NB263_270.out
        have hcz52_0 : w33.cell? ⟨gb270, 0, none⟩ = some (.slice none 0 0) := (blk_cell BK270.out 0).trans rfl
        have hcz52_1 : w33.cell? ⟨gb270, 1, none⟩ = some (.int .i64 0) := (blk_cell BK270.out 1).trans rfl
        have hcz52_2 : w33.cell? ⟨gb270, 2, none⟩ = some (.int .i64 0) := (blk_cell BK270.out 2).trans rfl
        have hfz52_0 := blk_frozen BK270.out 0
        have hfz52_1 := blk_frozen BK270.out 1
        have hfz52_2 := blk_frozen BK270.out 2
        have hnb53 := NB257_244.out
        have hnc53 := NB244_257.out
        have hnb54 := NB257_263.out
        have hnc54 := NB263_257.out
        have hcz55_0 : w33.cell? ⟨gb257, 0, none⟩ = some (.slice Ao22 t251.length co22) := (blk_cell BK257.out 0).trans rfl
        have hcz55_1 : w33.cell? ⟨gb257, 1, none⟩ = some (.int .i64 t254) := (blk_cell BK257.out 1).trans rfl
        have hcz55_2 : w33.cell? ⟨gb257, 2, none⟩ = some (.int .i64 t255) := (blk_cell BK257.out 2).trans rfl
        have hfz55_0 := blk_frozen BK257.out 0
        have hfz55_1 := blk_frozen BK257.out 1
        have hfz55_2 := blk_frozen BK257.out 2
        go_wp2_with (first | ((with_reducible refine gate_callee (f := 19) rfl ?_); refine goesL_ (some 42) rfl rfl Try.func19 (by kernel_rfl) rfl #[.agg #[.slice Ao34 t264.length co34, .int .i64 t267, .int .i64 t268], .agg #[.slice Ao22 t251.length co22, .int .i64 t254, .int .i64 t255]] rfl (by (try simp only [List.map_toArray, List.map_cons, List.map_nil]); first | done | rfl | (simp only [List.length_drop, List.length_take]; rfl)) ?_; (with_reducible refine (laws_eqPuzzle.calls k _ _ t264 t267 t268 _ _ t251 t254 t255 false _ ?side1 ?side2 ?side3 ?side4 A39.out).mono ?_); (case side1 => refine (Kd.R_reads' (e := 3) (base := w.heap.size) (ok := fun k_ => (((True ∧ some k_ ≠ (.slice Ao19 t246.length co19 : Value).ownBlock) ∧ some k_ ≠ (.slice Ao22 t251.length co22 : Value).ownBlock) ∧ some k_ ≠ (.slice Ao28 t258.length co28 : Value).ownBlock)) (n := t264.length) (c := co34) ?_).2.2; exact (by (with_reducible repeat (first | apply Kd.R_alloc | apply Kd.R_drewN | apply Kd.R_drew)); exact (Kd.R_mono (Kd.R_far (p := ⟨gb270, 2, none⟩) (Kd.R_far (p := ⟨gb270, 1, none⟩) (Kd.R_far (p := ⟨gb270, 0, none⟩) (Kd.R_types HO266.out BK270.out (by decide)) (fun _ hk => hk.2) (.slice Ao34 t264.length co34)) (fun _ hk => hk.2) (.int .i64 t267)) (fun _ hk => hk.2) (.int .i64 t268)) (fun _ h_ => h_.1)))); (case side2 => exact (Kd.R_reads' HO266.out).2.1); (case side3 => refine (Kd.R_reads' (e := 3) (base := w.heap.size) (ok := fun k_ => (((True ∧ some k_ ≠ (.slice Ao19 t246.length co19 : Value).ownBlock) ∧ some k_ ≠ (.slice Ao28 t258.length co28 : Value).ownBlock) ∧ some k_ ≠ (.slice Ao34 t264.length co34 : Value).ownBlock)) (n := t251.length) (c := co22) ?_).2.2; exact (by (with_reducible repeat (first | apply Kd.R_alloc | apply Kd.R_drewN | apply Kd.R_drew)); exact (Kd.R_mono (Kd.R_far (p := ⟨gb270, 2, none⟩) (Kd.R_far (p := ⟨gb270, 1, none⟩) (Kd.R_far (p := ⟨gb270, 0, none⟩) (Kd.R_types HO253.out BK270.out (by decide)) (fun _ hk => hk.2) (.slice Ao34 t264.length co34)) (fun _ hk => hk.2) (.int .i64 t267)) (fun _ hk => hk.2) (.int .i64 t268)) (fun _ h_ => h_.1)))); (case side4 => exact (Kd.R_reads' HO253.out).2.1); rintro e w56 ⟨rfl, hb⟩; refine ⟨_, rfl, ?_⟩; have n0_ := Aside0.mk (Kd.R_below (by (with_reducible repeat (first | apply Kd.R_alloc | apply Kd.R_drewN | apply Kd.R_drew)); exact (Kd.R_mono (Kd.R_far (p := ⟨gb270, 2, none⟩) (Kd.R_far (p := ⟨gb270, 1, none⟩) (Kd.R_far (p := ⟨gb270, 0, none⟩) (Kd.R_types HO248.out BK270.out (by decide)) (fun _ hk => hk.2) (.slice Ao34 t264.length co34)) (fun _ hk => hk.2) (.int .i64 t267)) (fun _ hk => hk.2) (.int .i64 t268)) (fun _ h_ => h_.1))) hb); have n1_ := Aside0.mk (Kd.R_below (by (with_reducible repeat (first | apply Kd.R_alloc | apply Kd.R_drewN | apply Kd.R_drew)); exact (Kd.R_mono (Kd.R_far (p := ⟨gb270, 2, none⟩) (Kd.R_far (p := ⟨gb270, 1, none⟩) (Kd.R_far (p := ⟨gb270, 0, none⟩) (Kd.R_types HO253.out BK270.out (by decide)) (fun _ hk => hk.2) (.slice Ao34 t264.length co34)) (fun _ hk => hk.2) (.int .i64 t267)) (fun _ hk => hk.2) (.int .i64 t268)) (fun _ h_ => h_.1))) hb); have n2_ := Aside0.mk (Kd.R_below (by (with_reducible repeat (first | apply Kd.R_alloc | apply Kd.R_drewN | apply Kd.R_drew)); exact (Kd.R_mono (Kd.R_far (p := ⟨gb270, 2, none⟩) (Kd.R_far (p := ⟨gb270, 1, none⟩) (Kd.R_far (p := ⟨gb270, 0, none⟩) (Kd.R_types HO260.out BK270.out (by decide)) (fun _ hk => hk.2) (.slice Ao34 t264.length co34)) (fun _ hk => hk.2) (.int .i64 t267)) (fun _ hk => hk.2) (.int .i64 t268)) (fun _ h_ => h_.1))) hb); have n3_ := Aside0.mk (Kd.R_below (by (with_reducible repeat (first | apply Kd.R_alloc | apply Kd.R_drewN | apply Kd.R_drew)); exact (Kd.R_mono (Kd.R_far (p := ⟨gb270, 2, none⟩) (Kd.R_far (p := ⟨gb270, 1, none⟩) (Kd.R_far (p := ⟨gb270, 0, none⟩) (Kd.R_types HO266.out BK270.out (by decide)) (fun _ hk => hk.2) (.slice Ao34 t264.length co34)) (fun _ hk => hk.2) (.int .i64 t267)) (fun _ hk => hk.2) (.int .i64 t268)) (fun _ h_ => h_.1))) hb); have n4_ := Aside0.mk (blk_below (g := gb244) (o := .cells #[.slice A0_0 l0_0.length c0_0, .int .i64 a0_1, .int .i64 a0_2] 24 (0, 0)) (by (with_reducible repeat (first | refine blk_drewN ?_ _ | refine blk_drew ?_ | refine blk_alloc ?_ _)); refine blk_far ?_ NB244_270.out _; (with_reducible repeat (first | refine blk_drewN ?_ _ | refine blk_drew ?_ | refine blk_alloc ?_ _)); refine blk_far ?_ NB244_270.out _; (with_reducible repeat (first | refine blk_drewN ?_ _ | refine blk_drew ?_ | refine blk_alloc ?_ _)); refine blk_far ?_ NB244_270.out _; (with_reducible repeat (first | refine blk_drewN ?_ _ | refine blk_drew ?_ | refine blk_alloc ?_ _)); exact BK244.out) hb); have n5_ := Aside0.mk (blk_below (g := gb257) (o := .cells #[.slice Ao22 t251.length co22, .int .i64 t254, .int .i64 t255] 27 (0, 0)) (by (with_reducible repeat (first | refine blk_drewN ?_ _ | refine blk_drew ?_ | refine blk_alloc ?_ _)); refine blk_far ?_ NB257_270.out _; (with_reducible repeat (first | refine blk_drewN ?_ _ | refine blk_drew ?_ | refine blk_alloc ?_ _)); refine blk_far ?_ NB257_270.out _; (with_reducible repeat (first | refine blk_drewN ?_ _ | refine blk_drew ?_ | refine blk_alloc ?_ _)); refine blk_far ?_ NB257_270.out _; (with_reducible repeat (first | refine blk_drewN ?_ _ | refine blk_drew ?_ | refine blk_alloc ?_ _)); exact BK257.out) hb); have n6_ := Aside0.mk (blk_below (g := gb263) (o := .cells #[.slice Ao28 t258.length co28, .int .i64 t261, .int .i64 t262] 27 (0, 0)) (by (with_reducible repeat (first | refine blk_drewN ?_ _ | refine blk_drew ?_ | refine blk_alloc ?_ _)); refine blk_far ?_ NB263_270.out _; (with_reducible repeat (first | refine blk_drewN ?_ _ | refine blk_drew ?_ | refine blk_alloc ?_ _)); refine blk_far ?_ NB263_270.out _; (with_reducible repeat (first | refine blk_drewN ?_ _ | refine blk_drew ?_ | refine blk_alloc ?_ _)); refine blk_far ?_ NB263_270.out _; (with_reducible repeat (first | refine blk_drewN ?_ _ | refine blk_drew ?_ | refine blk_alloc ?_ _)); exact BK263.out) hb); have n7_ := Aside0.mk (blk_below (g := gb270) (o := .cells #[.slice Ao34 t264.length co34, .int .i64 t267, .int .i64 t268] 27 (0, 0)) (by (with_reducible repeat (first | refine blk_drewN ?_ _ | refine blk_drew ?_ | refine blk_alloc ?_ _)); refine blk_put (cs := #[.slice Ao34 t264.length co34, .int .i64 t267, .int .i64 0]) ?_ 2 _ rfl; (with_reducible repeat (first | refine blk_drewN ?_ _ | refine blk_drew ?_ | refine blk_alloc ?_ _)); refine blk_put (cs := #[.slice Ao34 t264.length co34, .int .i64 0, .int .i64 0]) ?_ 1 _ rfl; (with_reducible repeat (first | refine blk_drewN ?_ _ | refine blk_drew ?_ | refine blk_alloc ?_ _)); refine blk_put (cs := #[.slice none 0 0, .int .i64 0, .int .i64 0]) ?_ 0 _ rfl; (with_reducible repeat (first | refine blk_drewN ?_ _ | refine blk_drew ?_ | refine blk_alloc ?_ _)); exact BK270.out) hb); have n8_ := Aside0.mk (below_step (by repeat (first | (with_reducible first | exact HB.out | apply below_alloc | apply pw_below_drewN | apply below_drew1 | refine below_set ?_ GE244.out | refine below_set ?_ GE257.out | refine below_set ?_ GE263.out | refine below_set ?_ GE270.out) | exact HB.out)) hb); clear HO248; clear HO253; clear HO260; clear HO266; clear BK244; clear BK257; clear BK263; clear BK270; clear HB; have HO248 := n0_; have HO253 := n1_; have HO260 := n2_; have HO266 := n3_; have BK244 := n4_; have BK257 := n5_; have BK263 := n6_; have BK270 := n7_; have HB := n8_; clear n0_ n1_ n2_ n3_ n4_ n5_ n6_ n7_ n8_; (try clear hb); (try clear hb2); (try clear hk); (try clear hi)))
        go_meet
        case rel => exact ⟨_, (true), (by first | rfl | (simp; done) | (simp [*]; done)), H', ⟨by first | omega | exact Nat.le_refl _⟩, ⟨by (with_reducible repeat (first | apply Kd.R_alloc | apply Kd.R_drewN | apply Kd.R_drew)); exact Kd.R_mono HO253.out (fun _ hk => ⟨hk.1.2, hk.2⟩)⟩, ⟨by (with_reducible repeat (first | apply Kd.R_alloc | apply Kd.R_drewN | apply Kd.R_drew)); exact Kd.R_mono HO260.out (fun _ hk => ⟨hk.1.2, hk.2⟩)⟩, ⟨by (with_reducible repeat (first | apply Kd.R_alloc | apply Kd.R_drewN | apply Kd.R_drew)); exact Kd.R_mono HO266.out (fun _ hk => ⟨hk.1.2, hk.2⟩)⟩, ⟨by (with_reducible repeat (first | refine blk_drewN ?_ _ | refine blk_drew ?_ | refine blk_alloc ?_ _)); exact BK244.out⟩, ⟨by (with_reducible repeat (first | refine blk_drewN ?_ _ | refine blk_drew ?_ | refine blk_alloc ?_ _)); exact BK257.out⟩, ⟨by (with_reducible repeat (first | refine blk_drewN ?_ _ | refine blk_drew ?_ | refine blk_alloc ?_ _)); exact BK263.out⟩, ⟨by (with_reducible repeat (first | refine blk_drewN ?_ _ | refine blk_drew ?_ | refine blk_alloc ?_ _)); exact BK270.out⟩, ⟨by repeat (first | (with_reducible first | exact HB.out | apply below_alloc | apply pw_below_drewN | apply below_drew1 | refine below_set ?_ GE244.out | refine below_set ?_ GE257.out | refine below_set ?_ GE263.out | refine below_set ?_ GE270.out) | exact HB.out)⟩⟩
    case rest =>
      clear HC13
      try clear c1
      try clear c2
      try clear p2
      try clear c3
      try clear c4
      try clear c5
      try clear c5b0
      try clear c15
      try clear c17
      try clear c19
      try clear c22
      try clear c23
      try clear c29
      try clear c30
      try clear c35
      try clear c36
      try clear c37
      try clear c40
      try clear c41
      try clear c42
      try clear c43
      try clear c45
      try clear c46
      try clear c49
      try clear c50
      try clear c51
      try clear c53
      try clear c54
      try clear hcz15_0
      try clear hcz15_1
      try clear hcz15_2
      try clear hcz17_0
      try clear hcz17_1
      try clear hcz17_2
      try clear hcz24_0
      try clear hcz24_1
      try clear hcz24_2
      try clear hcz25_0
      try clear hcz25_1
      try clear hcz25_2
      try clear hcz31_0
      try clear hcz31_1
      try clear hcz31_2
      try clear hcz38_0
      try clear hcz38_1
      try clear hcz38_2
      try clear hcz44_0
      try clear hcz44_1
      try clear hcz44_2
      try clear hcz47_0
      try clear hcz47_1
      try clear hcz47_2
      try clear hcz52_0
      try clear hcz52_1
      try clear hcz52_2
      try clear hcz55_0
      try clear hcz55_1
      try clear hcz55_2
      try clear hcz7_0
      try clear hcz7_1
      try clear hcz7_2
      try clear hfz15_0
      try clear hfz15_1
      try clear hfz15_2
      try clear hfz17_0
      try clear hfz17_1
      try clear hfz17_2
      try clear hfz24_0
      try clear hfz24_1
      try clear hfz24_2
      try clear hfz25_0
      try clear hfz25_1
      try clear hfz25_2
      try clear hfz31_0
      try clear hfz31_1
      try clear hfz31_2
      try clear hfz38_0
      try clear hfz38_1
      try clear hfz38_2
      try clear hfz44_0
      try clear hfz44_1
      try clear hfz44_2
      try clear hfz47_0
      try clear hfz47_1
      try clear hfz47_2
      try clear hfz52_0
      try clear hfz52_1
      try clear hfz52_2
      try clear hfz55_0
      try clear hfz55_1
      try clear hfz55_2
      try clear hfz7_0
      try clear hfz7_1
      try clear hfz7_2
      obtain ⟨kq, x48_12, rfl, HA, HJ12, HO_258000, HO_264000, HO_271000, BK244, BK257, BK263, BK270, HB⟩ := hcut
      cases kq with
      | zero => exact absurd HA.out (by simp [laws_FnExactFillGap.j0])
      | succ kj12 =>
        have H := HA.out
        clear HA
        simp only [laws_FnExactFillGap.j0] at H
        by_cases c57 : x48_12 = true
        · subst c57
          have H1 : (some false) = some r := by rw [if_pos rfl] at H; exact H
          clear H
          have H := H1
          clear H1
          obtain rfl := Option.some.inj H
          go_wp2
          go_ret
          exact ⟨by first | rfl | (simp [errW_none, errW_some] <;> rfl) | (simp [*, errW_none, errW_some] <;> rfl), by repeat (first | (with_reducible first | exact HB.out | apply below_alloc | apply pw_below_drewN | apply below_drew1 | refine below_set ?_ GE244.out | refine below_set ?_ GE257.out | refine below_set ?_ GE263.out | refine below_set ?_ GE270.out) | exact HB.out)⟩
        · replace c57 := Bool.eq_false_iff.mpr c57
          subst c57
          have H1 : ((laws_toPuzzle.f kj12 l0_0 a0_1 a0_2).bind fun bt272 => ((laws_eqPuzzle.f kj12 t258 t261 t262 bt272.1 bt272.2.1 bt272.2.2).bind fun t277 => (if t277 = true then ((laws_markPuzzle.f kj12 t258 t261 t262 1).bind fun bt278 => (if bt278.1 < 0 then (laws_FnExactFillGap.j1 kj12 a1 a2 t256 true l0_0 a0_1 a0_2 t251 t254 t255 t264 t267 t268) else ((laws_eqPuzzle.f kj12 t264 t267 t268 t251 t254 t255).bind fun t280 => (if t280 = true then (laws_FnExactFillGap.j1 kj12 a1 a2 t256 (t269 != t256) l0_0 a0_1 a0_2 t251 t254 t255 t264 t267 t268) else (laws_FnExactFillGap.j1 kj12 a1 a2 t256 true l0_0 a0_1 a0_2 t251 t254 t255 t264 t267 t268))))) else (some false)))) = some r := by rw [if_neg (show ¬ (false = true) by decide)] at H; exact H
          clear H
          have H := H1
          clear H1
          replace H := Option.bind_eq_some_iff.mp H
          obtain ⟨⟨t272, t275, t276⟩, A580, H⟩ := H
          replace H : ((laws_eqPuzzle.f kj12 t258 t261 t262 t272 t275 t276).bind fun t277 => (if t277 = true then ((laws_markPuzzle.f kj12 t258 t261 t262 1).bind fun bt278 => (if bt278.1 < 0 then (laws_FnExactFillGap.j1 kj12 a1 a2 t256 true l0_0 a0_1 a0_2 t251 t254 t255 t264 t267 t268) else ((laws_eqPuzzle.f kj12 t264 t267 t268 t251 t254 t255).bind fun t280 => (if t280 = true then (laws_FnExactFillGap.j1 kj12 a1 a2 t256 (t269 != t256) l0_0 a0_1 a0_2 t251 t254 t255 t264 t267 t268) else (laws_FnExactFillGap.j1 kj12 a1 a2 t256 true l0_0 a0_1 a0_2 t251 t254 t255 t264 t267 t268))))) else (some false))) = some r := H
          have A58 := Aside0.mk A580
          clear A580
          replace H := Option.bind_eq_some_iff.mp H
          obtain ⟨t277, A590, H⟩ := H
          replace H : (if t277 = true then ((laws_markPuzzle.f kj12 t258 t261 t262 1).bind fun bt278 => (if bt278.1 < 0 then (laws_FnExactFillGap.j1 kj12 a1 a2 t256 true l0_0 a0_1 a0_2 t251 t254 t255 t264 t267 t268) else ((laws_eqPuzzle.f kj12 t264 t267 t268 t251 t254 t255).bind fun t280 => (if t280 = true then (laws_FnExactFillGap.j1 kj12 a1 a2 t256 (t269 != t256) l0_0 a0_1 a0_2 t251 t254 t255 t264 t267 t268) else (laws_FnExactFillGap.j1 kj12 a1 a2 t256 true l0_0 a0_1 a0_2 t251 t254 t255 t264 t267 t268))))) else (some false)) = some r := H
          have A59 := Aside0.mk A590
          clear A590
          by_cases c60 : t277 = true
          · subst c60
            have H1 : ((laws_markPuzzle.f kj12 t258 t261 t262 1).bind fun bt278 => (if bt278.1 < 0 then (laws_FnExactFillGap.j1 kj12 a1 a2 t256 true l0_0 a0_1 a0_2 t251 t254 t255 t264 t267 t268) else ((laws_eqPuzzle.f kj12 t264 t267 t268 t251 t254 t255).bind fun t280 => (if t280 = true then (laws_FnExactFillGap.j1 kj12 a1 a2 t256 (t269 != t256) l0_0 a0_1 a0_2 t251 t254 t255 t264 t267 t268) else (laws_FnExactFillGap.j1 kj12 a1 a2 t256 true l0_0 a0_1 a0_2 t251 t254 t255 t264 t267 t268))))) = some r := by rw [if_pos rfl] at H; exact H
            clear H
            have H := H1
            clear H1
            replace H := Option.bind_eq_some_iff.mp H
            obtain ⟨⟨t278, t279⟩, A610, H⟩ := H
            replace H : (if t278 < 0 then (laws_FnExactFillGap.j1 kj12 a1 a2 t256 true l0_0 a0_1 a0_2 t251 t254 t255 t264 t267 t268) else ((laws_eqPuzzle.f kj12 t264 t267 t268 t251 t254 t255).bind fun t280 => (if t280 = true then (laws_FnExactFillGap.j1 kj12 a1 a2 t256 (t269 != t256) l0_0 a0_1 a0_2 t251 t254 t255 t264 t267 t268) else (laws_FnExactFillGap.j1 kj12 a1 a2 t256 true l0_0 a0_1 a0_2 t251 t254 t255 t264 t267 t268)))) = some r := H
            have A61 := Aside0.mk A610
            clear A610
            have HC62 := Aside0.mk H
            clear H
            try go_wp2
            have n0_ := Aside0.mk (Kd.R_drew HO_258000.out)
            have n1_ := Aside0.mk (Kd.R_drew HO_264000.out)
            have n2_ := Aside0.mk (Kd.R_drew HO_271000.out)
            have n3_ := Aside0.mk (blk_drew BK244.out)
            have n4_ := Aside0.mk (blk_drew BK257.out)
            have n5_ := Aside0.mk (blk_drew BK263.out)
            have n6_ := Aside0.mk (blk_drew BK270.out)
            have n7_ := Aside0.mk (below_drew1 HB.out)
            clear HO_258000
            clear HO_264000
            clear HO_271000
            clear BK244
            clear BK257
            clear BK263
            clear BK270
            clear HB
            have HO_258000 := n0_
            have HO_264000 := n1_
            have HO_271000 := n2_
            have BK244 := n3_
            have BK257 := n4_
            have BK263 := n5_
            have BK270 := n6_
            have HB := n7_
            clear n0_ n1_ n2_ n3_ n4_ n5_ n6_ n7_
            refine start_ (n := 5) (S := fun w' => w'.cell? ⟨gb263, 0, none⟩ = some (.slice Ao28 t258.length co28) ∧ w'.cell? ⟨gb263, 1, none⟩ = some (.int .i64 t261) ∧ w'.cell? ⟨gb263, 2, none⟩ = some (.int .i64 t262) ∧ w'.cell? ⟨gb244, 0, none⟩ = some (.slice A0_0 l0_0.length c0_0) ∧ w'.cell? ⟨gb244, 1, none⟩ = some (.int .i64 a0_1) ∧ w'.cell? ⟨gb244, 2, none⟩ = some (.int .i64 a0_2)) (ds := []) #[false, false, false, false, false] (by kernel_rfl) rfl rfl ⟨(blk_cell BK263.out 0).trans rfl, (blk_cell BK263.out 1).trans rfl, (blk_cell BK263.out 2).trans rfl, (blk_cell BK244.out 0).trans rfl, (blk_cell BK244.out 1).trans rfl, (blk_cell BK244.out 2).trans rfl⟩ (fun hHeld => ?_)
            generalize wc.drew = w63 at HO_258000 HO_264000 HO_271000 BK244 BK257 BK263 BK270 HB hHeld ⊢
            refine take_ (i := 0) (N := some 49) (v := ?_) (a' := ?_) #[true, false, false, false, false] rfl rfl (by kernel_rfl) (fun _ _ _ h => h) (Or.inl ⟨by rfl, ?_⟩) hHeld ?_ ?_
            rotate_left
            · rintro w' ⟨s0, s1, s2, s3, s4, s5⟩
              go_simp
              with_reducible rfl
            rotate_left
            · simp only [Act.put, List.setIfInBounds_toArray, List.set_cons_zero, List.set_cons_succ, i64_w, i32_w]
              rfl
            refine take_ (i := 1) (N := some 50) (v := ?_) (a' := ?_) #[true, true, false, false, false] rfl rfl (by kernel_rfl) (fun _ _ _ h => h) (Or.inl ⟨by rfl, ?_⟩) hHeld ?_ ?_
            rotate_left
            · rintro w' ⟨s0, s1, s2, s3, s4, s5⟩
              go_simp
              with_reducible rfl
            rotate_left
            · simp only [Act.put, List.setIfInBounds_toArray, List.set_cons_zero, List.set_cons_succ, i64_w, i32_w]
              rfl
            refine one_ (i := 2) (N := some 51) #[true, true, true, false, false] rfl rfl (by kernel_rfl) (by decide) (fun K hK => ?_)
            refine goes_ Try.func17 (by kernel_rfl) rfl #[.agg #[.slice A0_0 l0_0.length c0_0, .int .i64 a0_1, .int .i64 a0_2]] (by rfl) rfl rfl (by (try simp only [List.map_toArray, List.map_cons, List.map_nil]); first | done | rfl | (simp only [List.length_drop, List.length_take]; rfl)) ?_
            with_reducible refine (laws_toPuzzle.calls kj12 _ _ l0_0 a0_1 a0_2 t272 t275 t276 _ ?side1 ?side2 A58.out).mono ?_
            (case side1 => repeat (first | exact (Kd.C_below HR0_0.out HB.out) | (with_reducible refine Kd.C_alloc ?_ _) | (with_reducible refine Kd.C_drewN ?_ _) | (with_reducible refine Kd.C_drew ?_)))
            (case side2 => exact HC0_0.out)
            rintro e w64 ⟨v273, rfl, ho0, hb⟩
            refine ⟨_, rfl, ?_⟩
            have n0_ := Aside0.mk (Kd.R_elder' (by (with_reducible repeat (first | apply Kd.R_alloc | apply Kd.R_drewN | apply Kd.R_drew)); exact HO_258000.out) (Kd.R_base ho0) hb)
            have n1_ := Aside0.mk (Kd.R_elder' (by (with_reducible repeat (first | apply Kd.R_alloc | apply Kd.R_drewN | apply Kd.R_drew)); exact HO_264000.out) (Kd.R_base ho0) hb)
            have n2_ := Aside0.mk (Kd.R_elder' (by (with_reducible repeat (first | apply Kd.R_alloc | apply Kd.R_drewN | apply Kd.R_drew)); exact HO_271000.out) (Kd.R_base ho0) hb)
            have n3_ := Aside0.mk (Kd.R_lower (Kd.R_new' (Kd.R_new' (Kd.R_new' ho0 (Kd.R_lt (by (with_reducible repeat (first | apply Kd.R_alloc | apply Kd.R_drewN | apply Kd.R_drew)); exact HO_258000.out))) (Kd.R_lt (by (with_reducible repeat (first | apply Kd.R_alloc | apply Kd.R_drewN | apply Kd.R_drew)); exact HO_264000.out))) (Kd.R_lt (by (with_reducible repeat (first | apply Kd.R_alloc | apply Kd.R_drewN | apply Kd.R_drew)); exact HO_271000.out))) (below_size (by repeat (first | (with_reducible first | exact HB.out | apply below_alloc | apply pw_below_drewN | apply below_drew1 | refine below_set ?_ GE244.out | refine below_set ?_ GE257.out | refine below_set ?_ GE263.out | refine below_set ?_ GE270.out) | exact HB.out))))
            have n4_ := Aside0.mk (blk_below (g := gb244) (o := .cells #[.slice A0_0 l0_0.length c0_0, .int .i64 a0_1, .int .i64 a0_2] 24 (0, 0)) (by (with_reducible repeat (first | refine blk_drewN ?_ _ | refine blk_drew ?_ | refine blk_alloc ?_ _)); exact BK244.out) hb)
            have n5_ := Aside0.mk (blk_below (g := gb257) (o := .cells #[.slice Ao22 t251.length co22, .int .i64 t254, .int .i64 t255] 27 (0, 0)) (by (with_reducible repeat (first | refine blk_drewN ?_ _ | refine blk_drew ?_ | refine blk_alloc ?_ _)); exact BK257.out) hb)
            have n6_ := Aside0.mk (blk_below (g := gb263) (o := .cells #[.slice Ao28 t258.length co28, .int .i64 t261, .int .i64 t262] 27 (0, 0)) (by (with_reducible repeat (first | refine blk_drewN ?_ _ | refine blk_drew ?_ | refine blk_alloc ?_ _)); exact BK263.out) hb)
            have n7_ := Aside0.mk (blk_below (g := gb270) (o := .cells #[.slice Ao34 t264.length co34, .int .i64 t267, .int .i64 t268] 27 (0, 0)) (by (with_reducible repeat (first | refine blk_drewN ?_ _ | refine blk_drew ?_ | refine blk_alloc ?_ _)); exact BK270.out) hb)
            have n8_ := Aside0.mk (below_step (by repeat (first | (with_reducible first | exact HB.out | apply below_alloc | apply pw_below_drewN | apply below_drew1 | refine below_set ?_ GE244.out | refine below_set ?_ GE257.out | refine below_set ?_ GE263.out | refine below_set ?_ GE270.out) | exact HB.out)) hb)
            clear HO_258000
            clear HO_264000
            clear HO_271000
            clear BK244
            clear BK257
            clear BK263
            clear BK270
            clear HB
            have HO_258000 := n0_
            have HO_264000 := n1_
            have HO_271000 := n2_
            have HO274 := n3_
            have BK244 := n4_
            have BK257 := n5_
            have BK263 := n6_
            have BK270 := n7_
            have HB := n8_
            clear n0_ n1_ n2_ n3_ n4_ n5_ n6_ n7_ n8_
            (try clear hb)
            (try clear hb2)
            (try clear hk)
            (try clear hi)
            (try clear ho0)
            obtain ⟨Ao65, co65, eo65⟩ := Kd.R_slice HO274.out
            (first | subst eo65 | (injection eo65 with f1_ f2_ f3_; have f4_ := f1_.symm; have f5_ := f3_.symm; clear f1_ f2_ f3_; subst f4_; subst f5_))
            refine hK.out _ _ ⟨(blk_cell BK263.out 0).trans rfl, (blk_cell BK263.out 1).trans rfl, (blk_cell BK263.out 2).trans rfl, (blk_cell BK244.out 0).trans rfl, (blk_cell BK244.out 1).trans rfl, (blk_cell BK244.out 2).trans rfl⟩ (fun hHeld => ?_)
            clear hK K
            refine norm_ (a' := ?_) ?_ ?_
            rotate_left
            · show Act.put _ (some 51) _ = _
              simp only [Act.put, List.setIfInBounds_toArray, List.set_cons_zero, List.set_cons_succ, i64_w, i32_w]
              rfl
            refine one_ (i := 3) (N := some 52) #[true, true, true, true, false] rfl rfl (by kernel_rfl) (by decide) (fun K hK => ?_)
            refine goes_ Try.func19 (by kernel_rfl) rfl #[.agg #[.slice Ao28 t258.length co28, .int .i64 t261, .int .i64 t262], .agg #[.slice Ao65 t272.length co65, .int .i64 t275, .int .i64 t276]] (by rfl) rfl rfl (by (try simp only [List.map_toArray, List.map_cons, List.map_nil]); first | done | rfl | (simp only [List.length_drop, List.length_take]; rfl)) ?_
            with_reducible refine (laws_eqPuzzle.calls kj12 _ _ t258 t261 t262 _ _ t272 t275 t276 true _ ?side1 ?side2 ?side3 ?side4 A59.out).mono ?_
            (case side1 => repeat (first | exact (Kd.R_reads' HO_264000.out).2.2 | (with_reducible refine Kd.C_alloc ?_ _) | (with_reducible refine Kd.C_drewN ?_ _) | (with_reducible refine Kd.C_drew ?_)))
            (case side2 => exact (Kd.R_reads' HO_264000.out).2.1)
            (case side3 => repeat (first | exact (Kd.R_reads' HO274.out).2.2 | (with_reducible refine Kd.C_alloc ?_ _) | (with_reducible refine Kd.C_drewN ?_ _) | (with_reducible refine Kd.C_drew ?_)))
            (case side4 => exact (Kd.R_reads' HO274.out).2.1)
            rintro e w66 ⟨rfl, hb⟩
            refine ⟨_, rfl, ?_⟩
            have n0_ := Aside0.mk (Kd.R_below (by (with_reducible repeat (first | apply Kd.R_alloc | apply Kd.R_drewN | apply Kd.R_drew)); exact HO_258000.out) hb)
            have n1_ := Aside0.mk (Kd.R_below (by (with_reducible repeat (first | apply Kd.R_alloc | apply Kd.R_drewN | apply Kd.R_drew)); exact HO_264000.out) hb)
            have n2_ := Aside0.mk (Kd.R_below (by (with_reducible repeat (first | apply Kd.R_alloc | apply Kd.R_drewN | apply Kd.R_drew)); exact HO_271000.out) hb)
            have n3_ := Aside0.mk (Kd.R_below (by (with_reducible repeat (first | apply Kd.R_alloc | apply Kd.R_drewN | apply Kd.R_drew)); exact HO274.out) hb)
            have n4_ := Aside0.mk (blk_below (g := gb244) (o := .cells #[.slice A0_0 l0_0.length c0_0, .int .i64 a0_1, .int .i64 a0_2] 24 (0, 0)) (by (with_reducible repeat (first | refine blk_drewN ?_ _ | refine blk_drew ?_ | refine blk_alloc ?_ _)); exact BK244.out) hb)
            have n5_ := Aside0.mk (blk_below (g := gb257) (o := .cells #[.slice Ao22 t251.length co22, .int .i64 t254, .int .i64 t255] 27 (0, 0)) (by (with_reducible repeat (first | refine blk_drewN ?_ _ | refine blk_drew ?_ | refine blk_alloc ?_ _)); exact BK257.out) hb)
            have n6_ := Aside0.mk (blk_below (g := gb263) (o := .cells #[.slice Ao28 t258.length co28, .int .i64 t261, .int .i64 t262] 27 (0, 0)) (by (with_reducible repeat (first | refine blk_drewN ?_ _ | refine blk_drew ?_ | refine blk_alloc ?_ _)); exact BK263.out) hb)
            have n7_ := Aside0.mk (blk_below (g := gb270) (o := .cells #[.slice Ao34 t264.length co34, .int .i64 t267, .int .i64 t268] 27 (0, 0)) (by (with_reducible repeat (first | refine blk_drewN ?_ _ | refine blk_drew ?_ | refine blk_alloc ?_ _)); exact BK270.out) hb)
            have n8_ := Aside0.mk (below_step (by repeat (first | (with_reducible first | exact HB.out | apply below_alloc | apply pw_below_drewN | apply below_drew1 | refine below_set ?_ GE244.out | refine below_set ?_ GE257.out | refine below_set ?_ GE263.out | refine below_set ?_ GE270.out) | exact HB.out)) hb)
            clear HO_258000
            clear HO_264000
            clear HO_271000
            clear HO274
            clear BK244
            clear BK257
            clear BK263
            clear BK270
            clear HB
            have HO_258000 := n0_
            have HO_264000 := n1_
            have HO_271000 := n2_
            have HO274 := n3_
            have BK244 := n4_
            have BK257 := n5_
            have BK263 := n6_
            have BK270 := n7_
            have HB := n8_
            clear n0_ n1_ n2_ n3_ n4_ n5_ n6_ n7_ n8_
            (try clear hb)
            (try clear hb2)
            (try clear hk)
            (try clear hi)
            refine hK.out _ _ ⟨(blk_cell BK263.out 0).trans rfl, (blk_cell BK263.out 1).trans rfl, (blk_cell BK263.out 2).trans rfl, (blk_cell BK244.out 0).trans rfl, (blk_cell BK244.out 1).trans rfl, (blk_cell BK244.out 2).trans rfl⟩ (fun hHeld => ?_)
            clear hK K
            refine norm_ (a' := ?_) ?_ ?_
            rotate_left
            · show Act.put _ (some 52) _ = _
              simp only [Act.put, List.setIfInBounds_toArray, List.set_cons_zero, List.set_cons_succ, i64_w, i32_w]
              rfl
            refine pure_ (i := 4) (N := some 53) (v := ?_) (a' := ?_) #[true, true, true, true, true] rfl rfl (by kernel_rfl) (fun _ _ _ h => h) (Or.inl ⟨by rfl, ?_⟩) ?_ ?_
            rotate_left
            · intro w'
              go_simp
              with_reducible rfl
            rotate_left
            · simp only [Act.put, List.setIfInBounds_toArray, List.set_cons_zero, List.set_cons_succ, i64_w, i32_w]
              rfl
            refine done_ (by kernel_rfl) ?_
            have hnb67 := NB263_244.out
            have hnc67 := NB244_263.out
            have hnb68 := NB263_257.out
            have hnc68 := NB257_263.out
            have hnb69 := NB263_270.out
            have hnc69 := NB270_263.out
            have hcz70_0 : w66.cell? ⟨gb263, 0, none⟩ = some (.slice Ao28 t258.length co28) := (blk_cell BK263.out 0).trans rfl
            have hcz70_1 : w66.cell? ⟨gb263, 1, none⟩ = some (.int .i64 t261) := (blk_cell BK263.out 1).trans rfl
            have hcz70_2 : w66.cell? ⟨gb263, 2, none⟩ = some (.int .i64 t262) := (blk_cell BK263.out 2).trans rfl
            have hfz70_0 := blk_frozen BK263.out 0
            have hfz70_1 := blk_frozen BK263.out 1
            have hfz70_2 := blk_frozen BK263.out 2
            go_upto_region 14 with (first | ((with_reducible refine gate_callee (f := 24) rfl ?_); refine goesL_ (some 56) rfl rfl Try.func24 (by kernel_rfl) rfl #[.agg #[.slice Ao28 t258.length co28, .int .i64 t261, .int .i64 t262], .int .i64 1] rfl (by (try simp only [List.map_toArray, List.map_cons, List.map_nil]); first | done | rfl | (simp only [List.length_drop, List.length_take]; rfl)) ?_; (with_reducible refine (laws_markPuzzle.calls kj12 (fun k_ => some k_ = (.slice Ao28 t258.length co28 : Value).ownBlock) (.slice Ao28 t258.length co28) t258 t261 t262 1 t278 t279 w _ ?side1 ?side2 A61.out).mono ?_); (case side1 => repeat (first | (with_reducible first | exact HB.out | apply below_alloc | apply pw_below_drewN | apply below_drew1 | refine below_set ?_ GE244.out | refine below_set ?_ GE257.out | refine below_set ?_ GE263.out | refine below_set ?_ GE270.out) | exact HB.out)); (case side2 => exact Kd.R_tight rfl HO_264000.out); rintro e w71 ⟨rfl, hy0, hb, hkp⟩; refine ⟨_, rfl, ?_⟩; have n0_ := Aside0.mk (Kd.R_mono (ok' := fun k_ => some k_ ≠ (.slice Ao28 t258.length co28 : Value).ownBlock ∧ some k_ ≠ (.slice Ao34 t264.length co34 : Value).ownBlock ∧ some k_ ≠ (.slice Ao65 t272.length co65 : Value).ownBlock) (Kd.R_keptB (HO_258000.out) hkp (fun k_ hk_ hs_ => (hk_.1.1) hs_)) (fun k_ hk_ => ⟨hk_.1.1.1, hk_.1.1.2, hk_.1.2⟩)); have n1_ := Aside0.mk (Kd.R_reok rfl hy0 (fun k_ e_ => HO_264000.out.1 k_ e_)); have n2_ := Aside0.mk (Kd.R_mono (ok' := fun k_ => some k_ ≠ (.slice Ao22 t251.length co22 : Value).ownBlock ∧ some k_ ≠ (.slice Ao28 t258.length co28 : Value).ownBlock ∧ some k_ ≠ (.slice Ao65 t272.length co65 : Value).ownBlock) (Kd.R_keptB (HO_271000.out) hkp (fun k_ hk_ hs_ => (hk_.1.2) hs_)) (fun k_ hk_ => ⟨hk_.1.1.1, hk_.1.1.2, hk_.1.2⟩)); have n3_ := Aside0.mk (blk_kept (by (with_reducible repeat (first | refine blk_drewN ?_ _ | refine blk_drew ?_ | refine blk_alloc ?_ _)); exact BK244.out) hkp (fun hs_ => (fun e_ => (Kd.R_ne HO_264000.out BK244.out (by decide)) e_) hs_)); have n4_ := Aside0.mk (blk_kept (by (with_reducible repeat (first | refine blk_drewN ?_ _ | refine blk_drew ?_ | refine blk_alloc ?_ _)); exact BK257.out) hkp (fun hs_ => (fun e_ => (Kd.R_ne HO_264000.out BK257.out (by decide)) e_) hs_)); have n5_ := Aside0.mk (blk_kept (by (with_reducible repeat (first | refine blk_drewN ?_ _ | refine blk_drew ?_ | refine blk_alloc ?_ _)); exact BK263.out) hkp (fun hs_ => (fun e_ => (Kd.R_ne HO_264000.out BK263.out (by decide)) e_) hs_)); have n6_ := Aside0.mk (blk_kept (by (with_reducible repeat (first | refine blk_drewN ?_ _ | refine blk_drew ?_ | refine blk_alloc ?_ _)); exact BK270.out) hkp (fun hs_ => (fun e_ => (Kd.R_ne HO_264000.out BK270.out (by decide)) e_) hs_)); have n7_ := Aside0.mk (Kd.R_mono (ok' := fun k_ => some k_ ≠ (.slice Ao22 t251.length co22 : Value).ownBlock ∧ some k_ ≠ (.slice Ao28 t258.length co28 : Value).ownBlock ∧ some k_ ≠ (.slice Ao34 t264.length co34 : Value).ownBlock) (Kd.R_keptB (HO274.out) hkp (fun k_ hk_ hs_ => (hk_.1.2) hs_)) (fun k_ hk_ => ⟨hk_.1.1.1.2, hk_.1.1.2, hk_.1.2⟩)); have n8_ := Aside0.mk (hb); clear HO_258000; clear HO_264000; clear HO_271000; clear BK244; clear BK257; clear BK263; clear BK270; clear HO274; clear HB; have HO_258000 := n0_; have HO_264000 := n1_; have HO_271000 := n2_; have BK244 := n3_; have BK257 := n4_; have BK263 := n5_; have BK270 := n6_; have HO274 := n7_; have HB := n8_; clear n0_ n1_ n2_ n3_ n4_ n5_ n6_ n7_ n8_; (try clear hb); (try clear hkp); (try clear hy0)))
            (try simp only [Act.put, List.setIfInBounds_toArray, List.set_cons_zero, List.set_cons_succ])
            go_cut [69] (fun v69 wc => ∃ (kq : Nat) (x69_61 : Bool), v69 = .bool x69_61 ∧ Aside0 (laws_FnExactFillGap.j1 kq a1 a2 t256 x69_61 l0_0 a0_1 a0_2 t251 t254 t255 t264 t267 t268 = some r) ∧ Aside0 (kq ≤ kj12) ∧ Aside0 (Kd.R (Kd.int .i64) 3 wc w.heap.size (fun k_ => some k_ ≠ ((.slice Ao28 t258.length co28) : Value).ownBlock ∧ some k_ ≠ ((.slice Ao34 t264.length co34) : Value).ownBlock) (.slice Ao22 t251.length co22) t251) ∧ Aside0 (Kd.R (Kd.int .i64) 3 wc w.heap.size (fun k_ => some k_ ≠ ((.slice Ao22 t251.length co22) : Value).ownBlock ∧ some k_ ≠ ((.slice Ao34 t264.length co34) : Value).ownBlock) (.slice Ao28 t258.length co28) t279) ∧ Aside0 (Kd.R (Kd.int .i64) 3 wc w.heap.size (fun k_ => some k_ ≠ ((.slice Ao22 t251.length co22) : Value).ownBlock ∧ some k_ ≠ ((.slice Ao28 t258.length co28) : Value).ownBlock) (.slice Ao34 t264.length co34) t264) ∧ Aside0 (wc.heap[gb244]? = some (.cells #[(.slice A0_0 l0_0.length c0_0), .int .i64 a0_1, .int .i64 a0_2] 24 (0, 0))) ∧ Aside0 (wc.heap[gb257]? = some (.cells #[(.slice Ao22 t251.length co22), .int .i64 t254, .int .i64 t255] 27 (0, 0))) ∧ Aside0 (wc.heap[gb263]? = some (.cells #[(.slice Ao28 t258.length co28), .int .i64 t261, .int .i64 t262] 27 (0, 0))) ∧ Aside0 (wc.heap[gb270]? = some (.cells #[(.slice Ao34 t264.length co34), .int .i64 t267, .int .i64 t268] 27 (0, 0))) ∧ Aside0 (Below w.heap.size w wc))
            case first =>
              have H := HC62.out
              clear HC62
              by_cases c72 : t278 < 0
              · rw [if_pos c72] at H
                have c72b0 : decide (t278 < 0) = true := decide_eq_true c72
                clear c72
                (first | rw [c72b0] | (simp only [i64_w, i32_w]; rw [c72b0]) | skip)
                have H' := Aside0.mk H
                clear H
                go_wp2
                go_meet
                case rel => exact ⟨_, (true), (by first | rfl | (simp; done) | (simp [*]; done)), H', ⟨by have := HJ12.out; first | omega | exact Nat.le_refl _⟩, ⟨by (with_reducible repeat (first | apply Kd.R_alloc | apply Kd.R_drewN | apply Kd.R_drew)); exact Kd.R_mono HO_258000.out (fun _ hk => ⟨hk.1, hk.2.1⟩)⟩, ⟨by (with_reducible repeat (first | apply Kd.R_alloc | apply Kd.R_drewN | apply Kd.R_drew)); exact Kd.R_mono HO_264000.out (fun _ hk => ⟨hk.1.1, hk.1.2⟩)⟩, ⟨by (with_reducible repeat (first | apply Kd.R_alloc | apply Kd.R_drewN | apply Kd.R_drew)); exact Kd.R_mono HO_271000.out (fun _ hk => ⟨hk.1, hk.2.1⟩)⟩, ⟨by (with_reducible repeat (first | refine blk_drewN ?_ _ | refine blk_drew ?_ | refine blk_alloc ?_ _)); exact BK244.out⟩, ⟨by (with_reducible repeat (first | refine blk_drewN ?_ _ | refine blk_drew ?_ | refine blk_alloc ?_ _)); exact BK257.out⟩, ⟨by (with_reducible repeat (first | refine blk_drewN ?_ _ | refine blk_drew ?_ | refine blk_alloc ?_ _)); exact BK263.out⟩, ⟨by (with_reducible repeat (first | refine blk_drewN ?_ _ | refine blk_drew ?_ | refine blk_alloc ?_ _)); exact BK270.out⟩, ⟨by repeat (first | (with_reducible first | exact HB.out | apply below_alloc | apply pw_below_drewN | apply below_drew1 | refine below_set ?_ GE244.out | refine below_set ?_ GE257.out | refine below_set ?_ GE263.out | refine below_set ?_ GE270.out) | exact HB.out)⟩⟩
              · rw [if_neg c72] at H
                have c72b0 : decide (t278 < 0) = false := decide_eq_false c72
                clear c72
                (first | rw [c72b0] | (simp only [i64_w, i32_w]; rw [c72b0]) | skip)
                replace H := Option.bind_eq_some_iff.mp H
                obtain ⟨t280, A730, H⟩ := H
                replace H : (if t280 = true then (laws_FnExactFillGap.j1 kj12 a1 a2 t256 (t269 != t256) l0_0 a0_1 a0_2 t251 t254 t255 t264 t267 t268) else (laws_FnExactFillGap.j1 kj12 a1 a2 t256 true l0_0 a0_1 a0_2 t251 t254 t255 t264 t267 t268)) = some r := H
                have A73 := Aside0.mk A730
                clear A730
                by_cases c74 : t280 = true
                · subst c74
                  have H1 : (laws_FnExactFillGap.j1 kj12 a1 a2 t256 (t269 != t256) l0_0 a0_1 a0_2 t251 t254 t255 t264 t267 t268) = some r := by rw [if_pos rfl] at H; exact H
                  clear H
                  have H := H1
                  clear H1
                  have H' := Aside0.mk H
                  clear H
                  have hnb75 := NB270_244.out
                  have hnc75 := NB244_270.out
                  have hnb76 := NB270_257.out
                  have hnc76 := NB257_270.out
                  have hnb77 := NB270_263.out
                  have hnc77 := NB263_270.out
                  have hcz78_0 : w71.cell? ⟨gb270, 0, none⟩ = some (.slice Ao34 t264.length co34) := (blk_cell BK270.out 0).trans rfl
                  have hcz78_1 : w71.cell? ⟨gb270, 1, none⟩ = some (.int .i64 t267) := (blk_cell BK270.out 1).trans rfl
                  have hcz78_2 : w71.cell? ⟨gb270, 2, none⟩ = some (.int .i64 t268) := (blk_cell BK270.out 2).trans rfl
                  have hfz78_0 := blk_frozen BK270.out 0
                  have hfz78_1 := blk_frozen BK270.out 1
                  have hfz78_2 := blk_frozen BK270.out 2
                  have hnb79 := NB257_244.out
                  have hnc79 := NB244_257.out
                  have hnb80 := NB257_263.out
                  have hnc80 := NB263_257.out
                  have hcz81_0 : w71.cell? ⟨gb257, 0, none⟩ = some (.slice Ao22 t251.length co22) := (blk_cell BK257.out 0).trans rfl
                  have hcz81_1 : w71.cell? ⟨gb257, 1, none⟩ = some (.int .i64 t254) := (blk_cell BK257.out 1).trans rfl
                  have hcz81_2 : w71.cell? ⟨gb257, 2, none⟩ = some (.int .i64 t255) := (blk_cell BK257.out 2).trans rfl
                  have hfz81_0 := blk_frozen BK257.out 0
                  have hfz81_1 := blk_frozen BK257.out 1
                  have hfz81_2 := blk_frozen BK257.out 2
                  go_wp2_with (first | (go_at_call 19; (with_reducible refine (laws_eqPuzzle.calls kj12 _ _ t264 t267 t268 _ _ t251 t254 t255 true _ ?side1 ?side2 ?side3 ?side4 A73.out).mono ?_); (case side1 => repeat (first | exact (Kd.R_reads' HO_271000.out).2.2 | (with_reducible refine Kd.C_alloc ?_ _) | (with_reducible refine Kd.C_drewN ?_ _) | (with_reducible refine Kd.C_drew ?_))); (case side2 => exact (Kd.R_reads' HO_271000.out).2.1); (case side3 => repeat (first | exact (Kd.R_reads' HO_258000.out).2.2 | (with_reducible refine Kd.C_alloc ?_ _) | (with_reducible refine Kd.C_drewN ?_ _) | (with_reducible refine Kd.C_drew ?_))); (case side4 => exact (Kd.R_reads' HO_258000.out).2.1); rintro e w82 ⟨rfl, hb⟩; have n0_ := Aside0.mk (Kd.R_below (by (with_reducible repeat (first | apply Kd.R_alloc | apply Kd.R_drewN | apply Kd.R_drew)); exact HO_258000.out) hb); have n1_ := Aside0.mk (Kd.R_below (by (with_reducible repeat (first | apply Kd.R_alloc | apply Kd.R_drewN | apply Kd.R_drew)); exact HO_264000.out) hb); have n2_ := Aside0.mk (Kd.R_below (by (with_reducible repeat (first | apply Kd.R_alloc | apply Kd.R_drewN | apply Kd.R_drew)); exact HO_271000.out) hb); have n3_ := Aside0.mk (Kd.R_below (by (with_reducible repeat (first | apply Kd.R_alloc | apply Kd.R_drewN | apply Kd.R_drew)); exact HO274.out) hb); have n4_ := Aside0.mk (blk_below (g := gb244) (o := .cells #[.slice A0_0 l0_0.length c0_0, .int .i64 a0_1, .int .i64 a0_2] 24 (0, 0)) (by (with_reducible repeat (first | refine blk_drewN ?_ _ | refine blk_drew ?_ | refine blk_alloc ?_ _)); exact BK244.out) hb); have n5_ := Aside0.mk (blk_below (g := gb257) (o := .cells #[.slice Ao22 t251.length co22, .int .i64 t254, .int .i64 t255] 27 (0, 0)) (by (with_reducible repeat (first | refine blk_drewN ?_ _ | refine blk_drew ?_ | refine blk_alloc ?_ _)); exact BK257.out) hb); have n6_ := Aside0.mk (blk_below (g := gb263) (o := .cells #[.slice Ao28 t258.length co28, .int .i64 t261, .int .i64 t262] 27 (0, 0)) (by (with_reducible repeat (first | refine blk_drewN ?_ _ | refine blk_drew ?_ | refine blk_alloc ?_ _)); exact BK263.out) hb); have n7_ := Aside0.mk (blk_below (g := gb270) (o := .cells #[.slice Ao34 t264.length co34, .int .i64 t267, .int .i64 t268] 27 (0, 0)) (by (with_reducible repeat (first | refine blk_drewN ?_ _ | refine blk_drew ?_ | refine blk_alloc ?_ _)); exact BK270.out) hb); have n8_ := Aside0.mk (below_step (by repeat (first | (with_reducible first | exact HB.out | apply below_alloc | apply pw_below_drewN | apply below_drew1 | refine below_set ?_ GE244.out | refine below_set ?_ GE257.out | refine below_set ?_ GE263.out | refine below_set ?_ GE270.out) | exact HB.out)) hb); clear HO_258000; clear HO_264000; clear HO_271000; clear HO274; clear BK244; clear BK257; clear BK263; clear BK270; clear HB; have HO_258000 := n0_; have HO_264000 := n1_; have HO_271000 := n2_; have HO274 := n3_; have BK244 := n4_; have BK257 := n5_; have BK263 := n6_; have BK270 := n7_; have HB := n8_; clear n0_ n1_ n2_ n3_ n4_ n5_ n6_ n7_ n8_; (try clear hb); (try clear hb2); (try clear hk); (try clear hi)))
                  go_meet
                  case rel => exact ⟨_, ((t269 != t256)), (by first | rfl | (simp; done) | (simp [*]; done)), H', ⟨by have := HJ12.out; first | omega | exact Nat.le_refl _⟩, ⟨by (with_reducible repeat (first | apply Kd.R_alloc | apply Kd.R_drewN | apply Kd.R_drew)); exact Kd.R_mono HO_258000.out (fun _ hk => ⟨hk.1, hk.2.1⟩)⟩, ⟨by (with_reducible repeat (first | apply Kd.R_alloc | apply Kd.R_drewN | apply Kd.R_drew)); exact Kd.R_mono HO_264000.out (fun _ hk => ⟨hk.1.1, hk.1.2⟩)⟩, ⟨by (with_reducible repeat (first | apply Kd.R_alloc | apply Kd.R_drewN | apply Kd.R_drew)); exact Kd.R_mono HO_271000.out (fun _ hk => ⟨hk.1, hk.2.1⟩)⟩, ⟨by (with_reducible repeat (first | refine blk_drewN ?_ _ | refine blk_drew ?_ | refine blk_alloc ?_ _)); exact BK244.out⟩, ⟨by (with_reducible repeat (first | refine blk_drewN ?_ _ | refine blk_drew ?_ | refine blk_alloc ?_ _)); exact BK257.out⟩, ⟨by (with_reducible repeat (first | refine blk_drewN ?_ _ | refine blk_drew ?_ | refine blk_alloc ?_ _)); exact BK263.out⟩, ⟨by (with_reducible repeat (first | refine blk_drewN ?_ _ | refine blk_drew ?_ | refine blk_alloc ?_ _)); exact BK270.out⟩, ⟨by repeat (first | (with_reducible first | exact HB.out | apply below_alloc | apply pw_below_drewN | apply below_drew1 | refine below_set ?_ GE244.out | refine below_set ?_ GE257.out | refine below_set ?_ GE263.out | refine below_set ?_ GE270.out) | exact HB.out)⟩⟩
                · replace c74 := Bool.eq_false_iff.mpr c74
                  subst c74
                  have H1 : (laws_FnExactFillGap.j1 kj12 a1 a2 t256 true l0_0 a0_1 a0_2 t251 t254 t255 t264 t267 t268) = some r := by rw [if_neg (show ¬ (false = true) by decide)] at H; exact H
                  clear H
                  have H := H1
                  clear H1
                  have H' := Aside0.mk H
                  clear H
                  have hnb83 := NB270_244.out
                  have hnc83 := NB244_270.out
                  have hnb84 := NB270_257.out
                  have hnc84 := NB257_270.out
                  have hnb85 := NB270_263.out
                  have hnc85 := NB263_270.out
                  have hcz86_0 : w71.cell? ⟨gb270, 0, none⟩ = some (.slice Ao34 t264.length co34) := (blk_cell BK270.out 0).trans rfl
                  have hcz86_1 : w71.cell? ⟨gb270, 1, none⟩ = some (.int .i64 t267) := (blk_cell BK270.out 1).trans rfl
                  have hcz86_2 : w71.cell? ⟨gb270, 2, none⟩ = some (.int .i64 t268) := (blk_cell BK270.out 2).trans rfl
                  have hfz86_0 := blk_frozen BK270.out 0
                  have hfz86_1 := blk_frozen BK270.out 1
                  have hfz86_2 := blk_frozen BK270.out 2
                  have hnb87 := NB257_244.out
                  have hnc87 := NB244_257.out
                  have hnb88 := NB257_263.out
                  have hnc88 := NB263_257.out
                  have hcz89_0 : w71.cell? ⟨gb257, 0, none⟩ = some (.slice Ao22 t251.length co22) := (blk_cell BK257.out 0).trans rfl
                  have hcz89_1 : w71.cell? ⟨gb257, 1, none⟩ = some (.int .i64 t254) := (blk_cell BK257.out 1).trans rfl
                  have hcz89_2 : w71.cell? ⟨gb257, 2, none⟩ = some (.int .i64 t255) := (blk_cell BK257.out 2).trans rfl
                  have hfz89_0 := blk_frozen BK257.out 0
                  have hfz89_1 := blk_frozen BK257.out 1
                  have hfz89_2 := blk_frozen BK257.out 2
                  go_wp2_with (first | (go_at_call 19; (with_reducible refine (laws_eqPuzzle.calls kj12 _ _ t264 t267 t268 _ _ t251 t254 t255 false _ ?side1 ?side2 ?side3 ?side4 A73.out).mono ?_); (case side1 => repeat (first | exact (Kd.R_reads' HO_271000.out).2.2 | (with_reducible refine Kd.C_alloc ?_ _) | (with_reducible refine Kd.C_drewN ?_ _) | (with_reducible refine Kd.C_drew ?_))); (case side2 => exact (Kd.R_reads' HO_271000.out).2.1); (case side3 => repeat (first | exact (Kd.R_reads' HO_258000.out).2.2 | (with_reducible refine Kd.C_alloc ?_ _) | (with_reducible refine Kd.C_drewN ?_ _) | (with_reducible refine Kd.C_drew ?_))); (case side4 => exact (Kd.R_reads' HO_258000.out).2.1); rintro e w90 ⟨rfl, hb⟩; have n0_ := Aside0.mk (Kd.R_below (by (with_reducible repeat (first | apply Kd.R_alloc | apply Kd.R_drewN | apply Kd.R_drew)); exact HO_258000.out) hb); have n1_ := Aside0.mk (Kd.R_below (by (with_reducible repeat (first | apply Kd.R_alloc | apply Kd.R_drewN | apply Kd.R_drew)); exact HO_264000.out) hb); have n2_ := Aside0.mk (Kd.R_below (by (with_reducible repeat (first | apply Kd.R_alloc | apply Kd.R_drewN | apply Kd.R_drew)); exact HO_271000.out) hb); have n3_ := Aside0.mk (Kd.R_below (by (with_reducible repeat (first | apply Kd.R_alloc | apply Kd.R_drewN | apply Kd.R_drew)); exact HO274.out) hb); have n4_ := Aside0.mk (blk_below (g := gb244) (o := .cells #[.slice A0_0 l0_0.length c0_0, .int .i64 a0_1, .int .i64 a0_2] 24 (0, 0)) (by (with_reducible repeat (first | refine blk_drewN ?_ _ | refine blk_drew ?_ | refine blk_alloc ?_ _)); exact BK244.out) hb); have n5_ := Aside0.mk (blk_below (g := gb257) (o := .cells #[.slice Ao22 t251.length co22, .int .i64 t254, .int .i64 t255] 27 (0, 0)) (by (with_reducible repeat (first | refine blk_drewN ?_ _ | refine blk_drew ?_ | refine blk_alloc ?_ _)); exact BK257.out) hb); have n6_ := Aside0.mk (blk_below (g := gb263) (o := .cells #[.slice Ao28 t258.length co28, .int .i64 t261, .int .i64 t262] 27 (0, 0)) (by (with_reducible repeat (first | refine blk_drewN ?_ _ | refine blk_drew ?_ | refine blk_alloc ?_ _)); exact BK263.out) hb); have n7_ := Aside0.mk (blk_below (g := gb270) (o := .cells #[.slice Ao34 t264.length co34, .int .i64 t267, .int .i64 t268] 27 (0, 0)) (by (with_reducible repeat (first | refine blk_drewN ?_ _ | refine blk_drew ?_ | refine blk_alloc ?_ _)); exact BK270.out) hb); have n8_ := Aside0.mk (below_step (by repeat (first | (with_reducible first | exact HB.out | apply below_alloc | apply pw_below_drewN | apply below_drew1 | refine below_set ?_ GE244.out | refine below_set ?_ GE257.out | refine below_set ?_ GE263.out | refine below_set ?_ GE270.out) | exact HB.out)) hb); clear HO_258000; clear HO_264000; clear HO_271000; clear HO274; clear BK244; clear BK257; clear BK263; clear BK270; clear HB; have HO_258000 := n0_; have HO_264000 := n1_; have HO_271000 := n2_; have HO274 := n3_; have BK244 := n4_; have BK257 := n5_; have BK263 := n6_; have BK270 := n7_; have HB := n8_; clear n0_ n1_ n2_ n3_ n4_ n5_ n6_ n7_ n8_; (try clear hb); (try clear hb2); (try clear hk); (try clear hi)))
                  go_meet
                  case rel => exact ⟨_, (true), (by first | rfl | (simp; done) | (simp [*]; done)), H', ⟨by have := HJ12.out; first | omega | exact Nat.le_refl _⟩, ⟨by (with_reducible repeat (first | apply Kd.R_alloc | apply Kd.R_drewN | apply Kd.R_drew)); exact Kd.R_mono HO_258000.out (fun _ hk => ⟨hk.1, hk.2.1⟩)⟩, ⟨by (with_reducible repeat (first | apply Kd.R_alloc | apply Kd.R_drewN | apply Kd.R_drew)); exact Kd.R_mono HO_264000.out (fun _ hk => ⟨hk.1.1, hk.1.2⟩)⟩, ⟨by (with_reducible repeat (first | apply Kd.R_alloc | apply Kd.R_drewN | apply Kd.R_drew)); exact Kd.R_mono HO_271000.out (fun _ hk => ⟨hk.1, hk.2.1⟩)⟩, ⟨by (with_reducible repeat (first | refine blk_drewN ?_ _ | refine blk_drew ?_ | refine blk_alloc ?_ _)); exact BK244.out⟩, ⟨by (with_reducible repeat (first | refine blk_drewN ?_ _ | refine blk_drew ?_ | refine blk_alloc ?_ _)); exact BK257.out⟩, ⟨by (with_reducible repeat (first | refine blk_drewN ?_ _ | refine blk_drew ?_ | refine blk_alloc ?_ _)); exact BK263.out⟩, ⟨by (with_reducible repeat (first | refine blk_drewN ?_ _ | refine blk_drew ?_ | refine blk_alloc ?_ _)); exact BK270.out⟩, ⟨by repeat (first | (with_reducible first | exact HB.out | apply below_alloc | apply pw_below_drewN | apply below_drew1 | refine below_set ?_ GE244.out | refine below_set ?_ GE257.out | refine below_set ?_ GE263.out | refine below_set ?_ GE270.out) | exact HB.out)⟩⟩
            case rest =>
              clear HC62
              try clear c1
              try clear c2
              try clear p2
              try clear c3
              try clear c4
              try clear c5
              try clear c5b0
              try clear c6
              try clear c7
              try clear c8
              try clear c15
              try clear c17
              try clear c19
              try clear c22
              try clear c23
              try clear c24
              try clear c29
              try clear c30
              try clear c35
              try clear c36
              try clear c37
              try clear c40
              try clear c41
              try clear c42
              try clear c43
              try clear c45
              try clear c46
              try clear c49
              try clear c50
              try clear c51
              try clear c53
              try clear c54
              try clear c57
              try clear c60
              try clear c67
              try clear c68
              try clear c69
              try clear c72
              try clear c72b0
              try clear c74
              try clear c75
              try clear c76
              try clear c77
              try clear c79
              try clear c80
              try clear c83
              try clear c84
              try clear c85
              try clear c87
              try clear c88
              try clear hcz15_0
              try clear hcz15_1
              try clear hcz15_2
              try clear hcz17_0
              try clear hcz17_1
              try clear hcz17_2
              try clear hcz24_0
              try clear hcz24_1
              try clear hcz24_2
              try clear hcz25_0
              try clear hcz25_1
              try clear hcz25_2
              try clear hcz31_0
              try clear hcz31_1
              try clear hcz31_2
              try clear hcz38_0
              try clear hcz38_1
              try clear hcz38_2
              try clear hcz44_0
              try clear hcz44_1
              try clear hcz44_2
              try clear hcz47_0
              try clear hcz47_1
              try clear hcz47_2
              try clear hcz52_0
              try clear hcz52_1
              try clear hcz52_2
              try clear hcz55_0
              try clear hcz55_1
              try clear hcz55_2
              try clear hcz70_0
              try clear hcz70_1
              try clear hcz70_2
              try clear hcz78_0
              try clear hcz78_1
              try clear hcz78_2
              try clear hcz7_0
              try clear hcz7_1
              try clear hcz7_2
              try clear hcz81_0
              try clear hcz81_1
              try clear hcz81_2
              try clear hcz86_0
              try clear hcz86_1
              try clear hcz86_2
              try clear hcz89_0
              try clear hcz89_1
              try clear hcz89_2
              try clear hfz15_0
              try clear hfz15_1
              try clear hfz15_2
              try clear hfz17_0
              try clear hfz17_1
              try clear hfz17_2
              try clear hfz24_0
              try clear hfz24_1
              try clear hfz24_2
              try clear hfz25_0
              try clear hfz25_1
              try clear hfz25_2
              try clear hfz31_0
              try clear hfz31_1
              try clear hfz31_2
              try clear hfz38_0
              try clear hfz38_1
              try clear hfz38_2
              try clear hfz44_0
              try clear hfz44_1
              try clear hfz44_2
              try clear hfz47_0
              try clear hfz47_1
              try clear hfz47_2
              try clear hfz52_0
              try clear hfz52_1
              try clear hfz52_2
              try clear hfz55_0
              try clear hfz55_1
              try clear hfz55_2
              try clear hfz70_0
              try clear hfz70_1
              try clear hfz70_2
              try clear hfz78_0
              try clear hfz78_1
              try clear hfz78_2
              try clear hfz7_0
              try clear hfz7_1
              try clear hfz7_2
              try clear hfz81_0
              try clear hfz81_1
              try clear hfz81_2
              try clear hfz86_0
              try clear hfz86_1
              try clear hfz86_2
              try clear hfz89_0
              try clear hfz89_1
              try clear hfz89_2
              try clear p2
              obtain ⟨kq, x69_61, rfl, HA, HJ61, HO_258000, HO_264000, HO_271000, BK244, BK257, BK263, BK270, HB⟩ := hcut
              have hl264000_61 := (Kd.R_reads' HO_264000.out).1
              rw [hl264000_61] at HO_264000
              (try simp only [hl264000_61])
              (try simp only [hl264000_61] at BK244)
              (try simp only [hl264000_61] at BK257)
              (try simp only [hl264000_61] at BK263)
              (try simp only [hl264000_61] at BK270)
              (try simp only [hl264000_61] at HO_258000)
              (try simp only [hl264000_61] at HO_271000)
              cases kq with
              | zero => exact absurd HA.out (by simp [laws_FnExactFillGap.j1])
              | succ kj61 =>
                have H := HA.out
                clear HA
                simp only [laws_FnExactFillGap.j1] at H
                by_cases c91 : x69_61 = true
                · subst c91
                  have H1 : (some false) = some r := by rw [if_pos rfl] at H; exact H
                  clear H
                  have H := H1
                  clear H1
                  obtain rfl := Option.some.inj H
                  go_wp2
                  go_ret
                  exact ⟨by first | rfl | (simp [errW_none, errW_some] <;> rfl) | (simp [*, errW_none, errW_some] <;> rfl), by repeat (first | (with_reducible first | exact HB.out | apply below_alloc | apply pw_below_drewN | apply below_drew1 | refine below_set ?_ GE244.out | refine below_set ?_ GE257.out | refine below_set ?_ GE263.out | refine below_set ?_ GE270.out) | exact HB.out)⟩
                · replace c91 := Bool.eq_false_iff.mpr c91
                  subst c91
                  have H1 : ((laws_markPuzzle.f kj61 t264 t267 t268 1).bind fun bt281 => ((laws_heldPuzzle.f kj61 bt281.2 t267 t268 1).bind fun t283 => (if t283 < 0 then (some false) else (if t283 = bt281.1 then ((laws_toPuzzle.f kj61 l0_0 a0_1 a0_2).bind fun bt284 => ((impl_FillGap.f kj61 bt284.1 bt284.2.1 bt284.2.2 a1 a2).bind fun bt289 => ((laws_eqPuzzle.f kj61 bt289.1 bt289.2.1 bt289.2.2.1 t251 t254 t255).bind fun t296 => (if t296 = true then (laws_FnExactFillGap.j2 kj61 bt281.1 (bt289.2.2.2 != t256) bt281.2 t267 t268) else (laws_FnExactFillGap.j2 kj61 bt281.1 true bt281.2 t267 t268))))) else (some false))))) = some r := by rw [if_neg (show ¬ (false = true) by decide)] at H; exact H
                  clear H
                  have H := H1
                  clear H1
                  replace H := Option.bind_eq_some_iff.mp H
                  obtain ⟨⟨t281, t282⟩, A920, H⟩ := H
                  replace H : ((laws_heldPuzzle.f kj61 t282 t267 t268 1).bind fun t283 => (if t283 < 0 then (some false) else (if t283 = t281 then ((laws_toPuzzle.f kj61 l0_0 a0_1 a0_2).bind fun bt284 => ((impl_FillGap.f kj61 bt284.1 bt284.2.1 bt284.2.2 a1 a2).bind fun bt289 => ((laws_eqPuzzle.f kj61 bt289.1 bt289.2.1 bt289.2.2.1 t251 t254 t255).bind fun t296 => (if t296 = true then (laws_FnExactFillGap.j2 kj61 t281 (bt289.2.2.2 != t256) t282 t267 t268) else (laws_FnExactFillGap.j2 kj61 t281 true t282 t267 t268))))) else (some false)))) = some r := H
                  have A92 := Aside0.mk A920
                  clear A920
                  replace H := Option.bind_eq_some_iff.mp H
                  obtain ⟨t283, A930, H⟩ := H
                  replace H : (if t283 < 0 then (some false) else (if t283 = t281 then ((laws_toPuzzle.f kj61 l0_0 a0_1 a0_2).bind fun bt284 => ((impl_FillGap.f kj61 bt284.1 bt284.2.1 bt284.2.2 a1 a2).bind fun bt289 => ((laws_eqPuzzle.f kj61 bt289.1 bt289.2.1 bt289.2.2.1 t251 t254 t255).bind fun t296 => (if t296 = true then (laws_FnExactFillGap.j2 kj61 t281 (bt289.2.2.2 != t256) t282 t267 t268) else (laws_FnExactFillGap.j2 kj61 t281 true t282 t267 t268))))) else (some false))) = some r := H
                  have A93 := Aside0.mk A930
                  clear A930
                  by_cases c94 : t283 < 0
                  · rw [if_pos c94] at H
                    have c94b0 : decide (t283 < 0) = true := decide_eq_true c94
                    clear c94
                    obtain rfl := Option.some.inj H
                    have hnb95 := NB270_244.out
                    have hnc95 := NB244_270.out
                    have hnb96 := NB270_257.out
                    have hnc96 := NB257_270.out
                    have hnb97 := NB270_263.out
                    have hnc97 := NB263_270.out
                    have hcz98_0 : wc.cell? ⟨gb270, 0, none⟩ = some (.slice Ao34 t264.length co34) := (blk_cell BK270.out 0).trans rfl
                    have hcz98_1 : wc.cell? ⟨gb270, 1, none⟩ = some (.int .i64 t267) := (blk_cell BK270.out 1).trans rfl
                    have hcz98_2 : wc.cell? ⟨gb270, 2, none⟩ = some (.int .i64 t268) := (blk_cell BK270.out 2).trans rfl
                    have hfz98_0 := blk_frozen BK270.out 0
                    have hfz98_1 := blk_frozen BK270.out 1
                    have hfz98_2 := blk_frozen BK270.out 2
                    go_wp2_with (first | ((with_reducible refine gate_callee (f := 24) rfl ?_); refine goesL_ (some 72) rfl rfl Try.func24 (by kernel_rfl) rfl #[.agg #[.slice Ao34 t264.length co34, .int .i64 t267, .int .i64 t268], .int .i64 1] rfl (by (try simp only [List.map_toArray, List.map_cons, List.map_nil]); first | done | rfl | (simp only [List.length_drop, List.length_take]; rfl)) ?_; (with_reducible refine (laws_markPuzzle.calls kj61 (fun k_ => some k_ = (.slice Ao34 t264.length co34 : Value).ownBlock) (.slice Ao34 t264.length co34) t264 t267 t268 1 t281 t282 w _ ?side1 ?side2 A92.out).mono ?_); (case side1 => repeat (first | (with_reducible first | exact HB.out | apply below_alloc | apply pw_below_drewN | apply below_drew1 | refine below_set ?_ GE244.out | refine below_set ?_ GE257.out | refine below_set ?_ GE263.out | refine below_set ?_ GE270.out) | exact HB.out)); (case side2 => exact Kd.R_tight rfl HO_271000.out); rintro e w99 ⟨rfl, hy0, hb, hkp⟩; refine ⟨_, rfl, ?_⟩; have n0_ := Aside0.mk (Kd.R_mono (ok' := fun k_ => some k_ ≠ (.slice Ao28 t279.length co28 : Value).ownBlock ∧ some k_ ≠ (.slice Ao34 t264.length co34 : Value).ownBlock) (Kd.R_keptB (HO_258000.out) hkp (fun k_ hk_ hs_ => (hk_.2) hs_)) (fun k_ hk_ => ⟨hk_.1.1, hk_.1.2⟩)); have n1_ := Aside0.mk (Kd.R_mono (ok' := fun k_ => some k_ ≠ (.slice Ao22 t251.length co22 : Value).ownBlock ∧ some k_ ≠ (.slice Ao34 t264.length co34 : Value).ownBlock) (Kd.R_keptB (HO_264000.out) hkp (fun k_ hk_ hs_ => (hk_.2) hs_)) (fun k_ hk_ => ⟨hk_.1.1, hk_.1.2⟩)); have n2_ := Aside0.mk (Kd.R_reok rfl hy0 (fun k_ e_ => HO_271000.out.1 k_ e_)); have n3_ := Aside0.mk (blk_kept (by (with_reducible repeat (first | refine blk_drewN ?_ _ | refine blk_drew ?_ | refine blk_alloc ?_ _)); exact BK244.out) hkp (fun hs_ => (fun e_ => (Kd.R_ne HO_271000.out BK244.out (by decide)) e_) hs_)); have n4_ := Aside0.mk (blk_kept (by (with_reducible repeat (first | refine blk_drewN ?_ _ | refine blk_drew ?_ | refine blk_alloc ?_ _)); exact BK257.out) hkp (fun hs_ => (fun e_ => (Kd.R_ne HO_271000.out BK257.out (by decide)) e_) hs_)); have n5_ := Aside0.mk (blk_kept (by (with_reducible repeat (first | refine blk_drewN ?_ _ | refine blk_drew ?_ | refine blk_alloc ?_ _)); exact BK263.out) hkp (fun hs_ => (fun e_ => (Kd.R_ne HO_271000.out BK263.out (by decide)) e_) hs_)); have n6_ := Aside0.mk (blk_kept (by (with_reducible repeat (first | refine blk_drewN ?_ _ | refine blk_drew ?_ | refine blk_alloc ?_ _)); exact BK270.out) hkp (fun hs_ => (fun e_ => (Kd.R_ne HO_271000.out BK270.out (by decide)) e_) hs_)); have n7_ := Aside0.mk (hb); clear HO_258000; clear HO_264000; clear HO_271000; clear BK244; clear BK257; clear BK263; clear BK270; clear HB; have HO_258000 := n0_; have HO_264000 := n1_; have HO_271000 := n2_; have BK244 := n3_; have BK257 := n4_; have BK263 := n5_; have BK270 := n6_; have HB := n7_; clear n0_ n1_ n2_ n3_ n4_ n5_ n6_ n7_; (try clear hb); (try clear hkp); (try clear hy0); have hcz100_0 : w99.cell? ⟨gb270, 0, none⟩ = some (.slice Ao34 t264.length co34) := (blk_cell BK270.out 0).trans rfl; have hcz100_1 : w99.cell? ⟨gb270, 1, none⟩ = some (.int .i64 t267) := (blk_cell BK270.out 1).trans rfl; have hcz100_2 : w99.cell? ⟨gb270, 2, none⟩ = some (.int .i64 t268) := (blk_cell BK270.out 2).trans rfl; have hfz100_0 := blk_frozen BK270.out 0; have hfz100_1 := blk_frozen BK270.out 1; have hfz100_2 := blk_frozen BK270.out 2) | ((with_reducible refine gate_callee (f := 25) rfl ?_); refine goesL_ (some 75) rfl rfl Try.func25 (by kernel_rfl) rfl #[.agg #[.slice Ao34 t282.length co34, .int .i64 t267, .int .i64 t268], .int .i64 1] rfl (by (try simp only [List.map_toArray, List.map_cons, List.map_nil]); first | done | (rw [show t282.length = t264.length from (Kd.R_reads' HO_271000.out).1.symm] <;> rfl) | rfl | (simp only [List.length_drop, List.length_take]; rfl)) ?_; (with_reducible refine (laws_heldPuzzle.calls kj61 _ _ t282 t267 t268 1 t283 _ ?side1 ?side2 A93.out).mono ?_); (case side1 => repeat (first | exact (Kd.R_reads' HO_271000.out).2.2 | (with_reducible refine Kd.C_alloc ?_ _) | (with_reducible refine Kd.C_drewN ?_ _) | (with_reducible refine Kd.C_drew ?_))); (case side2 => rw [show t282.length = t264.length from (Kd.R_reads' HO_271000.out).1.symm]; exact (Kd.R_reads' HO_271000.out).2.1); rintro e w101 ⟨rfl, hb⟩; refine ⟨_, rfl, ?_⟩; have n0_ := Aside0.mk (Kd.R_below (by (with_reducible repeat (first | apply Kd.R_alloc | apply Kd.R_drewN | apply Kd.R_drew)); exact HO_258000.out) hb); have n1_ := Aside0.mk (Kd.R_below (by (with_reducible repeat (first | apply Kd.R_alloc | apply Kd.R_drewN | apply Kd.R_drew)); exact HO_264000.out) hb); have n2_ := Aside0.mk (Kd.R_below (by (with_reducible repeat (first | apply Kd.R_alloc | apply Kd.R_drewN | apply Kd.R_drew)); exact HO_271000.out) hb); have n3_ := Aside0.mk (blk_below (g := gb244) (o := .cells #[.slice A0_0 l0_0.length c0_0, .int .i64 a0_1, .int .i64 a0_2] 24 (0, 0)) (by (with_reducible repeat (first | refine blk_drewN ?_ _ | refine blk_drew ?_ | refine blk_alloc ?_ _)); exact BK244.out) hb); have n4_ := Aside0.mk (blk_below (g := gb257) (o := .cells #[.slice Ao22 t251.length co22, .int .i64 t254, .int .i64 t255] 27 (0, 0)) (by (with_reducible repeat (first | refine blk_drewN ?_ _ | refine blk_drew ?_ | refine blk_alloc ?_ _)); exact BK257.out) hb); have n5_ := Aside0.mk (blk_below (g := gb263) (o := .cells #[.slice Ao28 t279.length co28, .int .i64 t261, .int .i64 t262] 27 (0, 0)) (by (with_reducible repeat (first | refine blk_drewN ?_ _ | refine blk_drew ?_ | refine blk_alloc ?_ _)); exact BK263.out) hb); have n6_ := Aside0.mk (blk_below (g := gb270) (o := .cells #[.slice Ao34 t264.length co34, .int .i64 t267, .int .i64 t268] 27 (0, 0)) (by (with_reducible repeat (first | refine blk_drewN ?_ _ | refine blk_drew ?_ | refine blk_alloc ?_ _)); exact BK270.out) hb); have n7_ := Aside0.mk (below_step (by repeat (first | (with_reducible first | exact HB.out | apply below_alloc | apply pw_below_drewN | apply below_drew1 | refine below_set ?_ GE244.out | refine below_set ?_ GE257.out | refine below_set ?_ GE263.out | refine below_set ?_ GE270.out) | exact HB.out)) hb); clear HO_258000; clear HO_264000; clear HO_271000; clear BK244; clear BK257; clear BK263; clear BK270; clear HB; have HO_258000 := n0_; have HO_264000 := n1_; have HO_271000 := n2_; have BK244 := n3_; have BK257 := n4_; have BK263 := n5_; have BK270 := n6_; have HB := n7_; clear n0_ n1_ n2_ n3_ n4_ n5_ n6_ n7_; (try clear hb); (try clear hb2); (try clear hk); (try clear hi)))
                    go_ret
                    exact ⟨by first | rfl | (simp [errW_none, errW_some] <;> rfl) | (simp [*, errW_none, errW_some] <;> rfl), by repeat (first | (with_reducible first | exact HB.out | apply below_alloc | apply pw_below_drewN | apply below_drew1 | refine below_set ?_ GE244.out | refine below_set ?_ GE257.out | refine below_set ?_ GE263.out | refine below_set ?_ GE270.out) | exact HB.out)⟩
                  · rw [if_neg c94] at H
                    have c94b0 : decide (t283 < 0) = false := decide_eq_false c94
                    clear c94
                    by_cases c102 : t283 = t281
                    · rw [if_pos c102] at H
                      have c102b0 : (t283 == t281) = true := beq_iff_eq.mpr c102
                      have c102b1 : (t283 != t281) = false := bne_eq_false_iff_eq.mpr c102
                      clear c102
                      replace H := Option.bind_eq_some_iff.mp H
                      obtain ⟨⟨t284, t287, t288⟩, A1030, H⟩ := H
                      replace H : ((impl_FillGap.f kj61 t284 t287 t288 a1 a2).bind fun bt289 => ((laws_eqPuzzle.f kj61 bt289.1 bt289.2.1 bt289.2.2.1 t251 t254 t255).bind fun t296 => (if t296 = true then (laws_FnExactFillGap.j2 kj61 t281 (bt289.2.2.2 != t256) t282 t267 t268) else (laws_FnExactFillGap.j2 kj61 t281 true t282 t267 t268)))) = some r := H
                      have A103 := Aside0.mk A1030
                      clear A1030
                      replace H := Option.bind_eq_some_iff.mp H
                      obtain ⟨⟨t289, t292, t293, t294⟩, A1040, H⟩ := H
                      replace H : ((laws_eqPuzzle.f kj61 t289 t292 t293 t251 t254 t255).bind fun t296 => (if t296 = true then (laws_FnExactFillGap.j2 kj61 t281 (t294 != t256) t282 t267 t268) else (laws_FnExactFillGap.j2 kj61 t281 true t282 t267 t268))) = some r := H
                      have A104 := Aside0.mk A1040
                      clear A1040
                      have HC105 := Aside0.mk H
                      clear H
                      have hnb106 := NB270_244.out
                      have hnc106 := NB244_270.out
                      have hnb107 := NB270_257.out
                      have hnc107 := NB257_270.out
                      have hnb108 := NB270_263.out
                      have hnc108 := NB263_270.out
                      have hcz109_0 : wc.cell? ⟨gb270, 0, none⟩ = some (.slice Ao34 t264.length co34) := (blk_cell BK270.out 0).trans rfl
                      have hcz109_1 : wc.cell? ⟨gb270, 1, none⟩ = some (.int .i64 t267) := (blk_cell BK270.out 1).trans rfl
                      have hcz109_2 : wc.cell? ⟨gb270, 2, none⟩ = some (.int .i64 t268) := (blk_cell BK270.out 2).trans rfl
                      have hfz109_0 := blk_frozen BK270.out 0
                      have hfz109_1 := blk_frozen BK270.out 1
                      have hfz109_2 := blk_frozen BK270.out 2
                      go_upto_region 25 with (first | ((with_reducible refine gate_callee (f := 24) rfl ?_); refine goesL_ (some 72) rfl rfl Try.func24 (by kernel_rfl) rfl #[.agg #[.slice Ao34 t264.length co34, .int .i64 t267, .int .i64 t268], .int .i64 1] rfl (by (try simp only [List.map_toArray, List.map_cons, List.map_nil]); first | done | rfl | (simp only [List.length_drop, List.length_take]; rfl)) ?_; (with_reducible refine (laws_markPuzzle.calls kj61 (fun k_ => some k_ = (.slice Ao34 t264.length co34 : Value).ownBlock) (.slice Ao34 t264.length co34) t264 t267 t268 1 t281 t282 w _ ?side1 ?side2 A92.out).mono ?_); (case side1 => repeat (first | (with_reducible first | exact HB.out | apply below_alloc | apply pw_below_drewN | apply below_drew1 | refine below_set ?_ GE244.out | refine below_set ?_ GE257.out | refine below_set ?_ GE263.out | refine below_set ?_ GE270.out) | exact HB.out)); (case side2 => exact Kd.R_tight rfl HO_271000.out); rintro e w110 ⟨rfl, hy0, hb, hkp⟩; refine ⟨_, rfl, ?_⟩; have n0_ := Aside0.mk (Kd.R_mono (ok' := fun k_ => some k_ ≠ (.slice Ao28 t279.length co28 : Value).ownBlock ∧ some k_ ≠ (.slice Ao34 t264.length co34 : Value).ownBlock) (Kd.R_keptB (HO_258000.out) hkp (fun k_ hk_ hs_ => (hk_.2) hs_)) (fun k_ hk_ => ⟨hk_.1.1, hk_.1.2⟩)); have n1_ := Aside0.mk (Kd.R_mono (ok' := fun k_ => some k_ ≠ (.slice Ao22 t251.length co22 : Value).ownBlock ∧ some k_ ≠ (.slice Ao34 t264.length co34 : Value).ownBlock) (Kd.R_keptB (HO_264000.out) hkp (fun k_ hk_ hs_ => (hk_.2) hs_)) (fun k_ hk_ => ⟨hk_.1.1, hk_.1.2⟩)); have n2_ := Aside0.mk (Kd.R_reok rfl hy0 (fun k_ e_ => HO_271000.out.1 k_ e_)); have n3_ := Aside0.mk (blk_kept (by (with_reducible repeat (first | refine blk_drewN ?_ _ | refine blk_drew ?_ | refine blk_alloc ?_ _)); exact BK244.out) hkp (fun hs_ => (fun e_ => (Kd.R_ne HO_271000.out BK244.out (by decide)) e_) hs_)); have n4_ := Aside0.mk (blk_kept (by (with_reducible repeat (first | refine blk_drewN ?_ _ | refine blk_drew ?_ | refine blk_alloc ?_ _)); exact BK257.out) hkp (fun hs_ => (fun e_ => (Kd.R_ne HO_271000.out BK257.out (by decide)) e_) hs_)); have n5_ := Aside0.mk (blk_kept (by (with_reducible repeat (first | refine blk_drewN ?_ _ | refine blk_drew ?_ | refine blk_alloc ?_ _)); exact BK263.out) hkp (fun hs_ => (fun e_ => (Kd.R_ne HO_271000.out BK263.out (by decide)) e_) hs_)); have n6_ := Aside0.mk (blk_kept (by (with_reducible repeat (first | refine blk_drewN ?_ _ | refine blk_drew ?_ | refine blk_alloc ?_ _)); exact BK270.out) hkp (fun hs_ => (fun e_ => (Kd.R_ne HO_271000.out BK270.out (by decide)) e_) hs_)); have n7_ := Aside0.mk (hb); clear HO_258000; clear HO_264000; clear HO_271000; clear BK244; clear BK257; clear BK263; clear BK270; clear HB; have HO_258000 := n0_; have HO_264000 := n1_; have HO_271000 := n2_; have BK244 := n3_; have BK257 := n4_; have BK263 := n5_; have BK270 := n6_; have HB := n7_; clear n0_ n1_ n2_ n3_ n4_ n5_ n6_ n7_; (try clear hb); (try clear hkp); (try clear hy0); have hcz111_0 : w110.cell? ⟨gb270, 0, none⟩ = some (.slice Ao34 t264.length co34) := (blk_cell BK270.out 0).trans rfl; have hcz111_1 : w110.cell? ⟨gb270, 1, none⟩ = some (.int .i64 t267) := (blk_cell BK270.out 1).trans rfl; have hcz111_2 : w110.cell? ⟨gb270, 2, none⟩ = some (.int .i64 t268) := (blk_cell BK270.out 2).trans rfl; have hfz111_0 := blk_frozen BK270.out 0; have hfz111_1 := blk_frozen BK270.out 1; have hfz111_2 := blk_frozen BK270.out 2) | ((with_reducible refine gate_callee (f := 25) rfl ?_); refine goesL_ (some 75) rfl rfl Try.func25 (by kernel_rfl) rfl #[.agg #[.slice Ao34 t282.length co34, .int .i64 t267, .int .i64 t268], .int .i64 1] rfl (by (try simp only [List.map_toArray, List.map_cons, List.map_nil]); first | done | (rw [show t282.length = t264.length from (Kd.R_reads' HO_271000.out).1.symm] <;> rfl) | rfl | (simp only [List.length_drop, List.length_take]; rfl)) ?_; (with_reducible refine (laws_heldPuzzle.calls kj61 _ _ t282 t267 t268 1 t283 _ ?side1 ?side2 A93.out).mono ?_); (case side1 => repeat (first | exact (Kd.R_reads' HO_271000.out).2.2 | (with_reducible refine Kd.C_alloc ?_ _) | (with_reducible refine Kd.C_drewN ?_ _) | (with_reducible refine Kd.C_drew ?_))); (case side2 => rw [show t282.length = t264.length from (Kd.R_reads' HO_271000.out).1.symm]; exact (Kd.R_reads' HO_271000.out).2.1); rintro e w112 ⟨rfl, hb⟩; refine ⟨_, rfl, ?_⟩; have n0_ := Aside0.mk (Kd.R_below (by (with_reducible repeat (first | apply Kd.R_alloc | apply Kd.R_drewN | apply Kd.R_drew)); exact HO_258000.out) hb); have n1_ := Aside0.mk (Kd.R_below (by (with_reducible repeat (first | apply Kd.R_alloc | apply Kd.R_drewN | apply Kd.R_drew)); exact HO_264000.out) hb); have n2_ := Aside0.mk (Kd.R_below (by (with_reducible repeat (first | apply Kd.R_alloc | apply Kd.R_drewN | apply Kd.R_drew)); exact HO_271000.out) hb); have n3_ := Aside0.mk (blk_below (g := gb244) (o := .cells #[.slice A0_0 l0_0.length c0_0, .int .i64 a0_1, .int .i64 a0_2] 24 (0, 0)) (by (with_reducible repeat (first | refine blk_drewN ?_ _ | refine blk_drew ?_ | refine blk_alloc ?_ _)); exact BK244.out) hb); have n4_ := Aside0.mk (blk_below (g := gb257) (o := .cells #[.slice Ao22 t251.length co22, .int .i64 t254, .int .i64 t255] 27 (0, 0)) (by (with_reducible repeat (first | refine blk_drewN ?_ _ | refine blk_drew ?_ | refine blk_alloc ?_ _)); exact BK257.out) hb); have n5_ := Aside0.mk (blk_below (g := gb263) (o := .cells #[.slice Ao28 t279.length co28, .int .i64 t261, .int .i64 t262] 27 (0, 0)) (by (with_reducible repeat (first | refine blk_drewN ?_ _ | refine blk_drew ?_ | refine blk_alloc ?_ _)); exact BK263.out) hb); have n6_ := Aside0.mk (blk_below (g := gb270) (o := .cells #[.slice Ao34 t264.length co34, .int .i64 t267, .int .i64 t268] 27 (0, 0)) (by (with_reducible repeat (first | refine blk_drewN ?_ _ | refine blk_drew ?_ | refine blk_alloc ?_ _)); exact BK270.out) hb); have n7_ := Aside0.mk (below_step (by repeat (first | (with_reducible first | exact HB.out | apply below_alloc | apply pw_below_drewN | apply below_drew1 | refine below_set ?_ GE244.out | refine below_set ?_ GE257.out | refine below_set ?_ GE263.out | refine below_set ?_ GE270.out) | exact HB.out)) hb); clear HO_258000; clear HO_264000; clear HO_271000; clear BK244; clear BK257; clear BK263; clear BK270; clear HB; have HO_258000 := n0_; have HO_264000 := n1_; have HO_271000 := n2_; have BK244 := n3_; have BK257 := n4_; have BK263 := n5_; have BK270 := n6_; have HB := n7_; clear n0_ n1_ n2_ n3_ n4_ n5_ n6_ n7_; (try clear hb); (try clear hb2); (try clear hk); (try clear hi); have hnb113 := NB244_257.out; have hnc113 := NB257_244.out; have hnb114 := NB244_263.out; have hnc114 := NB263_244.out; have hcz115_0 : w112.cell? ⟨gb244, 0, none⟩ = some (.slice A0_0 l0_0.length c0_0) := (blk_cell BK244.out 0).trans rfl; have hcz115_1 : w112.cell? ⟨gb244, 1, none⟩ = some (.int .i64 a0_1) := (blk_cell BK244.out 1).trans rfl; have hcz115_2 : w112.cell? ⟨gb244, 2, none⟩ = some (.int .i64 a0_2) := (blk_cell BK244.out 2).trans rfl; have hfz115_0 := blk_frozen BK244.out 0; have hfz115_1 := blk_frozen BK244.out 1; have hfz115_2 := blk_frozen BK244.out 2) | ((with_reducible refine gate_callee (f := 17) rfl ?_); refine goesL_ (some 83) rfl rfl Try.func17 (by kernel_rfl) rfl #[.agg #[.slice A0_0 l0_0.length c0_0, .int .i64 a0_1, .int .i64 a0_2]] rfl (by (try simp only [List.map_toArray, List.map_cons, List.map_nil]); first | done | rfl | (simp only [List.length_drop, List.length_take]; rfl)) ?_; (with_reducible refine (laws_toPuzzle.calls kj61 _ _ l0_0 a0_1 a0_2 t284 t287 t288 _ ?side1 ?side2 A103.out).mono ?_); (case side1 => repeat (first | exact (Kd.C_below HR0_0.out HB.out) | (with_reducible refine Kd.C_alloc ?_ _) | (with_reducible refine Kd.C_drewN ?_ _) | (with_reducible refine Kd.C_drew ?_))); (case side2 => exact HC0_0.out); rintro e w116 ⟨v285, rfl, ho0, hb⟩; refine ⟨_, rfl, ?_⟩; have n0_ := Aside0.mk (Kd.R_elder' (by (with_reducible repeat (first | apply Kd.R_alloc | apply Kd.R_drewN | apply Kd.R_drew)); exact HO_258000.out) (Kd.R_base ho0) hb); have n1_ := Aside0.mk (Kd.R_elder' (by (with_reducible repeat (first | apply Kd.R_alloc | apply Kd.R_drewN | apply Kd.R_drew)); exact HO_264000.out) (Kd.R_base ho0) hb); have n2_ := Aside0.mk (Kd.R_elder' (by (with_reducible repeat (first | apply Kd.R_alloc | apply Kd.R_drewN | apply Kd.R_drew)); exact HO_271000.out) (Kd.R_base ho0) hb); have n3_ := Aside0.mk (Kd.R_lower (Kd.R_new' (Kd.R_new' (Kd.R_new' ho0 (Kd.R_lt (by (with_reducible repeat (first | apply Kd.R_alloc | apply Kd.R_drewN | apply Kd.R_drew)); exact HO_258000.out))) (Kd.R_lt (by (with_reducible repeat (first | apply Kd.R_alloc | apply Kd.R_drewN | apply Kd.R_drew)); exact HO_264000.out))) (Kd.R_lt (by (with_reducible repeat (first | apply Kd.R_alloc | apply Kd.R_drewN | apply Kd.R_drew)); exact HO_271000.out))) (below_size (by repeat (first | (with_reducible first | exact HB.out | apply below_alloc | apply pw_below_drewN | apply below_drew1 | refine below_set ?_ GE244.out | refine below_set ?_ GE257.out | refine below_set ?_ GE263.out | refine below_set ?_ GE270.out) | exact HB.out)))); have n4_ := Aside0.mk (blk_below (g := gb244) (o := .cells #[.slice A0_0 l0_0.length c0_0, .int .i64 a0_1, .int .i64 a0_2] 24 (0, 0)) (by (with_reducible repeat (first | refine blk_drewN ?_ _ | refine blk_drew ?_ | refine blk_alloc ?_ _)); exact BK244.out) hb); have n5_ := Aside0.mk (blk_below (g := gb257) (o := .cells #[.slice Ao22 t251.length co22, .int .i64 t254, .int .i64 t255] 27 (0, 0)) (by (with_reducible repeat (first | refine blk_drewN ?_ _ | refine blk_drew ?_ | refine blk_alloc ?_ _)); exact BK257.out) hb); have n6_ := Aside0.mk (blk_below (g := gb263) (o := .cells #[.slice Ao28 t279.length co28, .int .i64 t261, .int .i64 t262] 27 (0, 0)) (by (with_reducible repeat (first | refine blk_drewN ?_ _ | refine blk_drew ?_ | refine blk_alloc ?_ _)); exact BK263.out) hb); have n7_ := Aside0.mk (blk_below (g := gb270) (o := .cells #[.slice Ao34 t264.length co34, .int .i64 t267, .int .i64 t268] 27 (0, 0)) (by (with_reducible repeat (first | refine blk_drewN ?_ _ | refine blk_drew ?_ | refine blk_alloc ?_ _)); exact BK270.out) hb); have n8_ := Aside0.mk (below_step (by repeat (first | (with_reducible first | exact HB.out | apply below_alloc | apply pw_below_drewN | apply below_drew1 | refine below_set ?_ GE244.out | refine below_set ?_ GE257.out | refine below_set ?_ GE263.out | refine below_set ?_ GE270.out) | exact HB.out)) hb); clear HO_258000; clear HO_264000; clear HO_271000; clear BK244; clear BK257; clear BK263; clear BK270; clear HB; have HO_258000 := n0_; have HO_264000 := n1_; have HO_271000 := n2_; have HO286 := n3_; have BK244 := n4_; have BK257 := n5_; have BK263 := n6_; have BK270 := n7_; have HB := n8_; clear n0_ n1_ n2_ n3_ n4_ n5_ n6_ n7_ n8_; (try clear hb); (try clear hb2); (try clear hk); (try clear hi); (try clear ho0); obtain ⟨Ao117, co117, eo117⟩ := Kd.R_slice HO286.out; subst eo117) | ((with_reducible refine gate_callee (f := 23) rfl ?_); refine goesL_ (some 86) rfl rfl Try.func23 (by kernel_rfl) rfl #[.agg #[.slice Ao117 t284.length co117, .int .i64 t287, .int .i64 t288], .int .i64 a1, .int .i64 a2] rfl (by (try simp only [List.map_toArray, List.map_cons, List.map_nil]); first | done | rfl | (simp only [List.length_drop, List.length_take]; rfl)) ?_; (with_reducible refine (impl_FillGap.calls kj61 _ _ t284 t287 t288 a1 a2 t289 t292 t293 t294 _ ?side1 ?side2 A104.out).mono ?_); (case side1 => repeat (first | exact (Kd.R_reads' HO286.out).2.2 | (with_reducible refine Kd.C_alloc ?_ _) | (with_reducible refine Kd.C_drewN ?_ _) | (with_reducible refine Kd.C_drew ?_))); (case side2 => exact (Kd.R_reads' HO286.out).2.1); rintro e w118 ⟨v290, rfl, ho0, hb⟩; refine ⟨_, rfl, ?_⟩; have n0_ := Aside0.mk (Kd.R_elder' (by (with_reducible repeat (first | apply Kd.R_alloc | apply Kd.R_drewN | apply Kd.R_drew)); exact HO_258000.out) (Kd.R_base ho0) hb); have n1_ := Aside0.mk (Kd.R_elder' (by (with_reducible repeat (first | apply Kd.R_alloc | apply Kd.R_drewN | apply Kd.R_drew)); exact HO_264000.out) (Kd.R_base ho0) hb); have n2_ := Aside0.mk (Kd.R_elder' (by (with_reducible repeat (first | apply Kd.R_alloc | apply Kd.R_drewN | apply Kd.R_drew)); exact HO_271000.out) (Kd.R_base ho0) hb); have n3_ := Aside0.mk (Kd.R_elder' (by (with_reducible repeat (first | apply Kd.R_alloc | apply Kd.R_drewN | apply Kd.R_drew)); exact HO286.out) (Kd.R_base ho0) hb); have n4_ := Aside0.mk (Kd.R_lower (Kd.R_new' (Kd.R_new' (Kd.R_new' (Kd.R_new' ho0 (Kd.R_lt (by (with_reducible repeat (first | apply Kd.R_alloc | apply Kd.R_drewN | apply Kd.R_drew)); exact HO_258000.out))) (Kd.R_lt (by (with_reducible repeat (first | apply Kd.R_alloc | apply Kd.R_drewN | apply Kd.R_drew)); exact HO_264000.out))) (Kd.R_lt (by (with_reducible repeat (first | apply Kd.R_alloc | apply Kd.R_drewN | apply Kd.R_drew)); exact HO_271000.out))) (Kd.R_lt (by (with_reducible repeat (first | apply Kd.R_alloc | apply Kd.R_drewN | apply Kd.R_drew)); exact HO286.out))) (below_size (by repeat (first | (with_reducible first | exact HB.out | apply below_alloc | apply pw_below_drewN | apply below_drew1 | refine below_set ?_ GE244.out | refine below_set ?_ GE257.out | refine below_set ?_ GE263.out | refine below_set ?_ GE270.out) | exact HB.out)))); have n5_ := Aside0.mk (blk_below (g := gb244) (o := .cells #[.slice A0_0 l0_0.length c0_0, .int .i64 a0_1, .int .i64 a0_2] 24 (0, 0)) (by (with_reducible repeat (first | refine blk_drewN ?_ _ | refine blk_drew ?_ | refine blk_alloc ?_ _)); exact BK244.out) hb); have n6_ := Aside0.mk (blk_below (g := gb257) (o := .cells #[.slice Ao22 t251.length co22, .int .i64 t254, .int .i64 t255] 27 (0, 0)) (by (with_reducible repeat (first | refine blk_drewN ?_ _ | refine blk_drew ?_ | refine blk_alloc ?_ _)); exact BK257.out) hb); have n7_ := Aside0.mk (blk_below (g := gb263) (o := .cells #[.slice Ao28 t279.length co28, .int .i64 t261, .int .i64 t262] 27 (0, 0)) (by (with_reducible repeat (first | refine blk_drewN ?_ _ | refine blk_drew ?_ | refine blk_alloc ?_ _)); exact BK263.out) hb); have n8_ := Aside0.mk (blk_below (g := gb270) (o := .cells #[.slice Ao34 t264.length co34, .int .i64 t267, .int .i64 t268] 27 (0, 0)) (by (with_reducible repeat (first | refine blk_drewN ?_ _ | refine blk_drew ?_ | refine blk_alloc ?_ _)); exact BK270.out) hb); have n9_ := Aside0.mk (below_step (by repeat (first | (with_reducible first | exact HB.out | apply below_alloc | apply pw_below_drewN | apply below_drew1 | refine below_set ?_ GE244.out | refine below_set ?_ GE257.out | refine below_set ?_ GE263.out | refine below_set ?_ GE270.out) | exact HB.out)) hb); clear HO_258000; clear HO_264000; clear HO_271000; clear HO286; clear BK244; clear BK257; clear BK263; clear BK270; clear HB; have HO_258000 := n0_; have HO_264000 := n1_; have HO_271000 := n2_; have HO286 := n3_; have HO291 := n4_; have BK244 := n5_; have BK257 := n6_; have BK263 := n7_; have BK270 := n8_; have HB := n9_; clear n0_ n1_ n2_ n3_ n4_ n5_ n6_ n7_ n8_ n9_; (try clear hb); (try clear hb2); (try clear hk); (try clear hi); (try clear ho0)) | ((with_reducible refine gate_dst (N := 16) rfl ?_); refine box_event ?hg (N := 16) ?hd (cs := #[.slice none 0 0, .int .i64 0, .int .i64 0]) (t := 27) ?hr ?_; (case hd => rfl); (case hg => rfl); (case hr => first | (go_simp; done) | (go_simp; rfl)); intro gb295 hg w119 hbox hb; have n0_ := Aside0.mk (Kd.R_below (by (with_reducible repeat (first | apply Kd.R_alloc | apply Kd.R_drewN | apply Kd.R_drew)); exact HO_258000.out) hb); have n1_ := Aside0.mk (Kd.R_below (by (with_reducible repeat (first | apply Kd.R_alloc | apply Kd.R_drewN | apply Kd.R_drew)); exact HO_264000.out) hb); have n2_ := Aside0.mk (Kd.R_below (by (with_reducible repeat (first | apply Kd.R_alloc | apply Kd.R_drewN | apply Kd.R_drew)); exact HO_271000.out) hb); have n3_ := Aside0.mk (Kd.R_below (by (with_reducible repeat (first | apply Kd.R_alloc | apply Kd.R_drewN | apply Kd.R_drew)); exact HO286.out) hb); have n4_ := Aside0.mk (Kd.R_below (by (with_reducible repeat (first | apply Kd.R_alloc | apply Kd.R_drewN | apply Kd.R_drew)); exact HO291.out) hb); have n5_ := Aside0.mk (blk_below (g := gb244) (o := .cells #[.slice A0_0 l0_0.length c0_0, .int .i64 a0_1, .int .i64 a0_2] 24 (0, 0)) (by (with_reducible repeat (first | refine blk_drewN ?_ _ | refine blk_drew ?_ | refine blk_alloc ?_ _)); exact BK244.out) hb); have n6_ := Aside0.mk (blk_below (g := gb257) (o := .cells #[.slice Ao22 t251.length co22, .int .i64 t254, .int .i64 t255] 27 (0, 0)) (by (with_reducible repeat (first | refine blk_drewN ?_ _ | refine blk_drew ?_ | refine blk_alloc ?_ _)); exact BK257.out) hb); have n7_ := Aside0.mk (blk_below (g := gb263) (o := .cells #[.slice Ao28 t279.length co28, .int .i64 t261, .int .i64 t262] 27 (0, 0)) (by (with_reducible repeat (first | refine blk_drewN ?_ _ | refine blk_drew ?_ | refine blk_alloc ?_ _)); exact BK263.out) hb); have n8_ := Aside0.mk (blk_below (g := gb270) (o := .cells #[.slice Ao34 t264.length co34, .int .i64 t267, .int .i64 t268] 27 (0, 0)) (by (with_reducible repeat (first | refine blk_drewN ?_ _ | refine blk_drew ?_ | refine blk_alloc ?_ _)); exact BK270.out) hb); have n9_ := Aside0.mk (below_step (by repeat (first | (with_reducible first | exact HB.out | apply below_alloc | apply pw_below_drewN | apply below_drew1 | refine below_set ?_ GE244.out | refine below_set ?_ GE257.out | refine below_set ?_ GE263.out | refine below_set ?_ GE270.out) | exact HB.out)) hb); have n10_ := Aside0.mk (hbox); have n11_ := Aside0.mk ((by rw [hg]; exact (below_size (by repeat (first | (with_reducible first | exact HB.out | apply below_alloc | apply pw_below_drewN | apply below_drew1 | refine below_set ?_ GE244.out | refine below_set ?_ GE257.out | refine below_set ?_ GE263.out | refine below_set ?_ GE270.out) | exact HB.out))) : w.heap.size ≤ gb295)); have n12_ := Aside0.mk ((by rw [hg]; exact (below_size (by repeat (first | (with_reducible first | exact HB.out | apply below_alloc | apply pw_below_drewN | apply below_drew1 | refine below_set ?_ GE244.out | refine below_set ?_ GE257.out | refine below_set ?_ GE263.out | refine below_set ?_ GE270.out) | exact HB.out))) : w.heap.size ≤ gb295)); have n13_ := Aside0.mk ((by rw [hg]; exact Nat.ne_of_lt (blk_lt (g := gb244) (o := .cells #[.slice A0_0 l0_0.length c0_0, .int .i64 a0_1, .int .i64 a0_2] 24 (0, 0)) (by (with_reducible repeat (first | refine blk_drewN ?_ _ | refine blk_drew ?_ | refine blk_alloc ?_ _)); exact BK244.out)) : gb244 ≠ gb295)); have n14_ := Aside0.mk ((by rw [hg]; exact Nat.ne_of_gt (blk_lt (g := gb244) (o := .cells #[.slice A0_0 l0_0.length c0_0, .int .i64 a0_1, .int .i64 a0_2] 24 (0, 0)) (by (with_reducible repeat (first | refine blk_drewN ?_ _ | refine blk_drew ?_ | refine blk_alloc ?_ _)); exact BK244.out)) : gb295 ≠ gb244)); have n15_ := Aside0.mk ((by rw [hg]; exact Nat.ne_of_lt (blk_lt (g := gb257) (o := .cells #[.slice Ao22 t251.length co22, .int .i64 t254, .int .i64 t255] 27 (0, 0)) (by (with_reducible repeat (first | refine blk_drewN ?_ _ | refine blk_drew ?_ | refine blk_alloc ?_ _)); exact BK257.out)) : gb257 ≠ gb295)); have n16_ := Aside0.mk ((by rw [hg]; exact Nat.ne_of_gt (blk_lt (g := gb257) (o := .cells #[.slice Ao22 t251.length co22, .int .i64 t254, .int .i64 t255] 27 (0, 0)) (by (with_reducible repeat (first | refine blk_drewN ?_ _ | refine blk_drew ?_ | refine blk_alloc ?_ _)); exact BK257.out)) : gb295 ≠ gb257)); have n17_ := Aside0.mk ((by rw [hg]; exact Nat.ne_of_lt (blk_lt (g := gb263) (o := .cells #[.slice Ao28 t279.length co28, .int .i64 t261, .int .i64 t262] 27 (0, 0)) (by (with_reducible repeat (first | refine blk_drewN ?_ _ | refine blk_drew ?_ | refine blk_alloc ?_ _)); exact BK263.out)) : gb263 ≠ gb295)); have n18_ := Aside0.mk ((by rw [hg]; exact Nat.ne_of_gt (blk_lt (g := gb263) (o := .cells #[.slice Ao28 t279.length co28, .int .i64 t261, .int .i64 t262] 27 (0, 0)) (by (with_reducible repeat (first | refine blk_drewN ?_ _ | refine blk_drew ?_ | refine blk_alloc ?_ _)); exact BK263.out)) : gb295 ≠ gb263)); have n19_ := Aside0.mk ((by rw [hg]; exact Nat.ne_of_lt (blk_lt (g := gb270) (o := .cells #[.slice Ao34 t264.length co34, .int .i64 t267, .int .i64 t268] 27 (0, 0)) (by (with_reducible repeat (first | refine blk_drewN ?_ _ | refine blk_drew ?_ | refine blk_alloc ?_ _)); exact BK270.out)) : gb270 ≠ gb295)); have n20_ := Aside0.mk ((by rw [hg]; exact Nat.ne_of_gt (blk_lt (g := gb270) (o := .cells #[.slice Ao34 t264.length co34, .int .i64 t267, .int .i64 t268] 27 (0, 0)) (by (with_reducible repeat (first | refine blk_drewN ?_ _ | refine blk_drew ?_ | refine blk_alloc ?_ _)); exact BK270.out)) : gb295 ≠ gb270)); clear HO_258000; clear HO_264000; clear HO_271000; clear HO286; clear HO291; clear BK244; clear BK257; clear BK263; clear BK270; clear HB; have HO_258000 := n0_; have HO_264000 := n1_; have HO_271000 := n2_; have HO286 := n3_; have HO291 := n4_; have BK244 := n5_; have BK257 := n6_; have BK263 := n7_; have BK270 := n8_; have HB := n9_; have BK295 := n10_; have GW295 := n11_; have GE295 := n12_; have NB244_295 := n13_; have NB295_244 := n14_; have NB257_295 := n15_; have NB295_257 := n16_; have NB263_295 := n17_; have NB295_263 := n18_; have NB270_295 := n19_; have NB295_270 := n20_; clear n0_ n1_ n2_ n3_ n4_ n5_ n6_ n7_ n8_ n9_ n10_ n11_ n12_ n13_ n14_ n15_ n16_ n17_ n18_ n19_ n20_; clear hb hbox hg; obtain ⟨Ao120, co120, eo120⟩ := Kd.R_slice HO291.out; subst eo120; have hnb121 := NB295_244.out; have hnc121 := NB244_295.out; have hnb122 := NB295_257.out; have hnc122 := NB257_295.out; have hnb123 := NB295_263.out; have hnc123 := NB263_295.out; have hnb124 := NB295_270.out; have hnc124 := NB270_295.out; have hcz125_0 : w119.cell? ⟨gb295, 0, none⟩ = some (.slice none 0 0) := (blk_cell BK295.out 0).trans rfl; have hcz125_1 : w119.cell? ⟨gb295, 1, none⟩ = some (.int .i64 0) := (blk_cell BK295.out 1).trans rfl; have hcz125_2 : w119.cell? ⟨gb295, 2, none⟩ = some (.int .i64 0) := (blk_cell BK295.out 2).trans rfl; have hfz125_0 := blk_frozen BK295.out 0; have hfz125_1 := blk_frozen BK295.out 1; have hfz125_2 := blk_frozen BK295.out 2))
                      (try simp only [Act.put, List.setIfInBounds_toArray, List.set_cons_zero, List.set_cons_succ])
                      go_cut [97] (fun v97 wc => ∃ (kq : Nat) (x97_104 : Bool), v97 = .bool x97_104 ∧ Aside0 (laws_FnExactFillGap.j2 kq t281 x97_104 t282 t267 t268 = some r) ∧ Aside0 (kq ≤ kj61) ∧ Aside0 (Kd.R (Kd.int .i64) 3 wc w.heap.size (fun k_ => some k_ ≠ ((.slice Ao28 t279.length co28) : Value).ownBlock ∧ some k_ ≠ ((.slice Ao34 t264.length co34) : Value).ownBlock ∧ some k_ ≠ ((.slice Ao120 t289.length co120) : Value).ownBlock) (.slice Ao22 t251.length co22) t251) ∧ Aside0 (Kd.R (Kd.int .i64) 3 wc w.heap.size (fun k_ => some k_ ≠ ((.slice Ao22 t251.length co22) : Value).ownBlock ∧ some k_ ≠ ((.slice Ao34 t264.length co34) : Value).ownBlock ∧ some k_ ≠ ((.slice Ao120 t289.length co120) : Value).ownBlock) (.slice Ao28 t279.length co28) t279) ∧ Aside0 (Kd.R (Kd.int .i64) 3 wc w.heap.size (fun k_ => some k_ ≠ ((.slice Ao22 t251.length co22) : Value).ownBlock ∧ some k_ ≠ ((.slice Ao28 t279.length co28) : Value).ownBlock ∧ some k_ ≠ ((.slice Ao120 t289.length co120) : Value).ownBlock) (.slice Ao34 t264.length co34) t282) ∧ Aside0 (Kd.R (Kd.int .i64) 3 wc w.heap.size (fun k_ => some k_ ≠ ((.slice Ao22 t251.length co22) : Value).ownBlock ∧ some k_ ≠ ((.slice Ao28 t279.length co28) : Value).ownBlock ∧ some k_ ≠ ((.slice Ao34 t264.length co34) : Value).ownBlock) (.slice Ao120 t289.length co120) t289) ∧ Aside0 (wc.heap[gb244]? = some (.cells #[(.slice A0_0 l0_0.length c0_0), .int .i64 a0_1, .int .i64 a0_2] 24 (0, 0))) ∧ Aside0 (wc.heap[gb257]? = some (.cells #[(.slice Ao22 t251.length co22), .int .i64 t254, .int .i64 t255] 27 (0, 0))) ∧ Aside0 (wc.heap[gb263]? = some (.cells #[(.slice Ao28 t279.length co28), .int .i64 t261, .int .i64 t262] 27 (0, 0))) ∧ Aside0 (wc.heap[gb270]? = some (.cells #[(.slice Ao34 t264.length co34), .int .i64 t267, .int .i64 t268] 27 (0, 0))) ∧ Aside0 (wc.heap[gb295]? = some (.cells #[(.slice Ao120 t289.length co120), .int .i64 t292, .int .i64 t293] 27 (0, 0))) ∧ Aside0 (Below w.heap.size w wc))
                      case first =>
                        have H := HC105.out
                        clear HC105
                        replace H := Option.bind_eq_some_iff.mp H
                        obtain ⟨t296, A1260, H⟩ := H
                        replace H : (if t296 = true then (laws_FnExactFillGap.j2 kj61 t281 (t294 != t256) t282 t267 t268) else (laws_FnExactFillGap.j2 kj61 t281 true t282 t267 t268)) = some r := H
                        have A126 := Aside0.mk A1260
                        clear A1260
                        by_cases c127 : t296 = true
                        · subst c127
                          have H1 : (laws_FnExactFillGap.j2 kj61 t281 (t294 != t256) t282 t267 t268) = some r := by rw [if_pos rfl] at H; exact H
                          clear H
                          have H := H1
                          clear H1
                          have H' := Aside0.mk H
                          clear H
                          have hnb128 := NB295_244.out
                          have hnc128 := NB244_295.out
                          have hnb129 := NB295_257.out
                          have hnc129 := NB257_295.out
                          have hnb130 := NB295_263.out
                          have hnc130 := NB263_295.out
                          have hnb131 := NB295_270.out
                          have hnc131 := NB270_295.out
                          have hcz132_0 : w119.cell? ⟨gb295, 0, none⟩ = some (.slice none 0 0) := (blk_cell BK295.out 0).trans rfl
                          have hcz132_1 : w119.cell? ⟨gb295, 1, none⟩ = some (.int .i64 0) := (blk_cell BK295.out 1).trans rfl
                          have hcz132_2 : w119.cell? ⟨gb295, 2, none⟩ = some (.int .i64 0) := (blk_cell BK295.out 2).trans rfl
                          have hfz132_0 := blk_frozen BK295.out 0
                          have hfz132_1 := blk_frozen BK295.out 1
                          have hfz132_2 := blk_frozen BK295.out 2
                          have hnb133 := NB257_244.out
                          have hnc133 := NB244_257.out
                          have hnb134 := NB257_263.out
                          have hnc134 := NB263_257.out
                          have hnb135 := NB257_270.out
                          have hnc135 := NB270_257.out
                          have hcz136_0 : w119.cell? ⟨gb257, 0, none⟩ = some (.slice Ao22 t251.length co22) := (blk_cell BK257.out 0).trans rfl
                          have hcz136_1 : w119.cell? ⟨gb257, 1, none⟩ = some (.int .i64 t254) := (blk_cell BK257.out 1).trans rfl
                          have hcz136_2 : w119.cell? ⟨gb257, 2, none⟩ = some (.int .i64 t255) := (blk_cell BK257.out 2).trans rfl
                          have hfz136_0 := blk_frozen BK257.out 0
                          have hfz136_1 := blk_frozen BK257.out 1
                          have hfz136_2 := blk_frozen BK257.out 2
                          go_wp2_with (first | ((with_reducible refine gate_callee (f := 19) rfl ?_); refine goesL_ (some 91) rfl rfl Try.func19 (by kernel_rfl) rfl #[.agg #[.slice Ao120 t289.length co120, .int .i64 t292, .int .i64 t293], .agg #[.slice Ao22 t251.length co22, .int .i64 t254, .int .i64 t255]] rfl (by (try simp only [List.map_toArray, List.map_cons, List.map_nil]); first | done | rfl | (simp only [List.length_drop, List.length_take]; rfl)) ?_; (with_reducible refine (laws_eqPuzzle.calls kj61 _ _ t289 t292 t293 _ _ t251 t254 t255 true _ ?side1 ?side2 ?side3 ?side4 A126.out).mono ?_); (case side1 => refine (Kd.R_reads' (e := 3) (base := w.heap.size) (ok := fun k_ => ((((True ∧ some k_ ≠ (.slice Ao22 t251.length co22 : Value).ownBlock) ∧ some k_ ≠ (.slice Ao28 t279.length co28 : Value).ownBlock) ∧ some k_ ≠ (.slice Ao34 t264.length co34 : Value).ownBlock) ∧ some k_ ≠ (.slice Ao117 t284.length co117 : Value).ownBlock)) (n := t289.length) (c := co120) ?_).2.2; exact (by (with_reducible repeat (first | apply Kd.R_alloc | apply Kd.R_drewN | apply Kd.R_drew)); exact (Kd.R_mono (Kd.R_far (p := ⟨gb295, 2, none⟩) (Kd.R_far (p := ⟨gb295, 1, none⟩) (Kd.R_far (p := ⟨gb295, 0, none⟩) (Kd.R_types HO291.out BK295.out (by decide)) (fun _ hk => hk.2) (.slice Ao120 t289.length co120)) (fun _ hk => hk.2) (.int .i64 t292)) (fun _ hk => hk.2) (.int .i64 t293)) (fun _ h_ => h_.1)))); (case side2 => exact (Kd.R_reads' HO291.out).2.1); (case side3 => refine (Kd.R_reads' (e := 3) (base := w.heap.size) (ok := fun k_ => (((some k_ ≠ (.slice Ao28 t279.length co28 : Value).ownBlock ∧ some k_ ≠ (.slice Ao34 t264.length co34 : Value).ownBlock) ∧ some k_ ≠ (.slice Ao117 t284.length co117 : Value).ownBlock) ∧ some k_ ≠ (.slice Ao120 t289.length co120 : Value).ownBlock)) (n := t251.length) (c := co22) ?_).2.2; exact (by (with_reducible repeat (first | apply Kd.R_alloc | apply Kd.R_drewN | apply Kd.R_drew)); exact (Kd.R_mono (Kd.R_far (p := ⟨gb295, 2, none⟩) (Kd.R_far (p := ⟨gb295, 1, none⟩) (Kd.R_far (p := ⟨gb295, 0, none⟩) (Kd.R_types HO_258000.out BK295.out (by decide)) (fun _ hk => hk.2) (.slice Ao120 t289.length co120)) (fun _ hk => hk.2) (.int .i64 t292)) (fun _ hk => hk.2) (.int .i64 t293)) (fun _ h_ => h_.1)))); (case side4 => exact (Kd.R_reads' HO_258000.out).2.1); rintro e w137 ⟨rfl, hb⟩; refine ⟨_, rfl, ?_⟩; have n0_ := Aside0.mk (Kd.R_below (by (with_reducible repeat (first | apply Kd.R_alloc | apply Kd.R_drewN | apply Kd.R_drew)); exact (Kd.R_mono (Kd.R_far (p := ⟨gb295, 2, none⟩) (Kd.R_far (p := ⟨gb295, 1, none⟩) (Kd.R_far (p := ⟨gb295, 0, none⟩) (Kd.R_types HO_258000.out BK295.out (by decide)) (fun _ hk => hk.2) (.slice Ao120 t289.length co120)) (fun _ hk => hk.2) (.int .i64 t292)) (fun _ hk => hk.2) (.int .i64 t293)) (fun _ h_ => h_.1))) hb); have n1_ := Aside0.mk (Kd.R_below (by (with_reducible repeat (first | apply Kd.R_alloc | apply Kd.R_drewN | apply Kd.R_drew)); exact (Kd.R_mono (Kd.R_far (p := ⟨gb295, 2, none⟩) (Kd.R_far (p := ⟨gb295, 1, none⟩) (Kd.R_far (p := ⟨gb295, 0, none⟩) (Kd.R_types HO_264000.out BK295.out (by decide)) (fun _ hk => hk.2) (.slice Ao120 t289.length co120)) (fun _ hk => hk.2) (.int .i64 t292)) (fun _ hk => hk.2) (.int .i64 t293)) (fun _ h_ => h_.1))) hb); have n2_ := Aside0.mk (Kd.R_below (by (with_reducible repeat (first | apply Kd.R_alloc | apply Kd.R_drewN | apply Kd.R_drew)); exact (Kd.R_mono (Kd.R_far (p := ⟨gb295, 2, none⟩) (Kd.R_far (p := ⟨gb295, 1, none⟩) (Kd.R_far (p := ⟨gb295, 0, none⟩) (Kd.R_types HO_271000.out BK295.out (by decide)) (fun _ hk => hk.2) (.slice Ao120 t289.length co120)) (fun _ hk => hk.2) (.int .i64 t292)) (fun _ hk => hk.2) (.int .i64 t293)) (fun _ h_ => h_.1))) hb); have n3_ := Aside0.mk (Kd.R_below (by (with_reducible repeat (first | apply Kd.R_alloc | apply Kd.R_drewN | apply Kd.R_drew)); exact (Kd.R_mono (Kd.R_far (p := ⟨gb295, 2, none⟩) (Kd.R_far (p := ⟨gb295, 1, none⟩) (Kd.R_far (p := ⟨gb295, 0, none⟩) (Kd.R_types HO286.out BK295.out (by decide)) (fun _ hk => hk.2) (.slice Ao120 t289.length co120)) (fun _ hk => hk.2) (.int .i64 t292)) (fun _ hk => hk.2) (.int .i64 t293)) (fun _ h_ => h_.1))) hb); have n4_ := Aside0.mk (Kd.R_below (by (with_reducible repeat (first | apply Kd.R_alloc | apply Kd.R_drewN | apply Kd.R_drew)); exact (Kd.R_mono (Kd.R_far (p := ⟨gb295, 2, none⟩) (Kd.R_far (p := ⟨gb295, 1, none⟩) (Kd.R_far (p := ⟨gb295, 0, none⟩) (Kd.R_types HO291.out BK295.out (by decide)) (fun _ hk => hk.2) (.slice Ao120 t289.length co120)) (fun _ hk => hk.2) (.int .i64 t292)) (fun _ hk => hk.2) (.int .i64 t293)) (fun _ h_ => h_.1))) hb); have n5_ := Aside0.mk (blk_below (g := gb244) (o := .cells #[.slice A0_0 l0_0.length c0_0, .int .i64 a0_1, .int .i64 a0_2] 24 (0, 0)) (by (with_reducible repeat (first | refine blk_drewN ?_ _ | refine blk_drew ?_ | refine blk_alloc ?_ _)); refine blk_far ?_ NB244_295.out _; (with_reducible repeat (first | refine blk_drewN ?_ _ | refine blk_drew ?_ | refine blk_alloc ?_ _)); refine blk_far ?_ NB244_295.out _; (with_reducible repeat (first | refine blk_drewN ?_ _ | refine blk_drew ?_ | refine blk_alloc ?_ _)); refine blk_far ?_ NB244_295.out _; (with_reducible repeat (first | refine blk_drewN ?_ _ | refine blk_drew ?_ | refine blk_alloc ?_ _)); exact BK244.out) hb); have n6_ := Aside0.mk (blk_below (g := gb257) (o := .cells #[.slice Ao22 t251.length co22, .int .i64 t254, .int .i64 t255] 27 (0, 0)) (by (with_reducible repeat (first | refine blk_drewN ?_ _ | refine blk_drew ?_ | refine blk_alloc ?_ _)); refine blk_far ?_ NB257_295.out _; (with_reducible repeat (first | refine blk_drewN ?_ _ | refine blk_drew ?_ | refine blk_alloc ?_ _)); refine blk_far ?_ NB257_295.out _; (with_reducible repeat (first | refine blk_drewN ?_ _ | refine blk_drew ?_ | refine blk_alloc ?_ _)); refine blk_far ?_ NB257_295.out _; (with_reducible repeat (first | refine blk_drewN ?_ _ | refine blk_drew ?_ | refine blk_alloc ?_ _)); exact BK257.out) hb); have n7_ := Aside0.mk (blk_below (g := gb263) (o := .cells #[.slice Ao28 t279.length co28, .int .i64 t261, .int .i64 t262] 27 (0, 0)) (by (with_reducible repeat (first | refine blk_drewN ?_ _ | refine blk_drew ?_ | refine blk_alloc ?_ _)); refine blk_far ?_ NB263_295.out _; (with_reducible repeat (first | refine blk_drewN ?_ _ | refine blk_drew ?_ | refine blk_alloc ?_ _)); refine blk_far ?_ NB263_295.out _; (with_reducible repeat (first | refine blk_drewN ?_ _ | refine blk_drew ?_ | refine blk_alloc ?_ _)); refine blk_far ?_ NB263_295.out _; (with_reducible repeat (first | refine blk_drewN ?_ _ | refine blk_drew ?_ | refine blk_alloc ?_ _)); exact BK263.out) hb); have n8_ := Aside0.mk (blk_below (g := gb270) (o := .cells #[.slice Ao34 t264.length co34, .int .i64 t267, .int .i64 t268] 27 (0, 0)) (by (with_reducible repeat (first | refine blk_drewN ?_ _ | refine blk_drew ?_ | refine blk_alloc ?_ _)); refine blk_far ?_ NB270_295.out _; (with_reducible repeat (first | refine blk_drewN ?_ _ | refine blk_drew ?_ | refine blk_alloc ?_ _)); refine blk_far ?_ NB270_295.out _; (with_reducible repeat (first | refine blk_drewN ?_ _ | refine blk_drew ?_ | refine blk_alloc ?_ _)); refine blk_far ?_ NB270_295.out _; (with_reducible repeat (first | refine blk_drewN ?_ _ | refine blk_drew ?_ | refine blk_alloc ?_ _)); exact BK270.out) hb); have n9_ := Aside0.mk (blk_below (g := gb295) (o := .cells #[.slice Ao120 t289.length co120, .int .i64 t292, .int .i64 t293] 27 (0, 0)) (by (with_reducible repeat (first | refine blk_drewN ?_ _ | refine blk_drew ?_ | refine blk_alloc ?_ _)); refine blk_put (cs := #[.slice Ao120 t289.length co120, .int .i64 t292, .int .i64 0]) ?_ 2 _ rfl; (with_reducible repeat (first | refine blk_drewN ?_ _ | refine blk_drew ?_ | refine blk_alloc ?_ _)); refine blk_put (cs := #[.slice Ao120 t289.length co120, .int .i64 0, .int .i64 0]) ?_ 1 _ rfl; (with_reducible repeat (first | refine blk_drewN ?_ _ | refine blk_drew ?_ | refine blk_alloc ?_ _)); refine blk_put (cs := #[.slice none 0 0, .int .i64 0, .int .i64 0]) ?_ 0 _ rfl; (with_reducible repeat (first | refine blk_drewN ?_ _ | refine blk_drew ?_ | refine blk_alloc ?_ _)); exact BK295.out) hb); have n10_ := Aside0.mk (below_step (by repeat (first | (with_reducible first | exact HB.out | apply below_alloc | apply pw_below_drewN | apply below_drew1 | refine below_set ?_ GE244.out | refine below_set ?_ GE257.out | refine below_set ?_ GE263.out | refine below_set ?_ GE270.out | refine below_set ?_ GE295.out) | exact HB.out)) hb); clear HO_258000; clear HO_264000; clear HO_271000; clear HO286; clear HO291; clear BK244; clear BK257; clear BK263; clear BK270; clear BK295; clear HB; have HO_258000 := n0_; have HO_264000 := n1_; have HO_271000 := n2_; have HO286 := n3_; have HO291 := n4_; have BK244 := n5_; have BK257 := n6_; have BK263 := n7_; have BK270 := n8_; have BK295 := n9_; have HB := n10_; clear n0_ n1_ n2_ n3_ n4_ n5_ n6_ n7_ n8_ n9_ n10_; (try clear hb); (try clear hb2); (try clear hk); (try clear hi)))
                          go_meet
                          case rel => exact ⟨_, ((t294 != t256)), (by first | rfl | (simp; done) | (simp [*]; done)), H', ⟨by have := HJ12.out; have := HJ61.out; first | omega | exact Nat.le_refl _⟩, ⟨by (try simp only [hl264000_61]); (with_reducible repeat (first | apply Kd.R_alloc | apply Kd.R_drewN | apply Kd.R_drew)); exact Kd.R_mono HO_258000.out (fun _ hk => ⟨hk.1.1.1, ⟨hk.1.1.2, hk.2⟩⟩)⟩, ⟨by (try simp only [hl264000_61]); (with_reducible repeat (first | apply Kd.R_alloc | apply Kd.R_drewN | apply Kd.R_drew)); exact Kd.R_mono HO_264000.out (fun _ hk => ⟨hk.1.1.1, ⟨hk.1.1.2, hk.2⟩⟩)⟩, ⟨by (try simp only [hl264000_61]); (with_reducible repeat (first | apply Kd.R_alloc | apply Kd.R_drewN | apply Kd.R_drew)); exact Kd.R_mono HO_271000.out (fun _ hk => ⟨hk.1.1.1, ⟨hk.1.1.2, hk.2⟩⟩)⟩, ⟨by (try simp only [hl264000_61]); (with_reducible repeat (first | apply Kd.R_alloc | apply Kd.R_drewN | apply Kd.R_drew)); exact Kd.R_mono HO291.out (fun _ hk => ⟨hk.1.1.1.2, ⟨hk.1.1.2, hk.1.2⟩⟩)⟩, ⟨by (try simp only [hl264000_61]); (with_reducible repeat (first | refine blk_drewN ?_ _ | refine blk_drew ?_ | refine blk_alloc ?_ _)); exact BK244.out⟩, ⟨by (try simp only [hl264000_61]); (with_reducible repeat (first | refine blk_drewN ?_ _ | refine blk_drew ?_ | refine blk_alloc ?_ _)); exact BK257.out⟩, ⟨by (try simp only [hl264000_61]); (with_reducible repeat (first | refine blk_drewN ?_ _ | refine blk_drew ?_ | refine blk_alloc ?_ _)); exact BK263.out⟩, ⟨by (try simp only [hl264000_61]); (with_reducible repeat (first | refine blk_drewN ?_ _ | refine blk_drew ?_ | refine blk_alloc ?_ _)); exact BK270.out⟩, ⟨by (try simp only [hl264000_61]); (with_reducible repeat (first | refine blk_drewN ?_ _ | refine blk_drew ?_ | refine blk_alloc ?_ _)); exact BK295.out⟩, ⟨by repeat (first | (with_reducible first | exact HB.out | apply below_alloc | apply pw_below_drewN | apply below_drew1 | refine below_set ?_ GE244.out | refine below_set ?_ GE257.out | refine below_set ?_ GE263.out | refine below_set ?_ GE270.out | refine below_set ?_ GE295.out) | exact HB.out)⟩⟩
                        · replace c127 := Bool.eq_false_iff.mpr c127
                          subst c127
                          have H1 : (laws_FnExactFillGap.j2 kj61 t281 true t282 t267 t268) = some r := by rw [if_neg (show ¬ (false = true) by decide)] at H; exact H
                          clear H
                          have H := H1
                          clear H1
                          have H' := Aside0.mk H
                          clear H
                          have hnb138 := NB295_244.out
                          have hnc138 := NB244_295.out
                          have hnb139 := NB295_257.out
                          have hnc139 := NB257_295.out
                          have hnb140 := NB295_263.out
                          have hnc140 := NB263_295.out
                          have hnb141 := NB295_270.out
                          have hnc141 := NB270_295.out
                          have hcz142_0 : w119.cell? ⟨gb295, 0, none⟩ = some (.slice none 0 0) := (blk_cell BK295.out 0).trans rfl
                          have hcz142_1 : w119.cell? ⟨gb295, 1, none⟩ = some (.int .i64 0) := (blk_cell BK295.out 1).trans rfl
                          have hcz142_2 : w119.cell? ⟨gb295, 2, none⟩ = some (.int .i64 0) := (blk_cell BK295.out 2).trans rfl
                          have hfz142_0 := blk_frozen BK295.out 0
                          have hfz142_1 := blk_frozen BK295.out 1
                          have hfz142_2 := blk_frozen BK295.out 2
                          have hnb143 := NB257_244.out
                          have hnc143 := NB244_257.out
                          have hnb144 := NB257_263.out
                          have hnc144 := NB263_257.out
                          have hnb145 := NB257_270.out
                          have hnc145 := NB270_257.out
                          have hcz146_0 : w119.cell? ⟨gb257, 0, none⟩ = some (.slice Ao22 t251.length co22) := (blk_cell BK257.out 0).trans rfl
                          have hcz146_1 : w119.cell? ⟨gb257, 1, none⟩ = some (.int .i64 t254) := (blk_cell BK257.out 1).trans rfl
                          have hcz146_2 : w119.cell? ⟨gb257, 2, none⟩ = some (.int .i64 t255) := (blk_cell BK257.out 2).trans rfl
                          have hfz146_0 := blk_frozen BK257.out 0
                          have hfz146_1 := blk_frozen BK257.out 1
                          have hfz146_2 := blk_frozen BK257.out 2
                          go_wp2_with (first | ((with_reducible refine gate_callee (f := 19) rfl ?_); refine goesL_ (some 91) rfl rfl Try.func19 (by kernel_rfl) rfl #[.agg #[.slice Ao120 t289.length co120, .int .i64 t292, .int .i64 t293], .agg #[.slice Ao22 t251.length co22, .int .i64 t254, .int .i64 t255]] rfl (by (try simp only [List.map_toArray, List.map_cons, List.map_nil]); first | done | rfl | (simp only [List.length_drop, List.length_take]; rfl)) ?_; (with_reducible refine (laws_eqPuzzle.calls kj61 _ _ t289 t292 t293 _ _ t251 t254 t255 false _ ?side1 ?side2 ?side3 ?side4 A126.out).mono ?_); (case side1 => refine (Kd.R_reads' (e := 3) (base := w.heap.size) (ok := fun k_ => ((((True ∧ some k_ ≠ (.slice Ao22 t251.length co22 : Value).ownBlock) ∧ some k_ ≠ (.slice Ao28 t279.length co28 : Value).ownBlock) ∧ some k_ ≠ (.slice Ao34 t264.length co34 : Value).ownBlock) ∧ some k_ ≠ (.slice Ao117 t284.length co117 : Value).ownBlock)) (n := t289.length) (c := co120) ?_).2.2; exact (by (with_reducible repeat (first | apply Kd.R_alloc | apply Kd.R_drewN | apply Kd.R_drew)); exact (Kd.R_mono (Kd.R_far (p := ⟨gb295, 2, none⟩) (Kd.R_far (p := ⟨gb295, 1, none⟩) (Kd.R_far (p := ⟨gb295, 0, none⟩) (Kd.R_types HO291.out BK295.out (by decide)) (fun _ hk => hk.2) (.slice Ao120 t289.length co120)) (fun _ hk => hk.2) (.int .i64 t292)) (fun _ hk => hk.2) (.int .i64 t293)) (fun _ h_ => h_.1)))); (case side2 => exact (Kd.R_reads' HO291.out).2.1); (case side3 => refine (Kd.R_reads' (e := 3) (base := w.heap.size) (ok := fun k_ => (((some k_ ≠ (.slice Ao28 t279.length co28 : Value).ownBlock ∧ some k_ ≠ (.slice Ao34 t264.length co34 : Value).ownBlock) ∧ some k_ ≠ (.slice Ao117 t284.length co117 : Value).ownBlock) ∧ some k_ ≠ (.slice Ao120 t289.length co120 : Value).ownBlock)) (n := t251.length) (c := co22) ?_).2.2; exact (by (with_reducible repeat (first | apply Kd.R_alloc | apply Kd.R_drewN | apply Kd.R_drew)); exact (Kd.R_mono (Kd.R_far (p := ⟨gb295, 2, none⟩) (Kd.R_far (p := ⟨gb295, 1, none⟩) (Kd.R_far (p := ⟨gb295, 0, none⟩) (Kd.R_types HO_258000.out BK295.out (by decide)) (fun _ hk => hk.2) (.slice Ao120 t289.length co120)) (fun _ hk => hk.2) (.int .i64 t292)) (fun _ hk => hk.2) (.int .i64 t293)) (fun _ h_ => h_.1)))); (case side4 => exact (Kd.R_reads' HO_258000.out).2.1); rintro e w147 ⟨rfl, hb⟩; refine ⟨_, rfl, ?_⟩; have n0_ := Aside0.mk (Kd.R_below (by (with_reducible repeat (first | apply Kd.R_alloc | apply Kd.R_drewN | apply Kd.R_drew)); exact (Kd.R_mono (Kd.R_far (p := ⟨gb295, 2, none⟩) (Kd.R_far (p := ⟨gb295, 1, none⟩) (Kd.R_far (p := ⟨gb295, 0, none⟩) (Kd.R_types HO_258000.out BK295.out (by decide)) (fun _ hk => hk.2) (.slice Ao120 t289.length co120)) (fun _ hk => hk.2) (.int .i64 t292)) (fun _ hk => hk.2) (.int .i64 t293)) (fun _ h_ => h_.1))) hb); have n1_ := Aside0.mk (Kd.R_below (by (with_reducible repeat (first | apply Kd.R_alloc | apply Kd.R_drewN | apply Kd.R_drew)); exact (Kd.R_mono (Kd.R_far (p := ⟨gb295, 2, none⟩) (Kd.R_far (p := ⟨gb295, 1, none⟩) (Kd.R_far (p := ⟨gb295, 0, none⟩) (Kd.R_types HO_264000.out BK295.out (by decide)) (fun _ hk => hk.2) (.slice Ao120 t289.length co120)) (fun _ hk => hk.2) (.int .i64 t292)) (fun _ hk => hk.2) (.int .i64 t293)) (fun _ h_ => h_.1))) hb); have n2_ := Aside0.mk (Kd.R_below (by (with_reducible repeat (first | apply Kd.R_alloc | apply Kd.R_drewN | apply Kd.R_drew)); exact (Kd.R_mono (Kd.R_far (p := ⟨gb295, 2, none⟩) (Kd.R_far (p := ⟨gb295, 1, none⟩) (Kd.R_far (p := ⟨gb295, 0, none⟩) (Kd.R_types HO_271000.out BK295.out (by decide)) (fun _ hk => hk.2) (.slice Ao120 t289.length co120)) (fun _ hk => hk.2) (.int .i64 t292)) (fun _ hk => hk.2) (.int .i64 t293)) (fun _ h_ => h_.1))) hb); have n3_ := Aside0.mk (Kd.R_below (by (with_reducible repeat (first | apply Kd.R_alloc | apply Kd.R_drewN | apply Kd.R_drew)); exact (Kd.R_mono (Kd.R_far (p := ⟨gb295, 2, none⟩) (Kd.R_far (p := ⟨gb295, 1, none⟩) (Kd.R_far (p := ⟨gb295, 0, none⟩) (Kd.R_types HO286.out BK295.out (by decide)) (fun _ hk => hk.2) (.slice Ao120 t289.length co120)) (fun _ hk => hk.2) (.int .i64 t292)) (fun _ hk => hk.2) (.int .i64 t293)) (fun _ h_ => h_.1))) hb); have n4_ := Aside0.mk (Kd.R_below (by (with_reducible repeat (first | apply Kd.R_alloc | apply Kd.R_drewN | apply Kd.R_drew)); exact (Kd.R_mono (Kd.R_far (p := ⟨gb295, 2, none⟩) (Kd.R_far (p := ⟨gb295, 1, none⟩) (Kd.R_far (p := ⟨gb295, 0, none⟩) (Kd.R_types HO291.out BK295.out (by decide)) (fun _ hk => hk.2) (.slice Ao120 t289.length co120)) (fun _ hk => hk.2) (.int .i64 t292)) (fun _ hk => hk.2) (.int .i64 t293)) (fun _ h_ => h_.1))) hb); have n5_ := Aside0.mk (blk_below (g := gb244) (o := .cells #[.slice A0_0 l0_0.length c0_0, .int .i64 a0_1, .int .i64 a0_2] 24 (0, 0)) (by (with_reducible repeat (first | refine blk_drewN ?_ _ | refine blk_drew ?_ | refine blk_alloc ?_ _)); refine blk_far ?_ NB244_295.out _; (with_reducible repeat (first | refine blk_drewN ?_ _ | refine blk_drew ?_ | refine blk_alloc ?_ _)); refine blk_far ?_ NB244_295.out _; (with_reducible repeat (first | refine blk_drewN ?_ _ | refine blk_drew ?_ | refine blk_alloc ?_ _)); refine blk_far ?_ NB244_295.out _; (with_reducible repeat (first | refine blk_drewN ?_ _ | refine blk_drew ?_ | refine blk_alloc ?_ _)); exact BK244.out) hb); have n6_ := Aside0.mk (blk_below (g := gb257) (o := .cells #[.slice Ao22 t251.length co22, .int .i64 t254, .int .i64 t255] 27 (0, 0)) (by (with_reducible repeat (first | refine blk_drewN ?_ _ | refine blk_drew ?_ | refine blk_alloc ?_ _)); refine blk_far ?_ NB257_295.out _; (with_reducible repeat (first | refine blk_drewN ?_ _ | refine blk_drew ?_ | refine blk_alloc ?_ _)); refine blk_far ?_ NB257_295.out _; (with_reducible repeat (first | refine blk_drewN ?_ _ | refine blk_drew ?_ | refine blk_alloc ?_ _)); refine blk_far ?_ NB257_295.out _; (with_reducible repeat (first | refine blk_drewN ?_ _ | refine blk_drew ?_ | refine blk_alloc ?_ _)); exact BK257.out) hb); have n7_ := Aside0.mk (blk_below (g := gb263) (o := .cells #[.slice Ao28 t279.length co28, .int .i64 t261, .int .i64 t262] 27 (0, 0)) (by (with_reducible repeat (first | refine blk_drewN ?_ _ | refine blk_drew ?_ | refine blk_alloc ?_ _)); refine blk_far ?_ NB263_295.out _; (with_reducible repeat (first | refine blk_drewN ?_ _ | refine blk_drew ?_ | refine blk_alloc ?_ _)); refine blk_far ?_ NB263_295.out _; (with_reducible repeat (first | refine blk_drewN ?_ _ | refine blk_drew ?_ | refine blk_alloc ?_ _)); refine blk_far ?_ NB263_295.out _; (with_reducible repeat (first | refine blk_drewN ?_ _ | refine blk_drew ?_ | refine blk_alloc ?_ _)); exact BK263.out) hb); have n8_ := Aside0.mk (blk_below (g := gb270) (o := .cells #[.slice Ao34 t264.length co34, .int .i64 t267, .int .i64 t268] 27 (0, 0)) (by (with_reducible repeat (first | refine blk_drewN ?_ _ | refine blk_drew ?_ | refine blk_alloc ?_ _)); refine blk_far ?_ NB270_295.out _; (with_reducible repeat (first | refine blk_drewN ?_ _ | refine blk_drew ?_ | refine blk_alloc ?_ _)); refine blk_far ?_ NB270_295.out _; (with_reducible repeat (first | refine blk_drewN ?_ _ | refine blk_drew ?_ | refine blk_alloc ?_ _)); refine blk_far ?_ NB270_295.out _; (with_reducible repeat (first | refine blk_drewN ?_ _ | refine blk_drew ?_ | refine blk_alloc ?_ _)); exact BK270.out) hb); have n9_ := Aside0.mk (blk_below (g := gb295) (o := .cells #[.slice Ao120 t289.length co120, .int .i64 t292, .int .i64 t293] 27 (0, 0)) (by (with_reducible repeat (first | refine blk_drewN ?_ _ | refine blk_drew ?_ | refine blk_alloc ?_ _)); refine blk_put (cs := #[.slice Ao120 t289.length co120, .int .i64 t292, .int .i64 0]) ?_ 2 _ rfl; (with_reducible repeat (first | refine blk_drewN ?_ _ | refine blk_drew ?_ | refine blk_alloc ?_ _)); refine blk_put (cs := #[.slice Ao120 t289.length co120, .int .i64 0, .int .i64 0]) ?_ 1 _ rfl; (with_reducible repeat (first | refine blk_drewN ?_ _ | refine blk_drew ?_ | refine blk_alloc ?_ _)); refine blk_put (cs := #[.slice none 0 0, .int .i64 0, .int .i64 0]) ?_ 0 _ rfl; (with_reducible repeat (first | refine blk_drewN ?_ _ | refine blk_drew ?_ | refine blk_alloc ?_ _)); exact BK295.out) hb); have n10_ := Aside0.mk (below_step (by repeat (first | (with_reducible first | exact HB.out | apply below_alloc | apply pw_below_drewN | apply below_drew1 | refine below_set ?_ GE244.out | refine below_set ?_ GE257.out | refine below_set ?_ GE263.out | refine below_set ?_ GE270.out | refine below_set ?_ GE295.out) | exact HB.out)) hb); clear HO_258000; clear HO_264000; clear HO_271000; clear HO286; clear HO291; clear BK244; clear BK257; clear BK263; clear BK270; clear BK295; clear HB; have HO_258000 := n0_; have HO_264000 := n1_; have HO_271000 := n2_; have HO286 := n3_; have HO291 := n4_; have BK244 := n5_; have BK257 := n6_; have BK263 := n7_; have BK270 := n8_; have BK295 := n9_; have HB := n10_; clear n0_ n1_ n2_ n3_ n4_ n5_ n6_ n7_ n8_ n9_ n10_; (try clear hb); (try clear hb2); (try clear hk); (try clear hi)))
                          go_meet
                          case rel => exact ⟨_, (true), (by first | rfl | (simp; done) | (simp [*]; done)), H', ⟨by have := HJ12.out; have := HJ61.out; first | omega | exact Nat.le_refl _⟩, ⟨by (try simp only [hl264000_61]); (with_reducible repeat (first | apply Kd.R_alloc | apply Kd.R_drewN | apply Kd.R_drew)); exact Kd.R_mono HO_258000.out (fun _ hk => ⟨hk.1.1.1, ⟨hk.1.1.2, hk.2⟩⟩)⟩, ⟨by (try simp only [hl264000_61]); (with_reducible repeat (first | apply Kd.R_alloc | apply Kd.R_drewN | apply Kd.R_drew)); exact Kd.R_mono HO_264000.out (fun _ hk => ⟨hk.1.1.1, ⟨hk.1.1.2, hk.2⟩⟩)⟩, ⟨by (try simp only [hl264000_61]); (with_reducible repeat (first | apply Kd.R_alloc | apply Kd.R_drewN | apply Kd.R_drew)); exact Kd.R_mono HO_271000.out (fun _ hk => ⟨hk.1.1.1, ⟨hk.1.1.2, hk.2⟩⟩)⟩, ⟨by (try simp only [hl264000_61]); (with_reducible repeat (first | apply Kd.R_alloc | apply Kd.R_drewN | apply Kd.R_drew)); exact Kd.R_mono HO291.out (fun _ hk => ⟨hk.1.1.1.2, ⟨hk.1.1.2, hk.1.2⟩⟩)⟩, ⟨by (try simp only [hl264000_61]); (with_reducible repeat (first | refine blk_drewN ?_ _ | refine blk_drew ?_ | refine blk_alloc ?_ _)); exact BK244.out⟩, ⟨by (try simp only [hl264000_61]); (with_reducible repeat (first | refine blk_drewN ?_ _ | refine blk_drew ?_ | refine blk_alloc ?_ _)); exact BK257.out⟩, ⟨by (try simp only [hl264000_61]); (with_reducible repeat (first | refine blk_drewN ?_ _ | refine blk_drew ?_ | refine blk_alloc ?_ _)); exact BK263.out⟩, ⟨by (try simp only [hl264000_61]); (with_reducible repeat (first | refine blk_drewN ?_ _ | refine blk_drew ?_ | refine blk_alloc ?_ _)); exact BK270.out⟩, ⟨by (try simp only [hl264000_61]); (with_reducible repeat (first | refine blk_drewN ?_ _ | refine blk_drew ?_ | refine blk_alloc ?_ _)); exact BK295.out⟩, ⟨by repeat (first | (with_reducible first | exact HB.out | apply below_alloc | apply pw_below_drewN | apply below_drew1 | refine below_set ?_ GE244.out | refine below_set ?_ GE257.out | refine below_set ?_ GE263.out | refine below_set ?_ GE270.out | refine below_set ?_ GE295.out) | exact HB.out)⟩⟩
                      case rest =>
                        clear HC105
                        try clear c1
                        try clear c2
                        try clear p2
                        try clear c3
                        try clear c4
                        try clear c5
                        try clear c5b0
                        try clear c6
                        try clear c7
                        try clear c8
                        try clear c9
                        try clear c10
                        try clear c11
                        try clear c12
                        try clear c13
                        try clear c14
                        try clear c15
                        try clear c17
                        try clear c19
                        try clear c22
                        try clear c23
                        try clear c24
                        try clear c25
                        try clear c29
                        try clear c30
                        try clear c35
                        try clear c36
                        try clear c37
                        try clear c40
                        try clear c41
                        try clear c42
                        try clear c43
                        try clear c45
                        try clear c46
                        try clear c49
                        try clear c50
                        try clear c51
                        try clear c53
                        try clear c54
                        try clear c57
                        try clear c60
                        try clear c67
                        try clear c68
                        try clear c69
                        try clear c72
                        try clear c72b0
                        try clear c74
                        try clear c75
                        try clear c76
                        try clear c77
                        try clear c79
                        try clear c80
                        try clear c83
                        try clear c84
                        try clear c85
                        try clear c87
                        try clear c88
                        try clear c91
                        try clear c94
                        try clear c94b0
                        try clear c95
                        try clear c96
                        try clear c97
                        try clear c102
                        try clear c102b0
                        try clear c102b1
                        try clear c106
                        try clear c107
                        try clear c108
                        try clear c113
                        try clear c114
                        try clear c121
                        try clear c122
                        try clear c123
                        try clear c124
                        try clear c127
                        try clear c128
                        try clear c129
                        try clear c130
                        try clear c131
                        try clear c133
                        try clear c134
                        try clear c135
                        try clear c138
                        try clear c139
                        try clear c140
                        try clear c141
                        try clear c143
                        try clear c144
                        try clear c145
                        try clear hcz100_0
                        try clear hcz100_1
                        try clear hcz100_2
                        try clear hcz109_0
                        try clear hcz109_1
                        try clear hcz109_2
                        try clear hcz111_0
                        try clear hcz111_1
                        try clear hcz111_2
                        try clear hcz115_0
                        try clear hcz115_1
                        try clear hcz115_2
                        try clear hcz125_0
                        try clear hcz125_1
                        try clear hcz125_2
                        try clear hcz132_0
                        try clear hcz132_1
                        try clear hcz132_2
                        try clear hcz136_0
                        try clear hcz136_1
                        try clear hcz136_2
                        try clear hcz142_0
                        try clear hcz142_1
                        try clear hcz142_2
                        try clear hcz146_0
                        try clear hcz146_1
                        try clear hcz146_2
                        try clear hcz15_0
                        try clear hcz15_1
                        try clear hcz15_2
                        try clear hcz17_0
                        try clear hcz17_1
                        try clear hcz17_2
                        try clear hcz24_0
                        try clear hcz24_1
                        try clear hcz24_2
                        try clear hcz25_0
                        try clear hcz25_1
                        try clear hcz25_2
                        try clear hcz31_0
                        try clear hcz31_1
                        try clear hcz31_2
                        try clear hcz38_0
                        try clear hcz38_1
                        try clear hcz38_2
                        try clear hcz44_0
                        try clear hcz44_1
                        try clear hcz44_2
                        try clear hcz47_0
                        try clear hcz47_1
                        try clear hcz47_2
                        try clear hcz52_0
                        try clear hcz52_1
                        try clear hcz52_2
                        try clear hcz55_0
                        try clear hcz55_1
                        try clear hcz55_2
                        try clear hcz70_0
                        try clear hcz70_1
                        try clear hcz70_2
                        try clear hcz78_0
                        try clear hcz78_1
                        try clear hcz78_2
                        try clear hcz7_0
                        try clear hcz7_1
                        try clear hcz7_2
                        try clear hcz81_0
                        try clear hcz81_1
                        try clear hcz81_2
                        try clear hcz86_0
                        try clear hcz86_1
                        try clear hcz86_2
                        try clear hcz89_0
                        try clear hcz89_1
                        try clear hcz89_2
                        try clear hcz98_0
                        try clear hcz98_1
                        try clear hcz98_2
                        try clear hfz100_0
                        try clear hfz100_1
                        try clear hfz100_2
                        try clear hfz109_0
                        try clear hfz109_1
                        try clear hfz109_2
                        try clear hfz111_0
                        try clear hfz111_1
                        try clear hfz111_2
                        try clear hfz115_0
                        try clear hfz115_1
                        try clear hfz115_2
                        try clear hfz125_0
                        try clear hfz125_1
                        try clear hfz125_2
                        try clear hfz132_0
                        try clear hfz132_1
                        try clear hfz132_2
                        try clear hfz136_0
                        try clear hfz136_1
                        try clear hfz136_2
                        try clear hfz142_0
                        try clear hfz142_1
                        try clear hfz142_2
                        try clear hfz146_0
                        try clear hfz146_1
                        try clear hfz146_2
                        try clear hfz15_0
                        try clear hfz15_1
                        try clear hfz15_2
                        try clear hfz17_0
                        try clear hfz17_1
                        try clear hfz17_2
                        try clear hfz24_0
                        try clear hfz24_1
                        try clear hfz24_2
                        try clear hfz25_0
                        try clear hfz25_1
                        try clear hfz25_2
                        try clear hfz31_0
                        try clear hfz31_1
                        try clear hfz31_2
                        try clear hfz38_0
                        try clear hfz38_1
                        try clear hfz38_2
                        try clear hfz44_0
                        try clear hfz44_1
                        try clear hfz44_2
                        try clear hfz47_0
                        try clear hfz47_1
                        try clear hfz47_2
                        try clear hfz52_0
                        try clear hfz52_1
                        try clear hfz52_2
                        try clear hfz55_0
                        try clear hfz55_1
                        try clear hfz55_2
                        try clear hfz70_0
                        try clear hfz70_1
                        try clear hfz70_2
                        try clear hfz78_0
                        try clear hfz78_1
                        try clear hfz78_2
                        try clear hfz7_0
                        try clear hfz7_1
                        try clear hfz7_2
                        try clear hfz81_0
                        try clear hfz81_1
                        try clear hfz81_2
                        try clear hfz86_0
                        try clear hfz86_1
                        try clear hfz86_2
                        try clear hfz89_0
                        try clear hfz89_1
                        try clear hfz89_2
                        try clear hfz98_0
                        try clear hfz98_1
                        try clear hfz98_2
                        try clear p2
                        obtain ⟨kq, x97_104, rfl, HA, HJ104, HO_258000, HO_264000, HO_271000, HO_296000, BK244, BK257, BK263, BK270, BK295, HB⟩ := hcut
                        have hl271000_104 := (Kd.R_reads' HO_271000.out).1
                        rw [hl271000_104] at HO_271000
                        (try simp only [hl271000_104])
                        (try simp only [hl271000_104] at BK244)
                        (try simp only [hl271000_104] at BK257)
                        (try simp only [hl271000_104] at BK263)
                        (try simp only [hl271000_104] at BK270)
                        (try simp only [hl271000_104] at BK295)
                        (try simp only [hl271000_104] at HO_258000)
                        (try simp only [hl271000_104] at HO_264000)
                        (try simp only [hl271000_104] at HO_296000)
                        cases kq with
                        | zero => exact absurd HA.out (by simp [laws_FnExactFillGap.j2])
                        | succ kj104 =>
                          have H := HA.out
                          clear HA
                          simp only [laws_FnExactFillGap.j2] at H
                          by_cases c148 : x97_104 = true
                          · subst c148
                            have H1 : (some false) = some r := by rw [if_pos rfl] at H; exact H
                            clear H
                            have H := H1
                            clear H1
                            obtain rfl := Option.some.inj H
                            go_wp2
                            go_ret
                            exact ⟨by first | rfl | (simp [errW_none, errW_some] <;> rfl) | (simp [*, errW_none, errW_some] <;> rfl), by repeat (first | (with_reducible first | exact HB.out | apply below_alloc | apply pw_below_drewN | apply below_drew1 | refine below_set ?_ GE244.out | refine below_set ?_ GE257.out | refine below_set ?_ GE263.out | refine below_set ?_ GE270.out | refine below_set ?_ GE295.out) | exact HB.out)⟩
                          · replace c148 := Bool.eq_false_iff.mpr c148
                            subst c148
                            have H1 : ((laws_heldPuzzle.f kj104 t282 t267 t268 1).bind fun t297 => (if t297 < 0 then (some false) else (if t297 = t281 then (some true) else (some false)))) = some r := by rw [if_neg (show ¬ (false = true) by decide)] at H; exact H
                            clear H
                            have H := H1
                            clear H1
                            replace H := Option.bind_eq_some_iff.mp H
                            obtain ⟨t297, A1490, H⟩ := H
                            replace H : (if t297 < 0 then (some false) else (if t297 = t281 then (some true) else (some false))) = some r := H
                            have A149 := Aside0.mk A1490
                            clear A1490
                            by_cases c150 : t297 < 0
                            · rw [if_pos c150] at H
                              have c150b0 : decide (t297 < 0) = true := decide_eq_true c150
                              clear c150
                              obtain rfl := Option.some.inj H
                              have hnb151 := NB270_244.out
                              have hnc151 := NB244_270.out
                              have hnb152 := NB270_257.out
                              have hnc152 := NB257_270.out
                              have hnb153 := NB270_263.out
                              have hnc153 := NB263_270.out
                              have hnb154 := NB270_295.out
                              have hnc154 := NB295_270.out
                              have hcz155_0 : wc.cell? ⟨gb270, 0, none⟩ = some (.slice Ao34 t282.length co34) := (blk_cell BK270.out 0).trans rfl
                              have hcz155_1 : wc.cell? ⟨gb270, 1, none⟩ = some (.int .i64 t267) := (blk_cell BK270.out 1).trans rfl
                              have hcz155_2 : wc.cell? ⟨gb270, 2, none⟩ = some (.int .i64 t268) := (blk_cell BK270.out 2).trans rfl
                              have hfz155_0 := blk_frozen BK270.out 0
                              have hfz155_1 := blk_frozen BK270.out 1
                              have hfz155_2 := blk_frozen BK270.out 2
                              go_wp2_with (first | ((with_reducible refine gate_callee (f := 25) rfl ?_); refine goesL_ (some 100) rfl rfl Try.func25 (by kernel_rfl) rfl #[.agg #[.slice Ao34 t282.length co34, .int .i64 t267, .int .i64 t268], .int .i64 1] rfl (by (try simp only [List.map_toArray, List.map_cons, List.map_nil]); first | done | rfl | (simp only [List.length_drop, List.length_take]; rfl)) ?_; (with_reducible refine (laws_heldPuzzle.calls kj104 _ _ t282 t267 t268 1 t297 _ ?side1 ?side2 A149.out).mono ?_); (case side1 => repeat (first | exact (Kd.R_reads' HO_271000.out).2.2 | (with_reducible refine Kd.C_alloc ?_ _) | (with_reducible refine Kd.C_drewN ?_ _) | (with_reducible refine Kd.C_drew ?_))); (case side2 => exact (Kd.R_reads' HO_271000.out).2.1); rintro e w156 ⟨rfl, hb⟩; refine ⟨_, rfl, ?_⟩; have n0_ := Aside0.mk (Kd.R_below (by (with_reducible repeat (first | apply Kd.R_alloc | apply Kd.R_drewN | apply Kd.R_drew)); exact HO_258000.out) hb); have n1_ := Aside0.mk (Kd.R_below (by (with_reducible repeat (first | apply Kd.R_alloc | apply Kd.R_drewN | apply Kd.R_drew)); exact HO_264000.out) hb); have n2_ := Aside0.mk (Kd.R_below (by (with_reducible repeat (first | apply Kd.R_alloc | apply Kd.R_drewN | apply Kd.R_drew)); exact HO_271000.out) hb); have n3_ := Aside0.mk (Kd.R_below (by (with_reducible repeat (first | apply Kd.R_alloc | apply Kd.R_drewN | apply Kd.R_drew)); exact HO_296000.out) hb); have n4_ := Aside0.mk (blk_below (g := gb244) (o := .cells #[.slice A0_0 l0_0.length c0_0, .int .i64 a0_1, .int .i64 a0_2] 24 (0, 0)) (by (with_reducible repeat (first | refine blk_drewN ?_ _ | refine blk_drew ?_ | refine blk_alloc ?_ _)); exact BK244.out) hb); have n5_ := Aside0.mk (blk_below (g := gb257) (o := .cells #[.slice Ao22 t251.length co22, .int .i64 t254, .int .i64 t255] 27 (0, 0)) (by (with_reducible repeat (first | refine blk_drewN ?_ _ | refine blk_drew ?_ | refine blk_alloc ?_ _)); exact BK257.out) hb); have n6_ := Aside0.mk (blk_below (g := gb263) (o := .cells #[.slice Ao28 t279.length co28, .int .i64 t261, .int .i64 t262] 27 (0, 0)) (by (with_reducible repeat (first | refine blk_drewN ?_ _ | refine blk_drew ?_ | refine blk_alloc ?_ _)); exact BK263.out) hb); have n7_ := Aside0.mk (blk_below (g := gb270) (o := .cells #[.slice Ao34 t282.length co34, .int .i64 t267, .int .i64 t268] 27 (0, 0)) (by (with_reducible repeat (first | refine blk_drewN ?_ _ | refine blk_drew ?_ | refine blk_alloc ?_ _)); exact BK270.out) hb); have n8_ := Aside0.mk (blk_below (g := gb295) (o := .cells #[.slice Ao120 t289.length co120, .int .i64 t292, .int .i64 t293] 27 (0, 0)) (by (with_reducible repeat (first | refine blk_drewN ?_ _ | refine blk_drew ?_ | refine blk_alloc ?_ _)); exact BK295.out) hb); have n9_ := Aside0.mk (below_step (by repeat (first | (with_reducible first | exact HB.out | apply below_alloc | apply pw_below_drewN | apply below_drew1 | refine below_set ?_ GE244.out | refine below_set ?_ GE257.out | refine below_set ?_ GE263.out | refine below_set ?_ GE270.out | refine below_set ?_ GE295.out) | exact HB.out)) hb); clear HO_258000; clear HO_264000; clear HO_271000; clear HO_296000; clear BK244; clear BK257; clear BK263; clear BK270; clear BK295; clear HB; have HO_258000 := n0_; have HO_264000 := n1_; have HO_271000 := n2_; have HO_296000 := n3_; have BK244 := n4_; have BK257 := n5_; have BK263 := n6_; have BK270 := n7_; have BK295 := n8_; have HB := n9_; clear n0_ n1_ n2_ n3_ n4_ n5_ n6_ n7_ n8_ n9_; (try clear hb); (try clear hb2); (try clear hk); (try clear hi)))
                              go_ret
                              exact ⟨by first | rfl | (simp [errW_none, errW_some] <;> rfl) | (simp [*, errW_none, errW_some] <;> rfl), by repeat (first | (with_reducible first | exact HB.out | apply below_alloc | apply pw_below_drewN | apply below_drew1 | refine below_set ?_ GE244.out | refine below_set ?_ GE257.out | refine below_set ?_ GE263.out | refine below_set ?_ GE270.out | refine below_set ?_ GE295.out) | exact HB.out)⟩
                            · rw [if_neg c150] at H
                              have c150b0 : decide (t297 < 0) = false := decide_eq_false c150
                              clear c150
                              by_cases c157 : t297 = t281
                              · rw [if_pos c157] at H
                                have c157b0 : (t297 == t281) = true := beq_iff_eq.mpr c157
                                have c157b1 : (t297 != t281) = false := bne_eq_false_iff_eq.mpr c157
                                clear c157
                                obtain rfl := Option.some.inj H
                                have hnb158 := NB270_244.out
                                have hnc158 := NB244_270.out
                                have hnb159 := NB270_257.out
                                have hnc159 := NB257_270.out
                                have hnb160 := NB270_263.out
                                have hnc160 := NB263_270.out
                                have hnb161 := NB270_295.out
                                have hnc161 := NB295_270.out
                                have hcz162_0 : wc.cell? ⟨gb270, 0, none⟩ = some (.slice Ao34 t282.length co34) := (blk_cell BK270.out 0).trans rfl
                                have hcz162_1 : wc.cell? ⟨gb270, 1, none⟩ = some (.int .i64 t267) := (blk_cell BK270.out 1).trans rfl
                                have hcz162_2 : wc.cell? ⟨gb270, 2, none⟩ = some (.int .i64 t268) := (blk_cell BK270.out 2).trans rfl
                                have hfz162_0 := blk_frozen BK270.out 0
                                have hfz162_1 := blk_frozen BK270.out 1
                                have hfz162_2 := blk_frozen BK270.out 2
                                go_wp2_with (first | ((with_reducible refine gate_callee (f := 25) rfl ?_); refine goesL_ (some 100) rfl rfl Try.func25 (by kernel_rfl) rfl #[.agg #[.slice Ao34 t282.length co34, .int .i64 t267, .int .i64 t268], .int .i64 1] rfl (by (try simp only [List.map_toArray, List.map_cons, List.map_nil]); first | done | rfl | (simp only [List.length_drop, List.length_take]; rfl)) ?_; (with_reducible refine (laws_heldPuzzle.calls kj104 _ _ t282 t267 t268 1 t297 _ ?side1 ?side2 A149.out).mono ?_); (case side1 => repeat (first | exact (Kd.R_reads' HO_271000.out).2.2 | (with_reducible refine Kd.C_alloc ?_ _) | (with_reducible refine Kd.C_drewN ?_ _) | (with_reducible refine Kd.C_drew ?_))); (case side2 => exact (Kd.R_reads' HO_271000.out).2.1); rintro e w163 ⟨rfl, hb⟩; refine ⟨_, rfl, ?_⟩; have n0_ := Aside0.mk (Kd.R_below (by (with_reducible repeat (first | apply Kd.R_alloc | apply Kd.R_drewN | apply Kd.R_drew)); exact HO_258000.out) hb); have n1_ := Aside0.mk (Kd.R_below (by (with_reducible repeat (first | apply Kd.R_alloc | apply Kd.R_drewN | apply Kd.R_drew)); exact HO_264000.out) hb); have n2_ := Aside0.mk (Kd.R_below (by (with_reducible repeat (first | apply Kd.R_alloc | apply Kd.R_drewN | apply Kd.R_drew)); exact HO_271000.out) hb); have n3_ := Aside0.mk (Kd.R_below (by (with_reducible repeat (first | apply Kd.R_alloc | apply Kd.R_drewN | apply Kd.R_drew)); exact HO_296000.out) hb); have n4_ := Aside0.mk (blk_below (g := gb244) (o := .cells #[.slice A0_0 l0_0.length c0_0, .int .i64 a0_1, .int .i64 a0_2] 24 (0, 0)) (by (with_reducible repeat (first | refine blk_drewN ?_ _ | refine blk_drew ?_ | refine blk_alloc ?_ _)); exact BK244.out) hb); have n5_ := Aside0.mk (blk_below (g := gb257) (o := .cells #[.slice Ao22 t251.length co22, .int .i64 t254, .int .i64 t255] 27 (0, 0)) (by (with_reducible repeat (first | refine blk_drewN ?_ _ | refine blk_drew ?_ | refine blk_alloc ?_ _)); exact BK257.out) hb); have n6_ := Aside0.mk (blk_below (g := gb263) (o := .cells #[.slice Ao28 t279.length co28, .int .i64 t261, .int .i64 t262] 27 (0, 0)) (by (with_reducible repeat (first | refine blk_drewN ?_ _ | refine blk_drew ?_ | refine blk_alloc ?_ _)); exact BK263.out) hb); have n7_ := Aside0.mk (blk_below (g := gb270) (o := .cells #[.slice Ao34 t282.length co34, .int .i64 t267, .int .i64 t268] 27 (0, 0)) (by (with_reducible repeat (first | refine blk_drewN ?_ _ | refine blk_drew ?_ | refine blk_alloc ?_ _)); exact BK270.out) hb); have n8_ := Aside0.mk (blk_below (g := gb295) (o := .cells #[.slice Ao120 t289.length co120, .int .i64 t292, .int .i64 t293] 27 (0, 0)) (by (with_reducible repeat (first | refine blk_drewN ?_ _ | refine blk_drew ?_ | refine blk_alloc ?_ _)); exact BK295.out) hb); have n9_ := Aside0.mk (below_step (by repeat (first | (with_reducible first | exact HB.out | apply below_alloc | apply pw_below_drewN | apply below_drew1 | refine below_set ?_ GE244.out | refine below_set ?_ GE257.out | refine below_set ?_ GE263.out | refine below_set ?_ GE270.out | refine below_set ?_ GE295.out) | exact HB.out)) hb); clear HO_258000; clear HO_264000; clear HO_271000; clear HO_296000; clear BK244; clear BK257; clear BK263; clear BK270; clear BK295; clear HB; have HO_258000 := n0_; have HO_264000 := n1_; have HO_271000 := n2_; have HO_296000 := n3_; have BK244 := n4_; have BK257 := n5_; have BK263 := n6_; have BK270 := n7_; have BK295 := n8_; have HB := n9_; clear n0_ n1_ n2_ n3_ n4_ n5_ n6_ n7_ n8_ n9_; (try clear hb); (try clear hb2); (try clear hk); (try clear hi)))
                                go_ret
                                exact ⟨by first | rfl | (simp [errW_none, errW_some] <;> rfl) | (simp [*, errW_none, errW_some] <;> rfl), by repeat (first | (with_reducible first | exact HB.out | apply below_alloc | apply pw_below_drewN | apply below_drew1 | refine below_set ?_ GE244.out | refine below_set ?_ GE257.out | refine below_set ?_ GE263.out | refine below_set ?_ GE270.out | refine below_set ?_ GE295.out) | exact HB.out)⟩
                              · rw [if_neg c157] at H
                                have c157b0 : (t297 == t281) = false := beq_eq_false_iff_ne.mpr c157
                                have c157b1 : (t297 != t281) = true := bne_iff_ne.mpr c157
                                obtain rfl := Option.some.inj H
                                have hnb164 := NB270_244.out
                                have hnc164 := NB244_270.out
                                have hnb165 := NB270_257.out
                                have hnc165 := NB257_270.out
                                have hnb166 := NB270_263.out
                                have hnc166 := NB263_270.out
                                have hnb167 := NB270_295.out
                                have hnc167 := NB295_270.out
                                have hcz168_0 : wc.cell? ⟨gb270, 0, none⟩ = some (.slice Ao34 t282.length co34) := (blk_cell BK270.out 0).trans rfl
                                have hcz168_1 : wc.cell? ⟨gb270, 1, none⟩ = some (.int .i64 t267) := (blk_cell BK270.out 1).trans rfl
                                have hcz168_2 : wc.cell? ⟨gb270, 2, none⟩ = some (.int .i64 t268) := (blk_cell BK270.out 2).trans rfl
                                have hfz168_0 := blk_frozen BK270.out 0
                                have hfz168_1 := blk_frozen BK270.out 1
                                have hfz168_2 := blk_frozen BK270.out 2
                                go_wp2_with (first | ((with_reducible refine gate_callee (f := 25) rfl ?_); refine goesL_ (some 100) rfl rfl Try.func25 (by kernel_rfl) rfl #[.agg #[.slice Ao34 t282.length co34, .int .i64 t267, .int .i64 t268], .int .i64 1] rfl (by (try simp only [List.map_toArray, List.map_cons, List.map_nil]); first | done | rfl | (simp only [List.length_drop, List.length_take]; rfl)) ?_; (with_reducible refine (laws_heldPuzzle.calls kj104 _ _ t282 t267 t268 1 t297 _ ?side1 ?side2 A149.out).mono ?_); (case side1 => repeat (first | exact (Kd.R_reads' HO_271000.out).2.2 | (with_reducible refine Kd.C_alloc ?_ _) | (with_reducible refine Kd.C_drewN ?_ _) | (with_reducible refine Kd.C_drew ?_))); (case side2 => exact (Kd.R_reads' HO_271000.out).2.1); rintro e w169 ⟨rfl, hb⟩; refine ⟨_, rfl, ?_⟩; have n0_ := Aside0.mk (Kd.R_below (by (with_reducible repeat (first | apply Kd.R_alloc | apply Kd.R_drewN | apply Kd.R_drew)); exact HO_258000.out) hb); have n1_ := Aside0.mk (Kd.R_below (by (with_reducible repeat (first | apply Kd.R_alloc | apply Kd.R_drewN | apply Kd.R_drew)); exact HO_264000.out) hb); have n2_ := Aside0.mk (Kd.R_below (by (with_reducible repeat (first | apply Kd.R_alloc | apply Kd.R_drewN | apply Kd.R_drew)); exact HO_271000.out) hb); have n3_ := Aside0.mk (Kd.R_below (by (with_reducible repeat (first | apply Kd.R_alloc | apply Kd.R_drewN | apply Kd.R_drew)); exact HO_296000.out) hb); have n4_ := Aside0.mk (blk_below (g := gb244) (o := .cells #[.slice A0_0 l0_0.length c0_0, .int .i64 a0_1, .int .i64 a0_2] 24 (0, 0)) (by (with_reducible repeat (first | refine blk_drewN ?_ _ | refine blk_drew ?_ | refine blk_alloc ?_ _)); exact BK244.out) hb); have n5_ := Aside0.mk (blk_below (g := gb257) (o := .cells #[.slice Ao22 t251.length co22, .int .i64 t254, .int .i64 t255] 27 (0, 0)) (by (with_reducible repeat (first | refine blk_drewN ?_ _ | refine blk_drew ?_ | refine blk_alloc ?_ _)); exact BK257.out) hb); have n6_ := Aside0.mk (blk_below (g := gb263) (o := .cells #[.slice Ao28 t279.length co28, .int .i64 t261, .int .i64 t262] 27 (0, 0)) (by (with_reducible repeat (first | refine blk_drewN ?_ _ | refine blk_drew ?_ | refine blk_alloc ?_ _)); exact BK263.out) hb); have n7_ := Aside0.mk (blk_below (g := gb270) (o := .cells #[.slice Ao34 t282.length co34, .int .i64 t267, .int .i64 t268] 27 (0, 0)) (by (with_reducible repeat (first | refine blk_drewN ?_ _ | refine blk_drew ?_ | refine blk_alloc ?_ _)); exact BK270.out) hb); have n8_ := Aside0.mk (blk_below (g := gb295) (o := .cells #[.slice Ao120 t289.length co120, .int .i64 t292, .int .i64 t293] 27 (0, 0)) (by (with_reducible repeat (first | refine blk_drewN ?_ _ | refine blk_drew ?_ | refine blk_alloc ?_ _)); exact BK295.out) hb); have n9_ := Aside0.mk (below_step (by repeat (first | (with_reducible first | exact HB.out | apply below_alloc | apply pw_below_drewN | apply below_drew1 | refine below_set ?_ GE244.out | refine below_set ?_ GE257.out | refine below_set ?_ GE263.out | refine below_set ?_ GE270.out | refine below_set ?_ GE295.out) | exact HB.out)) hb); clear HO_258000; clear HO_264000; clear HO_271000; clear HO_296000; clear BK244; clear BK257; clear BK263; clear BK270; clear BK295; clear HB; have HO_258000 := n0_; have HO_264000 := n1_; have HO_271000 := n2_; have HO_296000 := n3_; have BK244 := n4_; have BK257 := n5_; have BK263 := n6_; have BK270 := n7_; have BK295 := n8_; have HB := n9_; clear n0_ n1_ n2_ n3_ n4_ n5_ n6_ n7_ n8_ n9_; (try clear hb); (try clear hb2); (try clear hk); (try clear hi)))
                                go_ret
                                exact ⟨by first | rfl | (simp [errW_none, errW_some] <;> rfl) | (simp [*, errW_none, errW_some] <;> rfl), by repeat (first | (with_reducible first | exact HB.out | apply below_alloc | apply pw_below_drewN | apply below_drew1 | refine below_set ?_ GE244.out | refine below_set ?_ GE257.out | refine below_set ?_ GE263.out | refine below_set ?_ GE270.out | refine below_set ?_ GE295.out) | exact HB.out)⟩
                    · rw [if_neg c102] at H
                      have c102b0 : (t283 == t281) = false := beq_eq_false_iff_ne.mpr c102
                      have c102b1 : (t283 != t281) = true := bne_iff_ne.mpr c102
                      obtain rfl := Option.some.inj H
                      have hnb170 := NB270_244.out
                      have hnc170 := NB244_270.out
                      have hnb171 := NB270_257.out
                      have hnc171 := NB257_270.out
                      have hnb172 := NB270_263.out
                      have hnc172 := NB263_270.out
                      have hcz173_0 : wc.cell? ⟨gb270, 0, none⟩ = some (.slice Ao34 t264.length co34) := (blk_cell BK270.out 0).trans rfl
                      have hcz173_1 : wc.cell? ⟨gb270, 1, none⟩ = some (.int .i64 t267) := (blk_cell BK270.out 1).trans rfl
                      have hcz173_2 : wc.cell? ⟨gb270, 2, none⟩ = some (.int .i64 t268) := (blk_cell BK270.out 2).trans rfl
                      have hfz173_0 := blk_frozen BK270.out 0
                      have hfz173_1 := blk_frozen BK270.out 1
                      have hfz173_2 := blk_frozen BK270.out 2
                      go_wp2_with (first | ((with_reducible refine gate_callee (f := 24) rfl ?_); refine goesL_ (some 72) rfl rfl Try.func24 (by kernel_rfl) rfl #[.agg #[.slice Ao34 t264.length co34, .int .i64 t267, .int .i64 t268], .int .i64 1] rfl (by (try simp only [List.map_toArray, List.map_cons, List.map_nil]); first | done | rfl | (simp only [List.length_drop, List.length_take]; rfl)) ?_; (with_reducible refine (laws_markPuzzle.calls kj61 (fun k_ => some k_ = (.slice Ao34 t264.length co34 : Value).ownBlock) (.slice Ao34 t264.length co34) t264 t267 t268 1 t281 t282 w _ ?side1 ?side2 A92.out).mono ?_); (case side1 => repeat (first | (with_reducible first | exact HB.out | apply below_alloc | apply pw_below_drewN | apply below_drew1 | refine below_set ?_ GE244.out | refine below_set ?_ GE257.out | refine below_set ?_ GE263.out | refine below_set ?_ GE270.out) | exact HB.out)); (case side2 => exact Kd.R_tight rfl HO_271000.out); rintro e w174 ⟨rfl, hy0, hb, hkp⟩; refine ⟨_, rfl, ?_⟩; have n0_ := Aside0.mk (Kd.R_mono (ok' := fun k_ => some k_ ≠ (.slice Ao28 t279.length co28 : Value).ownBlock ∧ some k_ ≠ (.slice Ao34 t264.length co34 : Value).ownBlock) (Kd.R_keptB (HO_258000.out) hkp (fun k_ hk_ hs_ => (hk_.2) hs_)) (fun k_ hk_ => ⟨hk_.1.1, hk_.1.2⟩)); have n1_ := Aside0.mk (Kd.R_mono (ok' := fun k_ => some k_ ≠ (.slice Ao22 t251.length co22 : Value).ownBlock ∧ some k_ ≠ (.slice Ao34 t264.length co34 : Value).ownBlock) (Kd.R_keptB (HO_264000.out) hkp (fun k_ hk_ hs_ => (hk_.2) hs_)) (fun k_ hk_ => ⟨hk_.1.1, hk_.1.2⟩)); have n2_ := Aside0.mk (Kd.R_reok rfl hy0 (fun k_ e_ => HO_271000.out.1 k_ e_)); have n3_ := Aside0.mk (blk_kept (by (with_reducible repeat (first | refine blk_drewN ?_ _ | refine blk_drew ?_ | refine blk_alloc ?_ _)); exact BK244.out) hkp (fun hs_ => (fun e_ => (Kd.R_ne HO_271000.out BK244.out (by decide)) e_) hs_)); have n4_ := Aside0.mk (blk_kept (by (with_reducible repeat (first | refine blk_drewN ?_ _ | refine blk_drew ?_ | refine blk_alloc ?_ _)); exact BK257.out) hkp (fun hs_ => (fun e_ => (Kd.R_ne HO_271000.out BK257.out (by decide)) e_) hs_)); have n5_ := Aside0.mk (blk_kept (by (with_reducible repeat (first | refine blk_drewN ?_ _ | refine blk_drew ?_ | refine blk_alloc ?_ _)); exact BK263.out) hkp (fun hs_ => (fun e_ => (Kd.R_ne HO_271000.out BK263.out (by decide)) e_) hs_)); have n6_ := Aside0.mk (blk_kept (by (with_reducible repeat (first | refine blk_drewN ?_ _ | refine blk_drew ?_ | refine blk_alloc ?_ _)); exact BK270.out) hkp (fun hs_ => (fun e_ => (Kd.R_ne HO_271000.out BK270.out (by decide)) e_) hs_)); have n7_ := Aside0.mk (hb); clear HO_258000; clear HO_264000; clear HO_271000; clear BK244; clear BK257; clear BK263; clear BK270; clear HB; have HO_258000 := n0_; have HO_264000 := n1_; have HO_271000 := n2_; have BK244 := n3_; have BK257 := n4_; have BK263 := n5_; have BK270 := n6_; have HB := n7_; clear n0_ n1_ n2_ n3_ n4_ n5_ n6_ n7_; (try clear hb); (try clear hkp); (try clear hy0); have hcz175_0 : w174.cell? ⟨gb270, 0, none⟩ = some (.slice Ao34 t264.length co34) := (blk_cell BK270.out 0).trans rfl; have hcz175_1 : w174.cell? ⟨gb270, 1, none⟩ = some (.int .i64 t267) := (blk_cell BK270.out 1).trans rfl; have hcz175_2 : w174.cell? ⟨gb270, 2, none⟩ = some (.int .i64 t268) := (blk_cell BK270.out 2).trans rfl; have hfz175_0 := blk_frozen BK270.out 0; have hfz175_1 := blk_frozen BK270.out 1; have hfz175_2 := blk_frozen BK270.out 2) | ((with_reducible refine gate_callee (f := 25) rfl ?_); refine goesL_ (some 75) rfl rfl Try.func25 (by kernel_rfl) rfl #[.agg #[.slice Ao34 t282.length co34, .int .i64 t267, .int .i64 t268], .int .i64 1] rfl (by (try simp only [List.map_toArray, List.map_cons, List.map_nil]); first | done | (rw [show t282.length = t264.length from (Kd.R_reads' HO_271000.out).1.symm] <;> rfl) | rfl | (simp only [List.length_drop, List.length_take]; rfl)) ?_; (with_reducible refine (laws_heldPuzzle.calls kj61 _ _ t282 t267 t268 1 t283 _ ?side1 ?side2 A93.out).mono ?_); (case side1 => repeat (first | exact (Kd.R_reads' HO_271000.out).2.2 | (with_reducible refine Kd.C_alloc ?_ _) | (with_reducible refine Kd.C_drewN ?_ _) | (with_reducible refine Kd.C_drew ?_))); (case side2 => rw [show t282.length = t264.length from (Kd.R_reads' HO_271000.out).1.symm]; exact (Kd.R_reads' HO_271000.out).2.1); rintro e w176 ⟨rfl, hb⟩; refine ⟨_, rfl, ?_⟩; have n0_ := Aside0.mk (Kd.R_below (by (with_reducible repeat (first | apply Kd.R_alloc | apply Kd.R_drewN | apply Kd.R_drew)); exact HO_258000.out) hb); have n1_ := Aside0.mk (Kd.R_below (by (with_reducible repeat (first | apply Kd.R_alloc | apply Kd.R_drewN | apply Kd.R_drew)); exact HO_264000.out) hb); have n2_ := Aside0.mk (Kd.R_below (by (with_reducible repeat (first | apply Kd.R_alloc | apply Kd.R_drewN | apply Kd.R_drew)); exact HO_271000.out) hb); have n3_ := Aside0.mk (blk_below (g := gb244) (o := .cells #[.slice A0_0 l0_0.length c0_0, .int .i64 a0_1, .int .i64 a0_2] 24 (0, 0)) (by (with_reducible repeat (first | refine blk_drewN ?_ _ | refine blk_drew ?_ | refine blk_alloc ?_ _)); exact BK244.out) hb); have n4_ := Aside0.mk (blk_below (g := gb257) (o := .cells #[.slice Ao22 t251.length co22, .int .i64 t254, .int .i64 t255] 27 (0, 0)) (by (with_reducible repeat (first | refine blk_drewN ?_ _ | refine blk_drew ?_ | refine blk_alloc ?_ _)); exact BK257.out) hb); have n5_ := Aside0.mk (blk_below (g := gb263) (o := .cells #[.slice Ao28 t279.length co28, .int .i64 t261, .int .i64 t262] 27 (0, 0)) (by (with_reducible repeat (first | refine blk_drewN ?_ _ | refine blk_drew ?_ | refine blk_alloc ?_ _)); exact BK263.out) hb); have n6_ := Aside0.mk (blk_below (g := gb270) (o := .cells #[.slice Ao34 t264.length co34, .int .i64 t267, .int .i64 t268] 27 (0, 0)) (by (with_reducible repeat (first | refine blk_drewN ?_ _ | refine blk_drew ?_ | refine blk_alloc ?_ _)); exact BK270.out) hb); have n7_ := Aside0.mk (below_step (by repeat (first | (with_reducible first | exact HB.out | apply below_alloc | apply pw_below_drewN | apply below_drew1 | refine below_set ?_ GE244.out | refine below_set ?_ GE257.out | refine below_set ?_ GE263.out | refine below_set ?_ GE270.out) | exact HB.out)) hb); clear HO_258000; clear HO_264000; clear HO_271000; clear BK244; clear BK257; clear BK263; clear BK270; clear HB; have HO_258000 := n0_; have HO_264000 := n1_; have HO_271000 := n2_; have BK244 := n3_; have BK257 := n4_; have BK263 := n5_; have BK270 := n6_; have HB := n7_; clear n0_ n1_ n2_ n3_ n4_ n5_ n6_ n7_; (try clear hb); (try clear hb2); (try clear hk); (try clear hi)))
                      go_ret
                      exact ⟨by first | rfl | (simp [errW_none, errW_some] <;> rfl) | (simp [*, errW_none, errW_some] <;> rfl), by repeat (first | (with_reducible first | exact HB.out | apply below_alloc | apply pw_below_drewN | apply below_drew1 | refine below_set ?_ GE244.out | refine below_set ?_ GE257.out | refine below_set ?_ GE263.out | refine below_set ?_ GE270.out) | exact HB.out)⟩
          · replace c60 := Bool.eq_false_iff.mpr c60
            subst c60
            have H1 : (some false) = some r := by rw [if_neg (show ¬ (false = true) by decide)] at H; exact H
            clear H
            have H := H1
            clear H1
            obtain rfl := Option.some.inj H
            try go_wp2
            have n0_ := Aside0.mk (Kd.R_drew HO_258000.out)
            have n1_ := Aside0.mk (Kd.R_drew HO_264000.out)
            have n2_ := Aside0.mk (Kd.R_drew HO_271000.out)
            have n3_ := Aside0.mk (blk_drew BK244.out)
            have n4_ := Aside0.mk (blk_drew BK257.out)
            have n5_ := Aside0.mk (blk_drew BK263.out)
            have n6_ := Aside0.mk (blk_drew BK270.out)
            have n7_ := Aside0.mk (below_drew1 HB.out)
            clear HO_258000
            clear HO_264000
            clear HO_271000
            clear BK244
            clear BK257
            clear BK263
            clear BK270
            clear HB
            have HO_258000 := n0_
            have HO_264000 := n1_
            have HO_271000 := n2_
            have BK244 := n3_
            have BK257 := n4_
            have BK263 := n5_
            have BK270 := n6_
            have HB := n7_
            clear n0_ n1_ n2_ n3_ n4_ n5_ n6_ n7_
            refine start_ (n := 5) (S := fun w' => w'.cell? ⟨gb263, 0, none⟩ = some (.slice Ao28 t258.length co28) ∧ w'.cell? ⟨gb263, 1, none⟩ = some (.int .i64 t261) ∧ w'.cell? ⟨gb263, 2, none⟩ = some (.int .i64 t262) ∧ w'.cell? ⟨gb244, 0, none⟩ = some (.slice A0_0 l0_0.length c0_0) ∧ w'.cell? ⟨gb244, 1, none⟩ = some (.int .i64 a0_1) ∧ w'.cell? ⟨gb244, 2, none⟩ = some (.int .i64 a0_2)) (ds := []) #[false, false, false, false, false] (by kernel_rfl) rfl rfl ⟨(blk_cell BK263.out 0).trans rfl, (blk_cell BK263.out 1).trans rfl, (blk_cell BK263.out 2).trans rfl, (blk_cell BK244.out 0).trans rfl, (blk_cell BK244.out 1).trans rfl, (blk_cell BK244.out 2).trans rfl⟩ (fun hHeld => ?_)
            generalize wc.drew = w177 at HO_258000 HO_264000 HO_271000 BK244 BK257 BK263 BK270 HB hHeld ⊢
            refine take_ (i := 0) (N := some 49) (v := ?_) (a' := ?_) #[true, false, false, false, false] rfl rfl (by kernel_rfl) (fun _ _ _ h => h) (Or.inl ⟨by rfl, ?_⟩) hHeld ?_ ?_
            rotate_left
            · rintro w' ⟨s0, s1, s2, s3, s4, s5⟩
              go_simp
              with_reducible rfl
            rotate_left
            · simp only [Act.put, List.setIfInBounds_toArray, List.set_cons_zero, List.set_cons_succ, i64_w, i32_w]
              rfl
            refine take_ (i := 1) (N := some 50) (v := ?_) (a' := ?_) #[true, true, false, false, false] rfl rfl (by kernel_rfl) (fun _ _ _ h => h) (Or.inl ⟨by rfl, ?_⟩) hHeld ?_ ?_
            rotate_left
            · rintro w' ⟨s0, s1, s2, s3, s4, s5⟩
              go_simp
              with_reducible rfl
            rotate_left
            · simp only [Act.put, List.setIfInBounds_toArray, List.set_cons_zero, List.set_cons_succ, i64_w, i32_w]
              rfl
            refine one_ (i := 2) (N := some 51) #[true, true, true, false, false] rfl rfl (by kernel_rfl) (by decide) (fun K hK => ?_)
            refine goes_ Try.func17 (by kernel_rfl) rfl #[.agg #[.slice A0_0 l0_0.length c0_0, .int .i64 a0_1, .int .i64 a0_2]] (by rfl) rfl rfl (by (try simp only [List.map_toArray, List.map_cons, List.map_nil]); first | done | rfl | (simp only [List.length_drop, List.length_take]; rfl)) ?_
            with_reducible refine (laws_toPuzzle.calls kj12 _ _ l0_0 a0_1 a0_2 t272 t275 t276 _ ?side1 ?side2 A58.out).mono ?_
            (case side1 => repeat (first | exact (Kd.C_below HR0_0.out HB.out) | (with_reducible refine Kd.C_alloc ?_ _) | (with_reducible refine Kd.C_drewN ?_ _) | (with_reducible refine Kd.C_drew ?_)))
            (case side2 => exact HC0_0.out)
            rintro e w178 ⟨v273, rfl, ho0, hb⟩
            refine ⟨_, rfl, ?_⟩
            have n0_ := Aside0.mk (Kd.R_elder' (by (with_reducible repeat (first | apply Kd.R_alloc | apply Kd.R_drewN | apply Kd.R_drew)); exact HO_258000.out) (Kd.R_base ho0) hb)
            have n1_ := Aside0.mk (Kd.R_elder' (by (with_reducible repeat (first | apply Kd.R_alloc | apply Kd.R_drewN | apply Kd.R_drew)); exact HO_264000.out) (Kd.R_base ho0) hb)
            have n2_ := Aside0.mk (Kd.R_elder' (by (with_reducible repeat (first | apply Kd.R_alloc | apply Kd.R_drewN | apply Kd.R_drew)); exact HO_271000.out) (Kd.R_base ho0) hb)
            have n3_ := Aside0.mk (Kd.R_lower (Kd.R_new' (Kd.R_new' (Kd.R_new' ho0 (Kd.R_lt (by (with_reducible repeat (first | apply Kd.R_alloc | apply Kd.R_drewN | apply Kd.R_drew)); exact HO_258000.out))) (Kd.R_lt (by (with_reducible repeat (first | apply Kd.R_alloc | apply Kd.R_drewN | apply Kd.R_drew)); exact HO_264000.out))) (Kd.R_lt (by (with_reducible repeat (first | apply Kd.R_alloc | apply Kd.R_drewN | apply Kd.R_drew)); exact HO_271000.out))) (below_size (by repeat (first | (with_reducible first | exact HB.out | apply below_alloc | apply pw_below_drewN | apply below_drew1 | refine below_set ?_ GE244.out | refine below_set ?_ GE257.out | refine below_set ?_ GE263.out | refine below_set ?_ GE270.out) | exact HB.out))))
            have n4_ := Aside0.mk (blk_below (g := gb244) (o := .cells #[.slice A0_0 l0_0.length c0_0, .int .i64 a0_1, .int .i64 a0_2] 24 (0, 0)) (by (with_reducible repeat (first | refine blk_drewN ?_ _ | refine blk_drew ?_ | refine blk_alloc ?_ _)); exact BK244.out) hb)
            have n5_ := Aside0.mk (blk_below (g := gb257) (o := .cells #[.slice Ao22 t251.length co22, .int .i64 t254, .int .i64 t255] 27 (0, 0)) (by (with_reducible repeat (first | refine blk_drewN ?_ _ | refine blk_drew ?_ | refine blk_alloc ?_ _)); exact BK257.out) hb)
            have n6_ := Aside0.mk (blk_below (g := gb263) (o := .cells #[.slice Ao28 t258.length co28, .int .i64 t261, .int .i64 t262] 27 (0, 0)) (by (with_reducible repeat (first | refine blk_drewN ?_ _ | refine blk_drew ?_ | refine blk_alloc ?_ _)); exact BK263.out) hb)
            have n7_ := Aside0.mk (blk_below (g := gb270) (o := .cells #[.slice Ao34 t264.length co34, .int .i64 t267, .int .i64 t268] 27 (0, 0)) (by (with_reducible repeat (first | refine blk_drewN ?_ _ | refine blk_drew ?_ | refine blk_alloc ?_ _)); exact BK270.out) hb)
            have n8_ := Aside0.mk (below_step (by repeat (first | (with_reducible first | exact HB.out | apply below_alloc | apply pw_below_drewN | apply below_drew1 | refine below_set ?_ GE244.out | refine below_set ?_ GE257.out | refine below_set ?_ GE263.out | refine below_set ?_ GE270.out) | exact HB.out)) hb)
            clear HO_258000
            clear HO_264000
            clear HO_271000
            clear BK244
            clear BK257
            clear BK263
            clear BK270
            clear HB
            have HO_258000 := n0_
            have HO_264000 := n1_
            have HO_271000 := n2_
            have HO274 := n3_
            have BK244 := n4_
            have BK257 := n5_
            have BK263 := n6_
            have BK270 := n7_
            have HB := n8_
            clear n0_ n1_ n2_ n3_ n4_ n5_ n6_ n7_ n8_
            (try clear hb)
            (try clear hb2)
            (try clear hk)
            (try clear hi)
            (try clear ho0)
            obtain ⟨Ao179, co179, eo179⟩ := Kd.R_slice HO274.out
            (first | subst eo179 | (injection eo179 with f1_ f2_ f3_; have f4_ := f1_.symm; have f5_ := f3_.symm; clear f1_ f2_ f3_; subst f4_; subst f5_))
            refine hK.out _ _ ⟨(blk_cell BK263.out 0).trans rfl, (blk_cell BK263.out 1).trans rfl, (blk_cell BK263.out 2).trans rfl, (blk_cell BK244.out 0).trans rfl, (blk_cell BK244.out 1).trans rfl, (blk_cell BK244.out 2).trans rfl⟩ (fun hHeld => ?_)
            clear hK K
            refine norm_ (a' := ?_) ?_ ?_
            rotate_left
            · show Act.put _ (some 51) _ = _
              simp only [Act.put, List.setIfInBounds_toArray, List.set_cons_zero, List.set_cons_succ, i64_w, i32_w]
              rfl
            refine one_ (i := 3) (N := some 52) #[true, true, true, true, false] rfl rfl (by kernel_rfl) (by decide) (fun K hK => ?_)
            refine goes_ Try.func19 (by kernel_rfl) rfl #[.agg #[.slice Ao28 t258.length co28, .int .i64 t261, .int .i64 t262], .agg #[.slice Ao179 t272.length co179, .int .i64 t275, .int .i64 t276]] (by rfl) rfl rfl (by (try simp only [List.map_toArray, List.map_cons, List.map_nil]); first | done | rfl | (simp only [List.length_drop, List.length_take]; rfl)) ?_
            with_reducible refine (laws_eqPuzzle.calls kj12 _ _ t258 t261 t262 _ _ t272 t275 t276 false _ ?side1 ?side2 ?side3 ?side4 A59.out).mono ?_
            (case side1 => repeat (first | exact (Kd.R_reads' HO_264000.out).2.2 | (with_reducible refine Kd.C_alloc ?_ _) | (with_reducible refine Kd.C_drewN ?_ _) | (with_reducible refine Kd.C_drew ?_)))
            (case side2 => exact (Kd.R_reads' HO_264000.out).2.1)
            (case side3 => repeat (first | exact (Kd.R_reads' HO274.out).2.2 | (with_reducible refine Kd.C_alloc ?_ _) | (with_reducible refine Kd.C_drewN ?_ _) | (with_reducible refine Kd.C_drew ?_)))
            (case side4 => exact (Kd.R_reads' HO274.out).2.1)
            rintro e w180 ⟨rfl, hb⟩
            refine ⟨_, rfl, ?_⟩
            have n0_ := Aside0.mk (Kd.R_below (by (with_reducible repeat (first | apply Kd.R_alloc | apply Kd.R_drewN | apply Kd.R_drew)); exact HO_258000.out) hb)
            have n1_ := Aside0.mk (Kd.R_below (by (with_reducible repeat (first | apply Kd.R_alloc | apply Kd.R_drewN | apply Kd.R_drew)); exact HO_264000.out) hb)
            have n2_ := Aside0.mk (Kd.R_below (by (with_reducible repeat (first | apply Kd.R_alloc | apply Kd.R_drewN | apply Kd.R_drew)); exact HO_271000.out) hb)
            have n3_ := Aside0.mk (Kd.R_below (by (with_reducible repeat (first | apply Kd.R_alloc | apply Kd.R_drewN | apply Kd.R_drew)); exact HO274.out) hb)
            have n4_ := Aside0.mk (blk_below (g := gb244) (o := .cells #[.slice A0_0 l0_0.length c0_0, .int .i64 a0_1, .int .i64 a0_2] 24 (0, 0)) (by (with_reducible repeat (first | refine blk_drewN ?_ _ | refine blk_drew ?_ | refine blk_alloc ?_ _)); exact BK244.out) hb)
            have n5_ := Aside0.mk (blk_below (g := gb257) (o := .cells #[.slice Ao22 t251.length co22, .int .i64 t254, .int .i64 t255] 27 (0, 0)) (by (with_reducible repeat (first | refine blk_drewN ?_ _ | refine blk_drew ?_ | refine blk_alloc ?_ _)); exact BK257.out) hb)
            have n6_ := Aside0.mk (blk_below (g := gb263) (o := .cells #[.slice Ao28 t258.length co28, .int .i64 t261, .int .i64 t262] 27 (0, 0)) (by (with_reducible repeat (first | refine blk_drewN ?_ _ | refine blk_drew ?_ | refine blk_alloc ?_ _)); exact BK263.out) hb)
            have n7_ := Aside0.mk (blk_below (g := gb270) (o := .cells #[.slice Ao34 t264.length co34, .int .i64 t267, .int .i64 t268] 27 (0, 0)) (by (with_reducible repeat (first | refine blk_drewN ?_ _ | refine blk_drew ?_ | refine blk_alloc ?_ _)); exact BK270.out) hb)
            have n8_ := Aside0.mk (below_step (by repeat (first | (with_reducible first | exact HB.out | apply below_alloc | apply pw_below_drewN | apply below_drew1 | refine below_set ?_ GE244.out | refine below_set ?_ GE257.out | refine below_set ?_ GE263.out | refine below_set ?_ GE270.out) | exact HB.out)) hb)
            clear HO_258000
            clear HO_264000
            clear HO_271000
            clear HO274
            clear BK244
            clear BK257
            clear BK263
            clear BK270
            clear HB
            have HO_258000 := n0_
            have HO_264000 := n1_
            have HO_271000 := n2_
            have HO274 := n3_
            have BK244 := n4_
            have BK257 := n5_
            have BK263 := n6_
            have BK270 := n7_
            have HB := n8_
            clear n0_ n1_ n2_ n3_ n4_ n5_ n6_ n7_ n8_
            (try clear hb)
            (try clear hb2)
            (try clear hk)
            (try clear hi)
            refine hK.out _ _ ⟨(blk_cell BK263.out 0).trans rfl, (blk_cell BK263.out 1).trans rfl, (blk_cell BK263.out 2).trans rfl, (blk_cell BK244.out 0).trans rfl, (blk_cell BK244.out 1).trans rfl, (blk_cell BK244.out 2).trans rfl⟩ (fun hHeld => ?_)
            clear hK K
            refine norm_ (a' := ?_) ?_ ?_
            rotate_left
            · show Act.put _ (some 52) _ = _
              simp only [Act.put, List.setIfInBounds_toArray, List.set_cons_zero, List.set_cons_succ, i64_w, i32_w]
              rfl
            refine pure_ (i := 4) (N := some 53) (v := ?_) (a' := ?_) #[true, true, true, true, true] rfl rfl (by kernel_rfl) (fun _ _ _ h => h) (Or.inl ⟨by rfl, ?_⟩) ?_ ?_
            rotate_left
            · intro w'
              go_simp
              with_reducible rfl
            rotate_left
            · simp only [Act.put, List.setIfInBounds_toArray, List.set_cons_zero, List.set_cons_succ, i64_w, i32_w]
              rfl
            refine done_ (by kernel_rfl) ?_
            try go_wp2
            go_ret
            exact ⟨by first | rfl | (simp [errW_none, errW_some] <;> rfl) | (simp [*, errW_none, errW_some] <;> rfl), by repeat (first | (with_reducible first | exact HB.out | apply below_alloc | apply pw_below_drewN | apply below_drew1 | refine below_set ?_ GE244.out | refine below_set ?_ GE257.out | refine below_set ?_ GE263.out | refine below_set ?_ GE270.out) | exact HB.out)⟩

/-- The statement of laws_FnExactFillGap over numbers and lists. -/
def laws_FnExactFillGap.Pure : Prop := ∀ (l0_0 : List Int) (a0_1 : Int) (a0_2 : Int) (a1 : Int) (a2 : Int), l0_0.length ≤ maxLen → l0_0.length * 8 ≤ 140737488351232 → (∀ x ∈ l0_0, (Lit.int .i64 x).wf = true) → (Lit.int .i64 a0_1).wf = true → (Lit.int .i64 a0_2).wf = true → (Lit.int .i64 a1).wf = true → (Lit.int .i64 a2).wf = true → ∃ k, laws_FnExactFillGap.f k l0_0 a0_1 a0_2 a1 a2 = some true
theorem laws_FnExactFillGap.walk (P : laws_FnExactFillGap.Pure) (a0_0 : Option Addr) (len0_0 cap0_0 : Nat) (z0_0 : List Int) (a0_1 : Int) (a0_2 : Int) (a1 : Int) (a2 : Int) (w : World) (w0_0 : (a0_0 = none ∧ len0_0 = 0 ∧ cap0_0 = 0 ∧ z0_0 = []) ∨ ∃ x, a0_0 = some x ∧ len0_0 ≤ cap0_0 ∧ cap0_0 ≤ maxLen ∧ z0_0.length = cap0_0 ∧ (∀ i, i < z0_0.length → w.cell? (x.add i) = some (.int .i64 (z0_0.getD i 0))) ∧ ∀ n ∈ z0_0, (Lit.int .i64 n).wf = true) (y0_0 : len0_0 * 8 ≤ 140737488351232) (w0_1 : (Lit.int .i64 a0_1).wf = true) (w0_2 : (Lit.int .i64 a0_2).wf = true) (w1 : (Lit.int .i64 a1).wf = true) (w2 : (Lit.int .i64 a2).wf = true) :
    Calls Try.prog 5 #[.agg #[.slice a0_0 len0_0 cap0_0, .int .i64 a0_1, .int .i64 a0_2], .int .i64 a1, .int .i64 a2] w fun e w' => e = .returned (.bool true) ∧ Below w.heap.size w w' := by
  obtain ⟨l0_0, rfl, hr0_0, hm0_0, hw0_0, hc0_0⟩ := ReadsInt.ofRowC w0_0
  obtain ⟨k, h⟩ := P l0_0 a0_1 a0_2 a1 a2 hm0_0 y0_0 hw0_0 w0_1 w0_2 w1 w2
  refine (laws_FnExactFillGap.calls k _ _ l0_0 a0_1 a0_2 a1 a2 true w (Kd.C_of_reads (d := (0 : Int)) (h1 := fun _ => rfl) hr0_0) hc0_0 h).mono ?_
  rintro e w' ⟨rfl, hd⟩
  exact ⟨rfl, hd⟩

noncomputable def laws_FnExactFillGap.J0 (x1 : Int) (x2 : Int) (x9 : Bool) (x12 : Bool) (x48 : Bool) (x245000 : List Int) (x245001 : Int) (x245002 : Int) (x258000 : List Int) (x258001 : Int) (x258002 : Int) (x264000 : List Int) (x264001 : Int) (x264002 : Int) (x271000 : List Int) (x271001 : Int) (x271002 : Int) : Option (Bool) := lim fun k => laws_FnExactFillGap.j0 k x1 x2 x9 x12 x48 x245000 x245001 x245002 x258000 x258001 x258002 x264000 x264001 x264002 x271000 x271001 x271002
theorem laws_FnExactFillGap.J0_lim (x1 : Int) (x2 : Int) (x9 : Bool) (x12 : Bool) (x48 : Bool) (x245000 : List Int) (x245001 : Int) (x245002 : Int) (x258000 : List Int) (x258001 : Int) (x258002 : Int) (x264000 : List Int) (x264001 : Int) (x264002 : Int) (x271000 : List Int) (x271001 : Int) (x271002 : Int) : Lim (fun k => laws_FnExactFillGap.j0 k x1 x2 x9 x12 x48 x245000 x245001 x245002 x258000 x258001 x258002 x264000 x264001 x264002 x271000 x271001 x271002) (laws_FnExactFillGap.J0 x1 x2 x9 x12 x48 x245000 x245001 x245002 x258000 x258001 x258002 x264000 x264001 x264002 x271000 x271001 x271002) := Lim.of fun k => (laws_FnExactFillGap.mono_l k).1 x1 x2 x9 x12 x48 x245000 x245001 x245002 x258000 x258001 x258002 x264000 x264001 x264002 x271000 x271001 x271002
noncomputable def laws_FnExactFillGap.J1 (x1 : Int) (x2 : Int) (x9 : Bool) (x69 : Bool) (x245000 : List Int) (x245001 : Int) (x245002 : Int) (x258000 : List Int) (x258001 : Int) (x258002 : Int) (x271000 : List Int) (x271001 : Int) (x271002 : Int) : Option (Bool) := lim fun k => laws_FnExactFillGap.j1 k x1 x2 x9 x69 x245000 x245001 x245002 x258000 x258001 x258002 x271000 x271001 x271002
theorem laws_FnExactFillGap.J1_lim (x1 : Int) (x2 : Int) (x9 : Bool) (x69 : Bool) (x245000 : List Int) (x245001 : Int) (x245002 : Int) (x258000 : List Int) (x258001 : Int) (x258002 : Int) (x271000 : List Int) (x271001 : Int) (x271002 : Int) : Lim (fun k => laws_FnExactFillGap.j1 k x1 x2 x9 x69 x245000 x245001 x245002 x258000 x258001 x258002 x271000 x271001 x271002) (laws_FnExactFillGap.J1 x1 x2 x9 x69 x245000 x245001 x245002 x258000 x258001 x258002 x271000 x271001 x271002) := Lim.of fun k => (laws_FnExactFillGap.mono_l k).2.1 x1 x2 x9 x69 x245000 x245001 x245002 x258000 x258001 x258002 x271000 x271001 x271002
noncomputable def laws_FnExactFillGap.J2 (x14 : Int) (x97 : Bool) (x271000 : List Int) (x271001 : Int) (x271002 : Int) : Option (Bool) := lim fun k => laws_FnExactFillGap.j2 k x14 x97 x271000 x271001 x271002
theorem laws_FnExactFillGap.J2_lim (x14 : Int) (x97 : Bool) (x271000 : List Int) (x271001 : Int) (x271002 : Int) : Lim (fun k => laws_FnExactFillGap.j2 k x14 x97 x271000 x271001 x271002) (laws_FnExactFillGap.J2 x14 x97 x271000 x271001 x271002) := Lim.of fun k => (laws_FnExactFillGap.mono_l k).2.2 x14 x97 x271000 x271001 x271002
noncomputable def laws_FnExactFillGap.F (l0_0 : List Int) (a0_1 : Int) (a0_2 : Int) (a1 : Int) (a2 : Int) : Option (Bool) := lim fun k => laws_FnExactFillGap.f k l0_0 a0_1 a0_2 a1 a2
theorem laws_FnExactFillGap.F_lim (l0_0 : List Int) (a0_1 : Int) (a0_2 : Int) (a1 : Int) (a2 : Int) : Lim (fun k => laws_FnExactFillGap.f k l0_0 a0_1 a0_2 a1 a2) (laws_FnExactFillGap.F l0_0 a0_1 a0_2 a1 a2) := Lim.of fun k => laws_FnExactFillGap.mono l0_0 a0_1 a0_2 a1 a2 k
theorem laws_FnExactFillGap.J0_eq (x1 : Int) (x2 : Int) (x9 : Bool) (x12 : Bool) (x48 : Bool) (x245000 : List Int) (x245001 : Int) (x245002 : Int) (x258000 : List Int) (x258001 : Int) (x258002 : Int) (x264000 : List Int) (x264001 : Int) (x264002 : Int) (x271000 : List Int) (x271001 : Int) (x271002 : Int) : laws_FnExactFillGap.J0 x1 x2 x9 x12 x48 x245000 x245001 x245002 x258000 x258001 x258002 x264000 x264001 x264002 x271000 x271001 x271002 = (if x48 = true then (some false) else ((laws_toPuzzle.F x245000 x245001 x245002).bind fun bt272 => ((laws_eqPuzzle.F x264000 x264001 x264002 bt272.1 bt272.2.1 bt272.2.2).bind fun t277 => (if t277 = true then ((laws_markPuzzle.F x264000 x264001 x264002 1).bind fun bt278 => (if bt278.1 < 0 then (laws_FnExactFillGap.J1 x1 x2 x9 true x245000 x245001 x245002 x258000 x258001 x258002 x271000 x271001 x271002) else ((laws_eqPuzzle.F x271000 x271001 x271002 x258000 x258001 x258002).bind fun t280 => (if t280 = true then (laws_FnExactFillGap.J1 x1 x2 x9 (x12 != x9) x245000 x245001 x245002 x258000 x258001 x258002 x271000 x271001 x271002) else (laws_FnExactFillGap.J1 x1 x2 x9 true x245000 x245001 x245002 x258000 x258001 x258002 x271000 x271001 x271002))))) else (some false))))) :=
  Lim.step (f := fun k => (if x48 = true then (some false) else ((laws_toPuzzle.f k x245000 x245001 x245002).bind fun bt272 => ((laws_eqPuzzle.f k x264000 x264001 x264002 bt272.1 bt272.2.1 bt272.2.2).bind fun t277 => (if t277 = true then ((laws_markPuzzle.f k x264000 x264001 x264002 1).bind fun bt278 => (if bt278.1 < 0 then (laws_FnExactFillGap.j1 k x1 x2 x9 true x245000 x245001 x245002 x258000 x258001 x258002 x271000 x271001 x271002) else ((laws_eqPuzzle.f k x271000 x271001 x271002 x258000 x258001 x258002).bind fun t280 => (if t280 = true then (laws_FnExactFillGap.j1 k x1 x2 x9 (x12 != x9) x245000 x245001 x245002 x258000 x258001 x258002 x271000 x271001 x271002) else (laws_FnExactFillGap.j1 k x1 x2 x9 true x245000 x245001 x245002 x258000 x258001 x258002 x271000 x271001 x271002))))) else (some false)))))) (laws_FnExactFillGap.J0_lim x1 x2 x9 x12 x48 x245000 x245001 x245002 x258000 x258001 x258002 x264000 x264001 x264002 x271000 x271001 x271002) (fun k => by first | rfl | rw [laws_FnExactFillGap.j0]) (by
    repeat' first
    | (with_reducible exact Lim.const _)
    | (with_reducible exact laws_FnExactFillGap.J1_lim _ _ _ _ _ _ _ _ _ _ _ _ _)
    | (with_reducible exact laws_eqPuzzle.F_lim _ _ _ _ _ _)
    | (with_reducible exact laws_markPuzzle.F_lim _ _ _ _)
    | (with_reducible exact laws_toPuzzle.F_lim _ _ _)
    | (with_reducible refine Lim.ite ?_ ?_)
    | (with_reducible refine Lim.bind ?_ (fun _ => ?_)))
theorem laws_FnExactFillGap.J1_eq (x1 : Int) (x2 : Int) (x9 : Bool) (x69 : Bool) (x245000 : List Int) (x245001 : Int) (x245002 : Int) (x258000 : List Int) (x258001 : Int) (x258002 : Int) (x271000 : List Int) (x271001 : Int) (x271002 : Int) : laws_FnExactFillGap.J1 x1 x2 x9 x69 x245000 x245001 x245002 x258000 x258001 x258002 x271000 x271001 x271002 = (if x69 = true then (some false) else ((laws_markPuzzle.F x271000 x271001 x271002 1).bind fun bt281 => ((laws_heldPuzzle.F bt281.2 x271001 x271002 1).bind fun t283 => (if t283 < 0 then (some false) else (if t283 = bt281.1 then ((laws_toPuzzle.F x245000 x245001 x245002).bind fun bt284 => ((impl_FillGap.F bt284.1 bt284.2.1 bt284.2.2 x1 x2).bind fun bt289 => ((laws_eqPuzzle.F bt289.1 bt289.2.1 bt289.2.2.1 x258000 x258001 x258002).bind fun t296 => (if t296 = true then (laws_FnExactFillGap.J2 bt281.1 (bt289.2.2.2 != x9) bt281.2 x271001 x271002) else (laws_FnExactFillGap.J2 bt281.1 true bt281.2 x271001 x271002))))) else (some false)))))) :=
  Lim.step (f := fun k => (if x69 = true then (some false) else ((laws_markPuzzle.f k x271000 x271001 x271002 1).bind fun bt281 => ((laws_heldPuzzle.f k bt281.2 x271001 x271002 1).bind fun t283 => (if t283 < 0 then (some false) else (if t283 = bt281.1 then ((laws_toPuzzle.f k x245000 x245001 x245002).bind fun bt284 => ((impl_FillGap.f k bt284.1 bt284.2.1 bt284.2.2 x1 x2).bind fun bt289 => ((laws_eqPuzzle.f k bt289.1 bt289.2.1 bt289.2.2.1 x258000 x258001 x258002).bind fun t296 => (if t296 = true then (laws_FnExactFillGap.j2 k bt281.1 (bt289.2.2.2 != x9) bt281.2 x271001 x271002) else (laws_FnExactFillGap.j2 k bt281.1 true bt281.2 x271001 x271002))))) else (some false))))))) (laws_FnExactFillGap.J1_lim x1 x2 x9 x69 x245000 x245001 x245002 x258000 x258001 x258002 x271000 x271001 x271002) (fun k => by first | rfl | rw [laws_FnExactFillGap.j1]) (by
    repeat' first
    | (with_reducible exact Lim.const _)
    | (with_reducible exact impl_FillGap.F_lim _ _ _ _ _)
    | (with_reducible exact laws_FnExactFillGap.J2_lim _ _ _ _ _)
    | (with_reducible exact laws_eqPuzzle.F_lim _ _ _ _ _ _)
    | (with_reducible exact laws_heldPuzzle.F_lim _ _ _ _)
    | (with_reducible exact laws_markPuzzle.F_lim _ _ _ _)
    | (with_reducible exact laws_toPuzzle.F_lim _ _ _)
    | (with_reducible refine Lim.ite ?_ ?_)
    | (with_reducible refine Lim.bind ?_ (fun _ => ?_)))
theorem laws_FnExactFillGap.J2_eq (x14 : Int) (x97 : Bool) (x271000 : List Int) (x271001 : Int) (x271002 : Int) : laws_FnExactFillGap.J2 x14 x97 x271000 x271001 x271002 = (if x97 = true then (some false) else ((laws_heldPuzzle.F x271000 x271001 x271002 1).bind fun t297 => (if t297 < 0 then (some false) else (if t297 = x14 then (some true) else (some false))))) :=
  Lim.step (f := fun k => (if x97 = true then (some false) else ((laws_heldPuzzle.f k x271000 x271001 x271002 1).bind fun t297 => (if t297 < 0 then (some false) else (if t297 = x14 then (some true) else (some false)))))) (laws_FnExactFillGap.J2_lim x14 x97 x271000 x271001 x271002) (fun k => by first | rfl | rw [laws_FnExactFillGap.j2]) (by
    repeat' first
    | (with_reducible exact Lim.const _)
    | (with_reducible exact laws_heldPuzzle.F_lim _ _ _ _)
    | (with_reducible refine Lim.ite ?_ ?_)
    | (with_reducible refine Lim.bind ?_ (fun _ => ?_)))
theorem laws_FnExactFillGap.F_eq (l0_0 : List Int) (a0_1 : Int) (a0_2 : Int) (a1 : Int) (a2 : Int) : laws_FnExactFillGap.F l0_0 a0_1 a0_2 a1 a2 = ((laws_szPuzzle.f l0_0 a0_1 a0_2 1048576).bind fun t245 => (if t245 < 0 then (some true) else ((laws_toPuzzle.F l0_0 a0_1 a0_2).bind fun bt246 => ((spec_FillGap.F bt246.1 bt246.2.1 bt246.2.2 a1 a2).bind fun bt251 => ((laws_toPuzzle.F l0_0 a0_1 a0_2).bind fun bt258 => ((impl_FillGap.F bt258.1 bt258.2.1 bt258.2.2 a1 a2).bind fun bt264 => ((laws_eqPuzzle.F bt264.1 bt264.2.1 bt264.2.2.1 bt251.1 bt251.2.1 bt251.2.2.1).bind fun t271 => (if t271 = true then (laws_FnExactFillGap.J0 a1 a2 bt251.2.2.2 bt264.2.2.2 (bt264.2.2.2 != bt251.2.2.2) l0_0 a0_1 a0_2 bt251.1 bt251.2.1 bt251.2.2.1 bt258.1 bt258.2.1 bt258.2.2 bt264.1 bt264.2.1 bt264.2.2.1) else (laws_FnExactFillGap.J0 a1 a2 bt251.2.2.2 bt264.2.2.2 true l0_0 a0_1 a0_2 bt251.1 bt251.2.1 bt251.2.2.1 bt258.1 bt258.2.1 bt258.2.2 bt264.1 bt264.2.1 bt264.2.2.1))))))))) :=
  Lim.unique (laws_FnExactFillGap.F_lim l0_0 a0_1 a0_2 a1 a2) (by
    unfold laws_FnExactFillGap.f
    repeat' first
    | (with_reducible exact Lim.const _)
    | (with_reducible exact impl_FillGap.F_lim _ _ _ _ _)
    | (with_reducible exact laws_FnExactFillGap.J0_lim _ _ _ _ _ _ _ _ _ _ _ _ _ _ _ _ _)
    | (with_reducible exact laws_eqPuzzle.F_lim _ _ _ _ _ _)
    | (with_reducible exact laws_toPuzzle.F_lim _ _ _)
    | (with_reducible exact spec_FillGap.F_lim _ _ _ _ _)
    | (with_reducible refine Lim.ite ?_ ?_)
    | (with_reducible refine Lim.bind ?_ (fun _ => ?_)))

end Go.Proofs.Ytjfhcddahahdfaa.Fn
