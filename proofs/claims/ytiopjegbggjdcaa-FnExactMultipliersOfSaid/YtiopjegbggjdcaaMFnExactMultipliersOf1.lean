/- The machine's side and plain lemmas for FnExactMultipliersOf: texts of this session, merged by its program (part 1). -/
import Derived.Test.YtiopjegbggjdcaaMFnExactMultipliersOf0
namespace Go.Proofs.Ytiopjegbggjdcaa.Fn
open Go.RowKit Go.Proofs.YtiopjegbggjdcaaW.PrintWords Go.Proofs.YtiopjegbggjdcaaW.PrintLast Go.Proofs.YtiopjegbggjdcaaW.PrintMore
attribute [local go_sem] max2_int min2_int max_two min_two max_three min_three max_four min_four   -- for this text's walks alone
set_option linter.unusedVariables false
set_option linter.unusedSimpArgs false

/-! ### spec_MultipliersOf: function 38 -/
mutual
def spec_MultipliersOf.l0 : Nat → Int → List Int → List Int → Int → Option (List Int × Bool)
  | 0, _, _, _, _ => none
  | k + 1, x0, x1, x6, x7 => if x7 < x0 then ((spec_ciCommon.f k x7 x0).bind fun t733 => (if t733 = 1 then (spec_MultipliersOf.l1 k x0 x1 x6 x7 0) else (spec_MultipliersOf.l0 k x0 x1 x6 (wrap64 (x7 + 1))))) else (some (x6, true))
def spec_MultipliersOf.l1 : Nat → Int → List Int → List Int → Int → Int → Option (List Int × Bool)
  | 0, _, _, _, _, _ => none
  | k + 1, x0, x1, x6, x7, x8 => if x8 < x0 then ((spec_ciTimes.f k x0 x1 x7).bind fun t734 => ((spec_ciMove.f k x0 x1 x8).bind fun t737 => ((spec_l1Same.f k t734 t737).bind fun t740 => (if t740 = true then (if x6.length < 17592186044416 then (spec_MultipliersOf.l0 k x0 x1 (x6 ++ [x7]) (wrap64 (x7 + 1))) else (none)) else (spec_MultipliersOf.l1 k x0 x1 x6 x7 (wrap64 (x8 + 1))))))) else (spec_MultipliersOf.l0 k x0 x1 x6 (wrap64 (x7 + 1)))
end
def spec_MultipliersOf.f (k : Nat) (a0 : Int) (l1 : List Int) : Option (List Int × Bool) := (spec_ciGood.f k a0 l1).bind fun t732 => (if t732 = true then (spec_MultipliersOf.l0 k a0 l1 ([] : List Int) 1) else (some (([] : List Int), false)))
theorem spec_MultipliersOf.mono_l : ∀ k, (∀ y0 y1 y2 y3, LeO (spec_MultipliersOf.l0 k y0 y1 y2 y3) (spec_MultipliersOf.l0 (k + 1) y0 y1 y2 y3)) ∧ (∀ y0 y1 y2 y3 y4, LeO (spec_MultipliersOf.l1 k y0 y1 y2 y3 y4) (spec_MultipliersOf.l1 (k + 1) y0 y1 y2 y3 y4))
  | 0 => ⟨fun _ _ _ _ r h => by simp [spec_MultipliersOf.l0] at h, fun _ _ _ _ _ r h => by simp [spec_MultipliersOf.l1] at h⟩
  | k + 1 => by
    obtain ⟨ih0, ih1⟩ := spec_MultipliersOf.mono_l k
    refine ⟨?_, ?_⟩
    · intro y0 y1 y2 y3
      unfold spec_MultipliersOf.l0
      repeat' first
      | (with_reducible exact ih0 _ _ _ _)
      | (with_reducible exact ih1 _ _ _ _ _)
      | (with_reducible exact spec_ciCommon.mono _ _ _)
      | (with_reducible exact spec_ciGood.mono _ _ _)
      | (with_reducible exact spec_ciMove.mono _ _ _ _)
      | (with_reducible exact spec_ciTimes.mono _ _ _ _)
      | (with_reducible exact spec_l1Same.mono _ _ _)
      | (with_reducible exact LeO.refl _)
      | (with_reducible exact LeO.none _)
      | (with_reducible refine LeO.ite ?_ ?_)
      | (with_reducible refine LeO.bind ?_ (fun _ => ?_))
      | exact ih0 _ _ _ _
      | exact ih1 _ _ _ _ _
      | exact spec_ciCommon.mono _ _ _
      | exact spec_ciGood.mono _ _ _
      | exact spec_ciMove.mono _ _ _ _
      | exact spec_ciTimes.mono _ _ _ _
      | exact spec_l1Same.mono _ _ _
      | exact LeO.none _
      | refine LeO.ite ?_ ?_
      | refine LeO.bind ?_ (fun _ => ?_)
    · intro y0 y1 y2 y3 y4
      unfold spec_MultipliersOf.l1
      repeat' first
      | (with_reducible exact ih0 _ _ _ _)
      | (with_reducible exact ih1 _ _ _ _ _)
      | (with_reducible exact spec_ciCommon.mono _ _ _)
      | (with_reducible exact spec_ciGood.mono _ _ _)
      | (with_reducible exact spec_ciMove.mono _ _ _ _)
      | (with_reducible exact spec_ciTimes.mono _ _ _ _)
      | (with_reducible exact spec_l1Same.mono _ _ _)
      | (with_reducible exact LeO.refl _)
      | (with_reducible exact LeO.none _)
      | (with_reducible refine LeO.ite ?_ ?_)
      | (with_reducible refine LeO.bind ?_ (fun _ => ?_))
      | exact ih0 _ _ _ _
      | exact ih1 _ _ _ _ _
      | exact spec_ciCommon.mono _ _ _
      | exact spec_ciGood.mono _ _ _
      | exact spec_ciMove.mono _ _ _ _
      | exact spec_ciTimes.mono _ _ _ _
      | exact spec_l1Same.mono _ _ _
      | exact LeO.none _
      | refine LeO.ite ?_ ?_
      | refine LeO.bind ?_ (fun _ => ?_)
theorem spec_MultipliersOf.mono : ∀ a0 a1 k, LeO (spec_MultipliersOf.f k a0 a1) (spec_MultipliersOf.f (k + 1) a0 a1) := by
  intro a0 a1 k
  obtain ⟨ih0, ih1⟩ := spec_MultipliersOf.mono_l k
  unfold spec_MultipliersOf.f
  repeat' first
      | (with_reducible exact ih0 _ _ _ _)
      | (with_reducible exact ih1 _ _ _ _ _)
      | (with_reducible exact spec_ciCommon.mono _ _ _)
      | (with_reducible exact spec_ciGood.mono _ _ _)
      | (with_reducible exact spec_ciMove.mono _ _ _ _)
      | (with_reducible exact spec_ciTimes.mono _ _ _ _)
      | (with_reducible exact spec_l1Same.mono _ _ _)
      | (with_reducible exact LeO.refl _)
      | (with_reducible exact LeO.none _)
      | (with_reducible refine LeO.ite ?_ ?_)
      | (with_reducible refine LeO.bind ?_ (fun _ => ?_))
      | exact ih0 _ _ _ _
      | exact ih1 _ _ _ _ _
      | exact spec_ciCommon.mono _ _ _
      | exact spec_ciGood.mono _ _ _
      | exact spec_ciMove.mono _ _ _ _
      | exact spec_ciTimes.mono _ _ _ _
      | exact spec_l1Same.mono _ _ _
      | exact LeO.none _
      | refine LeO.ite ?_ ?_
      | refine LeO.bind ?_ (fun _ => ?_)
set_option maxHeartbeats 8000000 in
set_option maxRecDepth 100000 in
theorem spec_MultipliersOf.calls (k : Nat) (a0 : Int) (A1 : Option Addr) (c1 : Nat) (l1 : List Int) (r1 : List Int) (r2 : Bool) (w : World) (hr1 : Kd.C (Kd.int .i64) w A1 l1.length l1) (hc1 : l1.length ≤ c1) (h : spec_MultipliersOf.f k a0 l1 = some (r1, r2)) :
    Calls Try.prog 38 #[.int .i64 a0, .slice A1 l1.length c1] w fun e w' => ∃ v0_ : Value, e = .returned (.tuple #[v0_, .bool r2]) ∧ Kd.R (Kd.int .i64) 3 w' w.heap.size (fun _ => True) v0_ r1 ∧ Below w.heap.size w w' := by
  have HR1 := Aside0.mk hr1
  have HC1 := Aside0.mk hc1
  clear hr1 hc1
  have HB := Aside0.mk (Below.refl w.heap.size w)
  have H : ((spec_ciGood.f k a0 l1).bind fun t732 => (if t732 = true then (spec_MultipliersOf.l0 k a0 l1 ([] : List Int) 1) else (some (([] : List Int), false)))) = some (r1, r2) := h
  clear h
  replace H := Option.bind_eq_some_iff.mp H
  obtain ⟨t732, A30, H⟩ := H
  replace H : (if t732 = true then (spec_MultipliersOf.l0 k a0 l1 ([] : List Int) 1) else (some (([] : List Int), false))) = some (r1, r2) := H
  have A3 := Aside0.mk A30
  clear A30
  by_cases c4 : t732 = true
  · subst c4
    have H1 : (spec_MultipliersOf.l0 k a0 l1 ([] : List Int) 1) = some (r1, r2) := by rw [if_pos rfl] at H; exact H
    clear H
    have H := H1
    clear H1
    have H' := Aside0.mk H
    clear H
    go_enter Try.func38, Try.ntmps38
    go_wp2_with (first | ((with_reducible refine gate_callee (f := 68) rfl ?_); refine goesL_ (some 11) rfl rfl Try.func68 (by kernel_rfl) rfl #[.int .i64 a0, .slice A1 l1.length c1] rfl (by (try simp only [List.map_toArray, List.map_cons, List.map_nil]); first | done | rfl | (simp only [List.length_drop, List.length_take]; rfl)) ?_; (with_reducible refine (spec_ciGood.calls k a0 _ _ l1 true _ ?side1 ?side2 A3.out).mono ?_); (case side1 => repeat (first | exact HR1.out | (with_reducible refine Kd.C_alloc ?_ _) | (with_reducible refine Kd.C_drewN ?_ _) | (with_reducible refine Kd.C_drew ?_))); (case side2 => exact HC1.out); rintro e w' ⟨rfl, ⟨nd, rfl⟩⟩; refine ⟨_, rfl, ?_⟩))
    go_loopg [6, 7] k (fun kq v6 v7 w' => ∃ (x6_1 : List Int) (x7_1 : Int), v7 = .int .i64 x7_1 ∧ Aside0 (spec_MultipliersOf.l0 kq a0 l1 x6_1 x7_1 = some (r1, r2)) ∧ Aside0 (kq ≤ k) ∧ Aside0 (Kd.R (Kd.int .i64) 3 w' w.heap.size (fun _ => True) v6 x6_1) ∧ Aside0 (Below w.heap.size w w'))
    case atStart => exact ⟨(([] : List Int)), (1), (by first | rfl | (simp; done) | (simp [*]; done)), H', ⟨Nat.le_refl _⟩, ⟨by first | exact Kd.R_nil _ _ _ _ _ | exact Kd.N_nil _ _ _ _ _ | exact Kd.V_nil _ _ _ _ _ | exact Kd.Q_nil _ _ _ _ _ | exact Kd.S_nil _ _ _ _ _⟩, ⟨by repeat (first | (with_reducible first | exact HB.out | apply below_alloc | apply pw_below_drewN | apply below_drew1) | exact HB.out)⟩⟩
    case round =>
      clear H'
      try clear c1
      try clear p2
      try clear c3
      try clear c4
      obtain ⟨x6_1, x7_1, rfl, HA, HK1, HO_6, HB⟩ := hrel
      cases gk with
      | zero => exact absurd HA.out (by simp [spec_MultipliersOf.l0])
      | succ k1 =>
        have H := HA.out
        clear HA
        simp only [spec_MultipliersOf.l0] at H
        by_cases c5 : x7_1 < a0
        · rw [if_pos c5] at H
          have c5b0 : decide (x7_1 < a0) = true := decide_eq_true c5
          clear c5
          replace H := Option.bind_eq_some_iff.mp H
          obtain ⟨t733, A60, H⟩ := H
          replace H : (if t733 = 1 then (spec_MultipliersOf.l1 k1 a0 l1 x6_1 x7_1 0) else (spec_MultipliersOf.l0 k1 a0 l1 x6_1 (wrap64 (x7_1 + 1)))) = some (r1, r2) := H
          have A6 := Aside0.mk A60
          clear A60
          by_cases c7 : t733 = 1
          · rw [if_pos c7] at H
            have c7b0 : (t733 == 1) = true := beq_iff_eq.mpr c7
            have c7b1 : (t733 != 1) = false := bne_eq_false_iff_eq.mpr c7
            clear c7
            have H' := Aside0.mk H
            clear H
            go_wp2_with (first | ((with_reducible refine gate_callee (f := 72) rfl ?_); refine goesL_ (some 20) rfl rfl Try.func72 (by kernel_rfl) rfl #[.int .i64 x7_1, .int .i64 a0] rfl (by (try simp only [List.map_toArray, List.map_cons, List.map_nil]); first | done | rfl | (simp only [List.length_drop, List.length_take]; rfl)) ?_; (with_reducible refine (spec_ciCommon.calls k1 x7_1 a0 t733 _ A6.out).mono ?_); rintro e w' ⟨rfl, ⟨nd, rfl⟩⟩; refine ⟨_, rfl, ?_⟩))
            go_loopg [6, 8] k1 (fun kq v6 v8 w' => ∃ (x6_2 : List Int) (x8_2 : Int), v8 = .int .i64 x8_2 ∧ Aside0 (spec_MultipliersOf.l1 kq a0 l1 x6_2 x7_1 x8_2 = some (r1, r2)) ∧ Aside0 (kq ≤ k1) ∧ Aside0 (Kd.R (Kd.int .i64) 3 w' w.heap.size (fun _ => True) v6 x6_2) ∧ Aside0 (Below w.heap.size w w'))
            case atStart => exact ⟨(x6_1), (0), (by first | rfl | (simp; done) | (simp [*]; done)), H', ⟨Nat.le_refl _⟩, ⟨by (with_reducible repeat (first | apply Kd.R_alloc | apply Kd.R_drewN | apply Kd.R_drew)); exact HO_6.out⟩, ⟨by repeat (first | (with_reducible first | exact HB.out | apply below_alloc | apply pw_below_drewN | apply below_drew1) | exact HB.out)⟩⟩
            case round =>
              clear H'
              try clear c1
              try clear p2
              try clear c3
              try clear c4
              try clear c5
              try clear c5b0
              try clear c6
              try clear p6
              try clear c7
              try clear c7b0
              try clear c7b1
              try clear p2
              obtain ⟨x6_2, x8_2, rfl, HA, HK2, HO_6, HB⟩ := hrel
              cases gk with
              | zero => exact absurd HA.out (by simp [spec_MultipliersOf.l1])
              | succ k2 =>
                have H := HA.out
                clear HA
                simp only [spec_MultipliersOf.l1] at H
                by_cases c8 : x8_2 < a0
                · rw [if_pos c8] at H
                  have c8b0 : decide (x8_2 < a0) = true := decide_eq_true c8
                  clear c8
                  replace H := Option.bind_eq_some_iff.mp H
                  obtain ⟨t734, A90, H⟩ := H
                  replace H : ((spec_ciMove.f k2 a0 l1 x8_2).bind fun t737 => ((spec_l1Same.f k2 t734 t737).bind fun t740 => (if t740 = true then (if x6_2.length < 17592186044416 then (spec_MultipliersOf.l0 k2 a0 l1 (x6_2 ++ [x7_1]) (wrap64 (x7_1 + 1))) else (none)) else (spec_MultipliersOf.l1 k2 a0 l1 x6_2 x7_1 (wrap64 (x8_2 + 1)))))) = some (r1, r2) := H
                  have A9 := Aside0.mk A90
                  clear A90
                  replace H := Option.bind_eq_some_iff.mp H
                  obtain ⟨t737, A100, H⟩ := H
                  replace H : ((spec_l1Same.f k2 t734 t737).bind fun t740 => (if t740 = true then (if x6_2.length < 17592186044416 then (spec_MultipliersOf.l0 k2 a0 l1 (x6_2 ++ [x7_1]) (wrap64 (x7_1 + 1))) else (none)) else (spec_MultipliersOf.l1 k2 a0 l1 x6_2 x7_1 (wrap64 (x8_2 + 1))))) = some (r1, r2) := H
                  have A10 := Aside0.mk A100
                  clear A100
                  replace H := Option.bind_eq_some_iff.mp H
                  obtain ⟨t740, A110, H⟩ := H
                  replace H : (if t740 = true then (if x6_2.length < 17592186044416 then (spec_MultipliersOf.l0 k2 a0 l1 (x6_2 ++ [x7_1]) (wrap64 (x7_1 + 1))) else (none)) else (spec_MultipliersOf.l1 k2 a0 l1 x6_2 x7_1 (wrap64 (x8_2 + 1)))) = some (r1, r2) := H
                  have A11 := Aside0.mk A110
                  clear A110
                  by_cases c12 : t740 = true
                  · subst c12
                    have H1 : (if x6_2.length < 17592186044416 then (spec_MultipliersOf.l0 k2 a0 l1 (x6_2 ++ [x7_1]) (wrap64 (x7_1 + 1))) else (none)) = some (r1, r2) := by rw [if_pos rfl] at H; exact H
                    clear H
                    have H := H1
                    clear H1
                    by_cases c13 : x6_2.length < 17592186044416
                    · rw [if_pos c13] at H
                      have LMc13 := Aside0.mk c13
                      clear c13
                      obtain ⟨y741, hy741⟩ : ∃ y_ : List Int, y_ = (x6_2 ++ [x7_1]) := ⟨_, rfl⟩
                      replace H : (spec_MultipliersOf.l0 k2 a0 l1 y741 (wrap64 (x7_1 + 1))) = some (r1, r2) := by first | (rw [hy741]; with_reducible exact H) | (have H2_ := (Option.bind_some _ _).symm.trans H; rw [hy741]; with_reducible exact H2_) | (have H2_ := (Option.bind_some _ _).symm.trans H; with_reducible exact H2_) | with_reducible exact H | (rw [hy741]; exact H) | exact H
                      have Ny741 := Aside0.mk hy741
                      clear hy741
                      have H' := Aside0.mk H
                      clear H
                      go_wp2_with (first | ((with_reducible refine gate_callee (f := 74) rfl ?_); refine goesL_ (some 30) rfl rfl Try.func74 (by kernel_rfl) rfl #[.int .i64 a0, .slice A1 l1.length c1, .int .i64 x7_1] rfl (by (try simp only [List.map_toArray, List.map_cons, List.map_nil]); first | done | rfl | (simp only [List.length_drop, List.length_take]; rfl)) ?_; (with_reducible refine (spec_ciTimes.calls k2 a0 _ _ l1 x7_1 t734 _ ?side1 ?side2 A9.out).mono ?_); (case side1 => repeat (first | exact (Kd.C_below HR1.out HB.out) | (with_reducible refine Kd.C_alloc ?_ _) | (with_reducible refine Kd.C_drewN ?_ _) | (with_reducible refine Kd.C_drew ?_))); (case side2 => exact HC1.out); rintro e w14 ⟨v735, rfl, ho0, hb⟩; refine ⟨_, rfl, ?_⟩; have n0_ := Aside0.mk (Kd.R_elder' (by (with_reducible repeat (first | apply Kd.R_alloc | apply Kd.R_drewN | apply Kd.R_drew)); exact HO_6.out) (Kd.R_base ho0) hb); have n1_ := Aside0.mk (Kd.R_lower (Kd.R_new' ho0 (Kd.R_lt (by (with_reducible repeat (first | apply Kd.R_alloc | apply Kd.R_drewN | apply Kd.R_drew)); exact HO_6.out))) (below_size (by repeat (first | (with_reducible first | exact HB.out | apply below_alloc | apply pw_below_drewN | apply below_drew1) | exact HB.out)))); have n2_ := Aside0.mk (below_step (by repeat (first | (with_reducible first | exact HB.out | apply below_alloc | apply pw_below_drewN | apply below_drew1) | exact HB.out)) hb); clear HO_6; clear HB; have HO_6 := n0_; have HO736 := n1_; have HB := n2_; clear n0_ n1_ n2_; (try clear hb); (try clear hb2); (try clear hk); (try clear hi); (try clear ho0)) | ((with_reducible refine gate_callee (f := 69) rfl ?_); refine goesL_ (some 34) rfl rfl Try.func69 (by kernel_rfl) rfl #[.int .i64 a0, .slice A1 l1.length c1, .int .i64 x8_2] rfl (by (try simp only [List.map_toArray, List.map_cons, List.map_nil]); first | done | rfl | (simp only [List.length_drop, List.length_take]; rfl)) ?_; (with_reducible refine (spec_ciMove.calls k2 a0 _ _ l1 x8_2 t737 _ ?side1 ?side2 A10.out).mono ?_); (case side1 => repeat (first | exact (Kd.C_below HR1.out HB.out) | (with_reducible refine Kd.C_alloc ?_ _) | (with_reducible refine Kd.C_drewN ?_ _) | (with_reducible refine Kd.C_drew ?_))); (case side2 => exact HC1.out); rintro e w15 ⟨v738, rfl, ho0, hb⟩; refine ⟨_, rfl, ?_⟩; have n0_ := Aside0.mk (Kd.R_elder' (by (with_reducible repeat (first | apply Kd.R_alloc | apply Kd.R_drewN | apply Kd.R_drew)); exact HO_6.out) (Kd.R_base ho0) hb); have n1_ := Aside0.mk (Kd.R_elder' (by (with_reducible repeat (first | apply Kd.R_alloc | apply Kd.R_drewN | apply Kd.R_drew)); exact HO736.out) (Kd.R_base ho0) hb); have n2_ := Aside0.mk (Kd.R_lower (Kd.R_new' (Kd.R_new' ho0 (Kd.R_lt (by (with_reducible repeat (first | apply Kd.R_alloc | apply Kd.R_drewN | apply Kd.R_drew)); exact HO_6.out))) (Kd.R_lt (by (with_reducible repeat (first | apply Kd.R_alloc | apply Kd.R_drewN | apply Kd.R_drew)); exact HO736.out))) (below_size (by repeat (first | (with_reducible first | exact HB.out | apply below_alloc | apply pw_below_drewN | apply below_drew1) | exact HB.out)))); have n3_ := Aside0.mk (below_step (by repeat (first | (with_reducible first | exact HB.out | apply below_alloc | apply pw_below_drewN | apply below_drew1) | exact HB.out)) hb); clear HO_6; clear HO736; clear HB; have HO_6 := n0_; have HO736 := n1_; have HO739 := n2_; have HB := n3_; clear n0_ n1_ n2_ n3_; (try clear hb); (try clear hb2); (try clear hk); (try clear hi); (try clear ho0); obtain ⟨Ao16, co16, eo16⟩ := Kd.R_slice HO736.out; subst eo16; obtain ⟨Ao17, co17, eo17⟩ := Kd.R_slice HO739.out; subst eo17) | ((with_reducible refine gate_callee (f := 73) rfl ?_); refine goesL_ (some 35) rfl rfl Try.func73 (by kernel_rfl) rfl #[.slice Ao16 t734.length co16, .slice Ao17 t737.length co17] rfl (by (try simp only [List.map_toArray, List.map_cons, List.map_nil]); first | done | rfl | (simp only [List.length_drop, List.length_take]; rfl)) ?_; (with_reducible refine (spec_l1Same.calls k2 _ _ t734 _ _ t737 true _ ?side1 ?side2 ?side3 ?side4 A11.out).mono ?_); (case side1 => repeat (first | exact (Kd.R_reads' HO736.out).2.2 | (with_reducible refine Kd.C_alloc ?_ _) | (with_reducible refine Kd.C_drewN ?_ _) | (with_reducible refine Kd.C_drew ?_))); (case side2 => exact (Kd.R_reads' HO736.out).2.1); (case side3 => repeat (first | exact (Kd.R_reads' HO739.out).2.2 | (with_reducible refine Kd.C_alloc ?_ _) | (with_reducible refine Kd.C_drewN ?_ _) | (with_reducible refine Kd.C_drew ?_))); (case side4 => exact (Kd.R_reads' HO739.out).2.1); rintro e w' ⟨rfl, ⟨nd, rfl⟩⟩; refine ⟨_, rfl, ?_⟩) | ((with_reducible refine gate_builtin (b := .append) (xs := #[.tmp 36, .tmp 38]) rfl ?_); at_builtin; refine Kd.R_append (Kd.int .i64) (w0 := w) w.heap.size rfl (.tmp 36) (.tmp 38) 22 3 (.int .i64 0) 8 rfl Try.underlying22 info3 rfl (by decide) (by omega) u6 x6_2 x7_1 [.int .i64 x7_1] (fun k_ => some k_ ≠ (.slice Ao16 t734.length co16 : Value).ownBlock ∧ some k_ ≠ (.slice Ao17 t737.length co17 : Value).ownBlock) (fun _ => False) rfl rfl ?aP (fun _ hk => hk.elim) ?aF ?aO ?aB ?aS ?aL ?_; (case aP => exact rfl); (case aB => exact (by repeat (first | (with_reducible first | exact HB.out | apply below_alloc | apply pw_below_drewN | apply below_drew1) | exact HB.out))); (case aF => exact (fun k_ hk => ⟨Kd.fresh' (Kd.R_lt (by (with_reducible repeat (first | apply Kd.R_alloc | apply Kd.R_drewN | apply Kd.R_drew)); exact HO736.out)) k_ hk, Kd.fresh' (Kd.R_lt (by (with_reducible repeat (first | apply Kd.R_alloc | apply Kd.R_drewN | apply Kd.R_drew)); exact HO739.out)) k_ hk⟩)); (case aO => exact (by (with_reducible repeat (first | apply Kd.R_alloc | apply Kd.R_drewN | apply Kd.R_drew)); exact Kd.R_mono HO_6.out (fun _ hk => ⟨hk.1.2, hk.2⟩))); (case aS => exact (below_size (by repeat (first | (with_reducible first | exact HB.out | apply below_alloc | apply pw_below_drewN | apply below_drew1) | exact HB.out)))); (case aL => have := LMc13.out; omega); intro v742 w18 ho hb hg hat; rw [← Ny741.out] at ho; have n0_ := Aside0.mk (Kd.R_after (ok := (fun k_ => some k_ ≠ (.slice Ao17 t737.length co17 : Value).ownBlock)) (by (with_reducible repeat (first | apply Kd.R_alloc | apply Kd.R_drewN | apply Kd.R_drew)); exact Kd.R_mono HO736.out (fun _ hk => ⟨hk.2, hk.1.2⟩)) hg hat); have n1_ := Aside0.mk (Kd.R_after (ok := (fun k_ => some k_ ≠ (.slice Ao16 t734.length co16 : Value).ownBlock)) (by (with_reducible repeat (first | apply Kd.R_alloc | apply Kd.R_drewN | apply Kd.R_drew)); exact Kd.R_mono HO739.out (fun _ hk => ⟨hk.2, hk.1.2⟩)) hg hat); have n2_ := Aside0.mk (hb); have n3_ := Aside0.mk (ho); clear HO736; clear HO739; clear HB; clear HO_6; have HO736 := n0_; have HO739 := n1_; have HB := n2_; have HO743 := n3_; clear n0_ n1_ n2_ n3_; clear ho hb hg hat))
                      go_roundg k2
                      case measure => have := HK1.out; have := HK2.out; omega
                      case rel => exact ⟨(y741), (wrap64 (x7_1 + 1)), (by first | rfl | (simp; done) | (simp [*]; done)), H', ⟨by have := HK1.out; have := HK2.out; omega⟩, ⟨by (with_reducible repeat (first | apply Kd.R_alloc | apply Kd.R_drewN | apply Kd.R_drew)); exact Kd.R_mono HO743.out (fun _ hk => trivial)⟩, ⟨by repeat (first | (with_reducible first | exact HB.out | apply below_alloc | apply pw_below_drewN | apply below_drew1) | exact HB.out)⟩⟩
                    · rw [if_neg c13] at H
                      exact absurd H (by simp)
                  · replace c12 := Bool.eq_false_iff.mpr c12
                    subst c12
                    have H1 : (spec_MultipliersOf.l1 k2 a0 l1 x6_2 x7_1 (wrap64 (x8_2 + 1))) = some (r1, r2) := by rw [if_neg (show ¬ (false = true) by decide)] at H; exact H
                    clear H
                    have H := H1
                    clear H1
                    have H' := Aside0.mk H
                    clear H
                    go_wp2_with (first | ((with_reducible refine gate_callee (f := 74) rfl ?_); refine goesL_ (some 30) rfl rfl Try.func74 (by kernel_rfl) rfl #[.int .i64 a0, .slice A1 l1.length c1, .int .i64 x7_1] rfl (by (try simp only [List.map_toArray, List.map_cons, List.map_nil]); first | done | rfl | (simp only [List.length_drop, List.length_take]; rfl)) ?_; (with_reducible refine (spec_ciTimes.calls k2 a0 _ _ l1 x7_1 t734 _ ?side1 ?side2 A9.out).mono ?_); (case side1 => repeat (first | exact (Kd.C_below HR1.out HB.out) | (with_reducible refine Kd.C_alloc ?_ _) | (with_reducible refine Kd.C_drewN ?_ _) | (with_reducible refine Kd.C_drew ?_))); (case side2 => exact HC1.out); rintro e w19 ⟨v735, rfl, ho0, hb⟩; refine ⟨_, rfl, ?_⟩; have n0_ := Aside0.mk (Kd.R_elder' (by (with_reducible repeat (first | apply Kd.R_alloc | apply Kd.R_drewN | apply Kd.R_drew)); exact HO_6.out) (Kd.R_base ho0) hb); have n1_ := Aside0.mk (Kd.R_lower (Kd.R_new' ho0 (Kd.R_lt (by (with_reducible repeat (first | apply Kd.R_alloc | apply Kd.R_drewN | apply Kd.R_drew)); exact HO_6.out))) (below_size (by repeat (first | (with_reducible first | exact HB.out | apply below_alloc | apply pw_below_drewN | apply below_drew1) | exact HB.out)))); have n2_ := Aside0.mk (below_step (by repeat (first | (with_reducible first | exact HB.out | apply below_alloc | apply pw_below_drewN | apply below_drew1) | exact HB.out)) hb); clear HO_6; clear HB; have HO_6 := n0_; have HO736 := n1_; have HB := n2_; clear n0_ n1_ n2_; (try clear hb); (try clear hb2); (try clear hk); (try clear hi); (try clear ho0)) | ((with_reducible refine gate_callee (f := 69) rfl ?_); refine goesL_ (some 34) rfl rfl Try.func69 (by kernel_rfl) rfl #[.int .i64 a0, .slice A1 l1.length c1, .int .i64 x8_2] rfl (by (try simp only [List.map_toArray, List.map_cons, List.map_nil]); first | done | rfl | (simp only [List.length_drop, List.length_take]; rfl)) ?_; (with_reducible refine (spec_ciMove.calls k2 a0 _ _ l1 x8_2 t737 _ ?side1 ?side2 A10.out).mono ?_); (case side1 => repeat (first | exact (Kd.C_below HR1.out HB.out) | (with_reducible refine Kd.C_alloc ?_ _) | (with_reducible refine Kd.C_drewN ?_ _) | (with_reducible refine Kd.C_drew ?_))); (case side2 => exact HC1.out); rintro e w20 ⟨v738, rfl, ho0, hb⟩; refine ⟨_, rfl, ?_⟩; have n0_ := Aside0.mk (Kd.R_elder' (by (with_reducible repeat (first | apply Kd.R_alloc | apply Kd.R_drewN | apply Kd.R_drew)); exact HO_6.out) (Kd.R_base ho0) hb); have n1_ := Aside0.mk (Kd.R_elder' (by (with_reducible repeat (first | apply Kd.R_alloc | apply Kd.R_drewN | apply Kd.R_drew)); exact HO736.out) (Kd.R_base ho0) hb); have n2_ := Aside0.mk (Kd.R_lower (Kd.R_new' (Kd.R_new' ho0 (Kd.R_lt (by (with_reducible repeat (first | apply Kd.R_alloc | apply Kd.R_drewN | apply Kd.R_drew)); exact HO_6.out))) (Kd.R_lt (by (with_reducible repeat (first | apply Kd.R_alloc | apply Kd.R_drewN | apply Kd.R_drew)); exact HO736.out))) (below_size (by repeat (first | (with_reducible first | exact HB.out | apply below_alloc | apply pw_below_drewN | apply below_drew1) | exact HB.out)))); have n3_ := Aside0.mk (below_step (by repeat (first | (with_reducible first | exact HB.out | apply below_alloc | apply pw_below_drewN | apply below_drew1) | exact HB.out)) hb); clear HO_6; clear HO736; clear HB; have HO_6 := n0_; have HO736 := n1_; have HO739 := n2_; have HB := n3_; clear n0_ n1_ n2_ n3_; (try clear hb); (try clear hb2); (try clear hk); (try clear hi); (try clear ho0); obtain ⟨Ao21, co21, eo21⟩ := Kd.R_slice HO736.out; subst eo21; obtain ⟨Ao22, co22, eo22⟩ := Kd.R_slice HO739.out; subst eo22) | ((with_reducible refine gate_callee (f := 73) rfl ?_); refine goesL_ (some 35) rfl rfl Try.func73 (by kernel_rfl) rfl #[.slice Ao21 t734.length co21, .slice Ao22 t737.length co22] rfl (by (try simp only [List.map_toArray, List.map_cons, List.map_nil]); first | done | rfl | (simp only [List.length_drop, List.length_take]; rfl)) ?_; (with_reducible refine (spec_l1Same.calls k2 _ _ t734 _ _ t737 false _ ?side1 ?side2 ?side3 ?side4 A11.out).mono ?_); (case side1 => repeat (first | exact (Kd.R_reads' HO736.out).2.2 | (with_reducible refine Kd.C_alloc ?_ _) | (with_reducible refine Kd.C_drewN ?_ _) | (with_reducible refine Kd.C_drew ?_))); (case side2 => exact (Kd.R_reads' HO736.out).2.1); (case side3 => repeat (first | exact (Kd.R_reads' HO739.out).2.2 | (with_reducible refine Kd.C_alloc ?_ _) | (with_reducible refine Kd.C_drewN ?_ _) | (with_reducible refine Kd.C_drew ?_))); (case side4 => exact (Kd.R_reads' HO739.out).2.1); rintro e w' ⟨rfl, ⟨nd, rfl⟩⟩; refine ⟨_, rfl, ?_⟩))
                    go_roundg k2
                    case measure => have := HK1.out; have := HK2.out; omega
                    case rel => exact ⟨(x6_2), (wrap64 (x8_2 + 1)), (by first | rfl | (simp; done) | (simp [*]; done)), H', ⟨by have := HK1.out; have := HK2.out; omega⟩, ⟨by (with_reducible repeat (first | apply Kd.R_alloc | apply Kd.R_drewN | apply Kd.R_drew)); exact Kd.R_mono HO_6.out (fun _ hk => trivial)⟩, ⟨by repeat (first | (with_reducible first | exact HB.out | apply below_alloc | apply pw_below_drewN | apply below_drew1) | exact HB.out)⟩⟩
                · rw [if_neg c8] at H
                  have c8b0 : decide (x8_2 < a0) = false := decide_eq_false c8
                  clear c8
                  have H' := Aside0.mk H
                  clear H
                  go_wp2
                  go_roundg k2
                  case measure => have := HK1.out; have := HK2.out; omega
                  case rel => exact ⟨(x6_2), (wrap64 (x7_1 + 1)), (by first | rfl | (simp; done) | (simp [*]; done)), H', ⟨by have := HK1.out; have := HK2.out; omega⟩, ⟨by (with_reducible repeat (first | apply Kd.R_alloc | apply Kd.R_drewN | apply Kd.R_drew)); exact HO_6.out⟩, ⟨by repeat (first | (with_reducible first | exact HB.out | apply below_alloc | apply pw_below_drewN | apply below_drew1) | exact HB.out)⟩⟩
          · rw [if_neg c7] at H
            have c7b0 : (t733 == 1) = false := beq_eq_false_iff_ne.mpr c7
            have c7b1 : (t733 != 1) = true := bne_iff_ne.mpr c7
            have H' := Aside0.mk H
            clear H
            go_wp2_with (first | ((with_reducible refine gate_callee (f := 72) rfl ?_); refine goesL_ (some 20) rfl rfl Try.func72 (by kernel_rfl) rfl #[.int .i64 x7_1, .int .i64 a0] rfl (by (try simp only [List.map_toArray, List.map_cons, List.map_nil]); first | done | rfl | (simp only [List.length_drop, List.length_take]; rfl)) ?_; (with_reducible refine (spec_ciCommon.calls k1 x7_1 a0 t733 _ A6.out).mono ?_); rintro e w' ⟨rfl, ⟨nd, rfl⟩⟩; refine ⟨_, rfl, ?_⟩))
            go_roundg k1
            case measure => have := HK1.out; omega
            case rel => exact ⟨(x6_1), (wrap64 (x7_1 + 1)), (by first | rfl | (simp; done) | (simp [*]; done)), H', ⟨by have := HK1.out; omega⟩, ⟨by (with_reducible repeat (first | apply Kd.R_alloc | apply Kd.R_drewN | apply Kd.R_drew)); exact HO_6.out⟩, ⟨by repeat (first | (with_reducible first | exact HB.out | apply below_alloc | apply pw_below_drewN | apply below_drew1) | exact HB.out)⟩⟩
        · rw [if_neg c5] at H
          have c5b0 : decide (x7_1 < a0) = false := decide_eq_false c5
          clear c5
          simp only [Option.some.injEq, Prod.mk.injEq] at H
          obtain ⟨rfl, rfl⟩ := H
          go_wp2
          go_ret2
          exact ⟨_, by first | rfl | (simp [errW_none, errW_some] <;> rfl) | (simp [*, errW_none, errW_some] <;> rfl), by (with_reducible repeat (first | apply Kd.R_alloc | apply Kd.R_drewN | apply Kd.R_drew)); exact HO_6.out, by repeat (first | (with_reducible first | exact HB.out | apply below_alloc | apply pw_below_drewN | apply below_drew1) | exact HB.out)⟩
  · replace c4 := Bool.eq_false_iff.mpr c4
    subst c4
    have H1 : (some (([] : List Int), false)) = some (r1, r2) := by rw [if_neg (show ¬ (false = true) by decide)] at H; exact H
    clear H
    have H := H1
    clear H1
    simp only [Option.some.injEq, Prod.mk.injEq] at H
    obtain ⟨rfl, rfl⟩ := H
    go_enter Try.func38, Try.ntmps38
    go_wp2_with (first | ((with_reducible refine gate_callee (f := 68) rfl ?_); refine goesL_ (some 11) rfl rfl Try.func68 (by kernel_rfl) rfl #[.int .i64 a0, .slice A1 l1.length c1] rfl (by (try simp only [List.map_toArray, List.map_cons, List.map_nil]); first | done | rfl | (simp only [List.length_drop, List.length_take]; rfl)) ?_; (with_reducible refine (spec_ciGood.calls k a0 _ _ l1 false _ ?side1 ?side2 A3.out).mono ?_); (case side1 => repeat (first | exact HR1.out | (with_reducible refine Kd.C_alloc ?_ _) | (with_reducible refine Kd.C_drewN ?_ _) | (with_reducible refine Kd.C_drew ?_))); (case side2 => exact HC1.out); rintro e w' ⟨rfl, ⟨nd, rfl⟩⟩; refine ⟨_, rfl, ?_⟩))
    go_ret2
    exact ⟨_, by first | rfl | (simp [errW_none, errW_some] <;> rfl) | (simp [*, errW_none, errW_some] <;> rfl), by first | exact Kd.R_nil _ _ _ _ _ | exact Kd.N_nil _ _ _ _ _ | exact Kd.V_nil _ _ _ _ _ | exact Kd.Q_nil _ _ _ _ _ | exact Kd.S_nil _ _ _ _ _, by repeat (first | (with_reducible first | exact HB.out | apply below_alloc | apply pw_below_drewN | apply below_drew1) | exact HB.out)⟩

noncomputable def spec_MultipliersOf.L0 (x0 : Int) (x1 : List Int) (x6 : List Int) (x7 : Int) : Option (List Int × Bool) := lim fun k => spec_MultipliersOf.l0 k x0 x1 x6 x7
theorem spec_MultipliersOf.L0_lim (x0 : Int) (x1 : List Int) (x6 : List Int) (x7 : Int) : Lim (fun k => spec_MultipliersOf.l0 k x0 x1 x6 x7) (spec_MultipliersOf.L0 x0 x1 x6 x7) := Lim.of fun k => (spec_MultipliersOf.mono_l k).1 x0 x1 x6 x7
noncomputable def spec_MultipliersOf.L1 (x0 : Int) (x1 : List Int) (x6 : List Int) (x7 : Int) (x8 : Int) : Option (List Int × Bool) := lim fun k => spec_MultipliersOf.l1 k x0 x1 x6 x7 x8
theorem spec_MultipliersOf.L1_lim (x0 : Int) (x1 : List Int) (x6 : List Int) (x7 : Int) (x8 : Int) : Lim (fun k => spec_MultipliersOf.l1 k x0 x1 x6 x7 x8) (spec_MultipliersOf.L1 x0 x1 x6 x7 x8) := Lim.of fun k => (spec_MultipliersOf.mono_l k).2 x0 x1 x6 x7 x8
noncomputable def spec_MultipliersOf.F (a0 : Int) (l1 : List Int) : Option (List Int × Bool) := lim fun k => spec_MultipliersOf.f k a0 l1
theorem spec_MultipliersOf.F_lim (a0 : Int) (l1 : List Int) : Lim (fun k => spec_MultipliersOf.f k a0 l1) (spec_MultipliersOf.F a0 l1) := Lim.of fun k => spec_MultipliersOf.mono a0 l1 k
theorem spec_MultipliersOf.L0_eq (x0 : Int) (x1 : List Int) (x6 : List Int) (x7 : Int) : spec_MultipliersOf.L0 x0 x1 x6 x7 = (if x7 < x0 then ((spec_ciCommon.F x7 x0).bind fun t733 => (if t733 = 1 then (spec_MultipliersOf.L1 x0 x1 x6 x7 0) else (spec_MultipliersOf.L0 x0 x1 x6 (wrap64 (x7 + 1))))) else (some (x6, true))) :=
  Lim.step (f := fun k => (if x7 < x0 then ((spec_ciCommon.f k x7 x0).bind fun t733 => (if t733 = 1 then (spec_MultipliersOf.l1 k x0 x1 x6 x7 0) else (spec_MultipliersOf.l0 k x0 x1 x6 (wrap64 (x7 + 1))))) else (some (x6, true)))) (spec_MultipliersOf.L0_lim x0 x1 x6 x7) (fun k => by first | rfl | rw [spec_MultipliersOf.l0]) (by
    repeat' first
    | (with_reducible exact Lim.const _)
    | (with_reducible exact spec_MultipliersOf.L0_lim _ _ _ _)
    | (with_reducible exact spec_MultipliersOf.L1_lim _ _ _ _ _)
    | (with_reducible exact spec_ciCommon.F_lim _ _)
    | (with_reducible refine Lim.ite ?_ ?_)
    | (with_reducible refine Lim.bind ?_ (fun _ => ?_)))
theorem spec_MultipliersOf.L1_eq (x0 : Int) (x1 : List Int) (x6 : List Int) (x7 : Int) (x8 : Int) : spec_MultipliersOf.L1 x0 x1 x6 x7 x8 = (if x8 < x0 then ((spec_ciTimes.F x0 x1 x7).bind fun t734 => ((spec_ciMove.F x0 x1 x8).bind fun t737 => ((spec_l1Same.F t734 t737).bind fun t740 => (if t740 = true then (if x6.length < 17592186044416 then (spec_MultipliersOf.L0 x0 x1 (x6 ++ [x7]) (wrap64 (x7 + 1))) else (none)) else (spec_MultipliersOf.L1 x0 x1 x6 x7 (wrap64 (x8 + 1))))))) else (spec_MultipliersOf.L0 x0 x1 x6 (wrap64 (x7 + 1)))) :=
  Lim.step (f := fun k => (if x8 < x0 then ((spec_ciTimes.f k x0 x1 x7).bind fun t734 => ((spec_ciMove.f k x0 x1 x8).bind fun t737 => ((spec_l1Same.f k t734 t737).bind fun t740 => (if t740 = true then (if x6.length < 17592186044416 then (spec_MultipliersOf.l0 k x0 x1 (x6 ++ [x7]) (wrap64 (x7 + 1))) else (none)) else (spec_MultipliersOf.l1 k x0 x1 x6 x7 (wrap64 (x8 + 1))))))) else (spec_MultipliersOf.l0 k x0 x1 x6 (wrap64 (x7 + 1))))) (spec_MultipliersOf.L1_lim x0 x1 x6 x7 x8) (fun k => by first | rfl | rw [spec_MultipliersOf.l1]) (by
    repeat' first
    | (with_reducible exact Lim.const _)
    | (with_reducible exact spec_MultipliersOf.L0_lim _ _ _ _)
    | (with_reducible exact spec_MultipliersOf.L1_lim _ _ _ _ _)
    | (with_reducible exact spec_ciMove.F_lim _ _ _)
    | (with_reducible exact spec_ciTimes.F_lim _ _ _)
    | (with_reducible exact spec_l1Same.F_lim _ _)
    | (with_reducible refine Lim.ite ?_ ?_)
    | (with_reducible refine Lim.bind ?_ (fun _ => ?_)))
theorem spec_MultipliersOf.F_eq (a0 : Int) (l1 : List Int) : spec_MultipliersOf.F a0 l1 = ((spec_ciGood.F a0 l1).bind fun t732 => (if t732 = true then (spec_MultipliersOf.L0 a0 l1 ([] : List Int) 1) else (some (([] : List Int), false)))) :=
  Lim.unique (spec_MultipliersOf.F_lim a0 l1) (by
    unfold spec_MultipliersOf.f
    repeat' first
    | (with_reducible exact Lim.const _)
    | (with_reducible exact spec_MultipliersOf.L0_lim _ _ _ _)
    | (with_reducible exact spec_ciGood.F_lim _ _)
    | (with_reducible refine Lim.ite ?_ ?_)
    | (with_reducible refine Lim.bind ?_ (fun _ => ?_)))

end Go.Proofs.Ytiopjegbggjdcaa.Fn
namespace Go.Proofs.Ytiopjegbggjdcaa.Fn
open Go.RowKit Go.Proofs.YtiopjegbggjdcaaW.PrintWords Go.Proofs.YtiopjegbggjdcaaW.PrintLast Go.Proofs.YtiopjegbggjdcaaW.PrintMore
attribute [local go_sem] max2_int min2_int max_two min_two max_three min_three max_four min_four   -- for this text's walks alone
set_option linter.unusedVariables false
set_option linter.unusedSimpArgs false

/-! ### laws_FnExactMultipliersOf: function 9 -/
mutual
def laws_FnExactMultipliersOf.j0 : Nat → Int → List Int → List Int → Bool → List Int → List Int → Bool → Bool → Option (Bool)
  | 0, _, _, _, _, _, _, _, _ => none
  | k + 1, x0, x1, x5, x6, x7, x8, x9, x41 => if x41 = true then (some false) else ((laws_toIntS.f k x1).bind fun t773 => ((laws_eqIntS.f k x7 t773).bind fun t776 => (if t776 = true then ((laws_markIntS.f k x7 1).bind fun bt777 => (if bt777.1 < 0 then (laws_FnExactMultipliersOf.j1 k x0 x1 x5 x6 x8 true) else ((laws_eqIntS.f k x8 x5).bind fun t779 => (if t779 = true then (laws_FnExactMultipliersOf.j1 k x0 x1 x5 x6 x8 (x9 != x6)) else (laws_FnExactMultipliersOf.j1 k x0 x1 x5 x6 x8 true))))) else (some false))))
def laws_FnExactMultipliersOf.j1 : Nat → Int → List Int → List Int → Bool → List Int → Bool → Option (Bool)
  | 0, _, _, _, _, _, _ => none
  | k + 1, x0, x1, x5, x6, x8, x62 => if x62 = true then (some false) else ((laws_markIntS.f k x8 1).bind fun bt780 => ((laws_heldIntS.f k bt780.2 1).bind fun t782 => (if t782 < 0 then (some false) else (if t782 = bt780.1 then ((laws_toIntS.f k x1).bind fun t783 => ((impl_MultipliersOf.f k x0 t783).bind fun bt786 => ((laws_eqIntS.f k bt786.1 x5).bind fun t790 => (if t790 = true then (laws_FnExactMultipliersOf.j2 k bt780.2 bt780.1 (bt786.2 != x6)) else (laws_FnExactMultipliersOf.j2 k bt780.2 bt780.1 true))))) else (some false)))))
def laws_FnExactMultipliersOf.j2 : Nat → List Int → Int → Bool → Option (Bool)
  | 0, _, _, _ => none
  | k + 1, x8, x11, x89 => if x89 = true then (some false) else ((laws_heldIntS.f k x8 1).bind fun t791 => (if t791 < 0 then (some false) else (if t791 = x11 then (some true) else (some false))))
end
def laws_FnExactMultipliersOf.f (k : Nat) (a0 : Int) (l1 : List Int) : Option (Bool) := if (l1.length : Int) > 1048576 then (some true) else ((laws_toIntS.f k l1).bind fun t758 => ((spec_MultipliersOf.f k a0 t758).bind fun bt761 => ((laws_toIntS.f k l1).bind fun t765 => ((impl_MultipliersOf.f k a0 t765).bind fun bt768 => ((laws_eqIntS.f k bt768.1 bt761.1).bind fun t772 => (if t772 = true then (laws_FnExactMultipliersOf.j0 k a0 l1 bt761.1 bt761.2 t765 bt768.1 bt768.2 (bt768.2 != bt761.2)) else (laws_FnExactMultipliersOf.j0 k a0 l1 bt761.1 bt761.2 t765 bt768.1 bt768.2 true)))))))
theorem laws_FnExactMultipliersOf.mono_l : ∀ k, (∀ y0 y1 y2 y3 y4 y5 y6 y7, LeO (laws_FnExactMultipliersOf.j0 k y0 y1 y2 y3 y4 y5 y6 y7) (laws_FnExactMultipliersOf.j0 (k + 1) y0 y1 y2 y3 y4 y5 y6 y7)) ∧ (∀ y0 y1 y2 y3 y4 y5, LeO (laws_FnExactMultipliersOf.j1 k y0 y1 y2 y3 y4 y5) (laws_FnExactMultipliersOf.j1 (k + 1) y0 y1 y2 y3 y4 y5)) ∧ (∀ y0 y1 y2, LeO (laws_FnExactMultipliersOf.j2 k y0 y1 y2) (laws_FnExactMultipliersOf.j2 (k + 1) y0 y1 y2))
  | 0 => ⟨fun _ _ _ _ _ _ _ _ r h => by simp [laws_FnExactMultipliersOf.j0] at h, fun _ _ _ _ _ _ r h => by simp [laws_FnExactMultipliersOf.j1] at h, fun _ _ _ r h => by simp [laws_FnExactMultipliersOf.j2] at h⟩
  | k + 1 => by
    obtain ⟨ih0, ih1, ih2⟩ := laws_FnExactMultipliersOf.mono_l k
    refine ⟨?_, ?_, ?_⟩
    · intro y0 y1 y2 y3 y4 y5 y6 y7
      unfold laws_FnExactMultipliersOf.j0
      repeat' first
      | (with_reducible exact ih0 _ _ _ _ _ _ _ _)
      | (with_reducible exact ih1 _ _ _ _ _ _)
      | (with_reducible exact ih2 _ _ _)
      | (with_reducible exact impl_MultipliersOf.mono _ _ _)
      | (with_reducible exact laws_eqIntS.mono _ _ _)
      | (with_reducible exact laws_heldIntS.mono _ _ _)
      | (with_reducible exact laws_markIntS.mono _ _ _)
      | (with_reducible exact laws_toIntS.mono _ _)
      | (with_reducible exact spec_MultipliersOf.mono _ _ _)
      | (with_reducible exact LeO.refl _)
      | (with_reducible exact LeO.none _)
      | (with_reducible refine LeO.ite ?_ ?_)
      | (with_reducible refine LeO.bind ?_ (fun _ => ?_))
      | exact ih0 _ _ _ _ _ _ _ _
      | exact ih1 _ _ _ _ _ _
      | exact ih2 _ _ _
      | exact impl_MultipliersOf.mono _ _ _
      | exact laws_eqIntS.mono _ _ _
      | exact laws_heldIntS.mono _ _ _
      | exact laws_markIntS.mono _ _ _
      | exact laws_toIntS.mono _ _
      | exact spec_MultipliersOf.mono _ _ _
      | exact LeO.none _
      | refine LeO.ite ?_ ?_
      | refine LeO.bind ?_ (fun _ => ?_)
    · intro y0 y1 y2 y3 y4 y5
      unfold laws_FnExactMultipliersOf.j1
      repeat' first
      | (with_reducible exact ih0 _ _ _ _ _ _ _ _)
      | (with_reducible exact ih1 _ _ _ _ _ _)
      | (with_reducible exact ih2 _ _ _)
      | (with_reducible exact impl_MultipliersOf.mono _ _ _)
      | (with_reducible exact laws_eqIntS.mono _ _ _)
      | (with_reducible exact laws_heldIntS.mono _ _ _)
      | (with_reducible exact laws_markIntS.mono _ _ _)
      | (with_reducible exact laws_toIntS.mono _ _)
      | (with_reducible exact spec_MultipliersOf.mono _ _ _)
      | (with_reducible exact LeO.refl _)
      | (with_reducible exact LeO.none _)
      | (with_reducible refine LeO.ite ?_ ?_)
      | (with_reducible refine LeO.bind ?_ (fun _ => ?_))
      | exact ih0 _ _ _ _ _ _ _ _
      | exact ih1 _ _ _ _ _ _
      | exact ih2 _ _ _
      | exact impl_MultipliersOf.mono _ _ _
      | exact laws_eqIntS.mono _ _ _
      | exact laws_heldIntS.mono _ _ _
      | exact laws_markIntS.mono _ _ _
      | exact laws_toIntS.mono _ _
      | exact spec_MultipliersOf.mono _ _ _
      | exact LeO.none _
      | refine LeO.ite ?_ ?_
      | refine LeO.bind ?_ (fun _ => ?_)
    · intro y0 y1 y2
      unfold laws_FnExactMultipliersOf.j2
      repeat' first
      | (with_reducible exact ih0 _ _ _ _ _ _ _ _)
      | (with_reducible exact ih1 _ _ _ _ _ _)
      | (with_reducible exact ih2 _ _ _)
      | (with_reducible exact impl_MultipliersOf.mono _ _ _)
      | (with_reducible exact laws_eqIntS.mono _ _ _)
      | (with_reducible exact laws_heldIntS.mono _ _ _)
      | (with_reducible exact laws_markIntS.mono _ _ _)
      | (with_reducible exact laws_toIntS.mono _ _)
      | (with_reducible exact spec_MultipliersOf.mono _ _ _)
      | (with_reducible exact LeO.refl _)
      | (with_reducible exact LeO.none _)
      | (with_reducible refine LeO.ite ?_ ?_)
      | (with_reducible refine LeO.bind ?_ (fun _ => ?_))
      | exact ih0 _ _ _ _ _ _ _ _
      | exact ih1 _ _ _ _ _ _
      | exact ih2 _ _ _
      | exact impl_MultipliersOf.mono _ _ _
      | exact laws_eqIntS.mono _ _ _
      | exact laws_heldIntS.mono _ _ _
      | exact laws_markIntS.mono _ _ _
      | exact laws_toIntS.mono _ _
      | exact spec_MultipliersOf.mono _ _ _
      | exact LeO.none _
      | refine LeO.ite ?_ ?_
      | refine LeO.bind ?_ (fun _ => ?_)
theorem laws_FnExactMultipliersOf.mono : ∀ a0 a1 k, LeO (laws_FnExactMultipliersOf.f k a0 a1) (laws_FnExactMultipliersOf.f (k + 1) a0 a1) := by
  intro a0 a1 k
  obtain ⟨ih0, ih1, ih2⟩ := laws_FnExactMultipliersOf.mono_l k
  unfold laws_FnExactMultipliersOf.f
  repeat' first
      | (with_reducible exact ih0 _ _ _ _ _ _ _ _)
      | (with_reducible exact ih1 _ _ _ _ _ _)
      | (with_reducible exact ih2 _ _ _)
      | (with_reducible exact impl_MultipliersOf.mono _ _ _)
      | (with_reducible exact laws_eqIntS.mono _ _ _)
      | (with_reducible exact laws_heldIntS.mono _ _ _)
      | (with_reducible exact laws_markIntS.mono _ _ _)
      | (with_reducible exact laws_toIntS.mono _ _)
      | (with_reducible exact spec_MultipliersOf.mono _ _ _)
      | (with_reducible exact LeO.refl _)
      | (with_reducible exact LeO.none _)
      | (with_reducible refine LeO.ite ?_ ?_)
      | (with_reducible refine LeO.bind ?_ (fun _ => ?_))
      | exact ih0 _ _ _ _ _ _ _ _
      | exact ih1 _ _ _ _ _ _
      | exact ih2 _ _ _
      | exact impl_MultipliersOf.mono _ _ _
      | exact laws_eqIntS.mono _ _ _
      | exact laws_heldIntS.mono _ _ _
      | exact laws_markIntS.mono _ _ _
      | exact laws_toIntS.mono _ _
      | exact spec_MultipliersOf.mono _ _ _
      | exact LeO.none _
      | refine LeO.ite ?_ ?_
      | refine LeO.bind ?_ (fun _ => ?_)
set_option maxHeartbeats 8000000 in
set_option maxRecDepth 100000 in
theorem laws_FnExactMultipliersOf.calls (k : Nat) (a0 : Int) (A1 : Option Addr) (c1 : Nat) (l1 : List Int) (r : Bool) (w : World) (hr1 : Kd.C (Kd.int .i64) w A1 l1.length l1) (hc1 : l1.length ≤ c1) (h : laws_FnExactMultipliersOf.f k a0 l1 = some r) :
    Calls Try.prog 9 #[.int .i64 a0, .slice A1 l1.length c1] w fun e w' => e = .returned (.bool r) ∧ Below w.heap.size w w' := by
  have HR1 := Aside0.mk hr1
  have HC1 := Aside0.mk hc1
  clear hr1 hc1
  have HB := Aside0.mk (Below.refl w.heap.size w)
  have H : (if (l1.length : Int) > 1048576 then (some true) else ((laws_toIntS.f k l1).bind fun t758 => ((spec_MultipliersOf.f k a0 t758).bind fun bt761 => ((laws_toIntS.f k l1).bind fun t765 => ((impl_MultipliersOf.f k a0 t765).bind fun bt768 => ((laws_eqIntS.f k bt768.1 bt761.1).bind fun t772 => (if t772 = true then (laws_FnExactMultipliersOf.j0 k a0 l1 bt761.1 bt761.2 t765 bt768.1 bt768.2 (bt768.2 != bt761.2)) else (laws_FnExactMultipliersOf.j0 k a0 l1 bt761.1 bt761.2 t765 bt768.1 bt768.2 true)))))))) = some r := h
  clear h
  by_cases c3 : (l1.length : Int) > 1048576
  · rw [if_pos c3] at H
    have c3b0 : decide (1048576 < (l1.length : Int)) = true := decide_eq_true c3
    have c3b1 : decide (1048576 < l1.length) = true := decide_eq_true (by omega)
    clear c3
    obtain rfl := Option.some.inj H
    go_enter Try.func9, Try.ntmps9
    go_wp2
    go_ret
    exact ⟨by first | rfl | (simp [errW_none, errW_some] <;> rfl) | (simp [*, errW_none, errW_some] <;> rfl), by repeat (first | (with_reducible first | exact HB.out | apply below_alloc | apply pw_below_drewN | apply below_drew1) | exact HB.out)⟩
  · rw [if_neg c3] at H
    have c3b0 : decide (1048576 < (l1.length : Int)) = false := decide_eq_false c3
    have c3b1 : decide (1048576 < l1.length) = false := decide_eq_false (by omega)
    clear c3
    replace H := Option.bind_eq_some_iff.mp H
    obtain ⟨t758, A40, H⟩ := H
    replace H : ((spec_MultipliersOf.f k a0 t758).bind fun bt761 => ((laws_toIntS.f k l1).bind fun t765 => ((impl_MultipliersOf.f k a0 t765).bind fun bt768 => ((laws_eqIntS.f k bt768.1 bt761.1).bind fun t772 => (if t772 = true then (laws_FnExactMultipliersOf.j0 k a0 l1 bt761.1 bt761.2 t765 bt768.1 bt768.2 (bt768.2 != bt761.2)) else (laws_FnExactMultipliersOf.j0 k a0 l1 bt761.1 bt761.2 t765 bt768.1 bt768.2 true)))))) = some r := H
    have A4 := Aside0.mk A40
    clear A40
    replace H := Option.bind_eq_some_iff.mp H
    obtain ⟨⟨t761, t762⟩, A50, H⟩ := H
    replace H : ((laws_toIntS.f k l1).bind fun t765 => ((impl_MultipliersOf.f k a0 t765).bind fun bt768 => ((laws_eqIntS.f k bt768.1 t761).bind fun t772 => (if t772 = true then (laws_FnExactMultipliersOf.j0 k a0 l1 t761 t762 t765 bt768.1 bt768.2 (bt768.2 != t762)) else (laws_FnExactMultipliersOf.j0 k a0 l1 t761 t762 t765 bt768.1 bt768.2 true))))) = some r := H
    have A5 := Aside0.mk A50
    clear A50
    replace H := Option.bind_eq_some_iff.mp H
    obtain ⟨t765, A60, H⟩ := H
    replace H : ((impl_MultipliersOf.f k a0 t765).bind fun bt768 => ((laws_eqIntS.f k bt768.1 t761).bind fun t772 => (if t772 = true then (laws_FnExactMultipliersOf.j0 k a0 l1 t761 t762 t765 bt768.1 bt768.2 (bt768.2 != t762)) else (laws_FnExactMultipliersOf.j0 k a0 l1 t761 t762 t765 bt768.1 bt768.2 true)))) = some r := H
    have A6 := Aside0.mk A60
    clear A60
    replace H := Option.bind_eq_some_iff.mp H
    obtain ⟨⟨t768, t769⟩, A70, H⟩ := H
    replace H : ((laws_eqIntS.f k t768 t761).bind fun t772 => (if t772 = true then (laws_FnExactMultipliersOf.j0 k a0 l1 t761 t762 t765 t768 t769 (t769 != t762)) else (laws_FnExactMultipliersOf.j0 k a0 l1 t761 t762 t765 t768 t769 true))) = some r := H
    have A7 := Aside0.mk A70
    clear A70
    have HC8 := Aside0.mk H
    clear H
    go_enter Try.func9, Try.ntmps9
    go_upto_region 6 with (first | ((with_reducible refine gate_callee (f := 21) rfl ?_); refine goesL_ (some 21) rfl rfl Try.func21 (by kernel_rfl) rfl #[.slice A1 l1.length c1] rfl (by (try simp only [List.map_toArray, List.map_cons, List.map_nil]); first | done | rfl | (simp only [List.length_drop, List.length_take]; rfl)) ?_; (with_reducible refine (laws_toIntS.calls k _ _ l1 t758 _ ?side1 ?side2 A4.out).mono ?_); (case side1 => repeat (first | exact HR1.out | (with_reducible refine Kd.C_alloc ?_ _) | (with_reducible refine Kd.C_drewN ?_ _) | (with_reducible refine Kd.C_drew ?_))); (case side2 => exact HC1.out); rintro e w9 ⟨v759, rfl, ho0, hb⟩; refine ⟨_, rfl, ?_⟩; have n0_ := Aside0.mk (Kd.R_lower ho0 (below_size (by repeat (first | (with_reducible first | exact HB.out | apply below_alloc | apply pw_below_drewN | apply below_drew1) | exact HB.out)))); have n1_ := Aside0.mk (below_step (by repeat (first | (with_reducible first | exact HB.out | apply below_alloc | apply pw_below_drewN | apply below_drew1) | exact HB.out)) hb); clear HB; have HO760 := n0_; have HB := n1_; clear n0_ n1_; (try clear hb); (try clear hb2); (try clear hk); (try clear hi); (try clear ho0); obtain ⟨Ao10, co10, eo10⟩ := Kd.R_slice HO760.out; subst eo10) | ((with_reducible refine gate_callee (f := 38) rfl ?_); refine goesL_ (some 22) rfl rfl Try.func38 (by kernel_rfl) rfl #[.int .i64 a0, .slice Ao10 t758.length co10] rfl (by (try simp only [List.map_toArray, List.map_cons, List.map_nil]); first | done | rfl | (simp only [List.length_drop, List.length_take]; rfl)) ?_; (with_reducible refine (spec_MultipliersOf.calls k a0 _ _ t758 t761 t762 _ ?side1 ?side2 A5.out).mono ?_); (case side1 => repeat (first | exact (Kd.R_reads' HO760.out).2.2 | (with_reducible refine Kd.C_alloc ?_ _) | (with_reducible refine Kd.C_drewN ?_ _) | (with_reducible refine Kd.C_drew ?_))); (case side2 => exact (Kd.R_reads' HO760.out).2.1); rintro e w11 ⟨v763, rfl, ho0, hb⟩; refine ⟨_, rfl, ?_⟩; have n0_ := Aside0.mk (Kd.R_elder' (by (with_reducible repeat (first | apply Kd.R_alloc | apply Kd.R_drewN | apply Kd.R_drew)); exact HO760.out) (Kd.R_base ho0) hb); have n1_ := Aside0.mk (Kd.R_lower (Kd.R_new' ho0 (Kd.R_lt (by (with_reducible repeat (first | apply Kd.R_alloc | apply Kd.R_drewN | apply Kd.R_drew)); exact HO760.out))) (below_size (by repeat (first | (with_reducible first | exact HB.out | apply below_alloc | apply pw_below_drewN | apply below_drew1) | exact HB.out)))); have n2_ := Aside0.mk (below_step (by repeat (first | (with_reducible first | exact HB.out | apply below_alloc | apply pw_below_drewN | apply below_drew1) | exact HB.out)) hb); clear HO760; clear HB; have HO760 := n0_; have HO764 := n1_; have HB := n2_; clear n0_ n1_ n2_; (try clear hb); (try clear hb2); (try clear hk); (try clear hi); (try clear ho0)) | ((with_reducible refine gate_callee (f := 21) rfl ?_); refine goesL_ (some 26) rfl rfl Try.func21 (by kernel_rfl) rfl #[.slice A1 l1.length c1] rfl (by (try simp only [List.map_toArray, List.map_cons, List.map_nil]); first | done | rfl | (simp only [List.length_drop, List.length_take]; rfl)) ?_; (with_reducible refine (laws_toIntS.calls k _ _ l1 t765 _ ?side1 ?side2 A6.out).mono ?_); (case side1 => repeat (first | exact (Kd.C_below HR1.out HB.out) | (with_reducible refine Kd.C_alloc ?_ _) | (with_reducible refine Kd.C_drewN ?_ _) | (with_reducible refine Kd.C_drew ?_))); (case side2 => exact HC1.out); rintro e w12 ⟨v766, rfl, ho0, hb⟩; refine ⟨_, rfl, ?_⟩; have n0_ := Aside0.mk (Kd.R_elder' (by (with_reducible repeat (first | apply Kd.R_alloc | apply Kd.R_drewN | apply Kd.R_drew)); exact HO760.out) (Kd.R_base ho0) hb); have n1_ := Aside0.mk (Kd.R_elder' (by (with_reducible repeat (first | apply Kd.R_alloc | apply Kd.R_drewN | apply Kd.R_drew)); exact HO764.out) (Kd.R_base ho0) hb); have n2_ := Aside0.mk (Kd.R_lower (Kd.R_new' (Kd.R_new' ho0 (Kd.R_lt (by (with_reducible repeat (first | apply Kd.R_alloc | apply Kd.R_drewN | apply Kd.R_drew)); exact HO760.out))) (Kd.R_lt (by (with_reducible repeat (first | apply Kd.R_alloc | apply Kd.R_drewN | apply Kd.R_drew)); exact HO764.out))) (below_size (by repeat (first | (with_reducible first | exact HB.out | apply below_alloc | apply pw_below_drewN | apply below_drew1) | exact HB.out)))); have n3_ := Aside0.mk (below_step (by repeat (first | (with_reducible first | exact HB.out | apply below_alloc | apply pw_below_drewN | apply below_drew1) | exact HB.out)) hb); clear HO760; clear HO764; clear HB; have HO760 := n0_; have HO764 := n1_; have HO767 := n2_; have HB := n3_; clear n0_ n1_ n2_ n3_; (try clear hb); (try clear hb2); (try clear hk); (try clear hi); (try clear ho0); obtain ⟨Ao13, co13, eo13⟩ := Kd.R_slice HO767.out; subst eo13) | ((with_reducible refine gate_callee (f := 39) rfl ?_); refine goesL_ (some 30) rfl rfl Try.func39 (by kernel_rfl) rfl #[.int .i64 a0, .slice Ao13 t765.length co13] rfl (by (try simp only [List.map_toArray, List.map_cons, List.map_nil]); first | done | rfl | (simp only [List.length_drop, List.length_take]; rfl)) ?_; (with_reducible refine (impl_MultipliersOf.calls k a0 _ _ t765 t768 t769 _ ?side1 ?side2 A7.out).mono ?_); (case side1 => repeat (first | exact (Kd.R_reads' HO767.out).2.2 | (with_reducible refine Kd.C_alloc ?_ _) | (with_reducible refine Kd.C_drewN ?_ _) | (with_reducible refine Kd.C_drew ?_))); (case side2 => exact (Kd.R_reads' HO767.out).2.1); rintro e w14 ⟨v770, rfl, ho0, hb⟩; refine ⟨_, rfl, ?_⟩; have n0_ := Aside0.mk (Kd.R_elder' (by (with_reducible repeat (first | apply Kd.R_alloc | apply Kd.R_drewN | apply Kd.R_drew)); exact HO760.out) (Kd.R_base ho0) hb); have n1_ := Aside0.mk (Kd.R_elder' (by (with_reducible repeat (first | apply Kd.R_alloc | apply Kd.R_drewN | apply Kd.R_drew)); exact HO764.out) (Kd.R_base ho0) hb); have n2_ := Aside0.mk (Kd.R_elder' (by (with_reducible repeat (first | apply Kd.R_alloc | apply Kd.R_drewN | apply Kd.R_drew)); exact HO767.out) (Kd.R_base ho0) hb); have n3_ := Aside0.mk (Kd.R_lower (Kd.R_new' (Kd.R_new' (Kd.R_new' ho0 (Kd.R_lt (by (with_reducible repeat (first | apply Kd.R_alloc | apply Kd.R_drewN | apply Kd.R_drew)); exact HO760.out))) (Kd.R_lt (by (with_reducible repeat (first | apply Kd.R_alloc | apply Kd.R_drewN | apply Kd.R_drew)); exact HO764.out))) (Kd.R_lt (by (with_reducible repeat (first | apply Kd.R_alloc | apply Kd.R_drewN | apply Kd.R_drew)); exact HO767.out))) (below_size (by repeat (first | (with_reducible first | exact HB.out | apply below_alloc | apply pw_below_drewN | apply below_drew1) | exact HB.out)))); have n4_ := Aside0.mk (below_step (by repeat (first | (with_reducible first | exact HB.out | apply below_alloc | apply pw_below_drewN | apply below_drew1) | exact HB.out)) hb); clear HO760; clear HO764; clear HO767; clear HB; have HO760 := n0_; have HO764 := n1_; have HO767 := n2_; have HO771 := n3_; have HB := n4_; clear n0_ n1_ n2_ n3_ n4_; (try clear hb); (try clear hb2); (try clear hk); (try clear hi); (try clear ho0)))
    (try simp only [Act.put, List.setIfInBounds_toArray, List.set_cons_zero, List.set_cons_succ])
    go_cut [41] (fun v41 wc => ∃ (kq : Nat) (x41_7 : Bool), v41 = .bool x41_7 ∧ Aside0 (laws_FnExactMultipliersOf.j0 kq a0 l1 t761 t762 t765 t768 t769 x41_7 = some r) ∧ Aside0 (kq ≤ k) ∧ Aside0 (Kd.R (Kd.int .i64) 3 wc w.heap.size (fun k_ => some k_ ≠ ((.slice Ao13 t765.length co13) : Value).ownBlock ∧ some k_ ≠ (v770 : Value).ownBlock) v763 t761) ∧ Aside0 (Kd.R (Kd.int .i64) 3 wc w.heap.size (fun k_ => some k_ ≠ (v763 : Value).ownBlock ∧ some k_ ≠ (v770 : Value).ownBlock) (.slice Ao13 t765.length co13) t765) ∧ Aside0 (Kd.R (Kd.int .i64) 3 wc w.heap.size (fun k_ => some k_ ≠ (v763 : Value).ownBlock ∧ some k_ ≠ ((.slice Ao13 t765.length co13) : Value).ownBlock) v770 t768) ∧ Aside0 (Below w.heap.size w wc))
    case first =>
      have H := HC8.out
      clear HC8
      replace H := Option.bind_eq_some_iff.mp H
      obtain ⟨t772, A150, H⟩ := H
      replace H : (if t772 = true then (laws_FnExactMultipliersOf.j0 k a0 l1 t761 t762 t765 t768 t769 (t769 != t762)) else (laws_FnExactMultipliersOf.j0 k a0 l1 t761 t762 t765 t768 t769 true)) = some r := H
      have A15 := Aside0.mk A150
      clear A150
      by_cases c16 : t772 = true
      · subst c16
        have H1 : (laws_FnExactMultipliersOf.j0 k a0 l1 t761 t762 t765 t768 t769 (t769 != t762)) = some r := by rw [if_pos rfl] at H; exact H
        clear H
        have H := H1
        clear H1
        have H' := Aside0.mk H
        clear H
        obtain ⟨Ao17, co17, eo17⟩ := Kd.R_slice HO771.out
        subst eo17
        obtain ⟨Ao18, co18, eo18⟩ := Kd.R_slice HO764.out
        subst eo18
        go_wp2_with (first | ((with_reducible refine gate_callee (f := 24) rfl ?_); refine goesL_ (some 35) rfl rfl Try.func24 (by kernel_rfl) rfl #[.slice Ao17 t768.length co17, .slice Ao18 t761.length co18] rfl (by (try simp only [List.map_toArray, List.map_cons, List.map_nil]); first | done | rfl | (simp only [List.length_drop, List.length_take]; rfl)) ?_; (with_reducible refine (laws_eqIntS.calls k _ _ t768 _ _ t761 true _ ?side1 ?side2 ?side3 ?side4 A15.out).mono ?_); (case side1 => repeat (first | exact (Kd.R_reads' HO771.out).2.2 | (with_reducible refine Kd.C_alloc ?_ _) | (with_reducible refine Kd.C_drewN ?_ _) | (with_reducible refine Kd.C_drew ?_))); (case side2 => exact (Kd.R_reads' HO771.out).2.1); (case side3 => repeat (first | exact (Kd.R_reads' HO764.out).2.2 | (with_reducible refine Kd.C_alloc ?_ _) | (with_reducible refine Kd.C_drewN ?_ _) | (with_reducible refine Kd.C_drew ?_))); (case side4 => exact (Kd.R_reads' HO764.out).2.1); rintro e w' ⟨rfl, ⟨nd, rfl⟩⟩; refine ⟨_, rfl, ?_⟩))
        go_meet
        case rel => exact ⟨_, ((t769 != t762)), (by first | rfl | (simp; done) | (simp [*]; done)), H', ⟨by first | omega | exact Nat.le_refl _⟩, ⟨by (with_reducible repeat (first | apply Kd.R_alloc | apply Kd.R_drewN | apply Kd.R_drew)); exact Kd.R_mono HO764.out (fun _ hk => ⟨hk.1.2, hk.2⟩)⟩, ⟨by (with_reducible repeat (first | apply Kd.R_alloc | apply Kd.R_drewN | apply Kd.R_drew)); exact Kd.R_mono HO767.out (fun _ hk => ⟨hk.1.2, hk.2⟩)⟩, ⟨by (with_reducible repeat (first | apply Kd.R_alloc | apply Kd.R_drewN | apply Kd.R_drew)); exact Kd.R_mono HO771.out (fun _ hk => ⟨hk.1.2, hk.2⟩)⟩, ⟨by repeat (first | (with_reducible first | exact HB.out | apply below_alloc | apply pw_below_drewN | apply below_drew1) | exact HB.out)⟩⟩
      · replace c16 := Bool.eq_false_iff.mpr c16
        subst c16
        have H1 : (laws_FnExactMultipliersOf.j0 k a0 l1 t761 t762 t765 t768 t769 true) = some r := by rw [if_neg (show ¬ (false = true) by decide)] at H; exact H
        clear H
        have H := H1
        clear H1
        have H' := Aside0.mk H
        clear H
        obtain ⟨Ao19, co19, eo19⟩ := Kd.R_slice HO771.out
        subst eo19
        obtain ⟨Ao20, co20, eo20⟩ := Kd.R_slice HO764.out
        subst eo20
        go_wp2_with (first | ((with_reducible refine gate_callee (f := 24) rfl ?_); refine goesL_ (some 35) rfl rfl Try.func24 (by kernel_rfl) rfl #[.slice Ao19 t768.length co19, .slice Ao20 t761.length co20] rfl (by (try simp only [List.map_toArray, List.map_cons, List.map_nil]); first | done | rfl | (simp only [List.length_drop, List.length_take]; rfl)) ?_; (with_reducible refine (laws_eqIntS.calls k _ _ t768 _ _ t761 false _ ?side1 ?side2 ?side3 ?side4 A15.out).mono ?_); (case side1 => repeat (first | exact (Kd.R_reads' HO771.out).2.2 | (with_reducible refine Kd.C_alloc ?_ _) | (with_reducible refine Kd.C_drewN ?_ _) | (with_reducible refine Kd.C_drew ?_))); (case side2 => exact (Kd.R_reads' HO771.out).2.1); (case side3 => repeat (first | exact (Kd.R_reads' HO764.out).2.2 | (with_reducible refine Kd.C_alloc ?_ _) | (with_reducible refine Kd.C_drewN ?_ _) | (with_reducible refine Kd.C_drew ?_))); (case side4 => exact (Kd.R_reads' HO764.out).2.1); rintro e w' ⟨rfl, ⟨nd, rfl⟩⟩; refine ⟨_, rfl, ?_⟩))
        go_meet
        case rel => exact ⟨_, (true), (by first | rfl | (simp; done) | (simp [*]; done)), H', ⟨by first | omega | exact Nat.le_refl _⟩, ⟨by (with_reducible repeat (first | apply Kd.R_alloc | apply Kd.R_drewN | apply Kd.R_drew)); exact Kd.R_mono HO764.out (fun _ hk => ⟨hk.1.2, hk.2⟩)⟩, ⟨by (with_reducible repeat (first | apply Kd.R_alloc | apply Kd.R_drewN | apply Kd.R_drew)); exact Kd.R_mono HO767.out (fun _ hk => ⟨hk.1.2, hk.2⟩)⟩, ⟨by (with_reducible repeat (first | apply Kd.R_alloc | apply Kd.R_drewN | apply Kd.R_drew)); exact Kd.R_mono HO771.out (fun _ hk => ⟨hk.1.2, hk.2⟩)⟩, ⟨by repeat (first | (with_reducible first | exact HB.out | apply below_alloc | apply pw_below_drewN | apply below_drew1) | exact HB.out)⟩⟩
    case rest =>
      clear HC8
      try clear c1
      try clear c2
      try clear p2
      try clear c3
      try clear c3b0
      try clear c3b1
      try clear c9
      try clear c16
      obtain ⟨kq, x41_7, rfl, HA, HJ7, HO_5, HO_7, HO_8, HB⟩ := hcut
      cases kq with
      | zero => exact absurd HA.out (by simp [laws_FnExactMultipliersOf.j0])
      | succ kj7 =>
        have H := HA.out
        clear HA
        simp only [laws_FnExactMultipliersOf.j0] at H
        by_cases c21 : x41_7 = true
        · subst c21
          have H1 : (some false) = some r := by rw [if_pos rfl] at H; exact H
          clear H
          have H := H1
          clear H1
          obtain rfl := Option.some.inj H
          go_wp2
          go_ret
          exact ⟨by first | rfl | (simp [errW_none, errW_some] <;> rfl) | (simp [*, errW_none, errW_some] <;> rfl), by repeat (first | (with_reducible first | exact HB.out | apply below_alloc | apply pw_below_drewN | apply below_drew1) | exact HB.out)⟩
        · replace c21 := Bool.eq_false_iff.mpr c21
          subst c21
          have H1 : ((laws_toIntS.f kj7 l1).bind fun t773 => ((laws_eqIntS.f kj7 t765 t773).bind fun t776 => (if t776 = true then ((laws_markIntS.f kj7 t765 1).bind fun bt777 => (if bt777.1 < 0 then (laws_FnExactMultipliersOf.j1 kj7 a0 l1 t761 t762 t768 true) else ((laws_eqIntS.f kj7 t768 t761).bind fun t779 => (if t779 = true then (laws_FnExactMultipliersOf.j1 kj7 a0 l1 t761 t762 t768 (t769 != t762)) else (laws_FnExactMultipliersOf.j1 kj7 a0 l1 t761 t762 t768 true))))) else (some false)))) = some r := by rw [if_neg (show ¬ (false = true) by decide)] at H; exact H
          clear H
          have H := H1
          clear H1
          replace H := Option.bind_eq_some_iff.mp H
          obtain ⟨t773, A220, H⟩ := H
          replace H : ((laws_eqIntS.f kj7 t765 t773).bind fun t776 => (if t776 = true then ((laws_markIntS.f kj7 t765 1).bind fun bt777 => (if bt777.1 < 0 then (laws_FnExactMultipliersOf.j1 kj7 a0 l1 t761 t762 t768 true) else ((laws_eqIntS.f kj7 t768 t761).bind fun t779 => (if t779 = true then (laws_FnExactMultipliersOf.j1 kj7 a0 l1 t761 t762 t768 (t769 != t762)) else (laws_FnExactMultipliersOf.j1 kj7 a0 l1 t761 t762 t768 true))))) else (some false))) = some r := H
          have A22 := Aside0.mk A220
          clear A220
          replace H := Option.bind_eq_some_iff.mp H
          obtain ⟨t776, A230, H⟩ := H
          replace H : (if t776 = true then ((laws_markIntS.f kj7 t765 1).bind fun bt777 => (if bt777.1 < 0 then (laws_FnExactMultipliersOf.j1 kj7 a0 l1 t761 t762 t768 true) else ((laws_eqIntS.f kj7 t768 t761).bind fun t779 => (if t779 = true then (laws_FnExactMultipliersOf.j1 kj7 a0 l1 t761 t762 t768 (t769 != t762)) else (laws_FnExactMultipliersOf.j1 kj7 a0 l1 t761 t762 t768 true))))) else (some false)) = some r := H
          have A23 := Aside0.mk A230
          clear A230
          by_cases c24 : t776 = true
          · subst c24
            have H1 : ((laws_markIntS.f kj7 t765 1).bind fun bt777 => (if bt777.1 < 0 then (laws_FnExactMultipliersOf.j1 kj7 a0 l1 t761 t762 t768 true) else ((laws_eqIntS.f kj7 t768 t761).bind fun t779 => (if t779 = true then (laws_FnExactMultipliersOf.j1 kj7 a0 l1 t761 t762 t768 (t769 != t762)) else (laws_FnExactMultipliersOf.j1 kj7 a0 l1 t761 t762 t768 true))))) = some r := by rw [if_pos rfl] at H; exact H
            clear H
            have H := H1
            clear H1
            replace H := Option.bind_eq_some_iff.mp H
            obtain ⟨⟨t777, t778⟩, A250, H⟩ := H
            replace H : (if t777 < 0 then (laws_FnExactMultipliersOf.j1 kj7 a0 l1 t761 t762 t768 true) else ((laws_eqIntS.f kj7 t768 t761).bind fun t779 => (if t779 = true then (laws_FnExactMultipliersOf.j1 kj7 a0 l1 t761 t762 t768 (t769 != t762)) else (laws_FnExactMultipliersOf.j1 kj7 a0 l1 t761 t762 t768 true)))) = some r := H
            have A25 := Aside0.mk A250
            clear A250
            have HC26 := Aside0.mk H
            clear H
            go_upto_region 12 with (first | ((with_reducible refine gate_callee (f := 21) rfl ?_); refine goesL_ (some 44) rfl rfl Try.func21 (by kernel_rfl) rfl #[.slice A1 l1.length c1] rfl (by (try simp only [List.map_toArray, List.map_cons, List.map_nil]); first | done | rfl | (simp only [List.length_drop, List.length_take]; rfl)) ?_; (with_reducible refine (laws_toIntS.calls kj7 _ _ l1 t773 _ ?side1 ?side2 A22.out).mono ?_); (case side1 => repeat (first | exact (Kd.C_below HR1.out HB.out) | (with_reducible refine Kd.C_alloc ?_ _) | (with_reducible refine Kd.C_drewN ?_ _) | (with_reducible refine Kd.C_drew ?_))); (case side2 => exact HC1.out); rintro e w27 ⟨v774, rfl, ho0, hb⟩; refine ⟨_, rfl, ?_⟩; have n0_ := Aside0.mk (Kd.R_elder' (by (with_reducible repeat (first | apply Kd.R_alloc | apply Kd.R_drewN | apply Kd.R_drew)); exact HO_5.out) (Kd.R_base ho0) hb); have n1_ := Aside0.mk (Kd.R_elder' (by (with_reducible repeat (first | apply Kd.R_alloc | apply Kd.R_drewN | apply Kd.R_drew)); exact HO_7.out) (Kd.R_base ho0) hb); have n2_ := Aside0.mk (Kd.R_elder' (by (with_reducible repeat (first | apply Kd.R_alloc | apply Kd.R_drewN | apply Kd.R_drew)); exact HO_8.out) (Kd.R_base ho0) hb); have n3_ := Aside0.mk (Kd.R_lower (Kd.R_new' (Kd.R_new' (Kd.R_new' ho0 (Kd.R_lt (by (with_reducible repeat (first | apply Kd.R_alloc | apply Kd.R_drewN | apply Kd.R_drew)); exact HO_5.out))) (Kd.R_lt (by (with_reducible repeat (first | apply Kd.R_alloc | apply Kd.R_drewN | apply Kd.R_drew)); exact HO_7.out))) (Kd.R_lt (by (with_reducible repeat (first | apply Kd.R_alloc | apply Kd.R_drewN | apply Kd.R_drew)); exact HO_8.out))) (below_size (by repeat (first | (with_reducible first | exact HB.out | apply below_alloc | apply pw_below_drewN | apply below_drew1) | exact HB.out)))); have n4_ := Aside0.mk (below_step (by repeat (first | (with_reducible first | exact HB.out | apply below_alloc | apply pw_below_drewN | apply below_drew1) | exact HB.out)) hb); clear HO_5; clear HO_7; clear HO_8; clear HB; have HO_5 := n0_; have HO_7 := n1_; have HO_8 := n2_; have HO775 := n3_; have HB := n4_; clear n0_ n1_ n2_ n3_ n4_; (try clear hb); (try clear hb2); (try clear hk); (try clear hi); (try clear ho0); obtain ⟨Ao28, co28, eo28⟩ := Kd.R_slice HO775.out; subst eo28) | ((with_reducible refine gate_callee (f := 24) rfl ?_); refine goesL_ (some 45) rfl rfl Try.func24 (by kernel_rfl) rfl #[.slice Ao13 t765.length co13, .slice Ao28 t773.length co28] rfl (by (try simp only [List.map_toArray, List.map_cons, List.map_nil]); first | done | rfl | (simp only [List.length_drop, List.length_take]; rfl)) ?_; (with_reducible refine (laws_eqIntS.calls kj7 _ _ t765 _ _ t773 true _ ?side1 ?side2 ?side3 ?side4 A23.out).mono ?_); (case side1 => repeat (first | exact (Kd.R_reads' HO_7.out).2.2 | (with_reducible refine Kd.C_alloc ?_ _) | (with_reducible refine Kd.C_drewN ?_ _) | (with_reducible refine Kd.C_drew ?_))); (case side2 => exact (Kd.R_reads' HO_7.out).2.1); (case side3 => repeat (first | exact (Kd.R_reads' HO775.out).2.2 | (with_reducible refine Kd.C_alloc ?_ _) | (with_reducible refine Kd.C_drewN ?_ _) | (with_reducible refine Kd.C_drew ?_))); (case side4 => exact (Kd.R_reads' HO775.out).2.1); rintro e w' ⟨rfl, ⟨nd, rfl⟩⟩; refine ⟨_, rfl, ?_⟩) | ((with_reducible refine gate_callee (f := 25) rfl ?_); refine goesL_ (some 49) rfl rfl Try.func25 (by kernel_rfl) rfl #[.slice Ao13 t765.length co13, .int .i64 1] rfl (by (try simp only [List.map_toArray, List.map_cons, List.map_nil]); first | done | rfl | (simp only [List.length_drop, List.length_take]; rfl)) ?_; (with_reducible refine (laws_markIntS.calls kj7 (fun k_ => some k_ = (.slice Ao13 t765.length co13 : Value).ownBlock) (.slice Ao13 t765.length co13) t765 1 t777 t778 w _ ?side1 ?side2 A25.out).mono ?_); (case side1 => repeat (first | (with_reducible first | exact HB.out | apply below_alloc | apply pw_below_drewN | apply below_drew1) | exact HB.out)); (case side2 => exact Kd.R_tight rfl HO_7.out); rintro e w29 ⟨rfl, hy0, hb, hkp⟩; refine ⟨_, rfl, ?_⟩; have n0_ := Aside0.mk (Kd.R_mono (ok' := fun k_ => some k_ ≠ (.slice Ao13 t765.length co13 : Value).ownBlock ∧ some k_ ≠ (v770 : Value).ownBlock ∧ some k_ ≠ (.slice Ao28 t773.length co28 : Value).ownBlock) (Kd.R_keptB (HO_5.out) hkp (fun k_ hk_ hs_ => (hk_.1.1) hs_)) (fun k_ hk_ => ⟨hk_.1.1.1, hk_.1.1.2, hk_.1.2⟩)); have n1_ := Aside0.mk (Kd.R_reok rfl hy0 (fun k_ e_ => HO_7.out.1 k_ e_)); have n2_ := Aside0.mk (Kd.R_mono (ok' := fun k_ => some k_ ≠ (v763 : Value).ownBlock ∧ some k_ ≠ (.slice Ao13 t765.length co13 : Value).ownBlock ∧ some k_ ≠ (.slice Ao28 t773.length co28 : Value).ownBlock) (Kd.R_keptB (HO_8.out) hkp (fun k_ hk_ hs_ => (hk_.1.2) hs_)) (fun k_ hk_ => ⟨hk_.1.1.1, hk_.1.1.2, hk_.1.2⟩)); have n3_ := Aside0.mk (Kd.R_mono (ok' := fun k_ => some k_ ≠ (v763 : Value).ownBlock ∧ some k_ ≠ (.slice Ao13 t765.length co13 : Value).ownBlock ∧ some k_ ≠ (v770 : Value).ownBlock) (Kd.R_keptB (HO775.out) hkp (fun k_ hk_ hs_ => (hk_.1.2) hs_)) (fun k_ hk_ => ⟨hk_.1.1.1.2, hk_.1.1.2, hk_.1.2⟩)); have n4_ := Aside0.mk (hb); clear HO_5; clear HO_7; clear HO_8; clear HO775; clear HB; have HO_5 := n0_; have HO_7 := n1_; have HO_8 := n2_; have HO775 := n3_; have HB := n4_; clear n0_ n1_ n2_ n3_ n4_; (try clear hb); (try clear hkp); (try clear hy0)))
            (try simp only [Act.put, List.setIfInBounds_toArray, List.set_cons_zero, List.set_cons_succ])
            go_cut [62] (fun v62 wc => ∃ (kq : Nat) (x62_25 : Bool), v62 = .bool x62_25 ∧ Aside0 (laws_FnExactMultipliersOf.j1 kq a0 l1 t761 t762 t768 x62_25 = some r) ∧ Aside0 (kq ≤ kj7) ∧ Aside0 (Kd.R (Kd.int .i64) 3 wc w.heap.size (fun k_ => some k_ ≠ (v770 : Value).ownBlock) v763 t761) ∧ Aside0 (Kd.R (Kd.int .i64) 3 wc w.heap.size (fun k_ => some k_ ≠ (v763 : Value).ownBlock) v770 t768) ∧ Aside0 (Below w.heap.size w wc))
            case first =>
              have H := HC26.out
              clear HC26
              by_cases c30 : t777 < 0
              · rw [if_pos c30] at H
                have c30b0 : decide (t777 < 0) = true := decide_eq_true c30
                clear c30
                (first | rw [c30b0] | (simp only [i64_w, i32_w]; rw [c30b0]) | skip)
                have H' := Aside0.mk H
                clear H
                go_wp2
                go_meet
                case rel => exact ⟨_, (true), (by first | rfl | (simp; done) | (simp [*]; done)), H', ⟨by have := HJ7.out; first | omega | exact Nat.le_refl _⟩, ⟨by (with_reducible repeat (first | apply Kd.R_alloc | apply Kd.R_drewN | apply Kd.R_drew)); exact Kd.R_mono HO_5.out (fun _ hk => hk.2.1)⟩, ⟨by (with_reducible repeat (first | apply Kd.R_alloc | apply Kd.R_drewN | apply Kd.R_drew)); exact Kd.R_mono HO_8.out (fun _ hk => hk.1)⟩, ⟨by repeat (first | (with_reducible first | exact HB.out | apply below_alloc | apply pw_below_drewN | apply below_drew1) | exact HB.out)⟩⟩
              · rw [if_neg c30] at H
                have c30b0 : decide (t777 < 0) = false := decide_eq_false c30
                clear c30
                (first | rw [c30b0] | (simp only [i64_w, i32_w]; rw [c30b0]) | skip)
                replace H := Option.bind_eq_some_iff.mp H
                obtain ⟨t779, A310, H⟩ := H
                replace H : (if t779 = true then (laws_FnExactMultipliersOf.j1 kj7 a0 l1 t761 t762 t768 (t769 != t762)) else (laws_FnExactMultipliersOf.j1 kj7 a0 l1 t761 t762 t768 true)) = some r := H
                have A31 := Aside0.mk A310
                clear A310
                by_cases c32 : t779 = true
                · subst c32
                  have H1 : (laws_FnExactMultipliersOf.j1 kj7 a0 l1 t761 t762 t768 (t769 != t762)) = some r := by rw [if_pos rfl] at H; exact H
                  clear H
                  have H := H1
                  clear H1
                  have H' := Aside0.mk H
                  clear H
                  obtain ⟨Ao33, co33, eo33⟩ := Kd.R_slice HO_8.out
                  subst eo33
                  obtain ⟨Ao34, co34, eo34⟩ := Kd.R_slice HO_5.out
                  subst eo34
                  go_wp2_with (first | (go_at_call 24; (with_reducible refine (laws_eqIntS.calls kj7 _ _ t768 _ _ t761 true _ ?side1 ?side2 ?side3 ?side4 A31.out).mono ?_); (case side1 => repeat (first | exact (Kd.R_reads' HO_8.out).2.2 | (with_reducible refine Kd.C_alloc ?_ _) | (with_reducible refine Kd.C_drewN ?_ _) | (with_reducible refine Kd.C_drew ?_))); (case side2 => exact (Kd.R_reads' HO_8.out).2.1); (case side3 => repeat (first | exact (Kd.R_reads' HO_5.out).2.2 | (with_reducible refine Kd.C_alloc ?_ _) | (with_reducible refine Kd.C_drewN ?_ _) | (with_reducible refine Kd.C_drew ?_))); (case side4 => exact (Kd.R_reads' HO_5.out).2.1); rintro e w' ⟨rfl, ⟨nd, rfl⟩⟩))
                  go_meet
                  case rel => exact ⟨_, ((t769 != t762)), (by first | rfl | (simp; done) | (simp [*]; done)), H', ⟨by have := HJ7.out; first | omega | exact Nat.le_refl _⟩, ⟨by (with_reducible repeat (first | apply Kd.R_alloc | apply Kd.R_drewN | apply Kd.R_drew)); exact Kd.R_mono HO_5.out (fun _ hk => hk.2.1)⟩, ⟨by (with_reducible repeat (first | apply Kd.R_alloc | apply Kd.R_drewN | apply Kd.R_drew)); exact Kd.R_mono HO_8.out (fun _ hk => hk.1)⟩, ⟨by repeat (first | (with_reducible first | exact HB.out | apply below_alloc | apply pw_below_drewN | apply below_drew1) | exact HB.out)⟩⟩
                · replace c32 := Bool.eq_false_iff.mpr c32
                  subst c32
                  have H1 : (laws_FnExactMultipliersOf.j1 kj7 a0 l1 t761 t762 t768 true) = some r := by rw [if_neg (show ¬ (false = true) by decide)] at H; exact H
                  clear H
                  have H := H1
                  clear H1
                  have H' := Aside0.mk H
                  clear H
                  obtain ⟨Ao35, co35, eo35⟩ := Kd.R_slice HO_8.out
                  subst eo35
                  obtain ⟨Ao36, co36, eo36⟩ := Kd.R_slice HO_5.out
                  subst eo36
                  go_wp2_with (first | (go_at_call 24; (with_reducible refine (laws_eqIntS.calls kj7 _ _ t768 _ _ t761 false _ ?side1 ?side2 ?side3 ?side4 A31.out).mono ?_); (case side1 => repeat (first | exact (Kd.R_reads' HO_8.out).2.2 | (with_reducible refine Kd.C_alloc ?_ _) | (with_reducible refine Kd.C_drewN ?_ _) | (with_reducible refine Kd.C_drew ?_))); (case side2 => exact (Kd.R_reads' HO_8.out).2.1); (case side3 => repeat (first | exact (Kd.R_reads' HO_5.out).2.2 | (with_reducible refine Kd.C_alloc ?_ _) | (with_reducible refine Kd.C_drewN ?_ _) | (with_reducible refine Kd.C_drew ?_))); (case side4 => exact (Kd.R_reads' HO_5.out).2.1); rintro e w' ⟨rfl, ⟨nd, rfl⟩⟩))
                  go_meet
                  case rel => exact ⟨_, (true), (by first | rfl | (simp; done) | (simp [*]; done)), H', ⟨by have := HJ7.out; first | omega | exact Nat.le_refl _⟩, ⟨by (with_reducible repeat (first | apply Kd.R_alloc | apply Kd.R_drewN | apply Kd.R_drew)); exact Kd.R_mono HO_5.out (fun _ hk => hk.2.1)⟩, ⟨by (with_reducible repeat (first | apply Kd.R_alloc | apply Kd.R_drewN | apply Kd.R_drew)); exact Kd.R_mono HO_8.out (fun _ hk => hk.1)⟩, ⟨by repeat (first | (with_reducible first | exact HB.out | apply below_alloc | apply pw_below_drewN | apply below_drew1) | exact HB.out)⟩⟩
            case rest =>
              clear HC26
              try clear c1
              try clear c2
              try clear p2
              try clear c3
              try clear c3b0
              try clear c3b1
              try clear c9
              try clear c16
              try clear c21
              try clear c24
              try clear c25
              try clear c30
              try clear c30b0
              try clear c32
              try clear p2
              obtain ⟨kq, x62_25, rfl, HA, HJ25, HO_5, HO_8, HB⟩ := hcut
              cases kq with
              | zero => exact absurd HA.out (by simp [laws_FnExactMultipliersOf.j1])
              | succ kj25 =>
                have H := HA.out
                clear HA
                simp only [laws_FnExactMultipliersOf.j1] at H
                by_cases c37 : x62_25 = true
                · subst c37
                  have H1 : (some false) = some r := by rw [if_pos rfl] at H; exact H
                  clear H
                  have H := H1
                  clear H1
                  obtain rfl := Option.some.inj H
                  go_wp2
                  go_ret
                  exact ⟨by first | rfl | (simp [errW_none, errW_some] <;> rfl) | (simp [*, errW_none, errW_some] <;> rfl), by repeat (first | (with_reducible first | exact HB.out | apply below_alloc | apply pw_below_drewN | apply below_drew1) | exact HB.out)⟩
                · replace c37 := Bool.eq_false_iff.mpr c37
                  subst c37
                  have H1 : ((laws_markIntS.f kj25 t768 1).bind fun bt780 => ((laws_heldIntS.f kj25 bt780.2 1).bind fun t782 => (if t782 < 0 then (some false) else (if t782 = bt780.1 then ((laws_toIntS.f kj25 l1).bind fun t783 => ((impl_MultipliersOf.f kj25 a0 t783).bind fun bt786 => ((laws_eqIntS.f kj25 bt786.1 t761).bind fun t790 => (if t790 = true then (laws_FnExactMultipliersOf.j2 kj25 bt780.2 bt780.1 (bt786.2 != t762)) else (laws_FnExactMultipliersOf.j2 kj25 bt780.2 bt780.1 true))))) else (some false))))) = some r := by rw [if_neg (show ¬ (false = true) by decide)] at H; exact H
                  clear H
                  have H := H1
                  clear H1
                  replace H := Option.bind_eq_some_iff.mp H
                  obtain ⟨⟨t780, t781⟩, A380, H⟩ := H
                  replace H : ((laws_heldIntS.f kj25 t781 1).bind fun t782 => (if t782 < 0 then (some false) else (if t782 = t780 then ((laws_toIntS.f kj25 l1).bind fun t783 => ((impl_MultipliersOf.f kj25 a0 t783).bind fun bt786 => ((laws_eqIntS.f kj25 bt786.1 t761).bind fun t790 => (if t790 = true then (laws_FnExactMultipliersOf.j2 kj25 t781 t780 (bt786.2 != t762)) else (laws_FnExactMultipliersOf.j2 kj25 t781 t780 true))))) else (some false)))) = some r := H
                  have A38 := Aside0.mk A380
                  clear A380
                  replace H := Option.bind_eq_some_iff.mp H
                  obtain ⟨t782, A390, H⟩ := H
                  replace H : (if t782 < 0 then (some false) else (if t782 = t780 then ((laws_toIntS.f kj25 l1).bind fun t783 => ((impl_MultipliersOf.f kj25 a0 t783).bind fun bt786 => ((laws_eqIntS.f kj25 bt786.1 t761).bind fun t790 => (if t790 = true then (laws_FnExactMultipliersOf.j2 kj25 t781 t780 (bt786.2 != t762)) else (laws_FnExactMultipliersOf.j2 kj25 t781 t780 true))))) else (some false))) = some r := H
                  have A39 := Aside0.mk A390
                  clear A390
                  by_cases c40 : t782 < 0
                  · rw [if_pos c40] at H
                    have c40b0 : decide (t782 < 0) = true := decide_eq_true c40
                    clear c40
                    obtain rfl := Option.some.inj H
                    obtain ⟨Ao41, co41, eo41⟩ := Kd.R_slice HO_8.out
                    subst eo41
                    go_wp2_with (first | ((with_reducible refine gate_callee (f := 25) rfl ?_); refine goesL_ (some 65) rfl rfl Try.func25 (by kernel_rfl) rfl #[.slice Ao41 t768.length co41, .int .i64 1] rfl (by (try simp only [List.map_toArray, List.map_cons, List.map_nil]); first | done | rfl | (simp only [List.length_drop, List.length_take]; rfl)) ?_; (with_reducible refine (laws_markIntS.calls kj25 (fun k_ => some k_ = (.slice Ao41 t768.length co41 : Value).ownBlock) (.slice Ao41 t768.length co41) t768 1 t780 t781 w _ ?side1 ?side2 A38.out).mono ?_); (case side1 => repeat (first | (with_reducible first | exact HB.out | apply below_alloc | apply pw_below_drewN | apply below_drew1) | exact HB.out)); (case side2 => exact Kd.R_tight rfl HO_8.out); rintro e w42 ⟨rfl, hy0, hb, hkp⟩; refine ⟨_, rfl, ?_⟩; have n0_ := Aside0.mk (Kd.R_mono (ok' := fun k_ => some k_ ≠ (.slice Ao41 t768.length co41 : Value).ownBlock) (Kd.R_keptB (HO_5.out) hkp (fun k_ hk_ hs_ => (hk_) hs_)) (fun k_ hk_ => hk_.1)); have n1_ := Aside0.mk (Kd.R_reok rfl hy0 (fun k_ e_ => HO_8.out.1 k_ e_)); have n2_ := Aside0.mk (hb); clear HO_5; clear HO_8; clear HB; have HO_5 := n0_; have HO_8 := n1_; have HB := n2_; clear n0_ n1_ n2_; (try clear hb); (try clear hkp); (try clear hy0)) | ((with_reducible refine gate_callee (f := 30) rfl ?_); refine goesL_ (some 68) rfl rfl Try.func30 (by kernel_rfl) rfl #[.slice Ao41 t781.length co41, .int .i64 1] rfl (by (try simp only [List.map_toArray, List.map_cons, List.map_nil]); first | done | (rw [show t781.length = t768.length from (Kd.R_reads' HO_8.out).1.symm] <;> rfl) | rfl | (simp only [List.length_drop, List.length_take]; rfl)) ?_; (with_reducible refine (laws_heldIntS.calls kj25 _ _ t781 1 t782 _ ?side1 ?side2 A39.out).mono ?_); (case side1 => repeat (first | exact (Kd.R_reads' HO_8.out).2.2 | (with_reducible refine Kd.C_alloc ?_ _) | (with_reducible refine Kd.C_drewN ?_ _) | (with_reducible refine Kd.C_drew ?_))); (case side2 => rw [show t781.length = t768.length from (Kd.R_reads' HO_8.out).1.symm]; exact (Kd.R_reads' HO_8.out).2.1); rintro e w' ⟨rfl, ⟨nd, rfl⟩⟩; refine ⟨_, rfl, ?_⟩))
                    go_ret
                    exact ⟨by first | rfl | (simp [errW_none, errW_some] <;> rfl) | (simp [*, errW_none, errW_some] <;> rfl), by repeat (first | (with_reducible first | exact HB.out | apply below_alloc | apply pw_below_drewN | apply below_drew1) | exact HB.out)⟩
                  · rw [if_neg c40] at H
                    have c40b0 : decide (t782 < 0) = false := decide_eq_false c40
                    clear c40
                    by_cases c43 : t782 = t780
                    · rw [if_pos c43] at H
                      have c43b0 : (t782 == t780) = true := beq_iff_eq.mpr c43
                      have c43b1 : (t782 != t780) = false := bne_eq_false_iff_eq.mpr c43
                      clear c43
                      replace H := Option.bind_eq_some_iff.mp H
                      obtain ⟨t783, A440, H⟩ := H
                      replace H : ((impl_MultipliersOf.f kj25 a0 t783).bind fun bt786 => ((laws_eqIntS.f kj25 bt786.1 t761).bind fun t790 => (if t790 = true then (laws_FnExactMultipliersOf.j2 kj25 t781 t780 (bt786.2 != t762)) else (laws_FnExactMultipliersOf.j2 kj25 t781 t780 true)))) = some r := H
                      have A44 := Aside0.mk A440
                      clear A440
                      replace H := Option.bind_eq_some_iff.mp H
                      obtain ⟨⟨t786, t787⟩, A450, H⟩ := H
                      replace H : ((laws_eqIntS.f kj25 t786 t761).bind fun t790 => (if t790 = true then (laws_FnExactMultipliersOf.j2 kj25 t781 t780 (t787 != t762)) else (laws_FnExactMultipliersOf.j2 kj25 t781 t780 true))) = some r := H
                      have A45 := Aside0.mk A450
                      clear A450
                      have HC46 := Aside0.mk H
                      clear H
                      obtain ⟨Ao47, co47, eo47⟩ := Kd.R_slice HO_8.out
                      subst eo47
                      go_upto_region 23 with (first | ((with_reducible refine gate_callee (f := 25) rfl ?_); refine goesL_ (some 65) rfl rfl Try.func25 (by kernel_rfl) rfl #[.slice Ao47 t768.length co47, .int .i64 1] rfl (by (try simp only [List.map_toArray, List.map_cons, List.map_nil]); first | done | rfl | (simp only [List.length_drop, List.length_take]; rfl)) ?_; (with_reducible refine (laws_markIntS.calls kj25 (fun k_ => some k_ = (.slice Ao47 t768.length co47 : Value).ownBlock) (.slice Ao47 t768.length co47) t768 1 t780 t781 w _ ?side1 ?side2 A38.out).mono ?_); (case side1 => repeat (first | (with_reducible first | exact HB.out | apply below_alloc | apply pw_below_drewN | apply below_drew1) | exact HB.out)); (case side2 => exact Kd.R_tight rfl HO_8.out); rintro e w48 ⟨rfl, hy0, hb, hkp⟩; refine ⟨_, rfl, ?_⟩; have n0_ := Aside0.mk (Kd.R_mono (ok' := fun k_ => some k_ ≠ (.slice Ao47 t768.length co47 : Value).ownBlock) (Kd.R_keptB (HO_5.out) hkp (fun k_ hk_ hs_ => (hk_) hs_)) (fun k_ hk_ => hk_.1)); have n1_ := Aside0.mk (Kd.R_reok rfl hy0 (fun k_ e_ => HO_8.out.1 k_ e_)); have n2_ := Aside0.mk (hb); clear HO_5; clear HO_8; clear HB; have HO_5 := n0_; have HO_8 := n1_; have HB := n2_; clear n0_ n1_ n2_; (try clear hb); (try clear hkp); (try clear hy0)) | ((with_reducible refine gate_callee (f := 30) rfl ?_); refine goesL_ (some 68) rfl rfl Try.func30 (by kernel_rfl) rfl #[.slice Ao47 t781.length co47, .int .i64 1] rfl (by (try simp only [List.map_toArray, List.map_cons, List.map_nil]); first | done | (rw [show t781.length = t768.length from (Kd.R_reads' HO_8.out).1.symm] <;> rfl) | rfl | (simp only [List.length_drop, List.length_take]; rfl)) ?_; (with_reducible refine (laws_heldIntS.calls kj25 _ _ t781 1 t782 _ ?side1 ?side2 A39.out).mono ?_); (case side1 => repeat (first | exact (Kd.R_reads' HO_8.out).2.2 | (with_reducible refine Kd.C_alloc ?_ _) | (with_reducible refine Kd.C_drewN ?_ _) | (with_reducible refine Kd.C_drew ?_))); (case side2 => rw [show t781.length = t768.length from (Kd.R_reads' HO_8.out).1.symm]; exact (Kd.R_reads' HO_8.out).2.1); rintro e w' ⟨rfl, ⟨nd, rfl⟩⟩; refine ⟨_, rfl, ?_⟩) | ((with_reducible refine gate_callee (f := 21) rfl ?_); refine goesL_ (some 77) rfl rfl Try.func21 (by kernel_rfl) rfl #[.slice A1 l1.length c1] rfl (by (try simp only [List.map_toArray, List.map_cons, List.map_nil]); first | done | rfl | (simp only [List.length_drop, List.length_take]; rfl)) ?_; (with_reducible refine (laws_toIntS.calls kj25 _ _ l1 t783 _ ?side1 ?side2 A44.out).mono ?_); (case side1 => repeat (first | exact (Kd.C_below HR1.out (by repeat (first | (with_reducible first | exact HB.out | apply below_alloc | apply pw_below_drewN | apply below_drew1) | exact HB.out))) | (with_reducible refine Kd.C_alloc ?_ _) | (with_reducible refine Kd.C_drewN ?_ _) | (with_reducible refine Kd.C_drew ?_))); (case side2 => exact HC1.out); rintro e w49 ⟨v784, rfl, ho0, hb⟩; refine ⟨_, rfl, ?_⟩; have n0_ := Aside0.mk (Kd.R_elder' (by (with_reducible repeat (first | apply Kd.R_alloc | apply Kd.R_drewN | apply Kd.R_drew)); exact HO_5.out) (Kd.R_base ho0) hb); have n1_ := Aside0.mk (Kd.R_elder' (by (with_reducible repeat (first | apply Kd.R_alloc | apply Kd.R_drewN | apply Kd.R_drew)); exact HO_8.out) (Kd.R_base ho0) hb); have n2_ := Aside0.mk (Kd.R_lower (Kd.R_new' (Kd.R_new' ho0 (Kd.R_lt (by (with_reducible repeat (first | apply Kd.R_alloc | apply Kd.R_drewN | apply Kd.R_drew)); exact HO_5.out))) (Kd.R_lt (by (with_reducible repeat (first | apply Kd.R_alloc | apply Kd.R_drewN | apply Kd.R_drew)); exact HO_8.out))) (below_size (by repeat (first | (with_reducible first | exact HB.out | apply below_alloc | apply pw_below_drewN | apply below_drew1) | exact HB.out)))); have n3_ := Aside0.mk (below_step (by repeat (first | (with_reducible first | exact HB.out | apply below_alloc | apply pw_below_drewN | apply below_drew1) | exact HB.out)) hb); clear HO_5; clear HO_8; clear HB; have HO_5 := n0_; have HO_8 := n1_; have HO785 := n2_; have HB := n3_; clear n0_ n1_ n2_ n3_; (try clear hb); (try clear hb2); (try clear hk); (try clear hi); (try clear ho0); obtain ⟨Ao50, co50, eo50⟩ := Kd.R_slice HO785.out; subst eo50) | ((with_reducible refine gate_callee (f := 39) rfl ?_); refine goesL_ (some 78) rfl rfl Try.func39 (by kernel_rfl) rfl #[.int .i64 a0, .slice Ao50 t783.length co50] rfl (by (try simp only [List.map_toArray, List.map_cons, List.map_nil]); first | done | rfl | (simp only [List.length_drop, List.length_take]; rfl)) ?_; (with_reducible refine (impl_MultipliersOf.calls kj25 a0 _ _ t783 t786 t787 _ ?side1 ?side2 A45.out).mono ?_); (case side1 => repeat (first | exact (Kd.R_reads' HO785.out).2.2 | (with_reducible refine Kd.C_alloc ?_ _) | (with_reducible refine Kd.C_drewN ?_ _) | (with_reducible refine Kd.C_drew ?_))); (case side2 => exact (Kd.R_reads' HO785.out).2.1); rintro e w51 ⟨v788, rfl, ho0, hb⟩; refine ⟨_, rfl, ?_⟩; have n0_ := Aside0.mk (Kd.R_elder' (by (with_reducible repeat (first | apply Kd.R_alloc | apply Kd.R_drewN | apply Kd.R_drew)); exact HO_5.out) (Kd.R_base ho0) hb); have n1_ := Aside0.mk (Kd.R_elder' (by (with_reducible repeat (first | apply Kd.R_alloc | apply Kd.R_drewN | apply Kd.R_drew)); exact HO_8.out) (Kd.R_base ho0) hb); have n2_ := Aside0.mk (Kd.R_elder' (by (with_reducible repeat (first | apply Kd.R_alloc | apply Kd.R_drewN | apply Kd.R_drew)); exact HO785.out) (Kd.R_base ho0) hb); have n3_ := Aside0.mk (Kd.R_lower (Kd.R_new' (Kd.R_new' (Kd.R_new' ho0 (Kd.R_lt (by (with_reducible repeat (first | apply Kd.R_alloc | apply Kd.R_drewN | apply Kd.R_drew)); exact HO_5.out))) (Kd.R_lt (by (with_reducible repeat (first | apply Kd.R_alloc | apply Kd.R_drewN | apply Kd.R_drew)); exact HO_8.out))) (Kd.R_lt (by (with_reducible repeat (first | apply Kd.R_alloc | apply Kd.R_drewN | apply Kd.R_drew)); exact HO785.out))) (below_size (by repeat (first | (with_reducible first | exact HB.out | apply below_alloc | apply pw_below_drewN | apply below_drew1) | exact HB.out)))); have n4_ := Aside0.mk (below_step (by repeat (first | (with_reducible first | exact HB.out | apply below_alloc | apply pw_below_drewN | apply below_drew1) | exact HB.out)) hb); clear HO_5; clear HO_8; clear HO785; clear HB; have HO_5 := n0_; have HO_8 := n1_; have HO785 := n2_; have HO789 := n3_; have HB := n4_; clear n0_ n1_ n2_ n3_ n4_; (try clear hb); (try clear hb2); (try clear hk); (try clear hi); (try clear ho0)))
                      (try simp only [Act.put, List.setIfInBounds_toArray, List.set_cons_zero, List.set_cons_succ])
                      go_cut [89] (fun v89 wc => ∃ (kq : Nat) (x89_45 : Bool), v89 = .bool x89_45 ∧ Aside0 (laws_FnExactMultipliersOf.j2 kq t781 t780 x89_45 = some r) ∧ Aside0 (kq ≤ kj25) ∧ Aside0 (Kd.R (Kd.int .i64) 3 wc w.heap.size (fun _ => True) (.slice Ao47 t768.length co47) t781) ∧ Aside0 (Below w.heap.size w wc))
                      case first =>
                        have H := HC46.out
                        clear HC46
                        replace H := Option.bind_eq_some_iff.mp H
                        obtain ⟨t790, A520, H⟩ := H
                        replace H : (if t790 = true then (laws_FnExactMultipliersOf.j2 kj25 t781 t780 (t787 != t762)) else (laws_FnExactMultipliersOf.j2 kj25 t781 t780 true)) = some r := H
                        have A52 := Aside0.mk A520
                        clear A520
                        by_cases c53 : t790 = true
                        · subst c53
                          have H1 : (laws_FnExactMultipliersOf.j2 kj25 t781 t780 (t787 != t762)) = some r := by rw [if_pos rfl] at H; exact H
                          clear H
                          have H := H1
                          clear H1
                          have H' := Aside0.mk H
                          clear H
                          obtain ⟨Ao54, co54, eo54⟩ := Kd.R_slice HO789.out
                          subst eo54
                          obtain ⟨Ao55, co55, eo55⟩ := Kd.R_slice HO_5.out
                          subst eo55
                          go_wp2_with (first | ((with_reducible refine gate_callee (f := 24) rfl ?_); refine goesL_ (some 83) rfl rfl Try.func24 (by kernel_rfl) rfl #[.slice Ao54 t786.length co54, .slice Ao55 t761.length co55] rfl (by (try simp only [List.map_toArray, List.map_cons, List.map_nil]); first | done | rfl | (simp only [List.length_drop, List.length_take]; rfl)) ?_; (with_reducible refine (laws_eqIntS.calls kj25 _ _ t786 _ _ t761 true _ ?side1 ?side2 ?side3 ?side4 A52.out).mono ?_); (case side1 => repeat (first | exact (Kd.R_reads' HO789.out).2.2 | (with_reducible refine Kd.C_alloc ?_ _) | (with_reducible refine Kd.C_drewN ?_ _) | (with_reducible refine Kd.C_drew ?_))); (case side2 => exact (Kd.R_reads' HO789.out).2.1); (case side3 => repeat (first | exact (Kd.R_reads' HO_5.out).2.2 | (with_reducible refine Kd.C_alloc ?_ _) | (with_reducible refine Kd.C_drewN ?_ _) | (with_reducible refine Kd.C_drew ?_))); (case side4 => exact (Kd.R_reads' HO_5.out).2.1); rintro e w' ⟨rfl, ⟨nd, rfl⟩⟩; refine ⟨_, rfl, ?_⟩))
                          go_meet
                          case rel => exact ⟨_, ((t787 != t762)), (by first | rfl | (simp; done) | (simp [*]; done)), H', ⟨by have := HJ7.out; have := HJ25.out; first | omega | exact Nat.le_refl _⟩, ⟨by (with_reducible repeat (first | apply Kd.R_alloc | apply Kd.R_drewN | apply Kd.R_drew)); exact Kd.R_mono HO_8.out (fun _ hk => trivial)⟩, ⟨by repeat (first | (with_reducible first | exact HB.out | apply below_alloc | apply pw_below_drewN | apply below_drew1) | exact HB.out)⟩⟩
                        · replace c53 := Bool.eq_false_iff.mpr c53
                          subst c53
                          have H1 : (laws_FnExactMultipliersOf.j2 kj25 t781 t780 true) = some r := by rw [if_neg (show ¬ (false = true) by decide)] at H; exact H
                          clear H
                          have H := H1
                          clear H1
                          have H' := Aside0.mk H
                          clear H
                          obtain ⟨Ao56, co56, eo56⟩ := Kd.R_slice HO789.out
                          subst eo56
                          obtain ⟨Ao57, co57, eo57⟩ := Kd.R_slice HO_5.out
                          subst eo57
                          go_wp2_with (first | ((with_reducible refine gate_callee (f := 24) rfl ?_); refine goesL_ (some 83) rfl rfl Try.func24 (by kernel_rfl) rfl #[.slice Ao56 t786.length co56, .slice Ao57 t761.length co57] rfl (by (try simp only [List.map_toArray, List.map_cons, List.map_nil]); first | done | rfl | (simp only [List.length_drop, List.length_take]; rfl)) ?_; (with_reducible refine (laws_eqIntS.calls kj25 _ _ t786 _ _ t761 false _ ?side1 ?side2 ?side3 ?side4 A52.out).mono ?_); (case side1 => repeat (first | exact (Kd.R_reads' HO789.out).2.2 | (with_reducible refine Kd.C_alloc ?_ _) | (with_reducible refine Kd.C_drewN ?_ _) | (with_reducible refine Kd.C_drew ?_))); (case side2 => exact (Kd.R_reads' HO789.out).2.1); (case side3 => repeat (first | exact (Kd.R_reads' HO_5.out).2.2 | (with_reducible refine Kd.C_alloc ?_ _) | (with_reducible refine Kd.C_drewN ?_ _) | (with_reducible refine Kd.C_drew ?_))); (case side4 => exact (Kd.R_reads' HO_5.out).2.1); rintro e w' ⟨rfl, ⟨nd, rfl⟩⟩; refine ⟨_, rfl, ?_⟩))
                          go_meet
                          case rel => exact ⟨_, (true), (by first | rfl | (simp; done) | (simp [*]; done)), H', ⟨by have := HJ7.out; have := HJ25.out; first | omega | exact Nat.le_refl _⟩, ⟨by (with_reducible repeat (first | apply Kd.R_alloc | apply Kd.R_drewN | apply Kd.R_drew)); exact Kd.R_mono HO_8.out (fun _ hk => trivial)⟩, ⟨by repeat (first | (with_reducible first | exact HB.out | apply below_alloc | apply pw_below_drewN | apply below_drew1) | exact HB.out)⟩⟩
                      case rest =>
                        clear HC46
                        try clear c1
                        try clear c2
                        try clear p2
                        try clear c3
                        try clear c3b0
                        try clear c3b1
                        try clear c4
                        try clear c5
                        try clear c9
                        try clear c16
                        try clear c21
                        try clear c24
                        try clear c25
                        try clear c30
                        try clear c30b0
                        try clear c32
                        try clear c37
                        try clear c38
                        try clear c39
                        try clear c40
                        try clear c40b0
                        try clear c43
                        try clear c43b0
                        try clear c43b1
                        try clear c53
                        try clear p2
                        obtain ⟨kq, x89_45, rfl, HA, HJ45, HO_8, HB⟩ := hcut
                        have hl8_45 := (Kd.R_reads' HO_8.out).1
                        rw [hl8_45] at HO_8
                        (try simp only [hl8_45])
                        cases kq with
                        | zero => exact absurd HA.out (by simp [laws_FnExactMultipliersOf.j2])
                        | succ kj45 =>
                          have H := HA.out
                          clear HA
                          simp only [laws_FnExactMultipliersOf.j2] at H
                          by_cases c58 : x89_45 = true
                          · subst c58
                            have H1 : (some false) = some r := by rw [if_pos rfl] at H; exact H
                            clear H
                            have H := H1
                            clear H1
                            obtain rfl := Option.some.inj H
                            go_wp2
                            go_ret
                            exact ⟨by first | rfl | (simp [errW_none, errW_some] <;> rfl) | (simp [*, errW_none, errW_some] <;> rfl), by repeat (first | (with_reducible first | exact HB.out | apply below_alloc | apply pw_below_drewN | apply below_drew1) | exact HB.out)⟩
                          · replace c58 := Bool.eq_false_iff.mpr c58
                            subst c58
                            have H1 : ((laws_heldIntS.f kj45 t781 1).bind fun t791 => (if t791 < 0 then (some false) else (if t791 = t780 then (some true) else (some false)))) = some r := by rw [if_neg (show ¬ (false = true) by decide)] at H; exact H
                            clear H
                            have H := H1
                            clear H1
                            replace H := Option.bind_eq_some_iff.mp H
                            obtain ⟨t791, A590, H⟩ := H
                            replace H : (if t791 < 0 then (some false) else (if t791 = t780 then (some true) else (some false))) = some r := H
                            have A59 := Aside0.mk A590
                            clear A590
                            by_cases c60 : t791 < 0
                            · rw [if_pos c60] at H
                              have c60b0 : decide (t791 < 0) = true := decide_eq_true c60
                              clear c60
                              obtain rfl := Option.some.inj H
                              go_wp2_with (first | ((with_reducible refine gate_callee (f := 30) rfl ?_); refine goesL_ (some 92) rfl rfl Try.func30 (by kernel_rfl) rfl #[.slice Ao47 t781.length co47, .int .i64 1] rfl (by (try simp only [List.map_toArray, List.map_cons, List.map_nil]); first | done | rfl | (simp only [List.length_drop, List.length_take]; rfl)) ?_; (with_reducible refine (laws_heldIntS.calls kj45 _ _ t781 1 t791 _ ?side1 ?side2 A59.out).mono ?_); (case side1 => repeat (first | exact (Kd.R_reads' HO_8.out).2.2 | (with_reducible refine Kd.C_alloc ?_ _) | (with_reducible refine Kd.C_drewN ?_ _) | (with_reducible refine Kd.C_drew ?_))); (case side2 => exact (Kd.R_reads' HO_8.out).2.1); rintro e w' ⟨rfl, ⟨nd, rfl⟩⟩; refine ⟨_, rfl, ?_⟩))
                              go_ret
                              exact ⟨by first | rfl | (simp [errW_none, errW_some] <;> rfl) | (simp [*, errW_none, errW_some] <;> rfl), by repeat (first | (with_reducible first | exact HB.out | apply below_alloc | apply pw_below_drewN | apply below_drew1) | exact HB.out)⟩
                            · rw [if_neg c60] at H
                              have c60b0 : decide (t791 < 0) = false := decide_eq_false c60
                              clear c60
                              by_cases c61 : t791 = t780
                              · rw [if_pos c61] at H
                                have c61b0 : (t791 == t780) = true := beq_iff_eq.mpr c61
                                have c61b1 : (t791 != t780) = false := bne_eq_false_iff_eq.mpr c61
                                clear c61
                                obtain rfl := Option.some.inj H
                                go_wp2_with (first | ((with_reducible refine gate_callee (f := 30) rfl ?_); refine goesL_ (some 92) rfl rfl Try.func30 (by kernel_rfl) rfl #[.slice Ao47 t781.length co47, .int .i64 1] rfl (by (try simp only [List.map_toArray, List.map_cons, List.map_nil]); first | done | rfl | (simp only [List.length_drop, List.length_take]; rfl)) ?_; (with_reducible refine (laws_heldIntS.calls kj45 _ _ t781 1 t791 _ ?side1 ?side2 A59.out).mono ?_); (case side1 => repeat (first | exact (Kd.R_reads' HO_8.out).2.2 | (with_reducible refine Kd.C_alloc ?_ _) | (with_reducible refine Kd.C_drewN ?_ _) | (with_reducible refine Kd.C_drew ?_))); (case side2 => exact (Kd.R_reads' HO_8.out).2.1); rintro e w' ⟨rfl, ⟨nd, rfl⟩⟩; refine ⟨_, rfl, ?_⟩))
                                go_ret
                                exact ⟨by first | rfl | (simp [errW_none, errW_some] <;> rfl) | (simp [*, errW_none, errW_some] <;> rfl), by repeat (first | (with_reducible first | exact HB.out | apply below_alloc | apply pw_below_drewN | apply below_drew1) | exact HB.out)⟩
                              · rw [if_neg c61] at H
                                have c61b0 : (t791 == t780) = false := beq_eq_false_iff_ne.mpr c61
                                have c61b1 : (t791 != t780) = true := bne_iff_ne.mpr c61
                                obtain rfl := Option.some.inj H
                                go_wp2_with (first | ((with_reducible refine gate_callee (f := 30) rfl ?_); refine goesL_ (some 92) rfl rfl Try.func30 (by kernel_rfl) rfl #[.slice Ao47 t781.length co47, .int .i64 1] rfl (by (try simp only [List.map_toArray, List.map_cons, List.map_nil]); first | done | rfl | (simp only [List.length_drop, List.length_take]; rfl)) ?_; (with_reducible refine (laws_heldIntS.calls kj45 _ _ t781 1 t791 _ ?side1 ?side2 A59.out).mono ?_); (case side1 => repeat (first | exact (Kd.R_reads' HO_8.out).2.2 | (with_reducible refine Kd.C_alloc ?_ _) | (with_reducible refine Kd.C_drewN ?_ _) | (with_reducible refine Kd.C_drew ?_))); (case side2 => exact (Kd.R_reads' HO_8.out).2.1); rintro e w' ⟨rfl, ⟨nd, rfl⟩⟩; refine ⟨_, rfl, ?_⟩))
                                go_ret
                                exact ⟨by first | rfl | (simp [errW_none, errW_some] <;> rfl) | (simp [*, errW_none, errW_some] <;> rfl), by repeat (first | (with_reducible first | exact HB.out | apply below_alloc | apply pw_below_drewN | apply below_drew1) | exact HB.out)⟩
                    · rw [if_neg c43] at H
                      have c43b0 : (t782 == t780) = false := beq_eq_false_iff_ne.mpr c43
                      have c43b1 : (t782 != t780) = true := bne_iff_ne.mpr c43
                      obtain rfl := Option.some.inj H
                      obtain ⟨Ao62, co62, eo62⟩ := Kd.R_slice HO_8.out
                      subst eo62
                      go_wp2_with (first | ((with_reducible refine gate_callee (f := 25) rfl ?_); refine goesL_ (some 65) rfl rfl Try.func25 (by kernel_rfl) rfl #[.slice Ao62 t768.length co62, .int .i64 1] rfl (by (try simp only [List.map_toArray, List.map_cons, List.map_nil]); first | done | rfl | (simp only [List.length_drop, List.length_take]; rfl)) ?_; (with_reducible refine (laws_markIntS.calls kj25 (fun k_ => some k_ = (.slice Ao62 t768.length co62 : Value).ownBlock) (.slice Ao62 t768.length co62) t768 1 t780 t781 w _ ?side1 ?side2 A38.out).mono ?_); (case side1 => repeat (first | (with_reducible first | exact HB.out | apply below_alloc | apply pw_below_drewN | apply below_drew1) | exact HB.out)); (case side2 => exact Kd.R_tight rfl HO_8.out); rintro e w63 ⟨rfl, hy0, hb, hkp⟩; refine ⟨_, rfl, ?_⟩; have n0_ := Aside0.mk (Kd.R_mono (ok' := fun k_ => some k_ ≠ (.slice Ao62 t768.length co62 : Value).ownBlock) (Kd.R_keptB (HO_5.out) hkp (fun k_ hk_ hs_ => (hk_) hs_)) (fun k_ hk_ => hk_.1)); have n1_ := Aside0.mk (Kd.R_reok rfl hy0 (fun k_ e_ => HO_8.out.1 k_ e_)); have n2_ := Aside0.mk (hb); clear HO_5; clear HO_8; clear HB; have HO_5 := n0_; have HO_8 := n1_; have HB := n2_; clear n0_ n1_ n2_; (try clear hb); (try clear hkp); (try clear hy0)) | ((with_reducible refine gate_callee (f := 30) rfl ?_); refine goesL_ (some 68) rfl rfl Try.func30 (by kernel_rfl) rfl #[.slice Ao62 t781.length co62, .int .i64 1] rfl (by (try simp only [List.map_toArray, List.map_cons, List.map_nil]); first | done | (rw [show t781.length = t768.length from (Kd.R_reads' HO_8.out).1.symm] <;> rfl) | rfl | (simp only [List.length_drop, List.length_take]; rfl)) ?_; (with_reducible refine (laws_heldIntS.calls kj25 _ _ t781 1 t782 _ ?side1 ?side2 A39.out).mono ?_); (case side1 => repeat (first | exact (Kd.R_reads' HO_8.out).2.2 | (with_reducible refine Kd.C_alloc ?_ _) | (with_reducible refine Kd.C_drewN ?_ _) | (with_reducible refine Kd.C_drew ?_))); (case side2 => rw [show t781.length = t768.length from (Kd.R_reads' HO_8.out).1.symm]; exact (Kd.R_reads' HO_8.out).2.1); rintro e w' ⟨rfl, ⟨nd, rfl⟩⟩; refine ⟨_, rfl, ?_⟩))
                      go_ret
                      exact ⟨by first | rfl | (simp [errW_none, errW_some] <;> rfl) | (simp [*, errW_none, errW_some] <;> rfl), by repeat (first | (with_reducible first | exact HB.out | apply below_alloc | apply pw_below_drewN | apply below_drew1) | exact HB.out)⟩
          · replace c24 := Bool.eq_false_iff.mpr c24
            subst c24
            have H1 : (some false) = some r := by rw [if_neg (show ¬ (false = true) by decide)] at H; exact H
            clear H
            have H := H1
            clear H1
            obtain rfl := Option.some.inj H
            go_wp2_with (first | ((with_reducible refine gate_callee (f := 21) rfl ?_); refine goesL_ (some 44) rfl rfl Try.func21 (by kernel_rfl) rfl #[.slice A1 l1.length c1] rfl (by (try simp only [List.map_toArray, List.map_cons, List.map_nil]); first | done | rfl | (simp only [List.length_drop, List.length_take]; rfl)) ?_; (with_reducible refine (laws_toIntS.calls kj7 _ _ l1 t773 _ ?side1 ?side2 A22.out).mono ?_); (case side1 => repeat (first | exact (Kd.C_below HR1.out HB.out) | (with_reducible refine Kd.C_alloc ?_ _) | (with_reducible refine Kd.C_drewN ?_ _) | (with_reducible refine Kd.C_drew ?_))); (case side2 => exact HC1.out); rintro e w64 ⟨v774, rfl, ho0, hb⟩; refine ⟨_, rfl, ?_⟩; have n0_ := Aside0.mk (Kd.R_elder' (by (with_reducible repeat (first | apply Kd.R_alloc | apply Kd.R_drewN | apply Kd.R_drew)); exact HO_5.out) (Kd.R_base ho0) hb); have n1_ := Aside0.mk (Kd.R_elder' (by (with_reducible repeat (first | apply Kd.R_alloc | apply Kd.R_drewN | apply Kd.R_drew)); exact HO_7.out) (Kd.R_base ho0) hb); have n2_ := Aside0.mk (Kd.R_elder' (by (with_reducible repeat (first | apply Kd.R_alloc | apply Kd.R_drewN | apply Kd.R_drew)); exact HO_8.out) (Kd.R_base ho0) hb); have n3_ := Aside0.mk (Kd.R_lower (Kd.R_new' (Kd.R_new' (Kd.R_new' ho0 (Kd.R_lt (by (with_reducible repeat (first | apply Kd.R_alloc | apply Kd.R_drewN | apply Kd.R_drew)); exact HO_5.out))) (Kd.R_lt (by (with_reducible repeat (first | apply Kd.R_alloc | apply Kd.R_drewN | apply Kd.R_drew)); exact HO_7.out))) (Kd.R_lt (by (with_reducible repeat (first | apply Kd.R_alloc | apply Kd.R_drewN | apply Kd.R_drew)); exact HO_8.out))) (below_size (by repeat (first | (with_reducible first | exact HB.out | apply below_alloc | apply pw_below_drewN | apply below_drew1) | exact HB.out)))); have n4_ := Aside0.mk (below_step (by repeat (first | (with_reducible first | exact HB.out | apply below_alloc | apply pw_below_drewN | apply below_drew1) | exact HB.out)) hb); clear HO_5; clear HO_7; clear HO_8; clear HB; have HO_5 := n0_; have HO_7 := n1_; have HO_8 := n2_; have HO775 := n3_; have HB := n4_; clear n0_ n1_ n2_ n3_ n4_; (try clear hb); (try clear hb2); (try clear hk); (try clear hi); (try clear ho0); obtain ⟨Ao65, co65, eo65⟩ := Kd.R_slice HO775.out; subst eo65) | ((with_reducible refine gate_callee (f := 24) rfl ?_); refine goesL_ (some 45) rfl rfl Try.func24 (by kernel_rfl) rfl #[.slice Ao13 t765.length co13, .slice Ao65 t773.length co65] rfl (by (try simp only [List.map_toArray, List.map_cons, List.map_nil]); first | done | rfl | (simp only [List.length_drop, List.length_take]; rfl)) ?_; (with_reducible refine (laws_eqIntS.calls kj7 _ _ t765 _ _ t773 false _ ?side1 ?side2 ?side3 ?side4 A23.out).mono ?_); (case side1 => repeat (first | exact (Kd.R_reads' HO_7.out).2.2 | (with_reducible refine Kd.C_alloc ?_ _) | (with_reducible refine Kd.C_drewN ?_ _) | (with_reducible refine Kd.C_drew ?_))); (case side2 => exact (Kd.R_reads' HO_7.out).2.1); (case side3 => repeat (first | exact (Kd.R_reads' HO775.out).2.2 | (with_reducible refine Kd.C_alloc ?_ _) | (with_reducible refine Kd.C_drewN ?_ _) | (with_reducible refine Kd.C_drew ?_))); (case side4 => exact (Kd.R_reads' HO775.out).2.1); rintro e w' ⟨rfl, ⟨nd, rfl⟩⟩; refine ⟨_, rfl, ?_⟩))
            go_ret
            exact ⟨by first | rfl | (simp [errW_none, errW_some] <;> rfl) | (simp [*, errW_none, errW_some] <;> rfl), by repeat (first | (with_reducible first | exact HB.out | apply below_alloc | apply pw_below_drewN | apply below_drew1) | exact HB.out)⟩

/-- The statement of laws_FnExactMultipliersOf over numbers and lists. -/
def laws_FnExactMultipliersOf.Pure : Prop := ∀ (a0 : Int) (l1 : List Int), (Lit.int .i64 a0).wf = true → l1.length ≤ maxLen → l1.length * 8 ≤ 140737488351232 → (∀ x ∈ l1, (Lit.int .i64 x).wf = true) → ∃ k, laws_FnExactMultipliersOf.f k a0 l1 = some true
theorem laws_FnExactMultipliersOf.walk (P : laws_FnExactMultipliersOf.Pure) (a0 : Int) (a1 : Option Addr) (len1 cap1 : Nat) (z1 : List Int) (w : World) (w0 : (Lit.int .i64 a0).wf = true) (w1 : (a1 = none ∧ len1 = 0 ∧ cap1 = 0 ∧ z1 = []) ∨ ∃ x, a1 = some x ∧ len1 ≤ cap1 ∧ cap1 ≤ maxLen ∧ z1.length = cap1 ∧ (∀ i, i < z1.length → w.cell? (x.add i) = some (.int .i64 (z1.getD i 0))) ∧ ∀ n ∈ z1, (Lit.int .i64 n).wf = true) (y1 : len1 * 8 ≤ 140737488351232) :
    Calls Try.prog 9 #[.int .i64 a0, .slice a1 len1 cap1] w fun e w' => e = .returned (.bool true) ∧ Below w.heap.size w w' := by
  obtain ⟨l1, rfl, hr1, hm1, hw1, hc1⟩ := ReadsInt.ofRowC w1
  obtain ⟨k, h⟩ := P a0 l1 w0 hm1 y1 hw1
  refine (laws_FnExactMultipliersOf.calls k a0 _ _ l1 true w (Kd.C_of_reads (d := (0 : Int)) (h1 := fun _ => rfl) hr1) hc1 h).mono ?_
  rintro e w' ⟨rfl, hd⟩
  exact ⟨rfl, hd⟩

noncomputable def laws_FnExactMultipliersOf.J0 (x0 : Int) (x1 : List Int) (x5 : List Int) (x6 : Bool) (x7 : List Int) (x8 : List Int) (x9 : Bool) (x41 : Bool) : Option (Bool) := lim fun k => laws_FnExactMultipliersOf.j0 k x0 x1 x5 x6 x7 x8 x9 x41
theorem laws_FnExactMultipliersOf.J0_lim (x0 : Int) (x1 : List Int) (x5 : List Int) (x6 : Bool) (x7 : List Int) (x8 : List Int) (x9 : Bool) (x41 : Bool) : Lim (fun k => laws_FnExactMultipliersOf.j0 k x0 x1 x5 x6 x7 x8 x9 x41) (laws_FnExactMultipliersOf.J0 x0 x1 x5 x6 x7 x8 x9 x41) := Lim.of fun k => (laws_FnExactMultipliersOf.mono_l k).1 x0 x1 x5 x6 x7 x8 x9 x41
noncomputable def laws_FnExactMultipliersOf.J1 (x0 : Int) (x1 : List Int) (x5 : List Int) (x6 : Bool) (x8 : List Int) (x62 : Bool) : Option (Bool) := lim fun k => laws_FnExactMultipliersOf.j1 k x0 x1 x5 x6 x8 x62
theorem laws_FnExactMultipliersOf.J1_lim (x0 : Int) (x1 : List Int) (x5 : List Int) (x6 : Bool) (x8 : List Int) (x62 : Bool) : Lim (fun k => laws_FnExactMultipliersOf.j1 k x0 x1 x5 x6 x8 x62) (laws_FnExactMultipliersOf.J1 x0 x1 x5 x6 x8 x62) := Lim.of fun k => (laws_FnExactMultipliersOf.mono_l k).2.1 x0 x1 x5 x6 x8 x62
noncomputable def laws_FnExactMultipliersOf.J2 (x8 : List Int) (x11 : Int) (x89 : Bool) : Option (Bool) := lim fun k => laws_FnExactMultipliersOf.j2 k x8 x11 x89
theorem laws_FnExactMultipliersOf.J2_lim (x8 : List Int) (x11 : Int) (x89 : Bool) : Lim (fun k => laws_FnExactMultipliersOf.j2 k x8 x11 x89) (laws_FnExactMultipliersOf.J2 x8 x11 x89) := Lim.of fun k => (laws_FnExactMultipliersOf.mono_l k).2.2 x8 x11 x89
noncomputable def laws_FnExactMultipliersOf.F (a0 : Int) (l1 : List Int) : Option (Bool) := lim fun k => laws_FnExactMultipliersOf.f k a0 l1
theorem laws_FnExactMultipliersOf.F_lim (a0 : Int) (l1 : List Int) : Lim (fun k => laws_FnExactMultipliersOf.f k a0 l1) (laws_FnExactMultipliersOf.F a0 l1) := Lim.of fun k => laws_FnExactMultipliersOf.mono a0 l1 k
theorem laws_FnExactMultipliersOf.J0_eq (x0 : Int) (x1 : List Int) (x5 : List Int) (x6 : Bool) (x7 : List Int) (x8 : List Int) (x9 : Bool) (x41 : Bool) : laws_FnExactMultipliersOf.J0 x0 x1 x5 x6 x7 x8 x9 x41 = (if x41 = true then (some false) else ((laws_toIntS.F x1).bind fun t773 => ((laws_eqIntS.F x7 t773).bind fun t776 => (if t776 = true then ((laws_markIntS.F x7 1).bind fun bt777 => (if bt777.1 < 0 then (laws_FnExactMultipliersOf.J1 x0 x1 x5 x6 x8 true) else ((laws_eqIntS.F x8 x5).bind fun t779 => (if t779 = true then (laws_FnExactMultipliersOf.J1 x0 x1 x5 x6 x8 (x9 != x6)) else (laws_FnExactMultipliersOf.J1 x0 x1 x5 x6 x8 true))))) else (some false))))) :=
  Lim.step (f := fun k => (if x41 = true then (some false) else ((laws_toIntS.f k x1).bind fun t773 => ((laws_eqIntS.f k x7 t773).bind fun t776 => (if t776 = true then ((laws_markIntS.f k x7 1).bind fun bt777 => (if bt777.1 < 0 then (laws_FnExactMultipliersOf.j1 k x0 x1 x5 x6 x8 true) else ((laws_eqIntS.f k x8 x5).bind fun t779 => (if t779 = true then (laws_FnExactMultipliersOf.j1 k x0 x1 x5 x6 x8 (x9 != x6)) else (laws_FnExactMultipliersOf.j1 k x0 x1 x5 x6 x8 true))))) else (some false)))))) (laws_FnExactMultipliersOf.J0_lim x0 x1 x5 x6 x7 x8 x9 x41) (fun k => by first | rfl | rw [laws_FnExactMultipliersOf.j0]) (by
    repeat' first
    | (with_reducible exact Lim.const _)
    | (with_reducible exact laws_FnExactMultipliersOf.J1_lim _ _ _ _ _ _)
    | (with_reducible exact laws_eqIntS.F_lim _ _)
    | (with_reducible exact laws_markIntS.F_lim _ _)
    | (with_reducible exact laws_toIntS.F_lim _)
    | (with_reducible refine Lim.ite ?_ ?_)
    | (with_reducible refine Lim.bind ?_ (fun _ => ?_)))
theorem laws_FnExactMultipliersOf.J1_eq (x0 : Int) (x1 : List Int) (x5 : List Int) (x6 : Bool) (x8 : List Int) (x62 : Bool) : laws_FnExactMultipliersOf.J1 x0 x1 x5 x6 x8 x62 = (if x62 = true then (some false) else ((laws_markIntS.F x8 1).bind fun bt780 => ((laws_heldIntS.F bt780.2 1).bind fun t782 => (if t782 < 0 then (some false) else (if t782 = bt780.1 then ((laws_toIntS.F x1).bind fun t783 => ((impl_MultipliersOf.F x0 t783).bind fun bt786 => ((laws_eqIntS.F bt786.1 x5).bind fun t790 => (if t790 = true then (laws_FnExactMultipliersOf.J2 bt780.2 bt780.1 (bt786.2 != x6)) else (laws_FnExactMultipliersOf.J2 bt780.2 bt780.1 true))))) else (some false)))))) :=
  Lim.step (f := fun k => (if x62 = true then (some false) else ((laws_markIntS.f k x8 1).bind fun bt780 => ((laws_heldIntS.f k bt780.2 1).bind fun t782 => (if t782 < 0 then (some false) else (if t782 = bt780.1 then ((laws_toIntS.f k x1).bind fun t783 => ((impl_MultipliersOf.f k x0 t783).bind fun bt786 => ((laws_eqIntS.f k bt786.1 x5).bind fun t790 => (if t790 = true then (laws_FnExactMultipliersOf.j2 k bt780.2 bt780.1 (bt786.2 != x6)) else (laws_FnExactMultipliersOf.j2 k bt780.2 bt780.1 true))))) else (some false))))))) (laws_FnExactMultipliersOf.J1_lim x0 x1 x5 x6 x8 x62) (fun k => by first | rfl | rw [laws_FnExactMultipliersOf.j1]) (by
    repeat' first
    | (with_reducible exact Lim.const _)
    | (with_reducible exact impl_MultipliersOf.F_lim _ _)
    | (with_reducible exact laws_FnExactMultipliersOf.J2_lim _ _ _)
    | (with_reducible exact laws_eqIntS.F_lim _ _)
    | (with_reducible exact laws_heldIntS.F_lim _ _)
    | (with_reducible exact laws_markIntS.F_lim _ _)
    | (with_reducible exact laws_toIntS.F_lim _)
    | (with_reducible refine Lim.ite ?_ ?_)
    | (with_reducible refine Lim.bind ?_ (fun _ => ?_)))
theorem laws_FnExactMultipliersOf.J2_eq (x8 : List Int) (x11 : Int) (x89 : Bool) : laws_FnExactMultipliersOf.J2 x8 x11 x89 = (if x89 = true then (some false) else ((laws_heldIntS.F x8 1).bind fun t791 => (if t791 < 0 then (some false) else (if t791 = x11 then (some true) else (some false))))) :=
  Lim.step (f := fun k => (if x89 = true then (some false) else ((laws_heldIntS.f k x8 1).bind fun t791 => (if t791 < 0 then (some false) else (if t791 = x11 then (some true) else (some false)))))) (laws_FnExactMultipliersOf.J2_lim x8 x11 x89) (fun k => by first | rfl | rw [laws_FnExactMultipliersOf.j2]) (by
    repeat' first
    | (with_reducible exact Lim.const _)
    | (with_reducible exact laws_heldIntS.F_lim _ _)
    | (with_reducible refine Lim.ite ?_ ?_)
    | (with_reducible refine Lim.bind ?_ (fun _ => ?_)))
theorem laws_FnExactMultipliersOf.F_eq (a0 : Int) (l1 : List Int) : laws_FnExactMultipliersOf.F a0 l1 = (if (l1.length : Int) > 1048576 then (some true) else ((laws_toIntS.F l1).bind fun t758 => ((spec_MultipliersOf.F a0 t758).bind fun bt761 => ((laws_toIntS.F l1).bind fun t765 => ((impl_MultipliersOf.F a0 t765).bind fun bt768 => ((laws_eqIntS.F bt768.1 bt761.1).bind fun t772 => (if t772 = true then (laws_FnExactMultipliersOf.J0 a0 l1 bt761.1 bt761.2 t765 bt768.1 bt768.2 (bt768.2 != bt761.2)) else (laws_FnExactMultipliersOf.J0 a0 l1 bt761.1 bt761.2 t765 bt768.1 bt768.2 true)))))))) :=
  Lim.unique (laws_FnExactMultipliersOf.F_lim a0 l1) (by
    unfold laws_FnExactMultipliersOf.f
    repeat' first
    | (with_reducible exact Lim.const _)
    | (with_reducible exact impl_MultipliersOf.F_lim _ _)
    | (with_reducible exact laws_FnExactMultipliersOf.J0_lim _ _ _ _ _ _ _ _)
    | (with_reducible exact laws_eqIntS.F_lim _ _)
    | (with_reducible exact laws_toIntS.F_lim _)
    | (with_reducible exact spec_MultipliersOf.F_lim _ _)
    | (with_reducible refine Lim.ite ?_ ?_)
    | (with_reducible refine Lim.bind ?_ (fun _ => ?_)))

end Go.Proofs.Ytiopjegbggjdcaa.Fn
namespace Go.Proofs.Ytiopjegbggjdcaa.Fn
open Go.RowKit Go.Proofs.YtiopjegbggjdcaaW.PrintWords Go.Proofs.YtiopjegbggjdcaaW.PrintLast Go.Proofs.YtiopjegbggjdcaaW.PrintMore
set_option linter.unusedVariables false
set_option linter.unusedSimpArgs false
theorem laws_toIntS.L0_val : ∀ (suf pre junk : List Int), (pre ++ suf).length < 4611686018427387904 → junk.length = suf.length → laws_toIntS.L0 (pre ++ suf) (pre ++ junk) (pre.length : Int) = some (pre ++ suf)
  | [], pre, junk, h, hj => by
    obtain rfl : junk = [] := List.eq_nil_of_length_eq_zero hj
    rw [laws_toIntS.L0_eq, range_end]
  | x :: suf, pre, j :: junk, h, hj => by
    have hj' : junk.length = suf.length := by simpa using hj
    have h1 : (pre.length : Int) < ((pre ++ x :: suf).length : Int) := by rw [List.length_append, List.length_cons]; omega
    have h2 : (pre.length : Int) < ((pre ++ j :: junk).length : Int) := by rw [List.length_append, List.length_cons]; omega
    have ih := laws_toIntS.L0_val suf (pre ++ [x]) junk (by simpa using h) hj'
    rw [laws_toIntS.L0_eq, if_pos h1, if_pos (by omega), if_pos h2, rd_mid, wrap_mid h]
    have e : (pre ++ j :: junk).set ((pre.length : Int)).toNat x = (pre ++ [x]) ++ junk := by simp
    rw [e, app_mid]
    exact ih
theorem laws_toIntS.F_val (l : List Int) (h : l.length ≤ 35184372088832) : laws_toIntS.F l = some l := by
  rw [laws_toIntS.F_eq, if_pos (by omega), if_pos (by simpa using h)]
  have := laws_toIntS.L0_val l [] (List.replicate l.length 0) (by simp; omega) (by simp)
  simpa using this
theorem laws_eqIntS.L0_val : ∀ (sa pre sb : List Int), (pre ++ sa).length < 4611686018427387904 → sa.length = sb.length → laws_eqIntS.L0 (pre ++ sa) (pre ++ sb) (pre.length : Int) = some (decide (sa = sb))
  | [], pre, sb, h, hj => by
    obtain rfl : sb = [] := List.eq_nil_of_length_eq_zero hj.symm
    rw [laws_eqIntS.L0_eq, range_end]
    simp
  | x :: sa, pre, y :: sb, h, hj => by
    have h1 : (pre.length : Int) < ((pre ++ x :: sa).length : Int) := by rw [List.length_append, List.length_cons]; omega
    have h2 : (pre.length : Int) < ((pre ++ y :: sb).length : Int) := by rw [List.length_append, List.length_cons]; omega
    rw [laws_eqIntS.L0_eq, if_pos h1, if_pos (by omega), if_pos h2, rd_mid, rd_mid, wrap_mid h]
    by_cases e : x = y
    · subst e
      rw [if_pos rfl, app_mid pre x sa, app_mid pre x sb, laws_eqIntS.L0_val sa (pre ++ [x]) sb (by simpa using h) (by simpa using hj)]
      simp
    · rw [if_neg e]
      simp [e]
theorem laws_eqIntS.F_val (a b : List Int) (h : a.length < 4611686018427387904) : laws_eqIntS.F a b = some (decide (a = b)) := by
  rw [laws_eqIntS.F_eq]
  by_cases e : (a.length : Int) = (b.length : Int)
  · rw [if_pos e]
    have := laws_eqIntS.L0_val a [] b (by simpa using h) (by omega)
    simpa using this
  · rw [if_neg e]
    have : ¬ a = b := fun hab => e (by rw [hab])
    simp [this]
theorem laws_eqIntS.F_same (a : List Int) (h : a.length < 4611686018427387904) : laws_eqIntS.F a a = some true := by
  rw [laws_eqIntS.F_val a a h]
  simp
/-- The numbers k, k + 1, .., n of them. -/
def marks : Nat → Int → List Int
  | 0, _ => []
  | n + 1, k => k :: marks n (k + 1)
theorem marks_length : ∀ n k, (marks n k).length = n
  | 0, _ => rfl
  | n + 1, k => by simp [marks, marks_length n]
theorem laws_markIntS.L0_val : ∀ (suf pre : List Int) (k : Int), (pre ++ suf).length < 4611686018427387904 → 0 ≤ k → k + suf.length < 4611686018427387904 → laws_markIntS.L0 (pre ++ suf) k (pre.length : Int) = some (k + suf.length, pre ++ marks suf.length k)
  | [], pre, k, h, h0, hk => by
    rw [laws_markIntS.L0_eq, range_end]
    simp [marks]
  | x :: suf, pre, k, h, h0, hk => by
    have h1 : (pre.length : Int) < ((pre ++ x :: suf).length : Int) := by rw [List.length_append, List.length_cons]; omega
    have hk' : k + (suf.length + 1 : Nat) < 4611686018427387904 := by simpa using hk
    rw [laws_markIntS.L0_eq, if_pos h1, if_pos (by omega), wrap_mid h, wrap_in (n := k + 1) (by omega) (by omega)]
    have e : (pre ++ x :: suf).set ((pre.length : Int)).toNat k = (pre ++ [k]) ++ suf := by simp
    have el : ((pre ++ [x]).length : Int) = ((pre ++ [k]).length : Int) := by simp
    rw [e, el, laws_markIntS.L0_val suf (pre ++ [k]) (k + 1) (by simpa using h) (by omega) (by omega)]
    simp [marks]
    omega
theorem laws_markIntS.F_val (l : List Int) (k : Int) (h0 : 0 ≤ k) (hk : k + l.length < 4611686018427387904) : laws_markIntS.F l k = some (k + l.length, marks l.length k) := by
  rw [laws_markIntS.F_eq]
  have := laws_markIntS.L0_val l [] k (by simp; omega) h0 hk
  simpa using this
theorem laws_heldIntS.L0_val : ∀ (n : Nat) (pre : List Int) (k : Int), pre.length + n < 4611686018427387904 → 0 ≤ k → k + n < 4611686018427387904 → laws_heldIntS.L0 (pre ++ marks n k) k (pre.length : Int) = some (k + n)
  | 0, pre, k, h, h0, hk => by
    rw [laws_heldIntS.L0_eq, marks, range_end]
    simp
  | n + 1, pre, k, h, h0, hk => by
    have h1 : (pre.length : Int) < ((pre ++ k :: marks n (k + 1)).length : Int) := by rw [List.length_append, List.length_cons]; omega
    have h2 : (pre ++ k :: marks n (k + 1)).length < 4611686018427387904 := by rw [List.length_append, List.length_cons, marks_length]; omega
    rw [laws_heldIntS.L0_eq, marks, if_pos h1, if_pos (by omega), rd_mid, if_pos rfl, wrap_mid h2, wrap_in (n := k + 1) (by omega) (by omega), app_mid, laws_heldIntS.L0_val n (pre ++ [k]) (k + 1) (by simp; omega) (by omega) (by omega)]
    congr 1
    omega
theorem laws_heldIntS.F_val (n : Nat) (k : Int) (h0 : 0 ≤ k) (hk : k + n < 4611686018427387904) : laws_heldIntS.F (marks n k) k = some (k + n) := by
  rw [laws_heldIntS.F_eq]
  have := laws_heldIntS.L0_val n [] k (by simp; omega) h0 hk
  simpa using this
end Go.Proofs.Ytiopjegbggjdcaa.Fn
namespace Go.Proofs.Ytiopjegbggjdcaa.Fn
open Go.RowKit Go.Proofs.YtiopjegbggjdcaaW.PrintWords Go.Proofs.YtiopjegbggjdcaaW.PrintLast Go.Proofs.YtiopjegbggjdcaaW.PrintMore
set_option linter.unusedVariables false
set_option linter.unusedSimpArgs false
theorem spec_l1In.f_val (a b c : Int) : spec_l1In.f a b c = some (decide (b ≤ a) && decide (a ≤ c)) := by
  unfold spec_l1In.f
  by_cases h : a ≥ b
  · rw [if_pos h]
    simp [show b ≤ a from h]
  · rw [if_neg h]
    simp [show ¬ b ≤ a from h]
theorem spec_l1All.L0_val (a b : Int) : ∀ (suf pre : List Int), (pre ++ suf).length < 4611686018427387904 → spec_l1All.L0 a b (pre ++ suf) ((pre ++ suf).length : Int) (pre.length : Int) = some (suf.all (fun x => decide (a ≤ x) && decide (x ≤ b)))
  | [], pre, h => by
    rw [spec_l1All.L0_eq, range_end]
    simp
  | x :: suf, pre, h => by
    rw [spec_l1All.L0_eq, range_step, rd_mid, wrap_mid h, spec_l1In.f_val]
    simp only [Option.bind_some]
    by_cases h1 : (decide (a ≤ x) && decide (x ≤ b)) = true
    · rw [if_pos h1, app_mid, spec_l1All.L0_val a b suf (pre ++ [x]) (by simpa using h)]
      simp only [List.all_cons, h1, Bool.true_and]
    · rw [if_neg h1]
      simp only [List.all_cons, Bool.not_eq_true] at h1 ⊢
      rw [h1, Bool.false_and]
theorem spec_l1All.F_val (l : List Int) (a b : Int) (h : l.length < 4611686018427387904) : spec_l1All.F l a b = some (l.all (fun x => decide (a ≤ x) && decide (x ≤ b))) := by
  rw [spec_l1All.F_eq]
  have := spec_l1All.L0_val a b l [] (by simpa using h)
  simpa using this
end Go.Proofs.Ytiopjegbggjdcaa.Fn
namespace Go.Proofs.Ytiopjegbggjdcaa.Fn
open Go.RowKit Go.Proofs.YtiopjegbggjdcaaW.PrintWords Go.Proofs.YtiopjegbggjdcaaW.PrintLast Go.Proofs.YtiopjegbggjdcaaW.PrintMore
set_option linter.unusedVariables false
set_option linter.unusedSimpArgs false
theorem impl_isCircle.f_val (v : Int) : impl_isCircle.f v = some (decide (2 ≤ v ∧ v ≤ 31)) := by
  unfold impl_isCircle.f
  by_cases h : v ≥ 2
  · rw [if_pos h]
    congr 1
    rw [decide_eq_decide]
    omega
  · rw [if_neg h]
    congr 1
    rw [eq_comm, decide_eq_false_iff_not]
    omega
/-- Points of a circle, growing. -/
def growing : List Int → Bool
  | [] => true
  | [_] => true
  | x :: y :: l => decide (x < y) && growing (y :: l)
def isCircleSet (v : Int) (l : List Int) : Bool := decide (2 ≤ v ∧ v ≤ 31) && decide (1 ≤ l.length ∧ l.length ≤ 8) && decide ((l.length : Int) < v) && l.all (fun x => decide (0 ≤ x ∧ x < v)) && growing l
theorem isCircleSet_parts {v : Int} {l : List Int} (h : isCircleSet v l = true) : (2 ≤ v ∧ v ≤ 31) ∧ (1 ≤ l.length ∧ l.length ≤ 8) ∧ (l.length : Int) < v ∧ (∀ x ∈ l, 0 ≤ x ∧ x < v) ∧ growing l = true := by
  simp only [isCircleSet, Bool.and_eq_true, decide_eq_true_eq, List.all_eq_true] at h
  obtain ⟨⟨⟨⟨h1, h2⟩, h3⟩, h4⟩, h5⟩ := h
  exact ⟨h1, h2, h3, h4, h5⟩
theorem growing_snoc : ∀ (l : List Int) (x y : Int), growing (l ++ [x, y]) = (growing (l ++ [x]) && decide (x < y))
  | [], x, y => by simp [growing]
  | [z], x, y => by simp [growing]
  | z :: u :: l, x, y => by
    have ih := growing_snoc (u :: l) x y
    simp only [List.cons_append, growing] at ih ⊢
    rw [ih, Bool.and_assoc]
theorem growing_sorted : ∀ (l : List Int), growing l = true → l.Pairwise (· < ·)
  | [], _ => List.Pairwise.nil
  | [x], _ => by simp
  | x :: y :: l, h => by
    simp only [growing, Bool.and_eq_true, decide_eq_true_eq] at h
    have ih := growing_sorted (y :: l) h.2
    refine List.pairwise_cons.2 ⟨fun z hz => ?_, ih⟩
    rcases List.mem_cons.1 hz with rfl | hz
    · exact h.1
    · exact Int.lt_trans h.1 ((List.pairwise_cons.1 ih).1 z hz)
/-- From the place behind pre on: no point out of the circle, none behind a greater one. -/
theorem impl_IsCircleSet.L0_val (v : Int) (l : List Int) (hl : l.length < 4611686018427387904) : ∀ (suf pre : List Int), l = pre ++ suf → growing pre = true → impl_IsCircleSet.L0 v l l (l.length : Int) (pre.length : Int) = some (suf.all (fun x => decide (0 ≤ x ∧ x < v)) && growing l)
  | [], pre, e, hg => by
    subst e
    rw [impl_IsCircleSet.L0_eq, if_neg (by simp)]
    simp [hg]
  | x :: suf, pre, e, hg => by
    have hrd : rd l (pre.length : Int) = x := by rw [e, rd_mid]
    have hlen : pre.length < l.length := by rw [e]; simp
    have hw : wrap64 ((pre.length : Int) + 1) = ((pre ++ [x]).length : Int) := by rw [wrap_in (by omega) (by omega)]; simp
    rw [impl_IsCircleSet.L0_eq, if_pos (by omega), if_pos (by omega), if_pos (by omega), hrd, hw]
    by_cases h1 : x < 0
    · rw [if_pos h1]
      simp [show ¬ (0 ≤ x ∧ x < v) by omega]
    · rw [if_neg h1]
      by_cases h2 : x ≥ v
      · rw [if_pos h2]
        simp [show ¬ (0 ≤ x ∧ x < v) by omega]
      · rw [if_neg h2]
        have h3 : decide (0 ≤ x ∧ x < v) = true := decide_eq_true (by omega)
        rcases List.eq_nil_or_concat pre with hp | ⟨p, y, hp⟩
        · subst hp
          rw [if_neg (by simp), impl_IsCircleSet.L0_val v l hl suf ([] ++ [x]) (by simpa using e) (by simp [growing]), List.all_cons, h3, Bool.true_and]
        · have hp' : pre = p ++ [y] := by simpa using hp
          have hpl : pre.length = p.length + 1 := by rw [hp']; simp
          have hw2 : wrap64 ((pre.length : Int) - 1) = (p.length : Int) := by rw [wrap_in (by omega) (by omega)]; omega
          have hry : rd l (p.length : Int) = y := by rw [e, hp', List.append_assoc, List.singleton_append, rd_mid]
          rw [if_pos (by omega), hw2, if_pos (by omega), if_pos (by omega), hry]
          by_cases h4 : y ≥ x
          · rw [if_pos h4]
            have h5 : growing l = false := by
              rw [Bool.eq_false_iff]
              intro hgl
              have hs := growing_sorted l hgl
              rw [e, hp', List.append_assoc] at hs
              have := (List.pairwise_append.1 hs).2.1
              simp at this
              omega
            rw [h5, Bool.and_false]
          · rw [if_neg h4, impl_IsCircleSet.L0_val v l hl suf (pre ++ [x]) (by rw [e]; simp) (by rw [hp', List.append_assoc]; simp only [List.singleton_append]; rw [growing_snoc, ← hp', hg]; simp; omega), List.all_cons, h3, Bool.true_and]
theorem impl_IsCircleSet.F_val (v : Int) (l : List Int) (h : l.length < 4611686018427387904) : impl_IsCircleSet.F v l = some (isCircleSet v l) := by
  have hL := impl_IsCircleSet.L0_val v l h l [] (by simp) rfl
  rw [impl_IsCircleSet.F_eq, impl_isCircle.f_val]
  simp only [Option.bind_some, impl_IsCircleSet.J0_eq]
  unfold isCircleSet
  by_cases h1 : 2 ≤ v ∧ v ≤ 31
  · rw [if_pos (by simpa using h1), decide_eq_true h1]
    by_cases h2 : (l.length : Int) < 1
    · rw [if_pos h2, if_pos (by trivial), decide_eq_false (show ¬ (1 ≤ l.length ∧ l.length ≤ 8) by omega)]
      simp
    · rw [if_neg h2]
      by_cases h3 : (l.length : Int) > 8
      · rw [if_pos h3, if_pos (by trivial), decide_eq_false (show ¬ (1 ≤ l.length ∧ l.length ≤ 8) by omega)]
        simp
      · rw [if_neg h3, decide_eq_true (show (1 ≤ l.length ∧ l.length ≤ 8) by omega)]
        by_cases h4 : (l.length : Int) ≥ v
        · rw [if_pos (by simpa using h4), decide_eq_false (show ¬ (l.length : Int) < v by omega)]
          simp
        · rw [if_neg (by simpa using h4), decide_eq_true (show (l.length : Int) < v by omega)]
          simpa using hL
  · rw [if_neg (by simpa using h1), if_pos (by trivial), decide_eq_false h1]
    simp
theorem spec_ciGood.L0_val (l : List Int) (hl : l.length < 4611686018427387904) : ∀ (suf pre : List Int) (y : Int), l = pre ++ y :: suf → growing (pre ++ [y]) = true → spec_ciGood.L0 l ((pre.length : Int) + 1) = some (growing l)
  | [], pre, y, e, hg => by
    have hlen : l.length = pre.length + 1 := by rw [e]; simp
    rw [spec_ciGood.L0_eq, if_neg (by omega), e, hg]
  | x :: suf, pre, y, e, hg => by
    have hlen : pre.length + 1 < l.length := by rw [e]; simp
    have hy : rd l (pre.length : Int) = y := by rw [e, rd_mid]
    have hx : rd l ((pre.length : Int) + 1) = x := by
      have h := rd_mid (pre ++ [y]) x suf
      rw [List.length_append, List.length_singleton, List.append_assoc, List.singleton_append, ← e] at h
      rw [← h]
      rfl
    have hw1 : wrap64 ((pre.length : Int) + 1 - 1) = (pre.length : Int) := by rw [wrap_in (by omega) (by omega)]; omega
    have hw2 : wrap64 ((pre.length : Int) + 1 + 1) = ((pre ++ [y]).length : Int) + 1 := by rw [wrap_in (by omega) (by omega)]; simp
    rw [spec_ciGood.L0_eq, if_pos (by omega), hw1, if_pos (by omega), if_pos (by omega), if_pos (by omega), hy, hx, hw2]
    by_cases h4 : y ≥ x
    · rw [if_pos h4]
      have h5 : growing l = false := by
        rw [Bool.eq_false_iff]
        intro hgl
        have hs := growing_sorted l hgl
        rw [e] at hs
        have := (List.pairwise_append.1 hs).2.1
        simp at this
        omega
      rw [h5]
    · rw [if_neg h4, spec_ciGood.L0_val l hl suf (pre ++ [y]) x (by rw [e]; simp) (by rw [List.append_assoc, List.singleton_append, growing_snoc, hg]; simp; omega)]
theorem spec_ciGood.F_val (v : Int) (l : List Int) (h : l.length < 4611686018427387904) : spec_ciGood.F v l = some (isCircleSet v l) := by
  rw [spec_ciGood.F_eq, spec_l1In.f_val, spec_l1In.f_val]
  simp only [Option.bind_some, spec_ciGood.J0_eq]
  unfold isCircleSet
  by_cases h1 : 2 ≤ v ∧ v ≤ 31
  · rw [if_pos (by simpa using h1), decide_eq_true h1]
    by_cases h2 : 1 ≤ l.length ∧ l.length ≤ 8
    · rw [if_pos (by simp; omega), decide_eq_true h2]
      by_cases h4 : (l.length : Int) ≥ v
      · rw [if_pos h4, if_pos (by trivial), decide_eq_false (show ¬ (l.length : Int) < v by omega)]
        simp
      · rw [if_neg h4, decide_eq_true (show (l.length : Int) < v by omega), wrap_in (n := v - 1) (by omega) (by omega), spec_l1All.F_val l 0 (v - 1) h]
        simp only [Option.bind_some]
        have e1 : (l.all fun x => decide (0 ≤ x) && decide (x ≤ v - 1)) = l.all (fun x => decide (0 ≤ x ∧ x < v)) := by
          congr 1
          funext x
          rw [← Bool.decide_and, decide_eq_decide]
          omega
        rw [e1]
        by_cases h5 : l.all (fun x => decide (0 ≤ x ∧ x < v)) = true
        · rw [h5, if_neg (by simp)]
          cases l with
          | nil => simp at h2
          | cons y suf =>
            have := spec_ciGood.L0_val (y :: suf) h suf [] y (by simp) rfl
            simp at this ⊢
            exact this
        · rw [Bool.eq_false_iff.2 h5, if_pos (by simp)]
          simp
    · rw [if_neg (by simp; omega), if_pos (by trivial), decide_eq_false h2]
      simp
  · rw [if_neg (by simp; omega), if_pos (by trivial), decide_eq_false h1]
    simp
/-- The points k times x and m behind. -/
def residues (v k m : Int) (l : List Int) : List Int := l.map fun x => Int.tmod (x * k + m) v
/-- The points of a circle that are in a list, growing. -/
def pointsOf (v : Int) (r : List Int) : List Int := ((List.range v.toNat).map fun n : Nat => (n : Int)).filter fun x => decide (x ∈ r)
theorem sorted_ext : ∀ (a b : List Int), a.Pairwise (· < ·) → b.Pairwise (· < ·) → (∀ x, x ∈ a ↔ x ∈ b) → a = b
  | [], [], _, _, _ => rfl
  | [], y :: b, _, _, h => by have := (h y).2 (by simp); cases this
  | x :: a, [], _, _, h => by have := (h x).1 (by simp); cases this
  | x :: a, y :: b, ha, hb, h => by
    obtain ⟨ha1, ha2⟩ := List.pairwise_cons.1 ha
    obtain ⟨hb1, hb2⟩ := List.pairwise_cons.1 hb
    have hxy : x = y := by
      have h1 := (h x).1 (by simp)
      have h2 := (h y).2 (by simp)
      rcases List.mem_cons.1 h1 with e | h1
      · exact e
      · rcases List.mem_cons.1 h2 with e | h2
        · exact e.symm
        · have := hb1 x h1
          have := ha1 y h2
          omega
    subst hxy
    congr 1
    refine sorted_ext a b ha2 hb2 fun z => ⟨fun hz => ?_, fun hz => ?_⟩
    · rcases List.mem_cons.1 ((h z).1 (by simp [hz])) with e | h1
      · have := ha1 z hz
        omega
      · exact h1
    · rcases List.mem_cons.1 ((h z).2 (by simp [hz])) with e | h1
      · have := hb1 z hz
        omega
      · exact h1
theorem pointsOf_sorted (v : Int) (r : List Int) : (pointsOf v r).Pairwise (· < ·) := by
  unfold pointsOf
  refine List.Pairwise.filter _ ?_
  rw [List.pairwise_map]
  exact List.pairwise_lt_range.imp (fun h => by omega)
theorem mem_pointsOf {v : Int} {r : List Int} (hr : ∀ x ∈ r, 0 ≤ x ∧ x < v) (x : Int) : x ∈ pointsOf v r ↔ x ∈ r := by
  unfold pointsOf
  rw [List.mem_filter, List.mem_map, decide_eq_true_eq]
  constructor
  · exact fun h => h.2
  · intro h
    have := hr x h
    exact ⟨⟨x.toNat, List.mem_range.2 (by omega), by omega⟩, h⟩
theorem residues_bound {v k m : Int} {l : List Int} (hv : 0 < v) (h : ∀ x ∈ l, 0 ≤ x * k + m) : ∀ x ∈ residues v k m l, 0 ≤ x ∧ x < v := by
  intro x hx
  obtain ⟨y, hy, rfl⟩ := List.mem_map.1 hx
  have := h y hy
  exact ⟨Int.tmod_nonneg _ this, Int.tmod_lt_of_pos _ hv⟩
theorem sortInt_sorted {r : List Int} (hn : r.Nodup) : (sortInt r).Pairwise (· < ·) := by
  have h1 : (sortInt r).Pairwise fun x y => decide (x ≤ y) = true := by
    unfold sortInt
    exact List.pairwise_mergeSort (fun a b c h1 h2 => by simp only [decide_eq_true_eq] at h1 h2 ⊢; omega) (fun a b => by simp only [Bool.or_eq_true, decide_eq_true_eq]; omega) r
  have h2 : (sortInt r).Nodup := (List.mergeSort_perm r _).nodup_iff.2 hn
  have h3 := List.Pairwise.and h1 h2
  exact h3.imp (fun h => by
    have a := h.1
    have b := h.2
    simp only [decide_eq_true_eq] at a
    omega)
theorem sortInt_points {v : Int} {r : List Int} (hr : ∀ x ∈ r, 0 ≤ x ∧ x < v) (hn : r.Nodup) : sortInt r = pointsOf v r := by
  refine sorted_ext _ _ (sortInt_sorted hn) (pointsOf_sorted v r) fun x => ?_
  rw [mem_pointsOf hr x]
  exact (List.mergeSort_perm r _).mem_iff
theorem impl_image.L0_val (v k m : Int) (hv : v ≠ 0) (hk : 0 ≤ k ∧ k ≤ 31) (hm : 0 ≤ m ∧ m ≤ 31) : ∀ (suf pre acc : List Int), (∀ x ∈ suf, 0 ≤ x ∧ x ≤ 31) → (pre ++ suf).length ≤ 1000 → acc.length + suf.length ≤ 1000 → impl_image.L0 v k m acc (pre ++ suf) ((pre ++ suf).length : Int) (pre.length : Int) = some (sortInt (acc ++ residues v k m suf))
  | [], pre, acc, hx, h, ha => by
    rw [impl_image.L0_eq, range_end]
    unfold slices_Sort_int_int.f residues
    rw [if_pos (by omega)]
    simp
  | x :: suf, pre, acc, hx, h, ha => by
    have ha' : acc.length + (suf.length + 1) ≤ 1000 := by simpa using ha
    have e : (pre ++ [x]).length = pre.length + 1 := by simp
    have hx1 := hx x (by simp)
    have hp : 0 ≤ x * k ∧ x * k ≤ 31 * 31 := ⟨Int.mul_nonneg hx1.1 hk.1, Int.le_trans (Int.mul_le_mul_of_nonneg_right hx1.2 hk.1) (Int.mul_le_mul_of_nonneg_left hk.2 (by omega))⟩
    have hw : wrap64 (wrap64 (x * k) + m) = x * k + m := by
      generalize x * k = p at hp
      rw [wrap_in (n := p) (by omega) (by omega), wrap_in (by omega) (by omega)]
    rw [impl_image.L0_eq, range_step, rd_mid, wrap_mid (pre := pre) (x := x) (suf := suf) (by omega), app_mid pre x suf, if_neg hv, if_pos (by omega), hw, impl_image.L0_val v k m hv hk hm suf (pre ++ [x]) _ (fun y hy => hx y (by simp [hy])) (by simpa using h) (by simp; omega)]
    simp [residues]
theorem impl_image.F_val (v k m : Int) (l : List Int) (hv : v ≠ 0) (hk : 0 ≤ k ∧ k ≤ 31) (hm : 0 ≤ m ∧ m ≤ 31) (hx : ∀ x ∈ l, 0 ≤ x ∧ x ≤ 31) (hl : l.length ≤ 1000) : impl_image.F v l k m = some (sortInt (residues v k m l)) := by
  rw [impl_image.F_eq]
  have := impl_image.L0_val v k m hv hk hm l [] [] hx (by simpa using hl) (by simpa using hl)
  simpa using this
/-- The points from the x-th on. -/
def pointsFrom (v : Int) (r : List Int) : Nat → Nat → List Int
  | 0, _ => []
  | n + 1, x => if (x : Int) ∈ r then (x : Int) :: pointsFrom v r n (x + 1) else pointsFrom v r n (x + 1)
theorem pointsFrom_eq (v : Int) (r : List Int) : ∀ n x, pointsFrom v r n x = ((List.range' x n).map fun n : Nat => (n : Int)).filter fun x => decide (x ∈ r)
  | 0, x => by simp [pointsFrom]
  | n + 1, x => by
    have ih := pointsFrom_eq v r n (x + 1)
    rw [List.range'_succ]
    by_cases h : (x : Int) ∈ r
    · simp [pointsFrom, h, ih]
    · simp [pointsFrom, h, ih]
theorem spec_ciSet.L1_val (v : Int) (hv : v ≠ 0) (l acc : List Int) (x : Int) (ha : acc.length < 17592186044416) : ∀ (suf pre : List Int), l = pre ++ suf → l.length ≤ 1000 → spec_ciSet.L1 v l acc x l (l.length : Int) (pre.length : Int) = if x ∈ suf.map (fun y => Int.tmod y v) then spec_ciSet.L0 v l (acc ++ [x]) (wrap64 (x + 1)) else spec_ciSet.L0 v l acc (wrap64 (x + 1))
  | [], pre, e, h => by
    rw [spec_ciSet.L1_eq, if_neg (by rw [e]; simp)]
    simp
  | y :: suf, pre, e, h => by
    have hrd : rd l (pre.length : Int) = y := by rw [e, rd_mid]
    have hlen : pre.length < l.length := by rw [e]; simp
    have hw : wrap64 ((pre.length : Int) + 1) = ((pre ++ [y]).length : Int) := by rw [wrap_in (by omega) (by omega)]; simp
    rw [spec_ciSet.L1_eq, if_pos (by omega), if_pos (by omega), if_pos (by omega), if_neg hv, hrd, hw]
    by_cases h1 : Int.tmod y v = x
    · rw [if_pos h1, if_pos ha, if_pos (by simp [h1])]
    · rw [if_neg h1, spec_ciSet.L1_val v hv l acc x ha suf (pre ++ [y]) (by rw [e]; simp) h]
      have h2 : ¬ x = Int.tmod y v := fun e => h1 e.symm
      simp only [List.map_cons, List.mem_cons, h2, false_or]
theorem spec_ciSet.L0_val (v : Int) (hv : 0 < v) (hv2 : v ≤ 1000) (l : List Int) (hl : l.length ≤ 1000) : ∀ (n x : Nat) (acc : List Int), (x : Int) + n = v → acc.length + n ≤ 2000 → spec_ciSet.L0 v l acc (x : Int) = some (acc ++ pointsFrom v (l.map fun y => Int.tmod y v) n x)
  | 0, x, acc, hx, ha => by
    rw [spec_ciSet.L0_eq, if_neg (by omega)]
    simp [pointsFrom]
  | n + 1, x, acc, hx, ha => by
    have hw : wrap64 ((x : Int) + 1) = ((x + 1 : Nat) : Int) := by rw [wrap_in (by omega) (by omega)]; rfl
    have h1 := spec_ciSet.L1_val v (by omega) l acc (x : Int) (by omega) l [] (by simp) hl
    rw [spec_ciSet.L0_eq, if_pos (by omega)]
    simp only [List.length_nil, Int.ofNat_zero, Int.natCast_zero] at h1
    rw [h1, hw]
    by_cases h2 : (x : Int) ∈ l.map fun y => Int.tmod y v
    · rw [if_pos h2, spec_ciSet.L0_val v hv hv2 l hl n (x + 1) _ (by omega) (by simp; omega)]
      simp only [pointsFrom, if_pos h2, List.append_assoc, List.singleton_append]
    · rw [if_neg h2, spec_ciSet.L0_val v hv hv2 l hl n (x + 1) _ (by omega) (by omega)]
      simp only [pointsFrom, if_neg h2]
theorem spec_ciSet.F_val (v : Int) (hv : 0 < v) (hv2 : v ≤ 1000) (l : List Int) (hl : l.length ≤ 1000) : spec_ciSet.F v l = some (pointsOf v (l.map fun y => Int.tmod y v)) := by
  rw [spec_ciSet.F_eq]
  have := spec_ciSet.L0_val v hv hv2 l hl v.toNat 0 [] (by omega) (by simp; omega)
  rw [pointsFrom_eq] at this
  unfold pointsOf
  rw [List.range_eq_range']
  simpa using this
theorem spec_ciMove.L0_val (v m : Int) (hv : 0 < v) (hv2 : v ≤ 1000) (hm : 0 ≤ m ∧ m ≤ 31) : ∀ (suf pre acc : List Int), (∀ x ∈ suf, 0 ≤ x ∧ x ≤ 31) → (pre ++ suf).length ≤ 1000 → acc.length + suf.length ≤ 1000 → spec_ciMove.L0 v m acc (pre ++ suf) ((pre ++ suf).length : Int) (pre.length : Int) = some (pointsOf v ((acc ++ suf.map (· + m)).map fun y => Int.tmod y v))
  | [], pre, acc, hx, h, ha => by
    rw [spec_ciMove.L0_eq, range_end, spec_ciSet.F_val v hv hv2 acc (by omega)]
    simp
  | x :: suf, pre, acc, hx, h, ha => by
    have ha' : acc.length + (suf.length + 1) ≤ 1000 := by simpa using ha
    have e : (pre ++ [x]).length = pre.length + 1 := by simp
    have hx1 := hx x (by simp)
    rw [spec_ciMove.L0_eq, range_step, rd_mid, wrap_mid (pre := pre) (x := x) (suf := suf) (by omega), app_mid pre x suf, if_pos (by omega), wrap_in (n := x + m) (by omega) (by omega), spec_ciMove.L0_val v m hv hv2 hm suf (pre ++ [x]) _ (fun y hy => hx y (by simp [hy])) (by simpa using h) (by simp; omega)]
    simp
theorem spec_ciMove.F_val (v m : Int) (l : List Int) (hv : 0 < v) (hv2 : v ≤ 1000) (hm : 0 ≤ m ∧ m ≤ 31) (hx : ∀ x ∈ l, 0 ≤ x ∧ x ≤ 31) (hl : l.length ≤ 1000) : spec_ciMove.F v l m = some (pointsOf v (residues v 1 m l)) := by
  rw [spec_ciMove.F_eq]
  have := spec_ciMove.L0_val v m hv hv2 hm l [] [] hx (by simpa using hl) (by simpa using hl)
  simp only [List.nil_append, List.map_map, List.length_nil] at this
  rw [show residues v 1 m l = l.map ((fun y => Int.tmod y v) ∘ (· + m)) by simp [residues, Function.comp_def]]
  simpa using this
theorem spec_ciTimes.L0_val (v k : Int) (hv : 0 < v) (hv2 : v ≤ 1000) (hk : 0 ≤ k ∧ k ≤ 31) : ∀ (suf pre acc : List Int), (∀ x ∈ suf, 0 ≤ x ∧ x ≤ 31) → (pre ++ suf).length ≤ 1000 → acc.length + suf.length ≤ 1000 → spec_ciTimes.L0 v k acc (pre ++ suf) ((pre ++ suf).length : Int) (pre.length : Int) = some (pointsOf v ((acc ++ suf.map (· * k)).map fun y => Int.tmod y v))
  | [], pre, acc, hx, h, ha => by
    rw [spec_ciTimes.L0_eq, range_end, spec_ciSet.F_val v hv hv2 acc (by omega)]
    simp
  | x :: suf, pre, acc, hx, h, ha => by
    have ha' : acc.length + (suf.length + 1) ≤ 1000 := by simpa using ha
    have e : (pre ++ [x]).length = pre.length + 1 := by simp
    have hx1 := hx x (by simp)
    have hp : 0 ≤ x * k ∧ x * k ≤ 31 * 31 := ⟨Int.mul_nonneg hx1.1 hk.1, Int.le_trans (Int.mul_le_mul_of_nonneg_right hx1.2 hk.1) (Int.mul_le_mul_of_nonneg_left hk.2 (by omega))⟩
    have hw : wrap64 (x * k) = x * k := by
      generalize x * k = p at hp
      rw [wrap_in (n := p) (by omega) (by omega)]
    rw [spec_ciTimes.L0_eq, range_step, rd_mid, wrap_mid (pre := pre) (x := x) (suf := suf) (by omega), app_mid pre x suf, if_pos (by omega), hw, spec_ciTimes.L0_val v k hv hv2 hk suf (pre ++ [x]) _ (fun y hy => hx y (by simp [hy])) (by simpa using h) (by simp; omega)]
    simp
theorem spec_ciTimes.F_val (v k : Int) (l : List Int) (hv : 0 < v) (hv2 : v ≤ 1000) (hk : 0 ≤ k ∧ k ≤ 31) (hx : ∀ x ∈ l, 0 ≤ x ∧ x ≤ 31) (hl : l.length ≤ 1000) : spec_ciTimes.F v l k = some (pointsOf v (residues v k 0 l)) := by
  rw [spec_ciTimes.F_eq]
  have := spec_ciTimes.L0_val v k hv hv2 hk l [] [] hx (by simpa using hl) (by simpa using hl)
  simp only [List.nil_append, List.map_map, List.length_nil] at this
  rw [show residues v k 0 l = l.map ((fun y => Int.tmod y v) ∘ (· * k)) by simp [residues, Function.comp_def]]
  simpa using this
/-- Points apart stay apart, moved or times what has no common divisor with v. -/
theorem residues_nodup {v k m : Int} {l : List Int} (hv : 0 < v) (hk : 0 ≤ k) (hm : 0 ≤ m) (hx : ∀ x ∈ l, 0 ≤ x ∧ x < v) (hs : l.Pairwise (· < ·)) (hg : Nat.gcd v.toNat k.toNat = 1) : (residues v k m l).Nodup := by
  unfold residues
  rw [List.Nodup, List.pairwise_map]
  refine List.Pairwise.imp_of_mem ?_ hs
  intro x y hxm hym hlt he
  have h1 := hx x hxm
  have h2 := hx y hym
  obtain ⟨a, rfl⟩ : ∃ a : Nat, x = a := ⟨x.toNat, by omega⟩
  obtain ⟨b, rfl⟩ : ∃ b : Nat, y = b := ⟨y.toNat, by omega⟩
  obtain ⟨n, rfl⟩ : ∃ n : Nat, v = n := ⟨v.toNat, by omega⟩
  obtain ⟨c, rfl⟩ : ∃ c : Nat, k = c := ⟨k.toNat, by omega⟩
  obtain ⟨d, rfl⟩ : ∃ d : Nat, m = d := ⟨m.toNat, by omega⟩
  have he2 : (a * c + d) % n = (b * c + d) % n := by
    have e1 : ((a : Int) * c + d) = ((a * c + d : Nat) : Int) := by simp
    have e2 : ((b : Int) * c + d) = ((b * c + d : Nat) : Int) := by simp
    rw [e1, e2, ← Int.ofNat_tmod, ← Int.ofNat_tmod] at he
    exact Int.ofNat.inj he
  have hab : a < b := by omega
  have hd : n ∣ (b * c + d) - (a * c + d) := Nat.dvd_of_mod_eq_zero (Nat.sub_mod_eq_zero_of_mod_eq he2.symm)
  have hd2 : n ∣ (b - a) * c := by
    rw [Nat.sub_mul]
    have e : b * c - a * c = (b * c + d) - (a * c + d) := by omega
    rw [e]
    exact hd
  have hd3 : n ∣ b - a := Nat.Coprime.dvd_of_dvd_mul_right (by simpa [Nat.Coprime] using hg) hd2
  have := Nat.le_of_dvd (by omega) hd3
  omega
theorem impl_common.L0_val : ∀ (b a : Nat), impl_common.L0 (a : Int) (b : Int) = some ((Nat.gcd a b : Nat) : Int) := by
  intro b
  induction b using Nat.strongRecOn with
  | _ b ih =>
    intro a
    rw [impl_common.L0_eq]
    by_cases h : b = 0
    · subst h
      rw [if_neg (by omega), Nat.gcd_zero_right]
    · rw [if_pos (by omega), if_neg (by omega), ← Int.ofNat_tmod, ih (a % b) (Nat.mod_lt _ (by omega)) b, Nat.gcd_comm a b, Nat.gcd_rec b a, Nat.gcd_comm]
theorem spec_ciCommon.L0_val : ∀ (b a : Nat), spec_ciCommon.L0 (a : Int) (b : Int) = some ((Nat.gcd a b : Nat) : Int) := by
  intro b
  induction b using Nat.strongRecOn with
  | _ b ih =>
    intro a
    rw [spec_ciCommon.L0_eq]
    by_cases h : b = 0
    · subst h
      rw [if_neg (by omega), Nat.gcd_zero_right]
    · rw [if_pos (by omega), if_neg (by omega), ← Int.ofNat_tmod, ih (a % b) (Nat.mod_lt _ (by omega)) b, Nat.gcd_comm a b, Nat.gcd_rec b a, Nat.gcd_comm]
theorem slices_Equal_int_int.L0_val : ∀ (s1 s2 p1 p2 : List Int), p1.length = p2.length → s1.length = s2.length → (p1 ++ s1).length < 4611686018427387904 → slices_Equal_int_int.L0 (p1 ++ s1) (p2 ++ s2) ((p1 ++ s1).length : Int) (p1.length : Int) = some (decide (s1 = s2))
  | [], [], p1, p2, hp, hs, h => by
    rw [slices_Equal_int_int.L0_eq, if_neg (by simp)]
    rfl
  | x :: s1, y :: s2, p1, p2, hp, hs, h => by
    have hl : (p1 ++ x :: s1).length = p1.length + s1.length + 1 := by simp; omega
    have hl2 : (p2 ++ y :: s2).length = p2.length + s2.length + 1 := by simp; omega
    have hs' : s1.length = s2.length := by simpa using hs
    have hr2 : rd (p2 ++ y :: s2) (p1.length : Int) = y := by rw [hp, rd_mid]
    rw [slices_Equal_int_int.L0_eq, if_pos (by omega), if_pos (by omega), if_pos (by omega), if_pos (by omega), rd_mid, hr2, wrap_mid h, app_mid p1 x s1, app_mid p2 y s2, slices_Equal_int_int.L0_val s1 s2 (p1 ++ [x]) (p2 ++ [y]) (by simp [hp]) hs' (by simpa using h)]
    by_cases h1 : x = y
    · rw [if_pos h1]
      simp [h1]
    · rw [if_neg h1]
      simp [h1]
theorem slices_Equal_int_int.F_val (a b : List Int) (h : a.length < 4611686018427387904) : slices_Equal_int_int.F a b = some (decide (a = b)) := by
  rw [slices_Equal_int_int.F_eq]
  by_cases h1 : a.length = b.length
  · rw [if_pos (by omega)]
    have := slices_Equal_int_int.L0_val a b [] [] rfl h1 (by simpa using h)
    simpa using this
  · rw [if_neg (by omega)]
    have : ¬ a = b := fun e => h1 (by rw [e])
    simp [this]
theorem spec_l1Same.L0_val : ∀ (s1 s2 p1 p2 : List Int), p1.length = p2.length → s1.length = s2.length → (p1 ++ s1).length < 4611686018427387904 → spec_l1Same.L0 (p1 ++ s1) (p2 ++ s2) ((p1 ++ s1).length : Int) (p1.length : Int) = some (decide (s1 = s2))
  | [], [], p1, p2, hp, hs, h => by
    rw [spec_l1Same.L0_eq, if_neg (by simp)]
    rfl
  | x :: s1, y :: s2, p1, p2, hp, hs, h => by
    have hl : (p1 ++ x :: s1).length = p1.length + s1.length + 1 := by simp; omega
    have hl2 : (p2 ++ y :: s2).length = p2.length + s2.length + 1 := by simp; omega
    have hs' : s1.length = s2.length := by simpa using hs
    have hr2 : rd (p2 ++ y :: s2) (p1.length : Int) = y := by rw [hp, rd_mid]
    rw [spec_l1Same.L0_eq, if_pos (by omega), if_pos (by omega), if_pos (by omega), if_pos (by omega), rd_mid, hr2, wrap_mid h, app_mid p1 x s1, app_mid p2 y s2, spec_l1Same.L0_val s1 s2 (p1 ++ [x]) (p2 ++ [y]) (by simp [hp]) hs' (by simpa using h)]
    by_cases h1 : x = y
    · rw [if_pos h1]
      simp [h1]
    · rw [if_neg h1]
      simp [h1]
theorem spec_l1Same.F_val (a b : List Int) (h : a.length < 4611686018427387904) : spec_l1Same.F a b = some (decide (a = b)) := by
  rw [spec_l1Same.F_eq]
  by_cases h1 : a.length = b.length
  · rw [if_pos (by omega)]
    have := spec_l1Same.L0_val a b [] [] rfl h1 (by simpa using h)
    simpa using this
  · rw [if_neg (by omega)]
    have : ¬ a = b := fun e => h1 (by rw [e])
    simp [this]
/-- A set moved, a set's multiple. -/
def movedSet (v : Int) (l : List Int) (m : Int) : List Int := pointsOf v (residues v 1 m l)
def timesSet (v : Int) (l : List Int) (k : Int) : List Int := pointsOf v (residues v k 0 l)
def isMult (v : Int) (l : List Int) (m : Nat) : Bool := decide (Nat.gcd v.toNat m = 1) && (List.range' 0 v.toNat).any fun n : Nat => decide (timesSet v l m = movedSet v l n)
def multsFrom (v : Int) (l : List Int) : Nat → Nat → List Int
  | 0, _ => []
  | n + 1, m => if isMult v l m = true then (m : Int) :: multsFrom v l n (m + 1) else multsFrom v l n (m + 1)
theorem multsFrom_step {v : Int} {l : List Int} {n m : Nat} {b : Bool} (e : isMult v l m = b) : multsFrom v l (n + 1) m = if b = true then (m : Int) :: multsFrom v l n (m + 1) else multsFrom v l n (m + 1) := by
  subst e
  rfl
theorem isMult_gcd {v : Int} {l : List Int} {m : Nat} (h : Nat.gcd v.toNat m = 1) : isMult v l m = (List.range' 0 v.toNat).any fun n : Nat => decide (timesSet v l m = movedSet v l n) := by
  unfold isMult
  rw [decide_eq_true h, Bool.true_and]
theorem isMult_no {v : Int} {l : List Int} {m : Nat} (h : ¬ Nat.gcd v.toNat m = 1) : isMult v l m = false := by
  unfold isMult
  rw [decide_eq_false h, Bool.false_and]
def multipliersOf (v : Int) (l : List Int) : List Int × Bool := if isCircleSet v l = true then (multsFrom v l (v - 1).toNat 1, true) else ([], false)
theorem multsFrom_len (v : Int) (l : List Int) : ∀ n m, (multsFrom v l n m).length ≤ n
  | 0, _ => Nat.le_refl _
  | n + 1, m => by
    have := multsFrom_len v l n (m + 1)
    unfold multsFrom
    split
    · simp; omega
    · omega
theorem multipliersOf_len (v : Int) (l : List Int) : (multipliersOf v l).1.length ≤ 31 := by
  unfold multipliersOf
  split
  · rename_i h
    have h1 := (isCircleSet_parts h).1
    have := multsFrom_len v l (v - 1).toNat 1
    simp only
    omega
  · simp
theorem pointsOf_len (v : Int) (r : List Int) : (pointsOf v r).length ≤ v.toNat := by
  unfold pointsOf
  refine Nat.le_trans (List.length_filter_le _ _) ?_
  simp
theorem image_moved {v : Int} {l : List Int} (h : isCircleSet v l = true) (m : Nat) (hm : (m : Int) < v) : impl_image.F v l 1 m = some (movedSet v l m) := by
  obtain ⟨h1, h2, h3, h4, h5⟩ := isCircleSet_parts h
  rw [impl_image.F_val v 1 m l (by omega) (by omega) (by omega) (fun x hx => by have := h4 x hx; omega) (by omega), sortInt_points (residues_bound (by omega) (fun x hx => by have := h4 x hx; omega)) (residues_nodup (by omega) (by omega) (by omega) h4 (growing_sorted l h5) (by simp))]
  rfl
theorem image_times {v : Int} {l : List Int} (h : isCircleSet v l = true) (k : Nat) (hk : (k : Int) < v) (hg : Nat.gcd v.toNat k = 1) : impl_image.F v l k 0 = some (timesSet v l k) := by
  obtain ⟨h1, h2, h3, h4, h5⟩ := isCircleSet_parts h
  rw [impl_image.F_val v k 0 l (by omega) (by omega) (by omega) (fun x hx => by have := h4 x hx; omega) (by omega), sortInt_points (residues_bound (by omega) (fun x hx => by have := h4 x hx; have := Int.mul_nonneg this.1 (Int.natCast_nonneg k); omega)) (residues_nodup (by omega) (by omega) (by omega) h4 (growing_sorted l h5) (by simpa using hg))]
  rfl
theorem impl_MultipliersOf.L1_val {v : Int} {l : List Int} (h : isCircleSet v l = true) (acc : List Int) (ha : acc.length ≤ 1000) (m : Nat) (t : List Int) (htl : t.length ≤ 1000) : ∀ (n k : Nat), (k : Int) + n = v → impl_MultipliersOf.L1 v l acc m t v k = if ((List.range' k n).any fun n : Nat => decide (t = movedSet v l n)) = true then impl_MultipliersOf.L0 v l (acc ++ [(m : Int)]) (wrap64 ((m : Int) + 1)) else impl_MultipliersOf.L0 v l acc (wrap64 ((m : Int) + 1))
  | 0, k, hk => by
    rw [impl_MultipliersOf.L1_eq, if_neg (by omega)]
    simp
  | n + 1, k, hk => by
    have h1 := (isCircleSet_parts h).1
    rw [impl_MultipliersOf.L1_eq, if_pos (by omega), image_moved h k (by omega)]
    simp only [Option.bind_some]
    rw [slices_Equal_int_int.F_val t _ (by omega)]
    simp only [Option.bind_some]
    rw [List.range'_succ, List.any_cons]
    by_cases h2 : t = movedSet v l k
    · rw [if_pos (by simpa using h2), if_pos (by omega), if_pos (by simp [← h2])]
    · rw [if_neg (by simpa using h2), show wrap64 ((k : Int) + 1) = ((k + 1 : Nat) : Int) by rw [wrap_in (by omega) (by omega)]; rfl, impl_MultipliersOf.L1_val h acc ha m t htl n (k + 1) (by omega), decide_eq_false h2, Bool.false_or]
theorem impl_MultipliersOf.L0_val {v : Int} {l : List Int} (h : isCircleSet v l = true) : ∀ (n m : Nat) (acc : List Int), (m : Int) + n = v → 1 ≤ m → acc.length + n ≤ 1000 → impl_MultipliersOf.L0 v l acc m = some (acc ++ multsFrom v l n m, true)
  | 0, m, acc, hm, h1, ha => by
    rw [impl_MultipliersOf.L0_eq, if_neg (by omega)]
    simp [multsFrom]
  | n + 1, m, acc, hm, h1, ha => by
    have h2 := (isCircleSet_parts h).1
    have hvn : ((v.toNat : Nat) : Int) = v := by omega
    have hc : impl_common.F v m = some ((Nat.gcd v.toNat m : Nat) : Int) := by
      rw [impl_common.F_eq]
      have := impl_common.L0_val m v.toNat
      rw [hvn] at this
      exact this
    have hpos : 0 < Nat.gcd v.toNat m := Nat.gcd_pos_of_pos_right _ (by omega)
    have hw : wrap64 ((m : Int) + 1) = ((m + 1 : Nat) : Int) := by rw [wrap_in (by omega) (by omega)]; rfl
    rw [impl_MultipliersOf.L0_eq, if_pos (by omega), hc]
    simp only [Option.bind_some]
    by_cases hg : Nat.gcd v.toNat m = 1
    · rw [if_neg (by omega), image_times h m (by omega) hg]
      simp only [Option.bind_some]
      have ht := pointsOf_len v (residues v m 0 l)
      have h3 := impl_MultipliersOf.L1_val h acc (by omega) m (timesSet v l m) (by unfold timesSet; omega) v.toNat 0 (by omega)
      simp only [Int.natCast_zero, Int.ofNat_zero] at h3
      rw [h3, hw, multsFrom_step (isMult_gcd hg)]
      by_cases h4 : ((List.range' 0 v.toNat).any fun n : Nat => decide (timesSet v l m = movedSet v l n)) = true
      · rw [if_pos h4, if_pos h4, impl_MultipliersOf.L0_val h n (m + 1) _ (by omega) (by omega) (by simp; omega)]
        simp
      · rw [if_neg h4, if_neg h4, impl_MultipliersOf.L0_val h n (m + 1) _ (by omega) (by omega) (by omega)]
    · rw [if_pos (by omega), hw, impl_MultipliersOf.L0_val h n (m + 1) _ (by omega) (by omega) (by omega), multsFrom_step (isMult_no hg), if_neg (by decide)]
theorem impl_MultipliersOf.F_val (v : Int) (l : List Int) (hl : l.length < 4611686018427387904) : impl_MultipliersOf.F v l = some (multipliersOf v l) := by
  rw [impl_MultipliersOf.F_eq, impl_IsCircleSet.F_val v l hl]
  simp only [Option.bind_some]
  unfold multipliersOf
  by_cases h : isCircleSet v l = true
  · have h2 := (isCircleSet_parts h).1
    rw [if_pos h, if_pos h]
    have := impl_MultipliersOf.L0_val h (v - 1).toNat 1 [] (by omega) (by omega) (by simp; omega)
    simpa using this
  · rw [if_neg h, if_neg h]
theorem spec_MultipliersOf.L1_val {v : Int} {l : List Int} (h : isCircleSet v l = true) (acc : List Int) (ha : acc.length ≤ 1000) (m : Nat) (hm : (m : Int) < v) : ∀ (n k : Nat), (k : Int) + n = v → spec_MultipliersOf.L1 v l acc m k = if ((List.range' k n).any fun n : Nat => decide (timesSet v l m = movedSet v l n)) = true then spec_MultipliersOf.L0 v l (acc ++ [(m : Int)]) (wrap64 ((m : Int) + 1)) else spec_MultipliersOf.L0 v l acc (wrap64 ((m : Int) + 1))
  | 0, k, hk => by
    rw [spec_MultipliersOf.L1_eq, if_neg (by omega)]
    simp
  | n + 1, k, hk => by
    obtain ⟨h1, h2, h3, h4, h5⟩ := isCircleSet_parts h
    have ht := pointsOf_len v (residues v m 0 l)
    rw [spec_MultipliersOf.L1_eq, if_pos (by omega), spec_ciTimes.F_val v m l (by omega) (by omega) (by omega) (fun x hx => by have := h4 x hx; omega) (by omega)]
    simp only [Option.bind_some]
    rw [spec_ciMove.F_val v k l (by omega) (by omega) (by omega) (fun x hx => by have := h4 x hx; omega) (by omega)]
    simp only [Option.bind_some]
    rw [spec_l1Same.F_val _ _ (by omega)]
    simp only [Option.bind_some]
    rw [List.range'_succ, List.any_cons]
    by_cases h2 : timesSet v l m = movedSet v l k
    · rw [if_pos (by simpa [timesSet, movedSet] using h2), if_pos (by omega), if_pos (by simp [h2])]
    · rw [if_neg (by simpa [timesSet, movedSet] using h2), show wrap64 ((k : Int) + 1) = ((k + 1 : Nat) : Int) by rw [wrap_in (by omega) (by omega)]; rfl, spec_MultipliersOf.L1_val h acc ha m hm n (k + 1) (by omega), decide_eq_false h2, Bool.false_or]
theorem spec_MultipliersOf.L0_val {v : Int} {l : List Int} (h : isCircleSet v l = true) : ∀ (n m : Nat) (acc : List Int), (m : Int) + n = v → 1 ≤ m → acc.length + n ≤ 1000 → spec_MultipliersOf.L0 v l acc m = some (acc ++ multsFrom v l n m, true)
  | 0, m, acc, hm, h1, ha => by
    rw [spec_MultipliersOf.L0_eq, if_neg (by omega)]
    simp [multsFrom]
  | n + 1, m, acc, hm, h1, ha => by
    have h2 := (isCircleSet_parts h).1
    have hvn : ((v.toNat : Nat) : Int) = v := by omega
    have hc : spec_ciCommon.F m v = some ((Nat.gcd v.toNat m : Nat) : Int) := by
      rw [spec_ciCommon.F_eq]
      have := spec_ciCommon.L0_val v.toNat m
      rw [hvn, Nat.gcd_comm] at this
      exact this
    have hw : wrap64 ((m : Int) + 1) = ((m + 1 : Nat) : Int) := by rw [wrap_in (by omega) (by omega)]; rfl
    rw [spec_MultipliersOf.L0_eq, if_pos (by omega), hc]
    simp only [Option.bind_some]
    by_cases hg : Nat.gcd v.toNat m = 1
    · have h3 := spec_MultipliersOf.L1_val h acc (by omega) m (by omega) v.toNat 0 (by omega)
      simp only [Int.natCast_zero, Int.ofNat_zero] at h3
      rw [if_pos (by omega), h3, hw, multsFrom_step (isMult_gcd hg)]
      by_cases h4 : ((List.range' 0 v.toNat).any fun n : Nat => decide (timesSet v l m = movedSet v l n)) = true
      · rw [if_pos h4, if_pos h4, spec_MultipliersOf.L0_val h n (m + 1) _ (by omega) (by omega) (by simp; omega)]
        simp
      · rw [if_neg h4, if_neg h4, spec_MultipliersOf.L0_val h n (m + 1) _ (by omega) (by omega) (by omega)]
    · rw [if_neg (by omega), hw, spec_MultipliersOf.L0_val h n (m + 1) _ (by omega) (by omega) (by omega), multsFrom_step (isMult_no hg), if_neg (by decide)]
theorem spec_MultipliersOf.F_val (v : Int) (l : List Int) (hl : l.length < 4611686018427387904) : spec_MultipliersOf.F v l = some (multipliersOf v l) := by
  rw [spec_MultipliersOf.F_eq, spec_ciGood.F_val v l hl]
  simp only [Option.bind_some]
  unfold multipliersOf
  by_cases h : isCircleSet v l = true
  · have h2 := (isCircleSet_parts h).1
    rw [if_pos h, if_pos h]
    have := spec_MultipliersOf.L0_val h (v - 1).toNat 1 [] (by omega) (by omega) (by simp; omega)
    simpa using this
  · rw [if_neg h, if_neg h]
end Go.Proofs.Ytiopjegbggjdcaa.Fn
namespace Go.Proofs.Ytiopjegbggjdcaa.Pure
open Go.RowKit Go.Proofs.Ytiopjegbggjdcaa.Fn Go.Proofs.YtiopjegbggjdcaaW.PrintWords Go.Proofs.YtiopjegbggjdcaaW.PrintLast Go.Proofs.YtiopjegbggjdcaaW.PrintMore
set_option linter.unusedVariables false
set_option linter.unusedSimpArgs false
theorem FnExactMultipliersOf : laws_FnExactMultipliersOf.Pure := by
  intro a0 l1 _ _ _ _
  refine Lim.rounds (laws_FnExactMultipliersOf.F_lim a0 l1) ?_
  rw [laws_FnExactMultipliersOf.F_eq]
  by_cases h0 : (l1.length : Int) > 1048576
  · rw [if_pos h0]
  have hr := multipliersOf_len a0 l1
  have e0 := laws_toIntS.F_val l1 (by omega)
  have s := spec_MultipliersOf.F_val a0 l1 (by omega)
  have i := impl_MultipliersOf.F_val a0 l1 (by omega)
  have q := laws_eqIntS.F_same (multipliersOf a0 l1).1 (by omega)
  have q0 := laws_eqIntS.F_same l1 (by omega)
  have m0 := laws_markIntS.F_val l1 1 (by omega) (by omega)
  have m := laws_markIntS.F_val (multipliersOf a0 l1).1 1 (by omega) (by omega)
  have g := laws_heldIntS.F_val (multipliersOf a0 l1).1.length 1 (by omega) (by omega)
  have n1 : ¬ ((1 : Int) + l1.length < 0) := by omega
  have n2 : ¬ ((1 : Int) + (multipliersOf a0 l1).1.length < 0) := by omega
  rw [if_neg h0]
  simp only [e0, s, i, q, Option.bind_some, if_true, bne_self_eq_false, laws_FnExactMultipliersOf.J0_eq, laws_FnExactMultipliersOf.J1_eq, laws_FnExactMultipliersOf.J2_eq, q0, m0, m, g, n1, n2, if_false, Bool.false_eq_true]
end Go.Proofs.Ytiopjegbggjdcaa.Pure
