/- The machine's side and plain lemmas for FnDotsTurned: texts of this session, merged by its program (part 4). -/
import Derived.Test.YtadhfbchilaklaaMFnDotsTurned0
import Derived.Test.YtadhfbchilaklaaMFnDotsTurned1
import Derived.Test.YtadhfbchilaklaaMFnDotsTurned2
import Derived.Test.YtadhfbchilaklaaMFnDotsTurned3
namespace Go.Proofs.Ytadhfbchilaklaa.Fn
open Go.RowKit Go.Proofs.YtadhfbchilaklaaW.PrintWords Go.Proofs.YtadhfbchilaklaaW.PrintLast Go.Proofs.YtadhfbchilaklaaW.PrintMore
attribute [local go_sem] max2_int min2_int max_two min_two max_three min_three max_four min_four   -- for this text's walks alone
set_option linter.unusedVariables false
set_option linter.unusedSimpArgs false


set_option maxHeartbeats 80000000 in
set_option maxRecDepth 100000 in
theorem laws_FnDotsTurned.calls (k : Nat) (A0 : Option Addr) (c0 : Nat) (l0 : List Int) (A1 : Option Addr) (c1 : Nat) (l1 : List Int) (r : Bool) (w : World) (hr0 : Kd.C (Kd.int .u8) w A0 l0.length l0) (hc0 : l0.length ≤ c0) (hr1 : Kd.C (Kd.int .u8) w A1 l1.length l1) (hc1 : l1.length ≤ c1) (ht_ : r = true) (h : laws_FnDotsTurned.f k l0 l1 = some r) :
  Calls Try.prog 4 #[.slice A0 l0.length c0, .slice A1 l1.length c1] w fun e w' => e = .returned (.bool r) ∧ Below w.heap.size w w' := by
 have HR0 := Aside0.mk hr0
 have HC0 := Aside0.mk hc0
 clear hr0 hc0
 have HR1 := Aside0.mk hr1
 have HC1 := Aside0.mk hc1
 clear hr1 hc1
 have HB := Aside0.mk (Below.refl w.heap.size w)
 have H := h
 unfold laws_FnDotsTurned.f at H
 clear h
 have HT := Aside0.mk ht_
 clear ht_
 replace H := Option.bind_eq_some_iff.mp H
 obtain ⟨t698, A30, H⟩ := H
 (try dsimp only at H)
 have A3 := Aside0.mk A30
 clear A30
 by_cases c4 : t698 = true
 ·subst c4
  rw [if_pos rfl] at H
  obtain rfl := Option.some.inj H
  go_enter Try.func4, Try.ntmps4
  go_wp2_with (first | ((with_reducible refine gate_callee (f := 9) rfl ?_); refine goesA (some 75) Try.func9 #[.slice A0 l0.length c0, .slice A1 l1.length c1] ?_; (with_reducible refine (laws_big.calls _ _ l0 _ _ l1 true _ ?side1 ?side2 ?side3 ?side4 A3.out).mono ?_); (case side1 => repeat (first | exact HR0.out | (with_reducible refine Kd.C_alloc ?_ _) | (with_reducible refine Kd.C_drewN ?_ _) | (with_reducible refine Kd.C_drew ?_))); (case side2 => exact HC0.out); (case side3 => repeat (first | exact HR1.out | (with_reducible refine Kd.C_alloc ?_ _) | (with_reducible refine Kd.C_drewN ?_ _) | (with_reducible refine Kd.C_drew ?_))); (case side4 => exact HC1.out); rintro e w' ⟨rfl, ⟨nd, rfl⟩⟩; refine ⟨_, rfl, ?_⟩))
  go_ret
  exact ⟨eqr, atB HB⟩
 ·replace c4 := Bool.eq_false_iff.mpr c4
  subst c4
  rw [if_neg (show ¬ (false = true) by decide)] at H
  replace H := Option.bind_eq_some_iff.mp H
  obtain ⟨t699, A50, H⟩ := H
  (try dsimp only at H)
  have A5 := Aside0.mk A50
  clear A50
  replace H := Option.bind_eq_some_iff.mp H
  obtain ⟨⟨t702, t703⟩, A60, H⟩ := H
  (try dsimp only at H)
  have A6 := Aside0.mk A60
  clear A60
  replace H := Option.bind_eq_some_iff.mp H
  obtain ⟨⟨t706, t707⟩, A70, H⟩ := H
  (try dsimp only at H)
  have A7 := Aside0.mk A70
  clear A70
  replace H := Option.bind_eq_some_iff.mp H
  obtain ⟨⟨t710, t711⟩, A80, H⟩ := H
  (try dsimp only at H)
  have A8 := Aside0.mk A80
  clear A80
  replace H := Option.bind_eq_some_iff.mp H
  obtain ⟨⟨t714, t715⟩, A90, H⟩ := H
  (try dsimp only at H)
  have A9 := Aside0.mk A90
  clear A90
  replace H := Option.bind_eq_some_iff.mp H
  obtain ⟨⟨t718, t719⟩, A100, H⟩ := H
  (try dsimp only at H)
  have A10 := Aside0.mk A100
  clear A100
  replace H := Option.bind_eq_some_iff.mp H
  obtain ⟨⟨t722, t723⟩, A110, H⟩ := H
  (try dsimp only at H)
  have A11 := Aside0.mk A110
  clear A110
  replace H := Option.bind_eq_some_iff.mp H
  obtain ⟨⟨t726, t727⟩, A120, H⟩ := H
  (try dsimp only at H)
  have A12 := Aside0.mk A120
  clear A120
  replace H := Option.bind_eq_some_iff.mp H
  obtain ⟨⟨t730, t731⟩, A130, H⟩ := H
  (try dsimp only at H)
  have A13 := Aside0.mk A130
  clear A130
  replace H := Option.bind_eq_some_iff.mp H
  obtain ⟨⟨t734, t735⟩, A140, H⟩ := H
  (try dsimp only at H)
  have A14 := Aside0.mk A140
  clear A140
  replace H := Option.bind_eq_some_iff.mp H
  obtain ⟨⟨t738, t739⟩, A150, H⟩ := H
  (try dsimp only at H)
  have A15 := Aside0.mk A150
  clear A150
  have HC16 := Aside0.mk H
  clear H
  go_enter Try.func4, Try.ntmps4
  go_upto_region 14 with (first | ((with_reducible refine gate_callee (f := 9) rfl ?_); refine goesA (some 75) Try.func9 #[.slice A0 l0.length c0, .slice A1 l1.length c1] ?_; (with_reducible refine (laws_big.calls _ _ l0 _ _ l1 false _ ?side1 ?side2 ?side3 ?side4 A3.out).mono ?_); (case side1 => repeat (first | exact HR0.out | (with_reducible refine Kd.C_alloc ?_ _) | (with_reducible refine Kd.C_drewN ?_ _) | (with_reducible refine Kd.C_drew ?_))); (case side2 => exact HC0.out); (case side3 => repeat (first | exact HR1.out | (with_reducible refine Kd.C_alloc ?_ _) | (with_reducible refine Kd.C_drewN ?_ _) | (with_reducible refine Kd.C_drew ?_))); (case side4 => exact HC1.out); rintro e w' ⟨rfl, ⟨nd, rfl⟩⟩; refine ⟨_, rfl, ?_⟩) | ((with_reducible refine gate_callee (f := 34) rfl ?_); refine goesA (some 77) Try.func34 #[.slice A0 l0.length c0] ?_; (with_reducible refine (spec_DrawTurnDots.calls k _ _ l0 t699 _ ?side1 ?side2 A5.out).mono ?_); (case side1 => repeat (first | exact HR0.out | (with_reducible refine Kd.C_alloc ?_ _) | (with_reducible refine Kd.C_drewN ?_ _) | (with_reducible refine Kd.C_drew ?_))); (case side2 => exact HC0.out); rintro e w17 ⟨v700, rfl, ho0, hb⟩; refine ⟨_, rfl, ?_⟩; have HO701 := lowR ho0 HB; replace HB := upB HB hb; (try clear hb); (try clear hb2); (try clear hk); (try clear hi); (try clear ho0); obtain ⟨Ao18, co18, eo18⟩ := Kd.R_slice HO701.out; subst eo18) | ((with_reducible refine gate_callee (f := 35) rfl ?_); refine goesA (some 80) Try.func35 #[.slice Ao18 t699.length co18] ?_; (with_reducible refine (impl_TurnDots.calls k _ _ t699 t702 t703 _ ?side1 ?side2 A6.out).mono ?_); (case side1 => exact atRC HO701); (case side2 => exact (Kd.R_reads' HO701.out).2.1); rintro e w19 ⟨v704, rfl, ho0, hb⟩; refine ⟨_, rfl, ?_⟩; have HO705 := lowR ho0 HB; replace HO701 := upR HO701 hb; replace HB := upB HB hb; (try clear hb); (try clear hb2); (try clear hk); (try clear hi); (try clear ho0)) | ((with_reducible refine gate_callee (f := 36) rfl ?_); refine goesA (some 85) Try.func36 #[.slice Ao18 t699.length co18] ?_; (with_reducible refine (spec_TurnDots.calls k _ _ t699 t706 t707 _ ?side1 ?side2 A7.out).mono ?_); (case side1 => exact atRC HO701); (case side2 => exact (Kd.R_reads' HO701.out).2.1); rintro e w20 ⟨v708, rfl, ho0, hb⟩; refine ⟨_, rfl, ?_⟩; have HO709 := lowR ho0 HB; replace HO701 := upR HO701 hb; replace HO705 := upR HO705 hb; replace HB := upB HB hb; (try clear hb); (try clear hb2); (try clear hk); (try clear hi); (try clear ho0)) | ((with_reducible refine gate_callee (f := 37) rfl ?_); refine goesA (some 90) Try.func37 #[.slice Ao18 t699.length co18] ?_; (with_reducible refine (impl_MirrorDots.calls k _ _ t699 t710 t711 _ ?side1 ?side2 A8.out).mono ?_); (case side1 => exact atRC HO701); (case side2 => exact (Kd.R_reads' HO701.out).2.1); rintro e w21 ⟨v712, rfl, ho0, hb⟩; refine ⟨_, rfl, ?_⟩; have HO713 := lowR ho0 HB; replace HO701 := upR HO701 hb; replace HO705 := upR HO705 hb; replace HO709 := upR HO709 hb; replace HB := upB HB hb; (try clear hb); (try clear hb2); (try clear hk); (try clear hi); (try clear ho0)) | ((with_reducible refine gate_callee (f := 38) rfl ?_); refine goesA (some 95) Try.func38 #[.slice Ao18 t699.length co18] ?_; (with_reducible refine (spec_MirrorDots.calls k _ _ t699 t714 t715 _ ?side1 ?side2 A9.out).mono ?_); (case side1 => exact atRC HO701); (case side2 => exact (Kd.R_reads' HO701.out).2.1); rintro e w22 ⟨v716, rfl, ho0, hb⟩; refine ⟨_, rfl, ?_⟩; have HO717 := lowR ho0 HB; replace HO701 := upR HO701 hb; replace HO705 := upR HO705 hb; replace HO709 := upR HO709 hb; replace HO713 := upR HO713 hb; replace HB := upB HB hb; (try clear hb); (try clear hb2); (try clear hk); (try clear hi); (try clear ho0)) | ((with_reducible refine gate_callee (f := 39) rfl ?_); refine goesA (some 100) Try.func39 #[.slice Ao18 t699.length co18] ?_; (with_reducible refine (impl_CrossDots.calls k _ _ t699 t718 t719 _ ?side1 ?side2 A10.out).mono ?_); (case side1 => exact atRC HO701); (case side2 => exact (Kd.R_reads' HO701.out).2.1); rintro e w23 ⟨v720, rfl, ho0, hb⟩; refine ⟨_, rfl, ?_⟩; have HO721 := lowR ho0 HB; replace HO701 := upR HO701 hb; replace HO705 := upR HO705 hb; replace HO709 := upR HO709 hb; replace HO713 := upR HO713 hb; replace HO717 := upR HO717 hb; replace HB := upB HB hb; (try clear hb); (try clear hb2); (try clear hk); (try clear hi); (try clear ho0)) | ((with_reducible refine gate_callee (f := 40) rfl ?_); refine goesA (some 105) Try.func40 #[.slice Ao18 t699.length co18] ?_; (with_reducible refine (spec_CrossDots.calls k _ _ t699 t722 t723 _ ?side1 ?side2 A11.out).mono ?_); (case side1 => exact atRC HO701); (case side2 => exact (Kd.R_reads' HO701.out).2.1); rintro e w24 ⟨v724, rfl, ho0, hb⟩; refine ⟨_, rfl, ?_⟩; have HO725 := lowR ho0 HB; replace HO701 := upR HO701 hb; replace HO705 := upR HO705 hb; replace HO709 := upR HO709 hb; replace HO713 := upR HO713 hb; replace HO717 := upR HO717 hb; replace HO721 := upR HO721 hb; replace HB := upB HB hb; (try clear hb); (try clear hb2); (try clear hk); (try clear hi); (try clear ho0)) | ((with_reducible refine gate_callee (f := 41) rfl ?_); refine goesA (some 110) Try.func41 #[.slice Ao18 t699.length co18] ?_; (with_reducible refine (impl_LeastDots.calls k _ _ t699 t726 t727 _ ?side1 ?side2 A12.out).mono ?_); (case side1 => exact atRC HO701); (case side2 => exact (Kd.R_reads' HO701.out).2.1); rintro e w25 ⟨v728, rfl, ho0, hb⟩; refine ⟨_, rfl, ?_⟩; have HO729 := lowR ho0 HB; replace HO701 := upR HO701 hb; replace HO705 := upR HO705 hb; replace HO709 := upR HO709 hb; replace HO713 := upR HO713 hb; replace HO717 := upR HO717 hb; replace HO721 := upR HO721 hb; replace HO725 := upR HO725 hb; replace HB := upB HB hb; (try clear hb); (try clear hb2); (try clear hk); (try clear hi); (try clear ho0)) | ((with_reducible refine gate_callee (f := 42) rfl ?_); refine goesA (some 115) Try.func42 #[.slice Ao18 t699.length co18] ?_; (with_reducible refine (spec_LeastDots.calls k _ _ t699 t730 t731 _ ?side1 ?side2 A13.out).mono ?_); (case side1 => exact atRC HO701); (case side2 => exact (Kd.R_reads' HO701.out).2.1); rintro e w26 ⟨v732, rfl, ho0, hb⟩; refine ⟨_, rfl, ?_⟩; have HO733 := lowR ho0 HB; replace HO701 := upR HO701 hb; replace HO705 := upR HO705 hb; replace HO709 := upR HO709 hb; replace HO713 := upR HO713 hb; replace HO717 := upR HO717 hb; replace HO721 := upR HO721 hb; replace HO725 := upR HO725 hb; replace HO729 := upR HO729 hb; replace HB := upB HB hb; (try clear hb); (try clear hb2); (try clear hk); (try clear hi); (try clear ho0)) | ((with_reducible refine gate_callee (f := 43) rfl ?_); refine goesA (some 120) Try.func43 #[.slice Ao18 t699.length co18] ?_; (with_reducible refine (impl_DropCorner.calls k _ _ t699 t734 t735 _ ?side1 ?side2 A14.out).mono ?_); (case side1 => exact atRC HO701); (case side2 => exact (Kd.R_reads' HO701.out).2.1); rintro e w27 ⟨v736, rfl, ho0, hb⟩; refine ⟨_, rfl, ?_⟩; have HO737 := lowR ho0 HB; replace HO701 := upR HO701 hb; replace HO705 := upR HO705 hb; replace HO709 := upR HO709 hb; replace HO713 := upR HO713 hb; replace HO717 := upR HO717 hb; replace HO721 := upR HO721 hb; replace HO725 := upR HO725 hb; replace HO729 := upR HO729 hb; replace HO733 := upR HO733 hb; replace HB := upB HB hb; (try clear hb); (try clear hb2); (try clear hk); (try clear hi); (try clear ho0)) | ((with_reducible refine gate_callee (f := 44) rfl ?_); refine goesA (some 125) Try.func44 #[.slice Ao18 t699.length co18] ?_; (with_reducible refine (spec_DropCorner.calls k _ _ t699 t738 t739 _ ?side1 ?side2 A15.out).mono ?_); (case side1 => exact atRC HO701); (case side2 => exact (Kd.R_reads' HO701.out).2.1); rintro e w28 ⟨v740, rfl, ho0, hb⟩; refine ⟨_, rfl, ?_⟩; have HO741 := lowR ho0 HB; replace HO701 := upR HO701 hb; replace HO705 := upR HO705 hb; replace HO709 := upR HO709 hb; replace HO713 := upR HO713 hb; replace HO717 := upR HO717 hb; replace HO721 := upR HO721 hb; replace HO725 := upR HO725 hb; replace HO729 := upR HO729 hb; replace HO733 := upR HO733 hb; replace HO737 := upR HO737 hb; replace HB := upB HB hb; (try clear hb); (try clear hb2); (try clear hk); (try clear hi); (try clear ho0)))
  (try simp only [Act.put, List.setIfInBounds_toArray, List.set_cons_zero, List.set_cons_succ])
  go_cut [217] (fun v217 wc => ∃ (kq : Nat) (x217_15 : Bool), v217 = .bool x217_15 ∧ Aside0 (laws_FnDotsTurned.j0 kq l1 t699 t702 t703 t710 t718 t726 t734 t735 x217_15 = some r) ∧ Aside0 (kq ≤ k) ∧ Aside0 (Kd.R (Kd.int .i64) 3 wc w.heap.size (fun _ => True) (.slice Ao18 t699.length co18) t699) ∧ Aside0 (Kd.R (Kd.int .i64) 3 wc w.heap.size (fun _ => True) v704 t702) ∧ Aside0 (Kd.R (Kd.int .i64) 3 wc w.heap.size (fun _ => True) v712 t710) ∧ Aside0 (Kd.R (Kd.int .i64) 3 wc w.heap.size (fun _ => True) v720 t718) ∧ Aside0 (Kd.R (Kd.int .i64) 3 wc w.heap.size (fun _ => True) v728 t726) ∧ Aside0 (Kd.R (Kd.int .i64) 3 wc w.heap.size (fun _ => True) v736 t734) ∧ Aside0 (Below w.heap.size w wc))
  case first => as_aux_lemma =>
   have H := HC16.out
   clear HC16
   by_cases c29 : (t703 != t707) = true
   ·rw [if_pos c29] at H
    have c29b0 : (t703 != t707) = true := c29
    (try (have c29b1 : decide (t703 = t707) = false := by simpa using c29))
    (try (have c29b2 : (t703 == t707) = false := by simpa using c29))
    (try (have c29b3 : ¬ (t703 = t707) := by simpa using c29))
    clear c29
    (first | rw [c29b0] | (simp only [i64_w, i32_w]; rw [c29b0]) | skip)
    exact absurd (H.trans (congrArg some HT.out)) (laws_FnDotsTurned.j0_no k l1 t699 t702 t703 t710 t718 t726 t734 t735)
   ·rw [if_neg c29] at H
    have c29b0 : (t703 != t707) = false := by simpa using c29
    (try (have c29b1 : decide (t703 = t707) = true := by simpa using c29))
    (try (have c29b2 : (t703 == t707) = true := by simpa using c29))
    clear c29
    (first | rw [c29b0] | (simp only [i64_w, i32_w]; rw [c29b0]) | skip)
    replace H := Option.bind_eq_some_iff.mp H
    obtain ⟨t742, A300, H⟩ := H
    (try dsimp only at H)
    have A30 := Aside0.mk A300
    clear A300
    by_cases c31 : t742 = true
    ·subst c31
     rw [if_pos rfl] at H
     by_cases c32 : (t711 != t715) = true
     ·rw [if_pos c32] at H
      have c32b0 : (t711 != t715) = true := c32
      (try (have c32b1 : decide (t711 = t715) = false := by simpa using c32))
      (try (have c32b2 : (t711 == t715) = false := by simpa using c32))
      (try (have c32b3 : ¬ (t711 = t715) := by simpa using c32))
      clear c32
      exact absurd (H.trans (congrArg some HT.out)) (laws_FnDotsTurned.j0_no k l1 t699 t702 t703 t710 t718 t726 t734 t735)
     ·rw [if_neg c32] at H
      have c32b0 : (t711 != t715) = false := by simpa using c32
      (try (have c32b1 : decide (t711 = t715) = true := by simpa using c32))
      (try (have c32b2 : (t711 == t715) = true := by simpa using c32))
      clear c32
      replace H := Option.bind_eq_some_iff.mp H
      obtain ⟨t743, A330, H⟩ := H
      (try dsimp only at H)
      have A33 := Aside0.mk A330
      clear A330
      by_cases c34 : t743 = true
      ·subst c34
       rw [if_pos rfl] at H
       by_cases c35 : (t719 != t723) = true
       ·rw [if_pos c35] at H
        have c35b0 : (t719 != t723) = true := c35
        (try (have c35b1 : decide (t719 = t723) = false := by simpa using c35))
        (try (have c35b2 : (t719 == t723) = false := by simpa using c35))
        (try (have c35b3 : ¬ (t719 = t723) := by simpa using c35))
        clear c35
        exact absurd (H.trans (congrArg some HT.out)) (laws_FnDotsTurned.j0_no k l1 t699 t702 t703 t710 t718 t726 t734 t735)
       ·rw [if_neg c35] at H
        have c35b0 : (t719 != t723) = false := by simpa using c35
        (try (have c35b1 : decide (t719 = t723) = true := by simpa using c35))
        (try (have c35b2 : (t719 == t723) = true := by simpa using c35))
        clear c35
        replace H := Option.bind_eq_some_iff.mp H
        obtain ⟨t744, A360, H⟩ := H
        (try dsimp only at H)
        have A36 := Aside0.mk A360
        clear A360
        by_cases c37 : t744 = true
        ·subst c37
         rw [if_pos rfl] at H
         by_cases c38 : (t727 != t731) = true
         ·rw [if_pos c38] at H
          have c38b0 : (t727 != t731) = true := c38
          (try (have c38b1 : decide (t727 = t731) = false := by simpa using c38))
          (try (have c38b2 : (t727 == t731) = false := by simpa using c38))
          (try (have c38b3 : ¬ (t727 = t731) := by simpa using c38))
          clear c38
          exact absurd (H.trans (congrArg some HT.out)) (laws_FnDotsTurned.j0_no k l1 t699 t702 t703 t710 t718 t726 t734 t735)
         ·rw [if_neg c38] at H
          have c38b0 : (t727 != t731) = false := by simpa using c38
          (try (have c38b1 : decide (t727 = t731) = true := by simpa using c38))
          (try (have c38b2 : (t727 == t731) = true := by simpa using c38))
          clear c38
          replace H := Option.bind_eq_some_iff.mp H
          obtain ⟨t745, A390, H⟩ := H
          (try dsimp only at H)
          have A39 := Aside0.mk A390
          clear A390
          by_cases c40 : t745 = true
          ·subst c40
           rw [if_pos rfl] at H
           by_cases c41 : (t735 != t739) = true
           ·rw [if_pos c41] at H
            have c41b0 : (t735 != t739) = true := c41
            (try (have c41b1 : decide (t735 = t739) = false := by simpa using c41))
            (try (have c41b2 : (t735 == t739) = false := by simpa using c41))
            (try (have c41b3 : ¬ (t735 = t739) := by simpa using c41))
            clear c41
            exact absurd (H.trans (congrArg some HT.out)) (laws_FnDotsTurned.j0_no k l1 t699 t702 t703 t710 t718 t726 t734 t735)
           ·rw [if_neg c41] at H
            have c41b0 : (t735 != t739) = false := by simpa using c41
            (try (have c41b1 : decide (t735 = t739) = true := by simpa using c41))
            (try (have c41b2 : (t735 == t739) = true := by simpa using c41))
            clear c41
            replace H := Option.bind_eq_some_iff.mp H
            obtain ⟨t746, A420, H⟩ := H
            (try dsimp only at H)
            have A42 := Aside0.mk A420
            clear A420
            by_cases c43 : t746 = true
            ·subst c43
             rw [if_pos rfl] at H
             replace H := Option.bind_eq_some_iff.mp H
             obtain ⟨t747, A440, H⟩ := H
             (try dsimp only at H)
             have A44 := Aside0.mk A440
             clear A440
             by_cases c45 : (t703 != t747) = true
             ·rw [if_pos c45] at H
              have c45b0 : (t703 != t747) = true := c45
              (try (have c45b1 : decide (t703 = t747) = false := by simpa using c45))
              (try (have c45b2 : (t703 == t747) = false := by simpa using c45))
              (try (have c45b3 : ¬ (t703 = t747) := by simpa using c45))
              clear c45
              exact absurd (H.trans (congrArg some HT.out)) (laws_FnDotsTurned.j0_no k l1 t699 t702 t703 t710 t718 t726 t734 t735)
             ·rw [if_neg c45] at H
              have c45b0 : (t703 != t747) = false := by simpa using c45
              (try (have c45b1 : decide (t703 = t747) = true := by simpa using c45))
              (try (have c45b2 : (t703 == t747) = true := by simpa using c45))
              clear c45
              by_cases c46 : (t711 != t703) = true
              ·rw [if_pos c46] at H
               have c46b0 : (t711 != t703) = true := c46
               (try (have c46b1 : decide (t711 = t703) = false := by simpa using c46))
               (try (have c46b2 : (t711 == t703) = false := by simpa using c46))
               (try (have c46b3 : ¬ (t711 = t703) := by simpa using c46))
               clear c46
               exact absurd (H.trans (congrArg some HT.out)) (laws_FnDotsTurned.j0_no k l1 t699 t702 t703 t710 t718 t726 t734 t735)
              ·rw [if_neg c46] at H
               have c46b0 : (t711 != t703) = false := by simpa using c46
               (try (have c46b1 : decide (t711 = t703) = true := by simpa using c46))
               (try (have c46b2 : (t711 == t703) = true := by simpa using c46))
               clear c46
               by_cases c47 : (t719 != t703) = true
               ·rw [if_pos c47] at H
                have c47b0 : (t719 != t703) = true := c47
                (try (have c47b1 : decide (t719 = t703) = false := by simpa using c47))
                (try (have c47b2 : (t719 == t703) = false := by simpa using c47))
                (try (have c47b3 : ¬ (t719 = t703) := by simpa using c47))
                clear c47
                exact absurd (H.trans (congrArg some HT.out)) (laws_FnDotsTurned.j0_no k l1 t699 t702 t703 t710 t718 t726 t734 t735)
               ·rw [if_neg c47] at H
                have c47b0 : (t719 != t703) = false := by simpa using c47
                (try (have c47b1 : decide (t719 = t703) = true := by simpa using c47))
                (try (have c47b2 : (t719 == t703) = true := by simpa using c47))
                clear c47
                by_cases c48 : (t727 != t703) = true
                ·rw [if_pos c48] at H
                 have c48b0 : (t727 != t703) = true := c48
                 (try (have c48b1 : decide (t727 = t703) = false := by simpa using c48))
                 (try (have c48b2 : (t727 == t703) = false := by simpa using c48))
                 (try (have c48b3 : ¬ (t727 = t703) := by simpa using c48))
                 clear c48
                 exact absurd (H.trans (congrArg some HT.out)) (laws_FnDotsTurned.j0_no k l1 t699 t702 t703 t710 t718 t726 t734 t735)
                ·rw [if_neg c48] at H
                 have c48b0 : (t727 != t703) = false := by simpa using c48
                 (try (have c48b1 : decide (t727 = t703) = true := by simpa using c48))
                 (try (have c48b2 : (t727 == t703) = true := by simpa using c48))
                 clear c48
                 by_cases c49 : t703 = true
                 ·subst c49
                  obtain rfl : t707 = true := (by simpa using c29b0)
                  obtain rfl : t747 = true := (by simpa using c45b0)
                  obtain rfl : t711 = true := (by simpa using c46b0)
                  obtain rfl : t719 = true := (by simpa using c47b0)
                  obtain rfl : t727 = true := (by simpa using c48b0)
                  rw [if_pos rfl] at H
                  by_cases c50 : 0 < (t699.length : Int)
                  ·rw [if_pos c50] at H
                   have c50b0 : decide (0 < (t699.length : Int)) = true := decide_eq_true c50
                   have c50b1 : decide (0 < t699.length) = true := decide_eq_true (by omega)
                   clear c50
                   by_cases c51 : (rd t699 0) = 0
                   ·rw [if_pos c51] at H
                    have c51b0 : ((rd t699 0) == 0) = true := beq_iff_eq.mpr c51
                    have c51b1 : ((rd t699 0) != 0) = false := bne_eq_false_iff_eq.mpr c51
                    clear c51
                    have H' := Aside0.mk H
                    clear H
                    obtain ⟨Ao52, co52, eo52⟩ := Kd.R_slice HO705.out
                    subst eo52
                    obtain ⟨Ao53, co53, eo53⟩ := Kd.R_slice HO709.out
                    subst eo53
                    as_aux_lemma =>
                     go_wp2_with (first | (go_at_call 45; (with_reducible refine (laws_zSame.calls k _ _ t702 _ _ t706 true _ ?side1 ?side2 ?side3 ?side4 A30.out).mono ?_); (case side1 => exact atRC HO705); (case side2 => exact (Kd.R_reads' HO705.out).2.1); (case side3 => exact atRC HO709); (case side4 => exact (Kd.R_reads' HO709.out).2.1); rintro e w' ⟨rfl, ⟨nd, rfl⟩⟩; obtain ⟨Ao54, co54, eo54⟩ := Kd.R_slice HO713.out; subst eo54; obtain ⟨Ao55, co55, eo55⟩ := Kd.R_slice HO717.out; subst eo55) | (go_at_call 45; (with_reducible refine (laws_zSame.calls k _ _ t710 _ _ t714 true _ ?side1 ?side2 ?side3 ?side4 A33.out).mono ?_); (case side1 => exact atRC HO713); (case side2 => exact (Kd.R_reads' HO713.out).2.1); (case side3 => exact atRC HO717); (case side4 => exact (Kd.R_reads' HO717.out).2.1); rintro e w' ⟨rfl, ⟨nd, rfl⟩⟩; obtain ⟨Ao56, co56, eo56⟩ := Kd.R_slice HO721.out; subst eo56; obtain ⟨Ao57, co57, eo57⟩ := Kd.R_slice HO725.out; subst eo57) | (go_at_call 45; (with_reducible refine (laws_zSame.calls k _ _ t718 _ _ t722 true _ ?side1 ?side2 ?side3 ?side4 A36.out).mono ?_); (case side1 => exact atRC HO721); (case side2 => exact (Kd.R_reads' HO721.out).2.1); (case side3 => exact atRC HO725); (case side4 => exact (Kd.R_reads' HO725.out).2.1); rintro e w' ⟨rfl, ⟨nd, rfl⟩⟩; obtain ⟨Ao58, co58, eo58⟩ := Kd.R_slice HO729.out; subst eo58; obtain ⟨Ao59, co59, eo59⟩ := Kd.R_slice HO733.out; subst eo59) | (go_at_call 45; (with_reducible refine (laws_zSame.calls k _ _ t726 _ _ t730 true _ ?side1 ?side2 ?side3 ?side4 A39.out).mono ?_); (case side1 => exact atRC HO729); (case side2 => exact (Kd.R_reads' HO729.out).2.1); (case side3 => exact atRC HO733); (case side4 => exact (Kd.R_reads' HO733.out).2.1); rintro e w' ⟨rfl, ⟨nd, rfl⟩⟩; obtain ⟨Ao60, co60, eo60⟩ := Kd.R_slice HO737.out; subst eo60; obtain ⟨Ao61, co61, eo61⟩ := Kd.R_slice HO741.out; subst eo61) | (go_at_call 45; (with_reducible refine (laws_zSame.calls k _ _ t734 _ _ t738 true _ ?side1 ?side2 ?side3 ?side4 A42.out).mono ?_); (case side1 => exact atRC HO737); (case side2 => exact (Kd.R_reads' HO737.out).2.1); (case side3 => exact atRC HO741); (case side4 => exact (Kd.R_reads' HO741.out).2.1); rintro e w' ⟨rfl, ⟨nd, rfl⟩⟩) | (go_at_call 46; (with_reducible refine (impl_IsDots.calls k _ _ t699 true _ ?side1 ?side2 A44.out).mono ?_); (case side1 => exact atRC HO701); (case side2 => exact (Kd.R_reads' HO701.out).2.1); rintro e w' ⟨rfl, ⟨nd, rfl⟩⟩; have p748 : 0 ≤ (0 : Int) := (by omega); have q748 : 0 < (t699.length : Int) := ofd; obtain ⟨ad748, e748, hx748_0⟩ := Kd.at_int (Kd.R_reads' HO701.out).2.2 0 p748 q748; cases e748; have qi748 : (0 < t699.length) = True := eq_true (by omega); (try rw [show ((0 : Int)).toNat = 0 from rfl] at hx748_0); (try rw [Addr.add_zero'] at hx748_0); replace p748 := eq_true p748; replace q748 := eq_true q748))
                     go_meet
                     case rel => exact ⟨_, ((t735 != (decide ((t699.length : Int) > 1)))), eqd, H', ⟨leD⟩, ⟨atR HO701⟩, ⟨atR HO705⟩, ⟨atR HO713⟩, ⟨atR HO721⟩, ⟨atR HO729⟩, ⟨atR HO737⟩, ⟨atB HB⟩⟩
                   ·rw [if_neg c51] at H
                    have c51b0 : ((rd t699 0) == 0) = false := beq_eq_false_iff_ne.mpr c51
                    have c51b1 : ((rd t699 0) != 0) = true := bne_iff_ne.mpr c51
                    have H' := Aside0.mk H
                    clear H
                    obtain ⟨Ao62, co62, eo62⟩ := Kd.R_slice HO705.out
                    subst eo62
                    obtain ⟨Ao63, co63, eo63⟩ := Kd.R_slice HO709.out
                    subst eo63
                    as_aux_lemma =>
                     go_wp2_with (first | (go_at_call 45; (with_reducible refine (laws_zSame.calls k _ _ t702 _ _ t706 true _ ?side1 ?side2 ?side3 ?side4 A30.out).mono ?_); (case side1 => exact atRC HO705); (case side2 => exact (Kd.R_reads' HO705.out).2.1); (case side3 => exact atRC HO709); (case side4 => exact (Kd.R_reads' HO709.out).2.1); rintro e w' ⟨rfl, ⟨nd, rfl⟩⟩; obtain ⟨Ao64, co64, eo64⟩ := Kd.R_slice HO713.out; subst eo64; obtain ⟨Ao65, co65, eo65⟩ := Kd.R_slice HO717.out; subst eo65) | (go_at_call 45; (with_reducible refine (laws_zSame.calls k _ _ t710 _ _ t714 true _ ?side1 ?side2 ?side3 ?side4 A33.out).mono ?_); (case side1 => exact atRC HO713); (case side2 => exact (Kd.R_reads' HO713.out).2.1); (case side3 => exact atRC HO717); (case side4 => exact (Kd.R_reads' HO717.out).2.1); rintro e w' ⟨rfl, ⟨nd, rfl⟩⟩; obtain ⟨Ao66, co66, eo66⟩ := Kd.R_slice HO721.out; subst eo66; obtain ⟨Ao67, co67, eo67⟩ := Kd.R_slice HO725.out; subst eo67) | (go_at_call 45; (with_reducible refine (laws_zSame.calls k _ _ t718 _ _ t722 true _ ?side1 ?side2 ?side3 ?side4 A36.out).mono ?_); (case side1 => exact atRC HO721); (case side2 => exact (Kd.R_reads' HO721.out).2.1); (case side3 => exact atRC HO725); (case side4 => exact (Kd.R_reads' HO725.out).2.1); rintro e w' ⟨rfl, ⟨nd, rfl⟩⟩; obtain ⟨Ao68, co68, eo68⟩ := Kd.R_slice HO729.out; subst eo68; obtain ⟨Ao69, co69, eo69⟩ := Kd.R_slice HO733.out; subst eo69) | (go_at_call 45; (with_reducible refine (laws_zSame.calls k _ _ t726 _ _ t730 true _ ?side1 ?side2 ?side3 ?side4 A39.out).mono ?_); (case side1 => exact atRC HO729); (case side2 => exact (Kd.R_reads' HO729.out).2.1); (case side3 => exact atRC HO733); (case side4 => exact (Kd.R_reads' HO733.out).2.1); rintro e w' ⟨rfl, ⟨nd, rfl⟩⟩; obtain ⟨Ao70, co70, eo70⟩ := Kd.R_slice HO737.out; subst eo70; obtain ⟨Ao71, co71, eo71⟩ := Kd.R_slice HO741.out; subst eo71) | (go_at_call 45; (with_reducible refine (laws_zSame.calls k _ _ t734 _ _ t738 true _ ?side1 ?side2 ?side3 ?side4 A42.out).mono ?_); (case side1 => exact atRC HO737); (case side2 => exact (Kd.R_reads' HO737.out).2.1); (case side3 => exact atRC HO741); (case side4 => exact (Kd.R_reads' HO741.out).2.1); rintro e w' ⟨rfl, ⟨nd, rfl⟩⟩) | (go_at_call 46; (with_reducible refine (impl_IsDots.calls k _ _ t699 true _ ?side1 ?side2 A44.out).mono ?_); (case side1 => exact atRC HO701); (case side2 => exact (Kd.R_reads' HO701.out).2.1); rintro e w' ⟨rfl, ⟨nd, rfl⟩⟩; have p748 : 0 ≤ (0 : Int) := (by omega); have q748 : 0 < (t699.length : Int) := ofd; obtain ⟨ad748, e748, hx748_0⟩ := Kd.at_int (Kd.R_reads' HO701.out).2.2 0 p748 q748; cases e748; have qi748 : (0 < t699.length) = True := eq_true (by omega); (try rw [show ((0 : Int)).toNat = 0 from rfl] at hx748_0); (try rw [Addr.add_zero'] at hx748_0); replace p748 := eq_true p748; replace q748 := eq_true q748))
                     go_meet
                     case rel => exact ⟨_, ((t735 != false)), eqd, H', ⟨leD⟩, ⟨atR HO701⟩, ⟨atR HO705⟩, ⟨atR HO713⟩, ⟨atR HO721⟩, ⟨atR HO729⟩, ⟨atR HO737⟩, ⟨atB HB⟩⟩
                  ·rw [if_neg c50] at H
                   exact absurd H (by simp)
                 ·replace c49 := Bool.eq_false_iff.mpr c49
                  subst c49
                  obtain rfl : t707 = false := (by simpa using c29b0)
                  obtain rfl : t747 = false := (by simpa using c45b0)
                  obtain rfl : t711 = false := (by simpa using c46b0)
                  obtain rfl : t719 = false := (by simpa using c47b0)
                  obtain rfl : t727 = false := (by simpa using c48b0)
                  rw [if_neg (show ¬ (false = true) by decide)] at H
                  have H' := Aside0.mk H
                  clear H
                  obtain ⟨Ao72, co72, eo72⟩ := Kd.R_slice HO705.out
                  subst eo72
                  obtain ⟨Ao73, co73, eo73⟩ := Kd.R_slice HO709.out
                  subst eo73
                  as_aux_lemma =>
                   go_wp2_with (first | (go_at_call 45; (with_reducible refine (laws_zSame.calls k _ _ t702 _ _ t706 true _ ?side1 ?side2 ?side3 ?side4 A30.out).mono ?_); (case side1 => exact atRC HO705); (case side2 => exact (Kd.R_reads' HO705.out).2.1); (case side3 => exact atRC HO709); (case side4 => exact (Kd.R_reads' HO709.out).2.1); rintro e w' ⟨rfl, ⟨nd, rfl⟩⟩; obtain ⟨Ao74, co74, eo74⟩ := Kd.R_slice HO713.out; subst eo74; obtain ⟨Ao75, co75, eo75⟩ := Kd.R_slice HO717.out; subst eo75) | (go_at_call 45; (with_reducible refine (laws_zSame.calls k _ _ t710 _ _ t714 true _ ?side1 ?side2 ?side3 ?side4 A33.out).mono ?_); (case side1 => exact atRC HO713); (case side2 => exact (Kd.R_reads' HO713.out).2.1); (case side3 => exact atRC HO717); (case side4 => exact (Kd.R_reads' HO717.out).2.1); rintro e w' ⟨rfl, ⟨nd, rfl⟩⟩; obtain ⟨Ao76, co76, eo76⟩ := Kd.R_slice HO721.out; subst eo76; obtain ⟨Ao77, co77, eo77⟩ := Kd.R_slice HO725.out; subst eo77) | (go_at_call 45; (with_reducible refine (laws_zSame.calls k _ _ t718 _ _ t722 true _ ?side1 ?side2 ?side3 ?side4 A36.out).mono ?_); (case side1 => exact atRC HO721); (case side2 => exact (Kd.R_reads' HO721.out).2.1); (case side3 => exact atRC HO725); (case side4 => exact (Kd.R_reads' HO725.out).2.1); rintro e w' ⟨rfl, ⟨nd, rfl⟩⟩; obtain ⟨Ao78, co78, eo78⟩ := Kd.R_slice HO729.out; subst eo78; obtain ⟨Ao79, co79, eo79⟩ := Kd.R_slice HO733.out; subst eo79) | (go_at_call 45; (with_reducible refine (laws_zSame.calls k _ _ t726 _ _ t730 true _ ?side1 ?side2 ?side3 ?side4 A39.out).mono ?_); (case side1 => exact atRC HO729); (case side2 => exact (Kd.R_reads' HO729.out).2.1); (case side3 => exact atRC HO733); (case side4 => exact (Kd.R_reads' HO733.out).2.1); rintro e w' ⟨rfl, ⟨nd, rfl⟩⟩; obtain ⟨Ao80, co80, eo80⟩ := Kd.R_slice HO737.out; subst eo80; obtain ⟨Ao81, co81, eo81⟩ := Kd.R_slice HO741.out; subst eo81) | (go_at_call 45; (with_reducible refine (laws_zSame.calls k _ _ t734 _ _ t738 true _ ?side1 ?side2 ?side3 ?side4 A42.out).mono ?_); (case side1 => exact atRC HO737); (case side2 => exact (Kd.R_reads' HO737.out).2.1); (case side3 => exact atRC HO741); (case side4 => exact (Kd.R_reads' HO741.out).2.1); rintro e w' ⟨rfl, ⟨nd, rfl⟩⟩) | (go_at_call 46; (with_reducible refine (impl_IsDots.calls k _ _ t699 false _ ?side1 ?side2 A44.out).mono ?_); (case side1 => exact atRC HO701); (case side2 => exact (Kd.R_reads' HO701.out).2.1); rintro e w' ⟨rfl, ⟨nd, rfl⟩⟩))
                   go_meet
                   case rel => exact ⟨_, ((t735 != false)), eqd, H', ⟨leD⟩, ⟨atR HO701⟩, ⟨atR HO705⟩, ⟨atR HO713⟩, ⟨atR HO721⟩, ⟨atR HO729⟩, ⟨atR HO737⟩, ⟨atB HB⟩⟩
            ·replace c43 := Bool.eq_false_iff.mpr c43
             subst c43
             rw [if_neg (show ¬ (false = true) by decide)] at H
             exact absurd (H.trans (congrArg some HT.out)) (laws_FnDotsTurned.j0_no k l1 t699 t702 t703 t710 t718 t726 t734 t735)
          ·replace c40 := Bool.eq_false_iff.mpr c40
           subst c40
           rw [if_neg (show ¬ (false = true) by decide)] at H
           exact absurd (H.trans (congrArg some HT.out)) (laws_FnDotsTurned.j0_no k l1 t699 t702 t703 t710 t718 t726 t734 t735)
        ·replace c37 := Bool.eq_false_iff.mpr c37
         subst c37
         rw [if_neg (show ¬ (false = true) by decide)] at H
         exact absurd (H.trans (congrArg some HT.out)) (laws_FnDotsTurned.j0_no k l1 t699 t702 t703 t710 t718 t726 t734 t735)
      ·replace c34 := Bool.eq_false_iff.mpr c34
       subst c34
       rw [if_neg (show ¬ (false = true) by decide)] at H
       exact absurd (H.trans (congrArg some HT.out)) (laws_FnDotsTurned.j0_no k l1 t699 t702 t703 t710 t718 t726 t734 t735)
    ·replace c31 := Bool.eq_false_iff.mpr c31
     subst c31
     rw [if_neg (show ¬ (false = true) by decide)] at H
     exact absurd (H.trans (congrArg some HT.out)) (laws_FnDotsTurned.j0_no k l1 t699 t702 t703 t710 t718 t726 t734 t735)
  case rest => as_aux_lemma =>
   clear HC16
   try clear c1
   try clear c2
   try clear p2
   try clear c3
   try clear c4
   try clear c5
   try clear p7
   try clear q7
   try clear hx7
   try clear qi7
   try clear c9
   try clear c29
   try clear c29b0
   try clear c29b1
   try clear c29b2
   try clear c31
   try clear c32
   try clear c32b0
   try clear c32b1
   try clear c32b2
   try clear c34
   try clear c35
   try clear c35b0
   try clear c35b1
   try clear c35b2
   try clear c36
   try clear c37
   try clear c38
   try clear c38b0
   try clear c38b1
   try clear c38b2
   try clear c39
   try clear c40
   try clear c41
   try clear c41b0
   try clear c41b1
   try clear c41b2
   try clear c42
   try clear c43
   try clear c44
   try clear c45
   try clear c45b0
   try clear c45b1
   try clear c45b2
   try clear c46
   try clear c46b0
   try clear c46b1
   try clear c46b2
   try clear c47
   try clear c47b0
   try clear c47b1
   try clear c47b2
   try clear c48
   try clear c48b0
   try clear c48b1
   try clear c48b2
   try clear c49
   try clear c50
   try clear c50b0
   try clear c50b1
   try clear c51
   try clear c51b0
   try clear c51b1
   try clear p74
   try clear q74
   try clear hx74
   try clear qi74
   try clear hx748_0
   try clear p748
   try clear q748
   obtain ⟨kq, x217_15, rfl, HA, HJ15, HO_5, HO_6, HO_10, HO_14, HO_18, HO_22, HB⟩ := hcut
   cases kq with
   | zero => exact absurd HA.out (by simp [laws_FnDotsTurned.j0])
   | succ kj15 =>
    have H := HA.out
    clear HA
    simp only [laws_FnDotsTurned.j0] at H
    by_cases c82 : x217_15 = true
    ·subst c82
     rw [if_pos rfl] at H
     exact absurd ((Option.some.inj H).trans HT.out) (by decide)
    ·replace c82 := Bool.eq_false_iff.mpr c82
     subst c82
     rw [if_neg (show ¬ (false = true) by decide)] at H
     have HC83 := Aside0.mk H
     clear H
     go_upto_if 218 with (fail)
     go_cut [] (fun wc => ∃ (kq : Nat), Aside0 (laws_FnDotsTurned.j2 kq l1 = some r) ∧ Aside0 (kq ≤ kj15) ∧ Aside0 (Below w.heap.size w wc))
     case first => as_aux_lemma =>
      have H := HC83.out
      clear HC83
      by_cases c84 : t703 = true
      ·subst c84
       rw [if_pos rfl] at H
       replace H := Option.bind_eq_some_iff.mp H
       obtain ⟨⟨t749, t750⟩, A850, H⟩ := H
       (try dsimp only at H)
       have A85 := Aside0.mk A850
       clear A850
       have H' := Aside0.mk H
       clear H
       as_aux_lemma =>
        go_wp2_with (first | ((with_reducible refine gate_callee (f := 47) rfl ?_); refine goesA (some 222) Try.func47 #[.slice Ao18 t699.length co18] ?_; (with_reducible refine (impl_IsCostas.calls kj15 _ _ t699 t749 t750 _ ?side1 ?side2 A85.out).mono ?_); (case side1 => exact atRC HO_5); (case side2 => exact (Kd.R_reads' HO_5.out).2.1); rintro e w86 ⟨rfl, hb⟩; refine ⟨_, rfl, ?_⟩; replace HO_5 := upR HO_5 hb; replace HO_6 := upR HO_6 hb; replace HO_10 := upR HO_10 hb; replace HO_14 := upR HO_14 hb; replace HO_18 := upR HO_18 hb; replace HO_22 := upR HO_22 hb; replace HB := upB HB hb; (try clear hb); (try clear hb2); (try clear hk); (try clear hi)))
        go_loopg [26, 29] kj15 (fun kq v26 v29 w' => ∃ (x26_2 : List Int) (x29_2 : Int), v29 = .int .i64 x29_2 ∧ Aside0 (laws_FnDotsTurned.l0 kq l1 t699 t702 t710 t718 t726 t734 t735 x26_2 t749 t750 x29_2 = some r) ∧ Aside0 (kq ≤ kj15) ∧ Aside0 (Kd.R (Kd.int .i64) 3 w' w.heap.size (fun _ => True) (.slice Ao18 t699.length co18) t699) ∧ Aside0 (Kd.R (Kd.int .i64) 3 w' w.heap.size (fun _ => True) v704 t702) ∧ Aside0 (Kd.R (Kd.int .i64) 3 w' w.heap.size (fun _ => True) v712 t710) ∧ Aside0 (Kd.R (Kd.int .i64) 3 w' w.heap.size (fun _ => True) v720 t718) ∧ Aside0 (Kd.R (Kd.int .i64) 3 w' w.heap.size (fun _ => True) v728 t726) ∧ Aside0 (Kd.R (Kd.int .i64) 3 w' w.heap.size (fun _ => True) v736 t734) ∧ Aside0 (Kd.R (Kd.int .i64) 3 w' w.heap.size (fun _ => True) v26 x26_2) ∧ Aside0 (Below w.heap.size w w'))
        case atStart => exact ⟨(t699), (0), eqd, H', ⟨Nat.le_refl _⟩, ⟨atR HO_5⟩, ⟨atR HO_6⟩, ⟨atR HO_10⟩, ⟨atR HO_14⟩, ⟨atR HO_18⟩, ⟨atR HO_22⟩, ⟨atR HO_5⟩, ⟨atB HB⟩⟩
        case round => as_aux_lemma =>
         clear H'
         try clear c1
         try clear c2
         try clear p2
         try clear c3
         try clear c4
         try clear c5
         try clear p7
         try clear q7
         try clear hx7
         try clear qi7
         try clear c8
         try clear c9
         try clear c29
         try clear c29b0
         try clear c29b1
         try clear c29b2
         try clear c31
         try clear c32
         try clear c32b0
         try clear c32b1
         try clear c32b2
         try clear c34
         try clear c35
         try clear c35b0
         try clear c35b1
         try clear c35b2
         try clear c36
         try clear c37
         try clear c38
         try clear c38b0
         try clear c38b1
         try clear c38b2
         try clear c39
         try clear c40
         try clear c41
         try clear c41b0
         try clear c41b1
         try clear c41b2
         try clear c42
         try clear c43
         try clear c44
         try clear c45
         try clear c45b0
         try clear c45b1
         try clear c45b2
         try clear c46
         try clear c46b0
         try clear c46b1
         try clear c46b2
         try clear c47
         try clear c47b0
         try clear c47b1
         try clear c47b2
         try clear c48
         try clear c48b0
         try clear c48b1
         try clear c48b2
         try clear c49
         try clear c50
         try clear c50b0
         try clear c50b1
         try clear c51
         try clear c51b0
         try clear c51b1
         try clear p74
         try clear q74
         try clear hx74
         try clear qi74
         try clear c82
         try clear c84
         try clear hx748_0
         try clear p2
         try clear p7
         try clear p74
         try clear p748
         try clear q7
         try clear q74
         try clear q748
         obtain ⟨x26_2, x29_2, rfl, HA, HK2, HO_5, HO_6, HO_10, HO_14, HO_18, HO_22, HO_26, HB⟩ := hrel
         cases gk with
         | zero => exact absurd HA.out (by simp [laws_FnDotsTurned.l0])
         | succ k2 =>
          have H := HA.out
          clear HA
          simp only [laws_FnDotsTurned.l0] at H
          by_cases c87 : x29_2 < 4
          ·rw [if_pos c87] at H
           have c87b0 : decide (x29_2 < 4) = true := decide_eq_true c87
           clear c87
           (first | rw [c87b0] | (simp only [i64_w, i32_w]; rw [c87b0]) | skip)
           replace H := Option.bind_eq_some_iff.mp H
           obtain ⟨⟨t751, t752⟩, A880, H⟩ := H
           (try dsimp only at H)
           have A88 := Aside0.mk A880
           clear A880
           replace H := Option.bind_eq_some_iff.mp H
           obtain ⟨⟨t755, t756⟩, A890, H⟩ := H
           (try dsimp only at H)
           have A89 := Aside0.mk A890
           clear A890
           replace H := Option.bind_eq_some_iff.mp H
           obtain ⟨⟨t757, t758⟩, A900, H⟩ := H
           (try dsimp only at H)
           have A90 := Aside0.mk A900
           clear A900
           by_cases c91 : t752 = true
           ·subst c91
            rw [if_pos rfl] at H
            by_cases c92 : t756 = true
            ·subst c92
             rw [if_pos rfl] at H
             by_cases c93 : (t755 != t749) = true
             ·rw [if_pos c93] at H
              have c93b0 : (t755 != t749) = true := c93
              (try (have c93b1 : decide (t755 = t749) = false := by simpa using c93))
              (try (have c93b2 : (t755 == t749) = false := by simpa using c93))
              (try (have c93b3 : ¬ (t755 = t749) := by simpa using c93))
              clear c93
              exact absurd ((Option.some.inj H).trans HT.out) (by decide)
             ·rw [if_neg c93] at H
              have c93b0 : (t755 != t749) = false := by simpa using c93
              (try (have c93b1 : decide (t755 = t749) = true := by simpa using c93))
              (try (have c93b2 : (t755 == t749) = true := by simpa using c93))
              clear c93
              by_cases c94 : t758 = true
              ·subst c94
               rw [if_pos rfl] at H
               replace H := Option.bind_eq_some_iff.mp H
               obtain ⟨t761, A950, H⟩ := H
               (try dsimp only at H)
               have A95 := Aside0.mk A950
               clear A950
               by_cases c96 : t761 = true
               ·subst c96
                rw [if_pos rfl] at H
                replace H := Option.bind_eq_some_iff.mp H
                obtain ⟨t762, A970, H⟩ := H
                (try dsimp only at H)
                have A97 := Aside0.mk A970
                clear A970
                by_cases c98 : t762 = true
                ·subst c98
                 rw [if_pos rfl] at H
                 exact absurd ((Option.some.inj H).trans HT.out) (by decide)
                ·replace c98 := Bool.eq_false_iff.mpr c98
                 subst c98
                 rw [if_neg (show ¬ (false = true) by decide)] at H
                 have H' := Aside0.mk H
                 clear H
                 obtain ⟨Ao99, co99, eo99⟩ := Kd.R_slice HO_26.out
                 subst eo99
                 as_aux_lemma =>
                  go_wp2_with (first | ((with_reducible refine gate_callee (f := 35) rfl ?_); refine goesA (some 231) Try.func35 #[.slice Ao99 x26_2.length co99] ?_; (with_reducible refine (impl_TurnDots.calls k2 _ _ x26_2 t751 true _ ?side1 ?side2 A88.out).mono ?_); (case side1 => exact atRC HO_26); (case side2 => exact (Kd.R_reads' HO_26.out).2.1); rintro e w100 ⟨v753, rfl, ho0, hb⟩; refine ⟨_, rfl, ?_⟩; have HO754 := lowR ho0 HB; replace HO_5 := upR HO_5 hb; replace HO_6 := upR HO_6 hb; replace HO_10 := upR HO_10 hb; replace HO_14 := upR HO_14 hb; replace HO_18 := upR HO_18 hb; replace HO_22 := upR HO_22 hb; replace HO_26 := upR HO_26 hb; replace HB := upB HB hb; (try clear hb); (try clear hb2); (try clear hk); (try clear hi); (try clear ho0); obtain ⟨Ao101, co101, eo101⟩ := Kd.R_slice HO754.out; subst eo101) | ((with_reducible refine gate_callee (f := 47) rfl ?_); refine goesA (some 236) Try.func47 #[.slice Ao101 t751.length co101] ?_; (with_reducible refine (impl_IsCostas.calls k2 _ _ t751 t755 true _ ?side1 ?side2 A89.out).mono ?_); (case side1 => exact atRC HO754); (case side2 => exact (Kd.R_reads' HO754.out).2.1); rintro e w102 ⟨rfl, hb⟩; refine ⟨_, rfl, ?_⟩; replace HO_5 := upR HO_5 hb; replace HO_6 := upR HO_6 hb; replace HO_10 := upR HO_10 hb; replace HO_14 := upR HO_14 hb; replace HO_18 := upR HO_18 hb; replace HO_22 := upR HO_22 hb; replace HO_26 := upR HO_26 hb; replace HO754 := upR HO754 hb; replace HB := upB HB hb; (try clear hb); (try clear hb2); (try clear hk); (try clear hi)) | ((with_reducible refine gate_callee (f := 41) rfl ?_); refine goesA (some 241) Try.func41 #[.slice Ao101 t751.length co101] ?_; (with_reducible refine (impl_LeastDots.calls k2 _ _ t751 t757 true _ ?side1 ?side2 A90.out).mono ?_); (case side1 => exact atRC HO754); (case side2 => exact (Kd.R_reads' HO754.out).2.1); rintro e w103 ⟨v759, rfl, ho0, hb⟩; refine ⟨_, rfl, ?_⟩; have HO760 := lowR ho0 HB; replace HO_5 := upR HO_5 hb; replace HO_6 := upR HO_6 hb; replace HO_10 := upR HO_10 hb; replace HO_14 := upR HO_14 hb; replace HO_18 := upR HO_18 hb; replace HO_22 := upR HO_22 hb; replace HO_26 := upR HO_26 hb; replace HO754 := upR HO754 hb; replace HB := upB HB hb; (try clear hb); (try clear hb2); (try clear hk); (try clear hi); (try clear ho0); obtain ⟨Ao104, co104, eo104⟩ := Kd.R_slice HO760.out; subst eo104; obtain ⟨Ao105, co105, eo105⟩ := Kd.R_slice HO_18.out; subst eo105) | (go_at_call 45; (with_reducible refine (laws_zSame.calls k2 _ _ t757 _ _ t726 true _ ?side1 ?side2 ?side3 ?side4 A95.out).mono ?_); (case side1 => exact atRC HO760); (case side2 => exact (Kd.R_reads' HO760.out).2.1); (case side3 => exact atRC HO_18); (case side4 => exact (Kd.R_reads' HO_18.out).2.1); rintro e w' ⟨rfl, ⟨nd, rfl⟩⟩) | (go_at_call 48; (with_reducible refine (laws_zLess.calls k2 _ _ t751 _ _ t726 false _ ?side1 ?side2 ?side3 ?side4 A97.out).mono ?_); (case side1 => exact atRC HO754); (case side2 => exact (Kd.R_reads' HO754.out).2.1); (case side3 => exact atRC HO_18); (case side4 => exact (Kd.R_reads' HO_18.out).2.1); rintro e w' ⟨rfl, ⟨nd, rfl⟩⟩))
                  go_roundg k2
                  case measure => have := HJ15.out; have := HK2.out; omega
                  case rel => exact ⟨(t751), (wrap64 (x29_2 + 1)), eqd, H', ⟨by have := HJ15.out; have := HK2.out; omega⟩, ⟨atR HO_5⟩, ⟨atR HO_6⟩, ⟨atR HO_10⟩, ⟨atR HO_14⟩, ⟨atR HO_18⟩, ⟨atR HO_22⟩, ⟨atR HO754⟩, ⟨atB HB⟩⟩
               ·replace c96 := Bool.eq_false_iff.mpr c96
                subst c96
                rw [if_neg (show ¬ (false = true) by decide)] at H
                exact absurd ((Option.some.inj H).trans HT.out) (by decide)
              ·replace c94 := Bool.eq_false_iff.mpr c94
               subst c94
               rw [if_neg (show ¬ (false = true) by decide)] at H
               exact absurd ((Option.some.inj H).trans HT.out) (by decide)
            ·replace c92 := Bool.eq_false_iff.mpr c92
             subst c92
             rw [if_neg (show ¬ (false = true) by decide)] at H
             exact absurd ((Option.some.inj H).trans HT.out) (by decide)
           ·replace c91 := Bool.eq_false_iff.mpr c91
            subst c91
            rw [if_neg (show ¬ (false = true) by decide)] at H
            exact absurd ((Option.some.inj H).trans HT.out) (by decide)
          ·rw [if_neg c87] at H
           have c87b0 : decide (x29_2 < 4) = false := decide_eq_false c87
           clear c87
           (first | rw [c87b0] | (simp only [i64_w, i32_w]; rw [c87b0]) | skip)
           replace H := Option.bind_eq_some_iff.mp H
           obtain ⟨⟨t763, t764⟩, A1060, H⟩ := H
           (try dsimp only at H)
           have A106 := Aside0.mk A1060
           clear A1060
           replace H := Option.bind_eq_some_iff.mp H
           obtain ⟨⟨t767, t768⟩, A1070, H⟩ := H
           (try dsimp only at H)
           have A107 := Aside0.mk A1070
           clear A1070
           replace H := Option.bind_eq_some_iff.mp H
           obtain ⟨⟨t771, t772⟩, A1080, H⟩ := H
           (try dsimp only at H)
           have A108 := Aside0.mk A1080
           clear A1080
           replace H := Option.bind_eq_some_iff.mp H
           obtain ⟨⟨t773, t774⟩, A1090, H⟩ := H
           (try dsimp only at H)
           have A109 := Aside0.mk A1090
           clear A1090
           replace H := Option.bind_eq_some_iff.mp H
           obtain ⟨⟨t777, t778⟩, A1100, H⟩ := H
           (try dsimp only at H)
           have A110 := Aside0.mk A1100
           clear A1100
           by_cases c111 : t750 = true
           ·subst c111
            rw [if_pos rfl] at H
            replace H := Option.bind_eq_some_iff.mp H
            obtain ⟨t781, A1120, H⟩ := H
            (try dsimp only at H)
            have A112 := Aside0.mk A1120
            clear A1120
            by_cases c113 : t781 = true
            ·subst c113
             rw [if_pos rfl] at H
             by_cases c114 : t764 = true
             ·subst c114
              rw [if_pos rfl] at H
              replace H := Option.bind_eq_some_iff.mp H
              obtain ⟨t782, A1150, H⟩ := H
              (try dsimp only at H)
              have A115 := Aside0.mk A1150
              clear A1150
              by_cases c116 : t782 = true
              ·subst c116
               rw [if_pos rfl] at H
               by_cases c117 : t768 = true
               ·subst c117
                rw [if_pos rfl] at H
                replace H := Option.bind_eq_some_iff.mp H
                obtain ⟨t783, A1180, H⟩ := H
                (try dsimp only at H)
                have A118 := Aside0.mk A1180
                clear A1180
                by_cases c119 : t783 = true
                ·subst c119
                 rw [if_pos rfl] at H
                 by_cases c120 : t772 = true
                 ·subst c120
                  rw [if_pos rfl] at H
                  by_cases c121 : (t771 != t749) = true
                  ·rw [if_pos c121] at H
                   have c121b0 : (t771 != t749) = true := c121
                   (try (have c121b1 : decide (t771 = t749) = false := by simpa using c121))
                   (try (have c121b2 : (t771 == t749) = false := by simpa using c121))
                   (try (have c121b3 : ¬ (t771 = t749) := by simpa using c121))
                   clear c121
                   exact absurd ((Option.some.inj H).trans HT.out) (by decide)
                  ·rw [if_neg c121] at H
                   have c121b0 : (t771 != t749) = false := by simpa using c121
                   (try (have c121b1 : decide (t771 = t749) = true := by simpa using c121))
                   (try (have c121b2 : (t771 == t749) = true := by simpa using c121))
                   clear c121
                   by_cases c122 : t774 = true
                   ·subst c122
                    rw [if_pos rfl] at H
                    by_cases c123 : t778 = true
                    ·subst c123
                     rw [if_pos rfl] at H
                     replace H := Option.bind_eq_some_iff.mp H
                     obtain ⟨t784, A1240, H⟩ := H
                     (try dsimp only at H)
                     have A124 := Aside0.mk A1240
                     clear A1240
                     by_cases c125 : t784 = true
                     ·subst c125
                      rw [if_pos rfl] at H
                      by_cases c126 : t735 = true
                      ·subst c126
                       rw [if_pos rfl] at H
                       replace H := Option.bind_eq_some_iff.mp H
                       obtain ⟨⟨t785, t786⟩, A1270, H⟩ := H
                       (try dsimp only at H)
                       have A127 := Aside0.mk A1270
                       clear A1270
                       by_cases c128 : t786 = true
                       ·subst c128
                        rw [if_pos rfl] at H
                        by_cases c129 : t749 = true
                        ·subst c129
                         obtain rfl : t771 = true := (by simpa using c121b0)
                         rw [if_pos rfl] at H
                         by_cases c130 : t785 = true
                         ·subst c130
                          rw [if_pos rfl] at H
                          by_cases c131 : (t734.length : Int) = (wrap64 ((t699.length : Int) - 1))
                          ·rw [if_pos c131] at H
                           have c131b0 : ((t734.length : Int) == (wrap64 ((t699.length : Int) - 1))) = true := beq_iff_eq.mpr c131
                           have c131b1 : ((t734.length : Int) != (wrap64 ((t699.length : Int) - 1))) = false := bne_eq_false_iff_eq.mpr c131
                           clear c131
                           have H' := Aside0.mk H
                           clear H
                           obtain ⟨Ao132, co132, eo132⟩ := Kd.R_slice HO_10.out
                           subst eo132
                           as_aux_lemma =>
                            go_wp2_with (first | ((with_reducible refine gate_callee (f := 37) rfl ?_); refine goesA (some 273) Try.func37 #[.slice Ao132 t710.length co132] ?_; (with_reducible refine (impl_MirrorDots.calls k2 _ _ t710 t763 true _ ?side1 ?side2 A106.out).mono ?_); (case side1 => exact atRC HO_10); (case side2 => exact (Kd.R_reads' HO_10.out).2.1); rintro e w133 ⟨v765, rfl, ho0, hb⟩; refine ⟨_, rfl, ?_⟩; have HO766 := lowR ho0 HB; replace HO_5 := upR HO_5 hb; replace HO_6 := upR HO_6 hb; replace HO_10 := upR HO_10 hb; replace HO_14 := upR HO_14 hb; replace HO_18 := upR HO_18 hb; replace HO_22 := upR HO_22 hb; replace HO_26 := upR HO_26 hb; replace HB := upB HB hb; (try clear hb); (try clear hb2); (try clear hk); (try clear hi); (try clear ho0); obtain ⟨Ao134, co134, eo134⟩ := Kd.R_slice HO_14.out; subst eo134) | ((with_reducible refine gate_callee (f := 39) rfl ?_); refine goesA (some 278) Try.func39 #[.slice Ao134 t718.length co134] ?_; (with_reducible refine (impl_CrossDots.calls k2 _ _ t718 t767 true _ ?side1 ?side2 A107.out).mono ?_); (case side1 => exact atRC HO_14); (case side2 => exact (Kd.R_reads' HO_14.out).2.1); rintro e w135 ⟨v769, rfl, ho0, hb⟩; refine ⟨_, rfl, ?_⟩; have HO770 := lowR ho0 HB; replace HO_5 := upR HO_5 hb; replace HO_6 := upR HO_6 hb; replace HO_10 := upR HO_10 hb; replace HO_14 := upR HO_14 hb; replace HO_18 := upR HO_18 hb; replace HO_22 := upR HO_22 hb; replace HO_26 := upR HO_26 hb; replace HO766 := upR HO766 hb; replace HB := upB HB hb; (try clear hb); (try clear hb2); (try clear hk); (try clear hi); (try clear ho0)) | ((with_reducible refine gate_callee (f := 47) rfl ?_); refine goesA (some 283) Try.func47 #[.slice Ao134 t718.length co134] ?_; (with_reducible refine (impl_IsCostas.calls k2 _ _ t718 true true _ ?side1 ?side2 A108.out).mono ?_); (case side1 => exact atRC HO_14); (case side2 => exact (Kd.R_reads' HO_14.out).2.1); rintro e w136 ⟨rfl, hb⟩; refine ⟨_, rfl, ?_⟩; replace HO_5 := upR HO_5 hb; replace HO_6 := upR HO_6 hb; replace HO_10 := upR HO_10 hb; replace HO_14 := upR HO_14 hb; replace HO_18 := upR HO_18 hb; replace HO_22 := upR HO_22 hb; replace HO_26 := upR HO_26 hb; replace HO766 := upR HO766 hb; replace HO770 := upR HO770 hb; replace HB := upB HB hb; (try clear hb); (try clear hb2); (try clear hk); (try clear hi)) | ((with_reducible refine gate_callee (f := 37) rfl ?_); refine goesA (some 288) Try.func37 #[.slice Ao18 t699.length co18] ?_; (with_reducible refine (impl_MirrorDots.calls k2 _ _ t699 t773 true _ ?side1 ?side2 A109.out).mono ?_); (case side1 => exact atRC HO_5); (case side2 => exact (Kd.R_reads' HO_5.out).2.1); rintro e w137 ⟨v775, rfl, ho0, hb⟩; refine ⟨_, rfl, ?_⟩; have HO776 := lowR ho0 HB; replace HO_5 := upR HO_5 hb; replace HO_6 := upR HO_6 hb; replace HO_10 := upR HO_10 hb; replace HO_14 := upR HO_14 hb; replace HO_18 := upR HO_18 hb; replace HO_22 := upR HO_22 hb; replace HO_26 := upR HO_26 hb; replace HO766 := upR HO766 hb; replace HO770 := upR HO770 hb; replace HB := upB HB hb; (try clear hb); (try clear hb2); (try clear hk); (try clear hi); (try clear ho0); obtain ⟨Ao138, co138, eo138⟩ := Kd.R_slice HO776.out; subst eo138) | ((with_reducible refine gate_callee (f := 39) rfl ?_); refine goesA (some 293) Try.func39 #[.slice Ao138 t773.length co138] ?_; (with_reducible refine (impl_CrossDots.calls k2 _ _ t773 t777 true _ ?side1 ?side2 A110.out).mono ?_); (case side1 => exact atRC HO776); (case side2 => exact (Kd.R_reads' HO776.out).2.1); rintro e w139 ⟨v779, rfl, ho0, hb⟩; refine ⟨_, rfl, ?_⟩; have HO780 := lowR ho0 HB; replace HO_5 := upR HO_5 hb; replace HO_6 := upR HO_6 hb; replace HO_10 := upR HO_10 hb; replace HO_14 := upR HO_14 hb; replace HO_18 := upR HO_18 hb; replace HO_22 := upR HO_22 hb; replace HO_26 := upR HO_26 hb; replace HO766 := upR HO766 hb; replace HO770 := upR HO770 hb; replace HO776 := upR HO776 hb; replace HB := upB HB hb; (try clear hb); (try clear hb2); (try clear hk); (try clear hi); (try clear ho0); obtain ⟨Ao140, co140, eo140⟩ := Kd.R_slice HO_26.out; subst eo140) | (go_at_call 45; (with_reducible refine (laws_zSame.calls k2 _ _ x26_2 _ _ t699 true _ ?side1 ?side2 ?side3 ?side4 A112.out).mono ?_); (case side1 => exact atRC HO_26); (case side2 => exact (Kd.R_reads' HO_26.out).2.1); (case side3 => exact atRC HO_5); (case side4 => exact (Kd.R_reads' HO_5.out).2.1); rintro e w' ⟨rfl, ⟨nd, rfl⟩⟩; (try (rw [drewN_self w139]; generalize hq_ : World.drewN w139 _ = w139; have n0_ : Aside0 (Kd.R (Kd.int .i64) 3 w139 w.heap.size (fun _ => True) v765 t763) := ⟨by rw [← hq_]; exact (atR HO766)⟩; have n1_ : Aside0 (Kd.R (Kd.int .i64) 3 w139 w.heap.size (fun _ => True) v769 t767) := ⟨by rw [← hq_]; exact (atR HO770)⟩; have n2_ : Aside0 (Kd.R (Kd.int .i64) 3 w139 w.heap.size (fun _ => True) (.slice Ao138 t773.length co138) t773) := ⟨by rw [← hq_]; exact (atR HO776)⟩; have n3_ : Aside0 (Kd.R (Kd.int .i64) 3 w139 w.heap.size (fun _ => True) v779 t777) := ⟨by rw [← hq_]; exact (atR HO780)⟩; have n4_ : Aside0 (Kd.R (Kd.int .i64) 3 w139 w.heap.size (fun _ => True) (.slice Ao132 t710.length co132) t710) := ⟨by rw [← hq_]; exact (atR HO_10)⟩; have n5_ : Aside0 (Kd.R (Kd.int .i64) 3 w139 w.heap.size (fun _ => True) (.slice Ao134 t718.length co134) t718) := ⟨by rw [← hq_]; exact (atR HO_14)⟩; have n6_ : Aside0 (Kd.R (Kd.int .i64) 3 w139 w.heap.size (fun _ => True) v728 t726) := ⟨by rw [← hq_]; exact (atR HO_18)⟩; have n7_ : Aside0 (Kd.R (Kd.int .i64) 3 w139 w.heap.size (fun _ => True) v736 t734) := ⟨by rw [← hq_]; exact (atR HO_22)⟩; have n8_ : Aside0 (Kd.R (Kd.int .i64) 3 w139 w.heap.size (fun _ => True) (.slice Ao140 x26_2.length co140) x26_2) := ⟨by rw [← hq_]; exact (atR HO_26)⟩; have n9_ : Aside0 (Kd.R (Kd.int .i64) 3 w139 w.heap.size (fun _ => True) (.slice Ao18 t699.length co18) t699) := ⟨by rw [← hq_]; exact (atR HO_5)⟩; have n10_ : Aside0 (Kd.R (Kd.int .i64) 3 w139 w.heap.size (fun _ => True) v704 t702) := ⟨by rw [← hq_]; exact (atR HO_6)⟩; have n11_ : Aside0 (Below w.heap.size w w139) := ⟨by rw [← hq_]; exact (atB HB)⟩; clear HO766 HO770 HO776 HO780 HO_10 HO_14 HO_18 HO_22 HO_26 HO_5 HO_6 HB hq_; have HO766 := n0_; have HO770 := n1_; have HO776 := n2_; have HO780 := n3_; have HO_10 := n4_; have HO_14 := n5_; have HO_18 := n6_; have HO_22 := n7_; have HO_26 := n8_; have HO_5 := n9_; have HO_6 := n10_; have HB := n11_; clear n0_ n1_ n2_ n3_ n4_ n5_ n6_ n7_ n8_ n9_ n10_ n11_)); obtain ⟨Ao141, co141, eo141⟩ := Kd.R_slice HO766.out; subst eo141) | (go_at_call 45; (with_reducible refine (laws_zSame.calls k2 _ _ t763 _ _ t699 true _ ?side1 ?side2 ?side3 ?side4 A115.out).mono ?_); (case side1 => exact atRC HO766); (case side2 => exact (Kd.R_reads' HO766.out).2.1); (case side3 => exact atRC HO_5); (case side4 => exact (Kd.R_reads' HO_5.out).2.1); rintro e w' ⟨rfl, ⟨nd, rfl⟩⟩; (try (rw [drewN_self w139]; generalize hq_ : World.drewN w139 _ = w139; have n0_ : Aside0 (Kd.R (Kd.int .i64) 3 w139 w.heap.size (fun _ => True) (.slice Ao141 t763.length co141) t763) := ⟨by rw [← hq_]; exact (atR HO766)⟩; have n1_ : Aside0 (Kd.R (Kd.int .i64) 3 w139 w.heap.size (fun _ => True) v769 t767) := ⟨by rw [← hq_]; exact (atR HO770)⟩; have n2_ : Aside0 (Kd.R (Kd.int .i64) 3 w139 w.heap.size (fun _ => True) (.slice Ao138 t773.length co138) t773) := ⟨by rw [← hq_]; exact (atR HO776)⟩; have n3_ : Aside0 (Kd.R (Kd.int .i64) 3 w139 w.heap.size (fun _ => True) v779 t777) := ⟨by rw [← hq_]; exact (atR HO780)⟩; have n4_ : Aside0 (Kd.R (Kd.int .i64) 3 w139 w.heap.size (fun _ => True) (.slice Ao132 t710.length co132) t710) := ⟨by rw [← hq_]; exact (atR HO_10)⟩; have n5_ : Aside0 (Kd.R (Kd.int .i64) 3 w139 w.heap.size (fun _ => True) (.slice Ao134 t718.length co134) t718) := ⟨by rw [← hq_]; exact (atR HO_14)⟩; have n6_ : Aside0 (Kd.R (Kd.int .i64) 3 w139 w.heap.size (fun _ => True) v728 t726) := ⟨by rw [← hq_]; exact (atR HO_18)⟩; have n7_ : Aside0 (Kd.R (Kd.int .i64) 3 w139 w.heap.size (fun _ => True) v736 t734) := ⟨by rw [← hq_]; exact (atR HO_22)⟩; have n8_ : Aside0 (Kd.R (Kd.int .i64) 3 w139 w.heap.size (fun _ => True) (.slice Ao140 x26_2.length co140) x26_2) := ⟨by rw [← hq_]; exact (atR HO_26)⟩; have n9_ : Aside0 (Kd.R (Kd.int .i64) 3 w139 w.heap.size (fun _ => True) (.slice Ao18 t699.length co18) t699) := ⟨by rw [← hq_]; exact (atR HO_5)⟩; have n10_ : Aside0 (Kd.R (Kd.int .i64) 3 w139 w.heap.size (fun _ => True) v704 t702) := ⟨by rw [← hq_]; exact (atR HO_6)⟩; have n11_ : Aside0 (Below w.heap.size w w139) := ⟨by rw [← hq_]; exact (atB HB)⟩; clear HO766 HO770 HO776 HO780 HO_10 HO_14 HO_18 HO_22 HO_26 HO_5 HO_6 HB hq_; have HO766 := n0_; have HO770 := n1_; have HO776 := n2_; have HO780 := n3_; have HO_10 := n4_; have HO_14 := n5_; have HO_18 := n6_; have HO_22 := n7_; have HO_26 := n8_; have HO_5 := n9_; have HO_6 := n10_; have HB := n11_; clear n0_ n1_ n2_ n3_ n4_ n5_ n6_ n7_ n8_ n9_ n10_ n11_)); obtain ⟨Ao142, co142, eo142⟩ := Kd.R_slice HO770.out; subst eo142) | (go_at_call 45; (with_reducible refine (laws_zSame.calls k2 _ _ t767 _ _ t699 true _ ?side1 ?side2 ?side3 ?side4 A118.out).mono ?_); (case side1 => exact atRC HO770); (case side2 => exact (Kd.R_reads' HO770.out).2.1); (case side3 => exact atRC HO_5); (case side4 => exact (Kd.R_reads' HO_5.out).2.1); rintro e w' ⟨rfl, ⟨nd, rfl⟩⟩; (try (rw [drewN_self w139]; generalize hq_ : World.drewN w139 _ = w139; have n0_ : Aside0 (Kd.R (Kd.int .i64) 3 w139 w.heap.size (fun _ => True) (.slice Ao141 t763.length co141) t763) := ⟨by rw [← hq_]; exact (atR HO766)⟩; have n1_ : Aside0 (Kd.R (Kd.int .i64) 3 w139 w.heap.size (fun _ => True) (.slice Ao142 t767.length co142) t767) := ⟨by rw [← hq_]; exact (atR HO770)⟩; have n2_ : Aside0 (Kd.R (Kd.int .i64) 3 w139 w.heap.size (fun _ => True) (.slice Ao138 t773.length co138) t773) := ⟨by rw [← hq_]; exact (atR HO776)⟩; have n3_ : Aside0 (Kd.R (Kd.int .i64) 3 w139 w.heap.size (fun _ => True) v779 t777) := ⟨by rw [← hq_]; exact (atR HO780)⟩; have n4_ : Aside0 (Kd.R (Kd.int .i64) 3 w139 w.heap.size (fun _ => True) (.slice Ao132 t710.length co132) t710) := ⟨by rw [← hq_]; exact (atR HO_10)⟩; have n5_ : Aside0 (Kd.R (Kd.int .i64) 3 w139 w.heap.size (fun _ => True) (.slice Ao134 t718.length co134) t718) := ⟨by rw [← hq_]; exact (atR HO_14)⟩; have n6_ : Aside0 (Kd.R (Kd.int .i64) 3 w139 w.heap.size (fun _ => True) v728 t726) := ⟨by rw [← hq_]; exact (atR HO_18)⟩; have n7_ : Aside0 (Kd.R (Kd.int .i64) 3 w139 w.heap.size (fun _ => True) v736 t734) := ⟨by rw [← hq_]; exact (atR HO_22)⟩; have n8_ : Aside0 (Kd.R (Kd.int .i64) 3 w139 w.heap.size (fun _ => True) (.slice Ao140 x26_2.length co140) x26_2) := ⟨by rw [← hq_]; exact (atR HO_26)⟩; have n9_ : Aside0 (Kd.R (Kd.int .i64) 3 w139 w.heap.size (fun _ => True) (.slice Ao18 t699.length co18) t699) := ⟨by rw [← hq_]; exact (atR HO_5)⟩; have n10_ : Aside0 (Kd.R (Kd.int .i64) 3 w139 w.heap.size (fun _ => True) v704 t702) := ⟨by rw [← hq_]; exact (atR HO_6)⟩; have n11_ : Aside0 (Below w.heap.size w w139) := ⟨by rw [← hq_]; exact (atB HB)⟩; clear HO766 HO770 HO776 HO780 HO_10 HO_14 HO_18 HO_22 HO_26 HO_5 HO_6 HB hq_; have HO766 := n0_; have HO770 := n1_; have HO776 := n2_; have HO780 := n3_; have HO_10 := n4_; have HO_14 := n5_; have HO_18 := n6_; have HO_22 := n7_; have HO_26 := n8_; have HO_5 := n9_; have HO_6 := n10_; have HB := n11_; clear n0_ n1_ n2_ n3_ n4_ n5_ n6_ n7_ n8_ n9_ n10_ n11_)); obtain ⟨Ao143, co143, eo143⟩ := Kd.R_slice HO780.out; subst eo143; obtain ⟨Ao144, co144, eo144⟩ := Kd.R_slice HO_6.out; subst eo144) | (go_at_call 45; (with_reducible refine (laws_zSame.calls k2 _ _ t777 _ _ t702 true _ ?side1 ?side2 ?side3 ?side4 A124.out).mono ?_); (case side1 => exact atRC HO780); (case side2 => exact (Kd.R_reads' HO780.out).2.1); (case side3 => exact atRC HO_6); (case side4 => exact (Kd.R_reads' HO_6.out).2.1); rintro e w' ⟨rfl, ⟨nd, rfl⟩⟩; (try (rw [drewN_self w139]; generalize hq_ : World.drewN w139 _ = w139; have n0_ : Aside0 (Kd.R (Kd.int .i64) 3 w139 w.heap.size (fun _ => True) (.slice Ao141 t763.length co141) t763) := ⟨by rw [← hq_]; exact (atR HO766)⟩; have n1_ : Aside0 (Kd.R (Kd.int .i64) 3 w139 w.heap.size (fun _ => True) (.slice Ao142 t767.length co142) t767) := ⟨by rw [← hq_]; exact (atR HO770)⟩; have n2_ : Aside0 (Kd.R (Kd.int .i64) 3 w139 w.heap.size (fun _ => True) (.slice Ao138 t773.length co138) t773) := ⟨by rw [← hq_]; exact (atR HO776)⟩; have n3_ : Aside0 (Kd.R (Kd.int .i64) 3 w139 w.heap.size (fun _ => True) (.slice Ao143 t777.length co143) t777) := ⟨by rw [← hq_]; exact (atR HO780)⟩; have n4_ : Aside0 (Kd.R (Kd.int .i64) 3 w139 w.heap.size (fun _ => True) (.slice Ao132 t710.length co132) t710) := ⟨by rw [← hq_]; exact (atR HO_10)⟩; have n5_ : Aside0 (Kd.R (Kd.int .i64) 3 w139 w.heap.size (fun _ => True) (.slice Ao134 t718.length co134) t718) := ⟨by rw [← hq_]; exact (atR HO_14)⟩; have n6_ : Aside0 (Kd.R (Kd.int .i64) 3 w139 w.heap.size (fun _ => True) v728 t726) := ⟨by rw [← hq_]; exact (atR HO_18)⟩; have n7_ : Aside0 (Kd.R (Kd.int .i64) 3 w139 w.heap.size (fun _ => True) v736 t734) := ⟨by rw [← hq_]; exact (atR HO_22)⟩; have n8_ : Aside0 (Kd.R (Kd.int .i64) 3 w139 w.heap.size (fun _ => True) (.slice Ao140 x26_2.length co140) x26_2) := ⟨by rw [← hq_]; exact (atR HO_26)⟩; have n9_ : Aside0 (Kd.R (Kd.int .i64) 3 w139 w.heap.size (fun _ => True) (.slice Ao18 t699.length co18) t699) := ⟨by rw [← hq_]; exact (atR HO_5)⟩; have n10_ : Aside0 (Kd.R (Kd.int .i64) 3 w139 w.heap.size (fun _ => True) (.slice Ao144 t702.length co144) t702) := ⟨by rw [← hq_]; exact (atR HO_6)⟩; have n11_ : Aside0 (Below w.heap.size w w139) := ⟨by rw [← hq_]; exact (atB HB)⟩; clear HO766 HO770 HO776 HO780 HO_10 HO_14 HO_18 HO_22 HO_26 HO_5 HO_6 HB hq_; have HO766 := n0_; have HO770 := n1_; have HO776 := n2_; have HO780 := n3_; have HO_10 := n4_; have HO_14 := n5_; have HO_18 := n6_; have HO_22 := n7_; have HO_26 := n8_; have HO_5 := n9_; have HO_6 := n10_; have HB := n11_; clear n0_ n1_ n2_ n3_ n4_ n5_ n6_ n7_ n8_ n9_ n10_ n11_)); obtain ⟨Ao145, co145, eo145⟩ := Kd.R_slice HO_22.out; subst eo145) | ((with_reducible refine gate_callee (f := 47) rfl ?_); refine goesA (some 350) Try.func47 #[.slice Ao145 t734.length co145] ?_; (with_reducible refine (impl_IsCostas.calls k2 _ _ t734 true true _ ?side1 ?side2 A127.out).mono ?_); (case side1 => exact atRC HO_22); (case side2 => exact (Kd.R_reads' HO_22.out).2.1); rintro e w146 ⟨rfl, hb⟩; refine ⟨_, rfl, ?_⟩; replace HO_5 := upR HO_5 hb; replace HO_6 := upR HO_6 hb; replace HO_10 := upR HO_10 hb; replace HO_14 := upR HO_14 hb; replace HO_18 := upR HO_18 hb; replace HO_22 := upR HO_22 hb; replace HO_26 := upR HO_26 hb; replace HO766 := upR HO766 hb; replace HO770 := upR HO770 hb; replace HO776 := upR HO776 hb; replace HO780 := upR HO780 hb; replace HB := upB HB hb; (try clear hb); (try clear hb2); (try clear hk); (try clear hi)))
                            go_meet
                            case rel => exact ⟨_, H', ⟨by have := HJ15.out; have := HK2.out; first | omega | exact Nat.le_refl _⟩, ⟨atB HB⟩⟩
                          ·rw [if_neg c131] at H
                           have c131b0 : ((t734.length : Int) == (wrap64 ((t699.length : Int) - 1))) = false := beq_eq_false_iff_ne.mpr c131
                           have c131b1 : ((t734.length : Int) != (wrap64 ((t699.length : Int) - 1))) = true := bne_iff_ne.mpr c131
                           exact absurd ((Option.some.inj H).trans HT.out) (by decide)
                         ·replace c130 := Bool.eq_false_iff.mpr c130
                          subst c130
                          rw [if_neg (show ¬ (false = true) by decide)] at H
                          exact absurd ((Option.some.inj H).trans HT.out) (by decide)
                        ·replace c129 := Bool.eq_false_iff.mpr c129
                         subst c129
                         obtain rfl : t771 = false := (by simpa using c121b0)
                         rw [if_neg (show ¬ (false = true) by decide)] at H
                         by_cases c147 : (t734.length : Int) = (wrap64 ((t699.length : Int) - 1))
                         ·rw [if_pos c147] at H
                          have c147b0 : ((t734.length : Int) == (wrap64 ((t699.length : Int) - 1))) = true := beq_iff_eq.mpr c147
                          have c147b1 : ((t734.length : Int) != (wrap64 ((t699.length : Int) - 1))) = false := bne_eq_false_iff_eq.mpr c147
                          clear c147
                          have H' := Aside0.mk H
                          clear H
                          obtain ⟨Ao148, co148, eo148⟩ := Kd.R_slice HO_10.out
                          subst eo148
                          as_aux_lemma =>
                           go_wp2_with (first | ((with_reducible refine gate_callee (f := 37) rfl ?_); refine goesA (some 273) Try.func37 #[.slice Ao148 t710.length co148] ?_; (with_reducible refine (impl_MirrorDots.calls k2 _ _ t710 t763 true _ ?side1 ?side2 A106.out).mono ?_); (case side1 => exact atRC HO_10); (case side2 => exact (Kd.R_reads' HO_10.out).2.1); rintro e w149 ⟨v765, rfl, ho0, hb⟩; refine ⟨_, rfl, ?_⟩; have HO766 := lowR ho0 HB; replace HO_5 := upR HO_5 hb; replace HO_6 := upR HO_6 hb; replace HO_10 := upR HO_10 hb; replace HO_14 := upR HO_14 hb; replace HO_18 := upR HO_18 hb; replace HO_22 := upR HO_22 hb; replace HO_26 := upR HO_26 hb; replace HB := upB HB hb; (try clear hb); (try clear hb2); (try clear hk); (try clear hi); (try clear ho0); obtain ⟨Ao150, co150, eo150⟩ := Kd.R_slice HO_14.out; subst eo150) | ((with_reducible refine gate_callee (f := 39) rfl ?_); refine goesA (some 278) Try.func39 #[.slice Ao150 t718.length co150] ?_; (with_reducible refine (impl_CrossDots.calls k2 _ _ t718 t767 true _ ?side1 ?side2 A107.out).mono ?_); (case side1 => exact atRC HO_14); (case side2 => exact (Kd.R_reads' HO_14.out).2.1); rintro e w151 ⟨v769, rfl, ho0, hb⟩; refine ⟨_, rfl, ?_⟩; have HO770 := lowR ho0 HB; replace HO_5 := upR HO_5 hb; replace HO_6 := upR HO_6 hb; replace HO_10 := upR HO_10 hb; replace HO_14 := upR HO_14 hb; replace HO_18 := upR HO_18 hb; replace HO_22 := upR HO_22 hb; replace HO_26 := upR HO_26 hb; replace HO766 := upR HO766 hb; replace HB := upB HB hb; (try clear hb); (try clear hb2); (try clear hk); (try clear hi); (try clear ho0)) | ((with_reducible refine gate_callee (f := 47) rfl ?_); refine goesA (some 283) Try.func47 #[.slice Ao150 t718.length co150] ?_; (with_reducible refine (impl_IsCostas.calls k2 _ _ t718 false true _ ?side1 ?side2 A108.out).mono ?_); (case side1 => exact atRC HO_14); (case side2 => exact (Kd.R_reads' HO_14.out).2.1); rintro e w152 ⟨rfl, hb⟩; refine ⟨_, rfl, ?_⟩; replace HO_5 := upR HO_5 hb; replace HO_6 := upR HO_6 hb; replace HO_10 := upR HO_10 hb; replace HO_14 := upR HO_14 hb; replace HO_18 := upR HO_18 hb; replace HO_22 := upR HO_22 hb; replace HO_26 := upR HO_26 hb; replace HO766 := upR HO766 hb; replace HO770 := upR HO770 hb; replace HB := upB HB hb; (try clear hb); (try clear hb2); (try clear hk); (try clear hi)) | ((with_reducible refine gate_callee (f := 37) rfl ?_); refine goesA (some 288) Try.func37 #[.slice Ao18 t699.length co18] ?_; (with_reducible refine (impl_MirrorDots.calls k2 _ _ t699 t773 true _ ?side1 ?side2 A109.out).mono ?_); (case side1 => exact atRC HO_5); (case side2 => exact (Kd.R_reads' HO_5.out).2.1); rintro e w153 ⟨v775, rfl, ho0, hb⟩; refine ⟨_, rfl, ?_⟩; have HO776 := lowR ho0 HB; replace HO_5 := upR HO_5 hb; replace HO_6 := upR HO_6 hb; replace HO_10 := upR HO_10 hb; replace HO_14 := upR HO_14 hb; replace HO_18 := upR HO_18 hb; replace HO_22 := upR HO_22 hb; replace HO_26 := upR HO_26 hb; replace HO766 := upR HO766 hb; replace HO770 := upR HO770 hb; replace HB := upB HB hb; (try clear hb); (try clear hb2); (try clear hk); (try clear hi); (try clear ho0); obtain ⟨Ao154, co154, eo154⟩ := Kd.R_slice HO776.out; subst eo154) | ((with_reducible refine gate_callee (f := 39) rfl ?_); refine goesA (some 293) Try.func39 #[.slice Ao154 t773.length co154] ?_; (with_reducible refine (impl_CrossDots.calls k2 _ _ t773 t777 true _ ?side1 ?side2 A110.out).mono ?_); (case side1 => exact atRC HO776); (case side2 => exact (Kd.R_reads' HO776.out).2.1); rintro e w155 ⟨v779, rfl, ho0, hb⟩; refine ⟨_, rfl, ?_⟩; have HO780 := lowR ho0 HB; replace HO_5 := upR HO_5 hb; replace HO_6 := upR HO_6 hb; replace HO_10 := upR HO_10 hb; replace HO_14 := upR HO_14 hb; replace HO_18 := upR HO_18 hb; replace HO_22 := upR HO_22 hb; replace HO_26 := upR HO_26 hb; replace HO766 := upR HO766 hb; replace HO770 := upR HO770 hb; replace HO776 := upR HO776 hb; replace HB := upB HB hb; (try clear hb); (try clear hb2); (try clear hk); (try clear hi); (try clear ho0); obtain ⟨Ao156, co156, eo156⟩ := Kd.R_slice HO_26.out; subst eo156) | (go_at_call 45; (with_reducible refine (laws_zSame.calls k2 _ _ x26_2 _ _ t699 true _ ?side1 ?side2 ?side3 ?side4 A112.out).mono ?_); (case side1 => exact atRC HO_26); (case side2 => exact (Kd.R_reads' HO_26.out).2.1); (case side3 => exact atRC HO_5); (case side4 => exact (Kd.R_reads' HO_5.out).2.1); rintro e w' ⟨rfl, ⟨nd, rfl⟩⟩; (try (rw [drewN_self w155]; generalize hq_ : World.drewN w155 _ = w155; have n0_ : Aside0 (Kd.R (Kd.int .i64) 3 w155 w.heap.size (fun _ => True) v765 t763) := ⟨by rw [← hq_]; exact (atR HO766)⟩; have n1_ : Aside0 (Kd.R (Kd.int .i64) 3 w155 w.heap.size (fun _ => True) v769 t767) := ⟨by rw [← hq_]; exact (atR HO770)⟩; have n2_ : Aside0 (Kd.R (Kd.int .i64) 3 w155 w.heap.size (fun _ => True) (.slice Ao154 t773.length co154) t773) := ⟨by rw [← hq_]; exact (atR HO776)⟩; have n3_ : Aside0 (Kd.R (Kd.int .i64) 3 w155 w.heap.size (fun _ => True) v779 t777) := ⟨by rw [← hq_]; exact (atR HO780)⟩; have n4_ : Aside0 (Kd.R (Kd.int .i64) 3 w155 w.heap.size (fun _ => True) (.slice Ao148 t710.length co148) t710) := ⟨by rw [← hq_]; exact (atR HO_10)⟩; have n5_ : Aside0 (Kd.R (Kd.int .i64) 3 w155 w.heap.size (fun _ => True) (.slice Ao150 t718.length co150) t718) := ⟨by rw [← hq_]; exact (atR HO_14)⟩; have n6_ : Aside0 (Kd.R (Kd.int .i64) 3 w155 w.heap.size (fun _ => True) v728 t726) := ⟨by rw [← hq_]; exact (atR HO_18)⟩; have n7_ : Aside0 (Kd.R (Kd.int .i64) 3 w155 w.heap.size (fun _ => True) v736 t734) := ⟨by rw [← hq_]; exact (atR HO_22)⟩; have n8_ : Aside0 (Kd.R (Kd.int .i64) 3 w155 w.heap.size (fun _ => True) (.slice Ao156 x26_2.length co156) x26_2) := ⟨by rw [← hq_]; exact (atR HO_26)⟩; have n9_ : Aside0 (Kd.R (Kd.int .i64) 3 w155 w.heap.size (fun _ => True) (.slice Ao18 t699.length co18) t699) := ⟨by rw [← hq_]; exact (atR HO_5)⟩; have n10_ : Aside0 (Kd.R (Kd.int .i64) 3 w155 w.heap.size (fun _ => True) v704 t702) := ⟨by rw [← hq_]; exact (atR HO_6)⟩; have n11_ : Aside0 (Below w.heap.size w w155) := ⟨by rw [← hq_]; exact (atB HB)⟩; clear HO766 HO770 HO776 HO780 HO_10 HO_14 HO_18 HO_22 HO_26 HO_5 HO_6 HB hq_; have HO766 := n0_; have HO770 := n1_; have HO776 := n2_; have HO780 := n3_; have HO_10 := n4_; have HO_14 := n5_; have HO_18 := n6_; have HO_22 := n7_; have HO_26 := n8_; have HO_5 := n9_; have HO_6 := n10_; have HB := n11_; clear n0_ n1_ n2_ n3_ n4_ n5_ n6_ n7_ n8_ n9_ n10_ n11_)); obtain ⟨Ao157, co157, eo157⟩ := Kd.R_slice HO766.out; subst eo157) | (go_at_call 45; (with_reducible refine (laws_zSame.calls k2 _ _ t763 _ _ t699 true _ ?side1 ?side2 ?side3 ?side4 A115.out).mono ?_); (case side1 => exact atRC HO766); (case side2 => exact (Kd.R_reads' HO766.out).2.1); (case side3 => exact atRC HO_5); (case side4 => exact (Kd.R_reads' HO_5.out).2.1); rintro e w' ⟨rfl, ⟨nd, rfl⟩⟩; (try (rw [drewN_self w155]; generalize hq_ : World.drewN w155 _ = w155; have n0_ : Aside0 (Kd.R (Kd.int .i64) 3 w155 w.heap.size (fun _ => True) (.slice Ao157 t763.length co157) t763) := ⟨by rw [← hq_]; exact (atR HO766)⟩; have n1_ : Aside0 (Kd.R (Kd.int .i64) 3 w155 w.heap.size (fun _ => True) v769 t767) := ⟨by rw [← hq_]; exact (atR HO770)⟩; have n2_ : Aside0 (Kd.R (Kd.int .i64) 3 w155 w.heap.size (fun _ => True) (.slice Ao154 t773.length co154) t773) := ⟨by rw [← hq_]; exact (atR HO776)⟩; have n3_ : Aside0 (Kd.R (Kd.int .i64) 3 w155 w.heap.size (fun _ => True) v779 t777) := ⟨by rw [← hq_]; exact (atR HO780)⟩; have n4_ : Aside0 (Kd.R (Kd.int .i64) 3 w155 w.heap.size (fun _ => True) (.slice Ao148 t710.length co148) t710) := ⟨by rw [← hq_]; exact (atR HO_10)⟩; have n5_ : Aside0 (Kd.R (Kd.int .i64) 3 w155 w.heap.size (fun _ => True) (.slice Ao150 t718.length co150) t718) := ⟨by rw [← hq_]; exact (atR HO_14)⟩; have n6_ : Aside0 (Kd.R (Kd.int .i64) 3 w155 w.heap.size (fun _ => True) v728 t726) := ⟨by rw [← hq_]; exact (atR HO_18)⟩; have n7_ : Aside0 (Kd.R (Kd.int .i64) 3 w155 w.heap.size (fun _ => True) v736 t734) := ⟨by rw [← hq_]; exact (atR HO_22)⟩; have n8_ : Aside0 (Kd.R (Kd.int .i64) 3 w155 w.heap.size (fun _ => True) (.slice Ao156 x26_2.length co156) x26_2) := ⟨by rw [← hq_]; exact (atR HO_26)⟩; have n9_ : Aside0 (Kd.R (Kd.int .i64) 3 w155 w.heap.size (fun _ => True) (.slice Ao18 t699.length co18) t699) := ⟨by rw [← hq_]; exact (atR HO_5)⟩; have n10_ : Aside0 (Kd.R (Kd.int .i64) 3 w155 w.heap.size (fun _ => True) v704 t702) := ⟨by rw [← hq_]; exact (atR HO_6)⟩; have n11_ : Aside0 (Below w.heap.size w w155) := ⟨by rw [← hq_]; exact (atB HB)⟩; clear HO766 HO770 HO776 HO780 HO_10 HO_14 HO_18 HO_22 HO_26 HO_5 HO_6 HB hq_; have HO766 := n0_; have HO770 := n1_; have HO776 := n2_; have HO780 := n3_; have HO_10 := n4_; have HO_14 := n5_; have HO_18 := n6_; have HO_22 := n7_; have HO_26 := n8_; have HO_5 := n9_; have HO_6 := n10_; have HB := n11_; clear n0_ n1_ n2_ n3_ n4_ n5_ n6_ n7_ n8_ n9_ n10_ n11_)); obtain ⟨Ao158, co158, eo158⟩ := Kd.R_slice HO770.out; subst eo158) | (go_at_call 45; (with_reducible refine (laws_zSame.calls k2 _ _ t767 _ _ t699 true _ ?side1 ?side2 ?side3 ?side4 A118.out).mono ?_); (case side1 => exact atRC HO770); (case side2 => exact (Kd.R_reads' HO770.out).2.1); (case side3 => exact atRC HO_5); (case side4 => exact (Kd.R_reads' HO_5.out).2.1); rintro e w' ⟨rfl, ⟨nd, rfl⟩⟩; (try (rw [drewN_self w155]; generalize hq_ : World.drewN w155 _ = w155; have n0_ : Aside0 (Kd.R (Kd.int .i64) 3 w155 w.heap.size (fun _ => True) (.slice Ao157 t763.length co157) t763) := ⟨by rw [← hq_]; exact (atR HO766)⟩; have n1_ : Aside0 (Kd.R (Kd.int .i64) 3 w155 w.heap.size (fun _ => True) (.slice Ao158 t767.length co158) t767) := ⟨by rw [← hq_]; exact (atR HO770)⟩; have n2_ : Aside0 (Kd.R (Kd.int .i64) 3 w155 w.heap.size (fun _ => True) (.slice Ao154 t773.length co154) t773) := ⟨by rw [← hq_]; exact (atR HO776)⟩; have n3_ : Aside0 (Kd.R (Kd.int .i64) 3 w155 w.heap.size (fun _ => True) v779 t777) := ⟨by rw [← hq_]; exact (atR HO780)⟩; have n4_ : Aside0 (Kd.R (Kd.int .i64) 3 w155 w.heap.size (fun _ => True) (.slice Ao148 t710.length co148) t710) := ⟨by rw [← hq_]; exact (atR HO_10)⟩; have n5_ : Aside0 (Kd.R (Kd.int .i64) 3 w155 w.heap.size (fun _ => True) (.slice Ao150 t718.length co150) t718) := ⟨by rw [← hq_]; exact (atR HO_14)⟩; have n6_ : Aside0 (Kd.R (Kd.int .i64) 3 w155 w.heap.size (fun _ => True) v728 t726) := ⟨by rw [← hq_]; exact (atR HO_18)⟩; have n7_ : Aside0 (Kd.R (Kd.int .i64) 3 w155 w.heap.size (fun _ => True) v736 t734) := ⟨by rw [← hq_]; exact (atR HO_22)⟩; have n8_ : Aside0 (Kd.R (Kd.int .i64) 3 w155 w.heap.size (fun _ => True) (.slice Ao156 x26_2.length co156) x26_2) := ⟨by rw [← hq_]; exact (atR HO_26)⟩; have n9_ : Aside0 (Kd.R (Kd.int .i64) 3 w155 w.heap.size (fun _ => True) (.slice Ao18 t699.length co18) t699) := ⟨by rw [← hq_]; exact (atR HO_5)⟩; have n10_ : Aside0 (Kd.R (Kd.int .i64) 3 w155 w.heap.size (fun _ => True) v704 t702) := ⟨by rw [← hq_]; exact (atR HO_6)⟩; have n11_ : Aside0 (Below w.heap.size w w155) := ⟨by rw [← hq_]; exact (atB HB)⟩; clear HO766 HO770 HO776 HO780 HO_10 HO_14 HO_18 HO_22 HO_26 HO_5 HO_6 HB hq_; have HO766 := n0_; have HO770 := n1_; have HO776 := n2_; have HO780 := n3_; have HO_10 := n4_; have HO_14 := n5_; have HO_18 := n6_; have HO_22 := n7_; have HO_26 := n8_; have HO_5 := n9_; have HO_6 := n10_; have HB := n11_; clear n0_ n1_ n2_ n3_ n4_ n5_ n6_ n7_ n8_ n9_ n10_ n11_)); obtain ⟨Ao159, co159, eo159⟩ := Kd.R_slice HO780.out; subst eo159; obtain ⟨Ao160, co160, eo160⟩ := Kd.R_slice HO_6.out; subst eo160) | (go_at_call 45; (with_reducible refine (laws_zSame.calls k2 _ _ t777 _ _ t702 true _ ?side1 ?side2 ?side3 ?side4 A124.out).mono ?_); (case side1 => exact atRC HO780); (case side2 => exact (Kd.R_reads' HO780.out).2.1); (case side3 => exact atRC HO_6); (case side4 => exact (Kd.R_reads' HO_6.out).2.1); rintro e w' ⟨rfl, ⟨nd, rfl⟩⟩; (try (rw [drewN_self w155]; generalize hq_ : World.drewN w155 _ = w155; have n0_ : Aside0 (Kd.R (Kd.int .i64) 3 w155 w.heap.size (fun _ => True) (.slice Ao157 t763.length co157) t763) := ⟨by rw [← hq_]; exact (atR HO766)⟩; have n1_ : Aside0 (Kd.R (Kd.int .i64) 3 w155 w.heap.size (fun _ => True) (.slice Ao158 t767.length co158) t767) := ⟨by rw [← hq_]; exact (atR HO770)⟩; have n2_ : Aside0 (Kd.R (Kd.int .i64) 3 w155 w.heap.size (fun _ => True) (.slice Ao154 t773.length co154) t773) := ⟨by rw [← hq_]; exact (atR HO776)⟩; have n3_ : Aside0 (Kd.R (Kd.int .i64) 3 w155 w.heap.size (fun _ => True) (.slice Ao159 t777.length co159) t777) := ⟨by rw [← hq_]; exact (atR HO780)⟩; have n4_ : Aside0 (Kd.R (Kd.int .i64) 3 w155 w.heap.size (fun _ => True) (.slice Ao148 t710.length co148) t710) := ⟨by rw [← hq_]; exact (atR HO_10)⟩; have n5_ : Aside0 (Kd.R (Kd.int .i64) 3 w155 w.heap.size (fun _ => True) (.slice Ao150 t718.length co150) t718) := ⟨by rw [← hq_]; exact (atR HO_14)⟩; have n6_ : Aside0 (Kd.R (Kd.int .i64) 3 w155 w.heap.size (fun _ => True) v728 t726) := ⟨by rw [← hq_]; exact (atR HO_18)⟩; have n7_ : Aside0 (Kd.R (Kd.int .i64) 3 w155 w.heap.size (fun _ => True) v736 t734) := ⟨by rw [← hq_]; exact (atR HO_22)⟩; have n8_ : Aside0 (Kd.R (Kd.int .i64) 3 w155 w.heap.size (fun _ => True) (.slice Ao156 x26_2.length co156) x26_2) := ⟨by rw [← hq_]; exact (atR HO_26)⟩; have n9_ : Aside0 (Kd.R (Kd.int .i64) 3 w155 w.heap.size (fun _ => True) (.slice Ao18 t699.length co18) t699) := ⟨by rw [← hq_]; exact (atR HO_5)⟩; have n10_ : Aside0 (Kd.R (Kd.int .i64) 3 w155 w.heap.size (fun _ => True) (.slice Ao160 t702.length co160) t702) := ⟨by rw [← hq_]; exact (atR HO_6)⟩; have n11_ : Aside0 (Below w.heap.size w w155) := ⟨by rw [← hq_]; exact (atB HB)⟩; clear HO766 HO770 HO776 HO780 HO_10 HO_14 HO_18 HO_22 HO_26 HO_5 HO_6 HB hq_; have HO766 := n0_; have HO770 := n1_; have HO776 := n2_; have HO780 := n3_; have HO_10 := n4_; have HO_14 := n5_; have HO_18 := n6_; have HO_22 := n7_; have HO_26 := n8_; have HO_5 := n9_; have HO_6 := n10_; have HB := n11_; clear n0_ n1_ n2_ n3_ n4_ n5_ n6_ n7_ n8_ n9_ n10_ n11_)); obtain ⟨Ao161, co161, eo161⟩ := Kd.R_slice HO_22.out; subst eo161) | ((with_reducible refine gate_callee (f := 47) rfl ?_); refine goesA (some 350) Try.func47 #[.slice Ao161 t734.length co161] ?_; (with_reducible refine (impl_IsCostas.calls k2 _ _ t734 t785 true _ ?side1 ?side2 A127.out).mono ?_); (case side1 => exact atRC HO_22); (case side2 => exact (Kd.R_reads' HO_22.out).2.1); rintro e w162 ⟨rfl, hb⟩; refine ⟨_, rfl, ?_⟩; replace HO_5 := upR HO_5 hb; replace HO_6 := upR HO_6 hb; replace HO_10 := upR HO_10 hb; replace HO_14 := upR HO_14 hb; replace HO_18 := upR HO_18 hb; replace HO_22 := upR HO_22 hb; replace HO_26 := upR HO_26 hb; replace HO766 := upR HO766 hb; replace HO770 := upR HO770 hb; replace HO776 := upR HO776 hb; replace HO780 := upR HO780 hb; replace HB := upB HB hb; (try clear hb); (try clear hb2); (try clear hk); (try clear hi)))
                           go_meet
                           case rel => exact ⟨_, H', ⟨by have := HJ15.out; have := HK2.out; first | omega | exact Nat.le_refl _⟩, ⟨atB HB⟩⟩
                         ·rw [if_neg c147] at H
                          have c147b0 : ((t734.length : Int) == (wrap64 ((t699.length : Int) - 1))) = false := beq_eq_false_iff_ne.mpr c147
                          have c147b1 : ((t734.length : Int) != (wrap64 ((t699.length : Int) - 1))) = true := bne_iff_ne.mpr c147
                          exact absurd ((Option.some.inj H).trans HT.out) (by decide)
                       ·replace c128 := Bool.eq_false_iff.mpr c128
                        subst c128
                        rw [if_neg (show ¬ (false = true) by decide)] at H
                        exact absurd ((Option.some.inj H).trans HT.out) (by decide)
                      ·replace c126 := Bool.eq_false_iff.mpr c126
                       subst c126
                       rw [if_neg (show ¬ (false = true) by decide)] at H
                       have H' := Aside0.mk H
                       clear H
                       obtain ⟨Ao163, co163, eo163⟩ := Kd.R_slice HO_10.out
                       subst eo163
                       as_aux_lemma =>
                        go_wp2_with (first | ((with_reducible refine gate_callee (f := 37) rfl ?_); refine goesA (some 273) Try.func37 #[.slice Ao163 t710.length co163] ?_; (with_reducible refine (impl_MirrorDots.calls k2 _ _ t710 t763 true _ ?side1 ?side2 A106.out).mono ?_); (case side1 => exact atRC HO_10); (case side2 => exact (Kd.R_reads' HO_10.out).2.1); rintro e w164 ⟨v765, rfl, ho0, hb⟩; refine ⟨_, rfl, ?_⟩; have HO766 := lowR ho0 HB; replace HO_5 := upR HO_5 hb; replace HO_6 := upR HO_6 hb; replace HO_10 := upR HO_10 hb; replace HO_14 := upR HO_14 hb; replace HO_18 := upR HO_18 hb; replace HO_22 := upR HO_22 hb; replace HO_26 := upR HO_26 hb; replace HB := upB HB hb; (try clear hb); (try clear hb2); (try clear hk); (try clear hi); (try clear ho0); obtain ⟨Ao165, co165, eo165⟩ := Kd.R_slice HO_14.out; subst eo165) | ((with_reducible refine gate_callee (f := 39) rfl ?_); refine goesA (some 278) Try.func39 #[.slice Ao165 t718.length co165] ?_; (with_reducible refine (impl_CrossDots.calls k2 _ _ t718 t767 true _ ?side1 ?side2 A107.out).mono ?_); (case side1 => exact atRC HO_14); (case side2 => exact (Kd.R_reads' HO_14.out).2.1); rintro e w166 ⟨v769, rfl, ho0, hb⟩; refine ⟨_, rfl, ?_⟩; have HO770 := lowR ho0 HB; replace HO_5 := upR HO_5 hb; replace HO_6 := upR HO_6 hb; replace HO_10 := upR HO_10 hb; replace HO_14 := upR HO_14 hb; replace HO_18 := upR HO_18 hb; replace HO_22 := upR HO_22 hb; replace HO_26 := upR HO_26 hb; replace HO766 := upR HO766 hb; replace HB := upB HB hb; (try clear hb); (try clear hb2); (try clear hk); (try clear hi); (try clear ho0)) | ((with_reducible refine gate_callee (f := 47) rfl ?_); refine goesA (some 283) Try.func47 #[.slice Ao165 t718.length co165] ?_; (with_reducible refine (impl_IsCostas.calls k2 _ _ t718 t771 true _ ?side1 ?side2 A108.out).mono ?_); (case side1 => exact atRC HO_14); (case side2 => exact (Kd.R_reads' HO_14.out).2.1); rintro e w167 ⟨rfl, hb⟩; refine ⟨_, rfl, ?_⟩; replace HO_5 := upR HO_5 hb; replace HO_6 := upR HO_6 hb; replace HO_10 := upR HO_10 hb; replace HO_14 := upR HO_14 hb; replace HO_18 := upR HO_18 hb; replace HO_22 := upR HO_22 hb; replace HO_26 := upR HO_26 hb; replace HO766 := upR HO766 hb; replace HO770 := upR HO770 hb; replace HB := upB HB hb; (try clear hb); (try clear hb2); (try clear hk); (try clear hi)) | ((with_reducible refine gate_callee (f := 37) rfl ?_); refine goesA (some 288) Try.func37 #[.slice Ao18 t699.length co18] ?_; (with_reducible refine (impl_MirrorDots.calls k2 _ _ t699 t773 true _ ?side1 ?side2 A109.out).mono ?_); (case side1 => exact atRC HO_5); (case side2 => exact (Kd.R_reads' HO_5.out).2.1); rintro e w168 ⟨v775, rfl, ho0, hb⟩; refine ⟨_, rfl, ?_⟩; have HO776 := lowR ho0 HB; replace HO_5 := upR HO_5 hb; replace HO_6 := upR HO_6 hb; replace HO_10 := upR HO_10 hb; replace HO_14 := upR HO_14 hb; replace HO_18 := upR HO_18 hb; replace HO_22 := upR HO_22 hb; replace HO_26 := upR HO_26 hb; replace HO766 := upR HO766 hb; replace HO770 := upR HO770 hb; replace HB := upB HB hb; (try clear hb); (try clear hb2); (try clear hk); (try clear hi); (try clear ho0); obtain ⟨Ao169, co169, eo169⟩ := Kd.R_slice HO776.out; subst eo169) | ((with_reducible refine gate_callee (f := 39) rfl ?_); refine goesA (some 293) Try.func39 #[.slice Ao169 t773.length co169] ?_; (with_reducible refine (impl_CrossDots.calls k2 _ _ t773 t777 true _ ?side1 ?side2 A110.out).mono ?_); (case side1 => exact atRC HO776); (case side2 => exact (Kd.R_reads' HO776.out).2.1); rintro e w170 ⟨v779, rfl, ho0, hb⟩; refine ⟨_, rfl, ?_⟩; have HO780 := lowR ho0 HB; replace HO_5 := upR HO_5 hb; replace HO_6 := upR HO_6 hb; replace HO_10 := upR HO_10 hb; replace HO_14 := upR HO_14 hb; replace HO_18 := upR HO_18 hb; replace HO_22 := upR HO_22 hb; replace HO_26 := upR HO_26 hb; replace HO766 := upR HO766 hb; replace HO770 := upR HO770 hb; replace HO776 := upR HO776 hb; replace HB := upB HB hb; (try clear hb); (try clear hb2); (try clear hk); (try clear hi); (try clear ho0); obtain ⟨Ao171, co171, eo171⟩ := Kd.R_slice HO_26.out; subst eo171) | (go_at_call 45; (with_reducible refine (laws_zSame.calls k2 _ _ x26_2 _ _ t699 true _ ?side1 ?side2 ?side3 ?side4 A112.out).mono ?_); (case side1 => exact atRC HO_26); (case side2 => exact (Kd.R_reads' HO_26.out).2.1); (case side3 => exact atRC HO_5); (case side4 => exact (Kd.R_reads' HO_5.out).2.1); rintro e w' ⟨rfl, ⟨nd, rfl⟩⟩; obtain ⟨Ao172, co172, eo172⟩ := Kd.R_slice HO766.out; subst eo172) | (go_at_call 45; (with_reducible refine (laws_zSame.calls k2 _ _ t763 _ _ t699 true _ ?side1 ?side2 ?side3 ?side4 A115.out).mono ?_); (case side1 => exact atRC HO766); (case side2 => exact (Kd.R_reads' HO766.out).2.1); (case side3 => exact atRC HO_5); (case side4 => exact (Kd.R_reads' HO_5.out).2.1); rintro e w' ⟨rfl, ⟨nd, rfl⟩⟩; obtain ⟨Ao173, co173, eo173⟩ := Kd.R_slice HO770.out; subst eo173) | (go_at_call 45; (with_reducible refine (laws_zSame.calls k2 _ _ t767 _ _ t699 true _ ?side1 ?side2 ?side3 ?side4 A118.out).mono ?_); (case side1 => exact atRC HO770); (case side2 => exact (Kd.R_reads' HO770.out).2.1); (case side3 => exact atRC HO_5); (case side4 => exact (Kd.R_reads' HO_5.out).2.1); rintro e w' ⟨rfl, ⟨nd, rfl⟩⟩; obtain ⟨Ao174, co174, eo174⟩ := Kd.R_slice HO780.out; subst eo174; obtain ⟨Ao175, co175, eo175⟩ := Kd.R_slice HO_6.out; subst eo175) | (go_at_call 45; (with_reducible refine (laws_zSame.calls k2 _ _ t777 _ _ t702 true _ ?side1 ?side2 ?side3 ?side4 A124.out).mono ?_); (case side1 => exact atRC HO780); (case side2 => exact (Kd.R_reads' HO780.out).2.1); (case side3 => exact atRC HO_6); (case side4 => exact (Kd.R_reads' HO_6.out).2.1); rintro e w' ⟨rfl, ⟨nd, rfl⟩⟩))
                        go_meet
                        case rel => exact ⟨_, H', ⟨by have := HJ15.out; have := HK2.out; first | omega | exact Nat.le_refl _⟩, ⟨atB HB⟩⟩
                     ·replace c125 := Bool.eq_false_iff.mpr c125
                      subst c125
                      rw [if_neg (show ¬ (false = true) by decide)] at H
                      exact absurd ((Option.some.inj H).trans HT.out) (by decide)
                    ·replace c123 := Bool.eq_false_iff.mpr c123
                     subst c123
                     rw [if_neg (show ¬ (false = true) by decide)] at H
                     exact absurd ((Option.some.inj H).trans HT.out) (by decide)
                   ·replace c122 := Bool.eq_false_iff.mpr c122
                    subst c122
                    rw [if_neg (show ¬ (false = true) by decide)] at H
                    exact absurd ((Option.some.inj H).trans HT.out) (by decide)
                 ·replace c120 := Bool.eq_false_iff.mpr c120
                  subst c120
                  rw [if_neg (show ¬ (false = true) by decide)] at H
                  exact absurd ((Option.some.inj H).trans HT.out) (by decide)
                ·replace c119 := Bool.eq_false_iff.mpr c119
                 subst c119
                 rw [if_neg (show ¬ (false = true) by decide)] at H
                 exact absurd ((Option.some.inj H).trans HT.out) (by decide)
               ·replace c117 := Bool.eq_false_iff.mpr c117
                subst c117
                rw [if_neg (show ¬ (false = true) by decide)] at H
                exact absurd ((Option.some.inj H).trans HT.out) (by decide)
              ·replace c116 := Bool.eq_false_iff.mpr c116
               subst c116
               rw [if_neg (show ¬ (false = true) by decide)] at H
               exact absurd ((Option.some.inj H).trans HT.out) (by decide)
             ·replace c114 := Bool.eq_false_iff.mpr c114
              subst c114
              rw [if_neg (show ¬ (false = true) by decide)] at H
              exact absurd ((Option.some.inj H).trans HT.out) (by decide)
            ·replace c113 := Bool.eq_false_iff.mpr c113
             subst c113
             rw [if_neg (show ¬ (false = true) by decide)] at H
             exact absurd ((Option.some.inj H).trans HT.out) (by decide)
           ·replace c111 := Bool.eq_false_iff.mpr c111
            subst c111
            rw [if_neg (show ¬ (false = true) by decide)] at H
            exact absurd ((Option.some.inj H).trans HT.out) (by decide)
      ·replace c84 := Bool.eq_false_iff.mpr c84
       subst c84
       rw [if_neg (show ¬ (false = true) by decide)] at H
       have H' := Aside0.mk H
       clear H
       as_aux_lemma =>
        go_wp2
        go_meet
        case rel => exact ⟨_, H', ⟨by have := HJ15.out; first | omega | exact Nat.le_refl _⟩, ⟨atB HB⟩⟩
     case rest => as_aux_lemma =>
      clear HC83
      try clear c1
      try clear c2
      try clear p2
      try clear c3
      try clear c4
      try clear c5
      try clear p6
      try clear p7
      try clear q7
      try clear hx7
      try clear qi7
      try clear c8
      try clear c9
      try clear c11
      try clear c12
      try clear c13
      try clear c14
      try clear c29
      try clear c29b0
      try clear c29b1
      try clear c29b2
      try clear c31
      try clear c32
      try clear c32b0
      try clear c32b1
      try clear c32b2
      try clear c34
      try clear c35
      try clear c35b0
      try clear c35b1
      try clear c35b2
      try clear c36
      try clear c37
      try clear c38
      try clear c38b0
      try clear c38b1
      try clear c38b2
      try clear c39
      try clear c40
      try clear c41
      try clear c41b0
      try clear c41b1
      try clear c41b2
      try clear c42
      try clear c43
      try clear c44
      try clear c45
      try clear c45b0
      try clear c45b1
      try clear c45b2
      try clear c46
      try clear c46b0
      try clear c46b1
      try clear c46b2
      try clear c47
      try clear c47b0
      try clear c47b1
      try clear c47b2
      try clear c48
      try clear c48b0
      try clear c48b1
      try clear c48b2
      try clear c49
      try clear c50
      try clear c50b0
      try clear c50b1
      try clear c51
      try clear c51b0
      try clear c51b1
      try clear p64
      try clear p74
      try clear q74
      try clear hx74
      try clear qi74
      try clear c82
      try clear c84
      try clear c87
      try clear c87b0
      try clear c91
      try clear c92
      try clear c93
      try clear c93b0
      try clear c93b1
      try clear c93b2
      try clear c94
      try clear c96
      try clear c98
      try clear c111
      try clear c113
      try clear c114
      try clear c116
      try clear c117
      try clear c119
      try clear c120
      try clear c121
      try clear c121b0
      try clear c121b1
      try clear c121b2
      try clear c122
      try clear c123
      try clear c125
      try clear c126
      try clear c128
      try clear c129
      try clear c130
      try clear c131
      try clear c131b0
      try clear c131b1
      try clear c147
      try clear c147b0
      try clear c147b1
      try clear hx748_0
      try clear p2
      try clear p7
      try clear p74
      try clear p748
      try clear q7
      try clear q74
      try clear q748
      obtain ⟨kq, HA, HJ82, HB⟩ := hcut
      cases kq with
      | zero => exact absurd HA.out (by simp [laws_FnDotsTurned.j2])
      | succ kj82 =>
       have H := HA.out
       clear HA
       simp only [laws_FnDotsTurned.j2] at H
       replace H := Option.bind_eq_some_iff.mp H
       obtain ⟨⟨t787, t788⟩, A1760, H⟩ := H
       (try dsimp only at H)
       have A176 := Aside0.mk A1760
       clear A1760
       replace H := Option.bind_eq_some_iff.mp H
       obtain ⟨⟨t789, t790⟩, A1770, H⟩ := H
       (try dsimp only at H)
       have A177 := Aside0.mk A1770
       clear A1770
       replace H := Option.bind_eq_some_iff.mp H
       obtain ⟨⟨t793, t794⟩, A1780, H⟩ := H
       (try dsimp only at H)
       have A178 := Aside0.mk A1780
       clear A1780
       replace H := Option.bind_eq_some_iff.mp H
       obtain ⟨⟨t797, t798⟩, A1790, H⟩ := H
       (try dsimp only at H)
       have A179 := Aside0.mk A1790
       clear A1790
       replace H := Option.bind_eq_some_iff.mp H
       obtain ⟨⟨t799, t800⟩, A1800, H⟩ := H
       (try dsimp only at H)
       have A180 := Aside0.mk A1800
       clear A1800
       replace H := Option.bind_eq_some_iff.mp H
       obtain ⟨⟨t801, t802, t803⟩, A1810, H⟩ := H
       (try dsimp only at H)
       have A181 := Aside0.mk A1810
       clear A1810
       replace H := Option.bind_eq_some_iff.mp H
       obtain ⟨⟨t804, t805⟩, A1820, H⟩ := H
       (try dsimp only at H)
       have A182 := Aside0.mk A1820
       clear A1820
       replace H := Option.bind_eq_some_iff.mp H
       obtain ⟨⟨t808, t809⟩, A1830, H⟩ := H
       (try dsimp only at H)
       have A183 := Aside0.mk A1830
       clear A1830
       have HC184 := Aside0.mk H
       clear H
       go_upto_region 47 with (first | ((with_reducible refine gate_callee (f := 49) rfl ?_); refine goesA (some 372) Try.func49 #[.slice A1 l1.length c1] ?_; (with_reducible refine (spec_DrawPowersDots.calls _ _ l1 t787 t788 _ ?side1 ?side2 A176.out).mono ?_); (case side1 => repeat (first | exact (Kd.C_below HR1.out HB.out) | (with_reducible refine Kd.C_alloc ?_ _) | (with_reducible refine Kd.C_drewN ?_ _) | (with_reducible refine Kd.C_drew ?_))); (case side2 => exact HC1.out); rintro e w185 ⟨rfl, hb⟩; refine ⟨_, rfl, ?_⟩; replace HB := upB HB hb; (try clear hb); (try clear hb2); (try clear hk); (try clear hi)) | ((with_reducible refine gate_callee (f := 50) rfl ?_); refine goesA (some 378) Try.func50 #[.int .i64 t787, .int .i64 t788] ?_; (with_reducible refine (impl_PowersDots.calls kj82 t787 t788 t789 t790 _ A177.out).mono ?_); rintro e w186 ⟨v791, rfl, ho0, hb⟩; refine ⟨_, rfl, ?_⟩; have HO792 := lowR ho0 HB; replace HB := upB HB hb; (try clear hb); (try clear hb2); (try clear hk); (try clear hi); (try clear ho0)) | ((with_reducible refine gate_callee (f := 51) rfl ?_); refine goesA (some 384) Try.func51 #[.int .i64 t787, .int .i64 t788] ?_; (with_reducible refine (spec_PowersDots.calls kj82 t787 t788 t793 t794 _ A178.out).mono ?_); rintro e w187 ⟨v795, rfl, ho0, hb⟩; refine ⟨_, rfl, ?_⟩; have HO796 := lowR ho0 HB; replace HO792 := upR HO792 hb; replace HB := upB HB hb; (try clear hb); (try clear hb2); (try clear hk); (try clear hi); (try clear ho0)) | ((with_reducible refine gate_callee (f := 52) rfl ?_); refine goesA (some 390) Try.func52 #[.int .i64 t787, .int .i64 t788] ?_; (with_reducible refine (impl_IsRoot.calls kj82 t787 t788 t797 t798 _ A179.out).mono ?_); rintro e w188 ⟨rfl, hb⟩; refine ⟨_, rfl, ?_⟩; replace HO792 := upR HO792 hb; replace HO796 := upR HO796 hb; replace HB := upB HB hb; (try clear hb); (try clear hb2); (try clear hk); (try clear hi)) | ((with_reducible refine gate_callee (f := 53) rfl ?_); refine goesA (some 396) Try.func53 #[.int .i64 t787, .int .i64 t788] ?_; (with_reducible refine (spec_IsRoot.calls kj82 t787 t788 t799 t800 _ A180.out).mono ?_); rintro e w189 ⟨rfl, hb⟩; refine ⟨_, rfl, ?_⟩; replace HO792 := upR HO792 hb; replace HO796 := upR HO796 hb; replace HB := upB HB hb; (try clear hb); (try clear hb2); (try clear hk); (try clear hi)) | ((with_reducible refine gate_callee (f := 54) rfl ?_); refine goesA (some 401) Try.func54 #[.slice A1 l1.length c1] ?_; (with_reducible refine (spec_DrawLogsDots.calls _ _ l1 t801 t802 t803 _ ?side1 ?side2 A181.out).mono ?_); (case side1 => repeat (first | exact (Kd.C_below HR1.out HB.out) | (with_reducible refine Kd.C_alloc ?_ _) | (with_reducible refine Kd.C_drewN ?_ _) | (with_reducible refine Kd.C_drew ?_))); (case side2 => exact HC1.out); rintro e w190 ⟨rfl, hb⟩; refine ⟨_, rfl, ?_⟩; replace HO792 := upR HO792 hb; replace HO796 := upR HO796 hb; replace HB := upB HB hb; (try clear hb); (try clear hb2); (try clear hk); (try clear hi)) | ((with_reducible refine gate_callee (f := 55) rfl ?_); refine goesA (some 409) Try.func55 #[.int .i64 t801, .int .i64 t802, .int .i64 t803] ?_; (with_reducible refine (impl_LogsDots.calls kj82 t801 t802 t803 t804 t805 _ A182.out).mono ?_); rintro e w191 ⟨v806, rfl, ho0, hb⟩; refine ⟨_, rfl, ?_⟩; have HO807 := lowR ho0 HB; replace HO792 := upR HO792 hb; replace HO796 := upR HO796 hb; replace HB := upB HB hb; (try clear hb); (try clear hb2); (try clear hk); (try clear hi); (try clear ho0)) | ((with_reducible refine gate_callee (f := 56) rfl ?_); refine goesA (some 416) Try.func56 #[.int .i64 t801, .int .i64 t802, .int .i64 t803] ?_; (with_reducible refine (spec_LogsDots.calls kj82 t801 t802 t803 t808 t809 _ A183.out).mono ?_); rintro e w192 ⟨v810, rfl, ho0, hb⟩; refine ⟨_, rfl, ?_⟩; have HO811 := lowR ho0 HB; replace HO792 := upR HO792 hb; replace HO796 := upR HO796 hb; replace HO807 := upR HO807 hb; replace HB := upB HB hb; (try clear hb); (try clear hb2); (try clear hk); (try clear hi); (try clear ho0)))
       (try simp only [Act.put, List.setIfInBounds_toArray, List.set_cons_zero, List.set_cons_succ])
       go_cut [456] (fun v456 wc => ∃ (kq : Nat) (x456_183 : Bool), v456 = .bool x456_183 ∧ Aside0 (laws_FnDotsTurned.j3 kq t787 t789 t790 t801 t802 t803 t804 t805 x456_183 = some r) ∧ Aside0 (kq ≤ kj82) ∧ Aside0 (Kd.R (Kd.int .i64) 3 wc w.heap.size (fun _ => True) v791 t789) ∧ Aside0 (Kd.R (Kd.int .i64) 3 wc w.heap.size (fun _ => True) v806 t804) ∧ Aside0 (Below w.heap.size w wc))
       case first => as_aux_lemma =>
        have H := HC184.out
        clear HC184
        by_cases c193 : (t790 != t794) = true
        ·rw [if_pos c193] at H
         have c193b0 : (t790 != t794) = true := c193
         (try (have c193b1 : decide (t790 = t794) = false := by simpa using c193))
         (try (have c193b2 : (t790 == t794) = false := by simpa using c193))
         (try (have c193b3 : ¬ (t790 = t794) := by simpa using c193))
         clear c193
         (first | rw [c193b0] | (simp only [i64_w, i32_w]; rw [c193b0]) | skip)
         exact absurd (H.trans (congrArg some HT.out)) (laws_FnDotsTurned.j3_no kj82 t787 t789 t790 t801 t802 t803 t804 t805)
        ·rw [if_neg c193] at H
         have c193b0 : (t790 != t794) = false := by simpa using c193
         (try (have c193b1 : decide (t790 = t794) = true := by simpa using c193))
         (try (have c193b2 : (t790 == t794) = true := by simpa using c193))
         clear c193
         (first | rw [c193b0] | (simp only [i64_w, i32_w]; rw [c193b0]) | skip)
         replace H := Option.bind_eq_some_iff.mp H
         obtain ⟨t812, A1940, H⟩ := H
         (try dsimp only at H)
         have A194 := Aside0.mk A1940
         clear A1940
         by_cases c195 : t812 = true
         ·subst c195
          rw [if_pos rfl] at H
          by_cases c196 : (t798 != t800) = true
          ·rw [if_pos c196] at H
           have c196b0 : (t798 != t800) = true := c196
           (try (have c196b1 : decide (t798 = t800) = false := by simpa using c196))
           (try (have c196b2 : (t798 == t800) = false := by simpa using c196))
           (try (have c196b3 : ¬ (t798 = t800) := by simpa using c196))
           clear c196
           exact absurd (H.trans (congrArg some HT.out)) (laws_FnDotsTurned.j3_no kj82 t787 t789 t790 t801 t802 t803 t804 t805)
          ·rw [if_neg c196] at H
           have c196b0 : (t798 != t800) = false := by simpa using c196
           (try (have c196b1 : decide (t798 = t800) = true := by simpa using c196))
           (try (have c196b2 : (t798 == t800) = true := by simpa using c196))
           clear c196
           by_cases c197 : (t797 != t799) = true
           ·rw [if_pos c197] at H
            have c197b0 : (t797 != t799) = true := c197
            (try (have c197b1 : decide (t797 = t799) = false := by simpa using c197))
            (try (have c197b2 : (t797 == t799) = false := by simpa using c197))
            (try (have c197b3 : ¬ (t797 = t799) := by simpa using c197))
            clear c197
            exact absurd (H.trans (congrArg some HT.out)) (laws_FnDotsTurned.j3_no kj82 t787 t789 t790 t801 t802 t803 t804 t805)
           ·rw [if_neg c197] at H
            have c197b0 : (t797 != t799) = false := by simpa using c197
            (try (have c197b1 : decide (t797 = t799) = true := by simpa using c197))
            (try (have c197b2 : (t797 == t799) = true := by simpa using c197))
            clear c197
            by_cases c198 : t798 = true
            ·subst c198
             obtain rfl : t800 = true := (by simpa using c196b0)
             rw [if_pos rfl] at H
             by_cases c199 : (t790 != t797) = true
             ·rw [if_pos c199] at H
              have c199b0 : (t790 != t797) = true := c199
              (try (have c199b1 : decide (t790 = t797) = false := by simpa using c199))
              (try (have c199b2 : (t790 == t797) = false := by simpa using c199))
              (try (have c199b3 : ¬ (t790 = t797) := by simpa using c199))
              clear c199
              exact absurd (H.trans (congrArg some HT.out)) (laws_FnDotsTurned.j3_no kj82 t787 t789 t790 t801 t802 t803 t804 t805)
             ·rw [if_neg c199] at H
              have c199b0 : (t790 != t797) = false := by simpa using c199
              (try (have c199b1 : decide (t790 = t797) = true := by simpa using c199))
              (try (have c199b2 : (t790 == t797) = true := by simpa using c199))
              clear c199
              by_cases c200 : (t805 != t809) = true
              ·rw [if_pos c200] at H
               have c200b0 : (t805 != t809) = true := c200
               (try (have c200b1 : decide (t805 = t809) = false := by simpa using c200))
               (try (have c200b2 : (t805 == t809) = false := by simpa using c200))
               (try (have c200b3 : ¬ (t805 = t809) := by simpa using c200))
               clear c200
               exact absurd (H.trans (congrArg some HT.out)) (laws_FnDotsTurned.j3_no kj82 t787 t789 t790 t801 t802 t803 t804 t805)
              ·rw [if_neg c200] at H
               have c200b0 : (t805 != t809) = false := by simpa using c200
               (try (have c200b1 : decide (t805 = t809) = true := by simpa using c200))
               (try (have c200b2 : (t805 == t809) = true := by simpa using c200))
               clear c200
               replace H := Option.bind_eq_some_iff.mp H
               obtain ⟨t813, A2010, H⟩ := H
               (try dsimp only at H)
               have A201 := Aside0.mk A2010
               clear A2010
               have H' := Aside0.mk H
               clear H
               obtain ⟨Ao202, co202, eo202⟩ := Kd.R_slice HO792.out
               subst eo202
               obtain ⟨Ao203, co203, eo203⟩ := Kd.R_slice HO796.out
               subst eo203
               as_aux_lemma =>
                go_wp2_with (first | (go_at_call 45; (with_reducible refine (laws_zSame.calls kj82 _ _ t789 _ _ t793 true _ ?side1 ?side2 ?side3 ?side4 A194.out).mono ?_); (case side1 => exact atRC HO792); (case side2 => exact (Kd.R_reads' HO792.out).2.1); (case side3 => exact atRC HO796); (case side4 => exact (Kd.R_reads' HO796.out).2.1); rintro e w' ⟨rfl, ⟨nd, rfl⟩⟩; obtain ⟨Ao204, co204, eo204⟩ := Kd.R_slice HO807.out; subst eo204; obtain ⟨Ao205, co205, eo205⟩ := Kd.R_slice HO811.out; subst eo205) | (go_at_call 45; (with_reducible refine (laws_zSame.calls kj82 _ _ t804 _ _ t808 t813 _ ?side1 ?side2 ?side3 ?side4 A201.out).mono ?_); (case side1 => exact atRC HO807); (case side2 => exact (Kd.R_reads' HO807.out).2.1); (case side3 => exact atRC HO811); (case side4 => exact (Kd.R_reads' HO811.out).2.1); rintro e w' ⟨rfl, ⟨nd, rfl⟩⟩))
                go_meet
                case rel => exact ⟨_, (!t813), eqd, H', ⟨by have := HJ15.out; have := HJ82.out; first | omega | exact Nat.le_refl _⟩, ⟨atR HO792⟩, ⟨atR HO807⟩, ⟨atB HB⟩⟩
            ·replace c198 := Bool.eq_false_iff.mpr c198
             subst c198
             obtain rfl : t800 = false := (by simpa using c196b0)
             rw [if_neg (show ¬ (false = true) by decide)] at H
             by_cases c206 : (t790 != false) = true
             ·rw [if_pos c206] at H
              have c206b0 : (t790 != false) = true := c206
              (try (have c206b1 : decide (t790 = false) = false := by simpa using c206))
              (try (have c206b2 : (t790 == false) = false := by simpa using c206))
              (try (have c206b3 : ¬ (t790 = false) := by simpa using c206))
              clear c206
              exact absurd (H.trans (congrArg some HT.out)) (laws_FnDotsTurned.j3_no kj82 t787 t789 t790 t801 t802 t803 t804 t805)
             ·rw [if_neg c206] at H
              have c206b0 : (t790 != false) = false := by simpa using c206
              (try (have c206b1 : decide (t790 = false) = true := by simpa using c206))
              (try (have c206b2 : (t790 == false) = true := by simpa using c206))
              clear c206
              by_cases c207 : (t805 != t809) = true
              ·rw [if_pos c207] at H
               have c207b0 : (t805 != t809) = true := c207
               (try (have c207b1 : decide (t805 = t809) = false := by simpa using c207))
               (try (have c207b2 : (t805 == t809) = false := by simpa using c207))
               (try (have c207b3 : ¬ (t805 = t809) := by simpa using c207))
               clear c207
               exact absurd (H.trans (congrArg some HT.out)) (laws_FnDotsTurned.j3_no kj82 t787 t789 t790 t801 t802 t803 t804 t805)
              ·rw [if_neg c207] at H
               have c207b0 : (t805 != t809) = false := by simpa using c207
               (try (have c207b1 : decide (t805 = t809) = true := by simpa using c207))
               (try (have c207b2 : (t805 == t809) = true := by simpa using c207))
               clear c207
               replace H := Option.bind_eq_some_iff.mp H
               obtain ⟨t814, A2080, H⟩ := H
               (try dsimp only at H)
               have A208 := Aside0.mk A2080
               clear A2080
               have H' := Aside0.mk H
               clear H
               obtain ⟨Ao209, co209, eo209⟩ := Kd.R_slice HO792.out
               subst eo209
               obtain ⟨Ao210, co210, eo210⟩ := Kd.R_slice HO796.out
               subst eo210
               as_aux_lemma =>
                go_wp2_with (first | (go_at_call 45; (with_reducible refine (laws_zSame.calls kj82 _ _ t789 _ _ t793 true _ ?side1 ?side2 ?side3 ?side4 A194.out).mono ?_); (case side1 => exact atRC HO792); (case side2 => exact (Kd.R_reads' HO792.out).2.1); (case side3 => exact atRC HO796); (case side4 => exact (Kd.R_reads' HO796.out).2.1); rintro e w' ⟨rfl, ⟨nd, rfl⟩⟩; obtain ⟨Ao211, co211, eo211⟩ := Kd.R_slice HO807.out; subst eo211; obtain ⟨Ao212, co212, eo212⟩ := Kd.R_slice HO811.out; subst eo212) | (go_at_call 45; (with_reducible refine (laws_zSame.calls kj82 _ _ t804 _ _ t808 t814 _ ?side1 ?side2 ?side3 ?side4 A208.out).mono ?_); (case side1 => exact atRC HO807); (case side2 => exact (Kd.R_reads' HO807.out).2.1); (case side3 => exact atRC HO811); (case side4 => exact (Kd.R_reads' HO811.out).2.1); rintro e w' ⟨rfl, ⟨nd, rfl⟩⟩))
                go_meet
                case rel => exact ⟨_, (!t814), eqd, H', ⟨by have := HJ15.out; have := HJ82.out; first | omega | exact Nat.le_refl _⟩, ⟨atR HO792⟩, ⟨atR HO807⟩, ⟨atB HB⟩⟩
         ·replace c195 := Bool.eq_false_iff.mpr c195
          subst c195
          rw [if_neg (show ¬ (false = true) by decide)] at H
          exact absurd (H.trans (congrArg some HT.out)) (laws_FnDotsTurned.j3_no kj82 t787 t789 t790 t801 t802 t803 t804 t805)
       case rest => as_aux_lemma =>
        clear HC184
        try clear c1
        try clear c2
        try clear p2
        try clear c3
        try clear c4
        try clear c5
        try clear p6
        try clear p7
        try clear q7
        try clear hx7
        try clear qi7
        try clear c8
        try clear c9
        try clear c11
        try clear c12
        try clear c13
        try clear c14
        try clear c19
        try clear c20
        try clear c29
        try clear c29b0
        try clear c29b1
        try clear c29b2
        try clear c31
        try clear c32
        try clear c32b0
        try clear c32b1
        try clear c32b2
        try clear c34
        try clear c35
        try clear c35b0
        try clear c35b1
        try clear c35b2
        try clear c36
        try clear c37
        try clear c38
        try clear c38b0
        try clear c38b1
        try clear c38b2
        try clear c39
        try clear c40
        try clear c41
        try clear c41b0
        try clear c41b1
        try clear c41b2
        try clear c42
        try clear c43
        try clear c44
        try clear c45
        try clear c45b0
        try clear c45b1
        try clear c45b2
        try clear c46
        try clear c46b0
        try clear c46b1
        try clear c46b2
        try clear c47
        try clear c47b0
        try clear c47b1
        try clear c47b2
        try clear c48
        try clear c48b0
        try clear c48b1
        try clear c48b2
        try clear c49
        try clear c50
        try clear c50b0
        try clear c50b1
        try clear c51
        try clear c51b0
        try clear c51b1
        try clear c52
        try clear c53
        try clear c54
        try clear c55
        try clear c56
        try clear p64
        try clear p74
        try clear q74
        try clear hx74
        try clear qi74
        try clear c82
        try clear c84
        try clear c87
        try clear c87b0
        try clear c91
        try clear c92
        try clear c93
        try clear c93b0
        try clear c93b1
        try clear c93b2
        try clear c94
        try clear c96
        try clear c98
        try clear c111
        try clear c113
        try clear c114
        try clear c116
        try clear c117
        try clear c119
        try clear c120
        try clear c121
        try clear c121b0
        try clear c121b1
        try clear c121b2
        try clear c122
        try clear c123
        try clear c125
        try clear c126
        try clear c128
        try clear c129
        try clear c130
        try clear c131
        try clear c131b0
        try clear c131b1
        try clear c147
        try clear c147b0
        try clear c147b1
        try clear c193
        try clear c193b0
        try clear c193b1
        try clear c193b2
        try clear c195
        try clear c196
        try clear c196b0
        try clear c196b1
        try clear c196b2
        try clear c197
        try clear c197b0
        try clear c197b1
        try clear c197b2
        try clear c198
        try clear c199
        try clear c199b0
        try clear c199b1
        try clear c199b2
        try clear c200
        try clear c200b0
        try clear c200b1
        try clear c200b2
        try clear c206
        try clear c206b0
        try clear c206b1
        try clear c206b2
        try clear c207
        try clear c207b0
        try clear c207b1
        try clear c207b2
        try clear hx748_0
        try clear p2
        try clear p6
        try clear p64
        try clear p7
        try clear p74
        try clear p748
        try clear q7
        try clear q74
        try clear q748
        obtain ⟨kq, x456_183, rfl, HA, HJ183, HO_50, HO_61, HB⟩ := hcut
        cases kq with
        | zero => exact absurd HA.out (by simp [laws_FnDotsTurned.j3])
        | succ kj183 =>
         have H := HA.out
         clear HA
         simp only [laws_FnDotsTurned.j3] at H
         by_cases c213 : x456_183 = true
         ·subst c213
          rw [if_pos rfl] at H
          exact absurd ((Option.some.inj H).trans HT.out) (by decide)
         ·replace c213 := Bool.eq_false_iff.mpr c213
          subst c213
          rw [if_neg (show ¬ (false = true) by decide)] at H
          have HC214 := Aside0.mk H
          clear H
          go_upto_if 457 with (fail)
          go_cut [] (fun wc => ∃ (kq : Nat), Aside0 (laws_FnDotsTurned.j4 kq t801 t802 t803 t804 t805 = some r) ∧ Aside0 (kq ≤ kj183) ∧ Aside0 (Kd.R (Kd.int .i64) 3 wc w.heap.size (fun _ => True) v806 t804) ∧ Aside0 (Below w.heap.size w wc))
          case first => as_aux_lemma =>
           have H := HC214.out
           clear HC214
           by_cases c215 : t790 = true
           ·subst c215
            rw [if_pos rfl] at H
            replace H := Option.bind_eq_some_iff.mp H
            obtain ⟨⟨t815, t816⟩, A2160, H⟩ := H
            (try dsimp only at H)
            have A216 := Aside0.mk A2160
            clear A2160
            by_cases c217 : t816 = true
            ·subst c217
             rw [if_pos rfl] at H
             by_cases c218 : t815 = true
             ·subst c218
              rw [if_pos rfl] at H
              by_cases c219 : (t789.length : Int) = (wrap64 (t787 - 1))
              ·rw [if_pos c219] at H
               have c219b0 : ((t789.length : Int) == (wrap64 (t787 - 1))) = true := beq_iff_eq.mpr c219
               have c219b1 : ((t789.length : Int) != (wrap64 (t787 - 1))) = false := bne_eq_false_iff_eq.mpr c219
               clear c219
               (first | rw [c219b0] | (simp only [i64_w, i32_w]; rw [c219b0]) | skip)
               by_cases c220 : 0 < (t789.length : Int)
               ·rw [if_pos c220] at H
                have c220b0 : decide (0 < (t789.length : Int)) = true := decide_eq_true c220
                have c220b1 : decide (0 < t789.length) = true := decide_eq_true (by omega)
                clear c220
                by_cases c221 : (rd t789 0) = 0
                ·rw [if_pos c221] at H
                 have c221b0 : ((rd t789 0) == 0) = true := beq_iff_eq.mpr c221
                 have c221b1 : ((rd t789 0) != 0) = false := bne_eq_false_iff_eq.mpr c221
                 clear c221
                 have H' := Aside0.mk H
                 clear H
                 obtain ⟨Ao222, co222, eo222⟩ := Kd.R_slice HO_50.out
                 subst eo222
                 as_aux_lemma =>
                  go_wp2_with (first | ((with_reducible refine gate_callee (f := 47) rfl ?_); refine goesA (some 460) Try.func47 #[.slice Ao222 t789.length co222] ?_; (with_reducible refine (impl_IsCostas.calls kj183 _ _ t789 true true _ ?side1 ?side2 A216.out).mono ?_); (case side1 => exact atRC HO_50); (case side2 => exact (Kd.R_reads' HO_50.out).2.1); rintro e w223 ⟨rfl, hb⟩; refine ⟨_, rfl, ?_⟩; replace HO_50 := upR HO_50 hb; replace HO_61 := upR HO_61 hb; replace HB := upB HB hb; (try clear hb); (try clear hb2); (try clear hk); (try clear hi); have p817 : 0 ≤ (0 : Int) := (by omega); have q817 : 0 < (t789.length : Int) := ofd; obtain ⟨ad817, e817, hx817_0⟩ := Kd.at_int (Kd.R_reads' HO_50.out).2.2 0 p817 q817; cases e817; have qi817 : (0 < t789.length) = True := eq_true (by omega); (try rw [show ((0 : Int)).toNat = 0 from rfl] at hx817_0); (try rw [Addr.add_zero'] at hx817_0); replace p817 := eq_true p817; replace q817 := eq_true q817))
                  go_meet
                  case rel => exact ⟨_, H', ⟨by have := HJ15.out; have := HJ82.out; have := HJ183.out; first | omega | exact Nat.le_refl _⟩, ⟨atR HO_61⟩, ⟨atB HB⟩⟩
                ·rw [if_neg c221] at H
                 have c221b0 : ((rd t789 0) == 0) = false := beq_eq_false_iff_ne.mpr c221
                 have c221b1 : ((rd t789 0) != 0) = true := bne_iff_ne.mpr c221
                 exact absurd ((Option.some.inj H).trans HT.out) (by decide)
               ·rw [if_neg c220] at H
                exact absurd H (by simp)
              ·rw [if_neg c219] at H
               have c219b0 : ((t789.length : Int) == (wrap64 (t787 - 1))) = false := beq_eq_false_iff_ne.mpr c219
               have c219b1 : ((t789.length : Int) != (wrap64 (t787 - 1))) = true := bne_iff_ne.mpr c219
               (first | rw [c219b0] | (simp only [i64_w, i32_w]; rw [c219b0]) | skip)
               exact absurd ((Option.some.inj H).trans HT.out) (by decide)
             ·replace c218 := Bool.eq_false_iff.mpr c218
              subst c218
              rw [if_neg (show ¬ (false = true) by decide)] at H
              exact absurd ((Option.some.inj H).trans HT.out) (by decide)
            ·replace c217 := Bool.eq_false_iff.mpr c217
             subst c217
             rw [if_neg (show ¬ (false = true) by decide)] at H
             exact absurd ((Option.some.inj H).trans HT.out) (by decide)
           ·replace c215 := Bool.eq_false_iff.mpr c215
            subst c215
            rw [if_neg (show ¬ (false = true) by decide)] at H
            have H' := Aside0.mk H
            clear H
            as_aux_lemma =>
             go_wp2
             go_meet
             case rel => exact ⟨_, H', ⟨by have := HJ15.out; have := HJ82.out; have := HJ183.out; first | omega | exact Nat.le_refl _⟩, ⟨atR HO_61⟩, ⟨atB HB⟩⟩
          case rest => as_aux_lemma =>
           clear HC214
           try clear c1
           try clear c2
           try clear p2
           try clear c3
           try clear c4
           try clear c5
           try clear p6
           try clear p7
           try clear q7
           try clear hx7
           try clear qi7
           try clear c8
           try clear p8
           try clear q8
           try clear hx8
           try clear qi8
           try clear c9
           try clear c11
           try clear c12
           try clear c13
           try clear c14
           try clear c19
           try clear c20
           try clear c21
           try clear c22
           try clear c29
           try clear c29b0
           try clear c29b1
           try clear c29b2
           try clear c31
           try clear c32
           try clear c32b0
           try clear c32b1
           try clear c32b2
           try clear c34
           try clear c35
           try clear c35b0
           try clear c35b1
           try clear c35b2
           try clear c36
           try clear c37
           try clear c38
           try clear c38b0
           try clear c38b1
           try clear c38b2
           try clear c39
           try clear c40
           try clear c41
           try clear c41b0
           try clear c41b1
           try clear c41b2
           try clear c42
           try clear c43
           try clear c44
           try clear c45
           try clear c45b0
           try clear c45b1
           try clear c45b2
           try clear c46
           try clear c46b0
           try clear c46b1
           try clear c46b2
           try clear c47
           try clear c47b0
           try clear c47b1
           try clear c47b2
           try clear c48
           try clear c48b0
           try clear c48b1
           try clear c48b2
           try clear c49
           try clear c50
           try clear c50b0
           try clear c50b1
           try clear c51
           try clear c51b0
           try clear c51b1
           try clear c52
           try clear c53
           try clear c54
           try clear c55
           try clear c56
           try clear p64
           try clear p74
           try clear q74
           try clear hx74
           try clear qi74
           try clear p81
           try clear q81
           try clear hx81
           try clear qi81
           try clear c82
           try clear c84
           try clear c87
           try clear c87b0
           try clear c91
           try clear c92
           try clear c93
           try clear c93b0
           try clear c93b1
           try clear c93b2
           try clear c94
           try clear c96
           try clear c98
           try clear c111
           try clear c113
           try clear c114
           try clear c116
           try clear c117
           try clear c119
           try clear c120
           try clear c121
           try clear c121b0
           try clear c121b1
           try clear c121b2
           try clear c122
           try clear c123
           try clear c125
           try clear c126
           try clear c128
           try clear c129
           try clear c130
           try clear c131
           try clear c131b0
           try clear c131b1
           try clear c147
           try clear c147b0
           try clear c147b1
           try clear c193
           try clear c193b0
           try clear c193b1
           try clear c193b2
           try clear c195
           try clear c196
           try clear c196b0
           try clear c196b1
           try clear c196b2
           try clear c197
           try clear c197b0
           try clear c197b1
           try clear c197b2
           try clear c198
           try clear c199
           try clear c199b0
           try clear c199b1
           try clear c199b2
           try clear c200
           try clear c200b0
           try clear c200b1
           try clear c200b2
           try clear c206
           try clear c206b0
           try clear c206b1
           try clear c206b2
           try clear c207
           try clear c207b0
           try clear c207b1
           try clear c207b2
           try clear c213
           try clear c215
           try clear c217
           try clear c218
           try clear c219
           try clear c219b0
           try clear c219b1
           try clear c220
           try clear c220b0
           try clear c220b1
           try clear c221
           try clear c221b0
           try clear c221b1
           try clear hx748_0
           try clear hx817_0
           try clear p2
           try clear p6
           try clear p64
           try clear p7
           try clear p74
           try clear p748
           try clear p817
           try clear q7
           try clear q74
           try clear q748
           try clear q817
           obtain ⟨kq, HA, HJ213, HO_61, HB⟩ := hcut
           cases kq with
           | zero => exact absurd HA.out (by simp [laws_FnDotsTurned.j4])
           | succ kj213 =>
            have H := HA.out
            clear HA
            simp only [laws_FnDotsTurned.j4] at H
            by_cases c224 : t805 = true
            ·subst c224
             rw [if_pos rfl] at H
             replace H := Option.bind_eq_some_iff.mp H
             obtain ⟨⟨t818, t819⟩, A2250, H⟩ := H
             (try dsimp only at H)
             have A225 := Aside0.mk A2250
             clear A2250
             replace H := Option.bind_eq_some_iff.mp H
             obtain ⟨⟨t820, t821⟩, A2260, H⟩ := H
             (try dsimp only at H)
             have A226 := Aside0.mk A2260
             clear A2260
             replace H := Option.bind_eq_some_iff.mp H
             obtain ⟨⟨t824, t825⟩, A2270, H⟩ := H
             (try dsimp only at H)
             have A227 := Aside0.mk A2270
             clear A2270
             by_cases c228 : t819 = true
             ·subst c228
              rw [if_pos rfl] at H
              by_cases c229 : t818 = true
              ·subst c229
               rw [if_pos rfl] at H
               by_cases c230 : (t804.length : Int) = (wrap64 (t801 - 2))
               ·rw [if_pos c230] at H
                have c230b0 : ((t804.length : Int) == (wrap64 (t801 - 2))) = true := beq_iff_eq.mpr c230
                have c230b1 : ((t804.length : Int) != (wrap64 (t801 - 2))) = false := bne_eq_false_iff_eq.mpr c230
                clear c230
                by_cases c231 : t821 = true
                ·subst c231
                 rw [if_pos rfl] at H
                 by_cases c232 : t825 = true
                 ·subst c232
                  rw [if_pos rfl] at H
                  replace H := Option.bind_eq_some_iff.mp H
                  obtain ⟨t828, A2330, H⟩ := H
                  (try dsimp only at H)
                  have A233 := Aside0.mk A2330
                  clear A2330
                  obtain rfl := Option.some.inj H
                  obtain ⟨Ao234, co234, eo234⟩ := Kd.R_slice HO_61.out
                  subst eo234
                  as_aux_lemma =>
                   go_wp2_with (first | ((with_reducible refine gate_callee (f := 47) rfl ?_); refine goesA (some 485) Try.func47 #[.slice Ao234 t804.length co234] ?_; (with_reducible refine (impl_IsCostas.calls kj213 _ _ t804 true true _ ?side1 ?side2 A225.out).mono ?_); (case side1 => exact atRC HO_61); (case side2 => exact (Kd.R_reads' HO_61.out).2.1); rintro e w235 ⟨rfl, hb⟩; refine ⟨_, rfl, ?_⟩; replace HO_61 := upR HO_61 hb; replace HB := upB HB hb; (try clear hb); (try clear hb2); (try clear hk); (try clear hi)) | ((with_reducible refine gate_callee (f := 55) rfl ?_); refine goesA (some 492) Try.func55 #[.int .i64 t801, .int .i64 t803, .int .i64 t802] ?_; (with_reducible refine (impl_LogsDots.calls kj213 t801 t803 t802 t820 true _ A226.out).mono ?_); rintro e w236 ⟨v822, rfl, ho0, hb⟩; refine ⟨_, rfl, ?_⟩; have HO823 := lowR ho0 HB; replace HO_61 := upR HO_61 hb; replace HB := upB HB hb; (try clear hb); (try clear hb2); (try clear hk); (try clear hi); (try clear ho0)) | ((with_reducible refine gate_callee (f := 39) rfl ?_); refine goesA (some 497) Try.func39 #[.slice Ao234 t804.length co234] ?_; (with_reducible refine (impl_CrossDots.calls kj213 _ _ t804 t824 true _ ?side1 ?side2 A227.out).mono ?_); (case side1 => exact atRC HO_61); (case side2 => exact (Kd.R_reads' HO_61.out).2.1); rintro e w237 ⟨v826, rfl, ho0, hb⟩; refine ⟨_, rfl, ?_⟩; have HO827 := lowR ho0 HB; replace HO_61 := upR HO_61 hb; replace HO823 := upR HO823 hb; replace HB := upB HB hb; (try clear hb); (try clear hb2); (try clear hk); (try clear hi); (try clear ho0); obtain ⟨Ao238, co238, eo238⟩ := Kd.R_slice HO823.out; subst eo238; obtain ⟨Ao239, co239, eo239⟩ := Kd.R_slice HO827.out; subst eo239) | (go_at_call 45; (with_reducible refine (laws_zSame.calls kj213 _ _ t820 _ _ t824 t828 _ ?side1 ?side2 ?side3 ?side4 A233.out).mono ?_); (case side1 => exact atRC HO823); (case side2 => exact (Kd.R_reads' HO823.out).2.1); (case side3 => exact atRC HO827); (case side4 => exact (Kd.R_reads' HO827.out).2.1); rintro e w' ⟨rfl, ⟨nd, rfl⟩⟩))
                   go_ret
                   exact ⟨eqr, atB HB⟩
                 ·replace c232 := Bool.eq_false_iff.mpr c232
                  subst c232
                  rw [if_neg (show ¬ (false = true) by decide)] at H
                  exact absurd ((Option.some.inj H).trans HT.out) (by decide)
                ·replace c231 := Bool.eq_false_iff.mpr c231
                 subst c231
                 rw [if_neg (show ¬ (false = true) by decide)] at H
                 exact absurd ((Option.some.inj H).trans HT.out) (by decide)
               ·rw [if_neg c230] at H
                have c230b0 : ((t804.length : Int) == (wrap64 (t801 - 2))) = false := beq_eq_false_iff_ne.mpr c230
                have c230b1 : ((t804.length : Int) != (wrap64 (t801 - 2))) = true := bne_iff_ne.mpr c230
                exact absurd ((Option.some.inj H).trans HT.out) (by decide)
              ·replace c229 := Bool.eq_false_iff.mpr c229
               subst c229
               rw [if_neg (show ¬ (false = true) by decide)] at H
               exact absurd ((Option.some.inj H).trans HT.out) (by decide)
             ·replace c228 := Bool.eq_false_iff.mpr c228
              subst c228
              rw [if_neg (show ¬ (false = true) by decide)] at H
              exact absurd ((Option.some.inj H).trans HT.out) (by decide)
            ·replace c224 := Bool.eq_false_iff.mpr c224
             subst c224
             rw [if_neg (show ¬ (false = true) by decide)] at H
             obtain rfl := Option.some.inj H
             as_aux_lemma =>
              go_wp2
              go_ret
              exact ⟨eqr, atB HB⟩

theorem laws_FnDotsTurned.walk (P : laws_FnDotsTurned.Pure) (a0 : Option Addr) (len0 cap0 : Nat) (z0 : List Int) (a1 : Option Addr) (len1 cap1 : Nat) (z1 : List Int) (w : World) (w0 : (a0 = none ∧ len0 = 0 ∧ cap0 = 0 ∧ z0 = []) ∨ ∃ x, a0 = some x ∧ len0 ≤ cap0 ∧ cap0 ≤ maxLen ∧ z0.length = cap0 ∧ (∀ i, i < z0.length → w.cell? (x.add i) = some (.int .u8 (z0.getD i 0))) ∧ ∀ n ∈ z0, (Lit.int .u8 n).wf = true) (y0 : len0 * 1 ≤ 140737488351232) (w1 : (a1 = none ∧ len1 = 0 ∧ cap1 = 0 ∧ z1 = []) ∨ ∃ x, a1 = some x ∧ len1 ≤ cap1 ∧ cap1 ≤ maxLen ∧ z1.length = cap1 ∧ (∀ i, i < z1.length → w.cell? (x.add i) = some (.int .u8 (z1.getD i 0))) ∧ ∀ n ∈ z1, (Lit.int .u8 n).wf = true) (y1 : len1 * 1 ≤ 140737488351232) :
  Calls Try.prog 4 #[.slice a0 len0 cap0, .slice a1 len1 cap1] w fun e w' => e = .returned (.bool true) ∧ Below w.heap.size w w' := by
 obtain ⟨l0, rfl, hr0, hm0, hw0, hc0⟩ := ReadsInt.ofRowC w0
 obtain ⟨l1, rfl, hr1, hm1, hw1, hc1⟩ := ReadsInt.ofRowC w1
 obtain ⟨k, h⟩ := P l0 l1 hm0 y0 hw0 hm1 y1 hw1
 refine (laws_FnDotsTurned.calls k _ _ l0 _ _ l1 true w (Kd.C_of_reads (d := (0 : Int)) (h1 := fun _ => rfl) hr0) hc0 (Kd.C_of_reads (d := (0 : Int)) (h1 := fun _ => rfl) hr1) hc1 rfl h).mono ?_
 rintro e w' ⟨rfl, hd⟩
 exact ⟨rfl, hd⟩

end Go.Proofs.Ytadhfbchilaklaa.Fn
