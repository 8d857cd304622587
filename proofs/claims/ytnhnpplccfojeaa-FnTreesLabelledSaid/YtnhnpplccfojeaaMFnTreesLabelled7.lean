/- The machine's side and plain lemmas for FnTreesLabelled: texts of this session, merged by its program (part 7). -/
import Derived.Test.YtnhnpplccfojeaaMFnTreesLabelled0
import Derived.Test.YtnhnpplccfojeaaMFnTreesLabelled1
import Derived.Test.YtnhnpplccfojeaaMFnTreesLabelled2
import Derived.Test.YtnhnpplccfojeaaMFnTreesLabelled3
import Derived.Test.YtnhnpplccfojeaaMFnTreesLabelled4
import Derived.Test.YtnhnpplccfojeaaMFnTreesLabelled5
import Derived.Test.YtnhnpplccfojeaaMFnTreesLabelled6
set_option maxHeartbeats 80000000
set_option maxRecDepth 100000
namespace Go.Proofs.Ytnhnpplccfojeaa.Fn
open Go.RowKit Go.Proofs.YtnhnpplccfojeaaW.PrintWords Go.Proofs.YtnhnpplccfojeaaW.PrintLast Go.Proofs.YtnhnpplccfojeaaW.PrintMore
attribute [local go_sem] max2_int min2_int max_two min_two max_three min_three max_four min_four
set_option linter.unusedVariables false
set_option linter.unusedSimpArgs false
theorem Zaa.calls (k : Nat) (A0 : Option Addr) (c0 : Nat) (l0 : List Int) (A1 : Option Addr) (c1 : Nat) (l1 : List Int) (r : Bool) (w : World) (hr0 : Kd.C (Kd.int .u8) w A0 l0.length l0) (hc0 : l0.length ≤ c0) (hr1 : Kd.C (Kd.int .u8) w A1 l1.length l1) (hc1 : l1.length ≤ c1) (ht_ : r = true) (h : Zaa.f k l0 l1 = some r) :
  Calls Try.prog 3 #[.slice A0 l0.length c0, .slice A1 l1.length c1] w fun e w' => e = .returned (.bool r) ∧ Below w.heap.size w w' := by
 have HR0 := Aside0.mk hr0
 have HC0 := Aside0.mk hc0
 clear hr0 hc0
 have HR1 := Aside0.mk hr1
 have HC1 := Aside0.mk hc1
 clear hr1 hc1
 have HB := Aside0.mk (Below.refl w.heap.size w)
 have H := h
 unfold Zaa.f at H
 clear h
 have HT := Aside0.mk ht_
 clear ht_
 replace H := bs_ H
 obtain ⟨t339, A3, H⟩ := H
 (try dsimp only at H)
 by_cases c4 : t339 = true
 ·subst c4
  rw [if_pos rfl] at H
  obtain rfl := Option.some.inj H
  go_enter Try.func3, Try.ntmps3
  go_wp2_with (first | ((with_reducible refine gate_callee (f := 6) rfl ?_); refine goesA (some 55) Try.func6 #[.slice A0 l0.length c0, .slice A1 l1.length c1] ?_; (with_reducible refine (Zby.calls _ _ l0 _ _ l1 true _ ?side1 ?side2 ?side3 ?side4 A3.out).mono ?_); (case side1 => repeat (first | exact HR0.out | (with_reducible refine Kd.C_alloc ?_ _) | (with_reducible refine Kd.C_drewN ?_ _) | (with_reducible refine Kd.C_drew ?_))); (case side2 => exact HC0.out); (case side3 => repeat (first | exact HR1.out | (with_reducible refine Kd.C_alloc ?_ _) | (with_reducible refine Kd.C_drewN ?_ _) | (with_reducible refine Kd.C_drew ?_))); (case side4 => exact HC1.out); rintro e w' ⟨rfl, ⟨nd, rfl⟩⟩; refine ⟨_, rfl, ?_⟩))
  go_ret
  exact ⟨eqr, atB HB⟩
 replace c4 := Bool.eq_false_iff.mpr c4
 subst c4
 rw [if_neg (show ¬ (false = true) by decide)] at H
 replace H := Option.bind_eq_some_iff.mp H
 obtain ⟨⟨t340, t341⟩, A50, H⟩ := H
 (try dsimp only at H)
 have A5 := Aside0.mk A50
 clear A50
 replace H := Option.bind_eq_some_iff.mp H
 obtain ⟨⟨t346, t347⟩, A60, H⟩ := H
 (try dsimp only at H)
 have A6 := Aside0.mk A60
 clear A60
 replace H := Option.bind_eq_some_iff.mp H
 obtain ⟨⟨t348, t349⟩, A70, H⟩ := H
 (try dsimp only at H)
 have A7 := Aside0.mk A70
 clear A70
 replace H := Option.bind_eq_some_iff.mp H
 obtain ⟨⟨t350, t351⟩, A80, H⟩ := H
 (try dsimp only at H)
 have A8 := Aside0.mk A80
 clear A80
 replace H := Option.bind_eq_some_iff.mp H
 obtain ⟨⟨t354, t355⟩, A90, H⟩ := H
 (try dsimp only at H)
 have A9 := Aside0.mk A90
 clear A90
 replace H := Option.bind_eq_some_iff.mp H
 obtain ⟨⟨t358, t359⟩, A100, H⟩ := H
 (try dsimp only at H)
 have A10 := Aside0.mk A100
 clear A100
 replace H := Option.bind_eq_some_iff.mp H
 obtain ⟨⟨t360, t361⟩, A110, H⟩ := H
 (try dsimp only at H)
 have A11 := Aside0.mk A110
 clear A110
 replace H := Option.bind_eq_some_iff.mp H
 obtain ⟨⟨t362, t363⟩, A120, H⟩ := H
 (try dsimp only at H)
 have A12 := Aside0.mk A120
 clear A120
 replace H := Option.bind_eq_some_iff.mp H
 obtain ⟨⟨t364, t365⟩, A130, H⟩ := H
 (try dsimp only at H)
 have A13 := Aside0.mk A130
 clear A130
 replace H := Option.bind_eq_some_iff.mp H
 obtain ⟨⟨t366, t367⟩, A140, H⟩ := H
 (try dsimp only at H)
 have A14 := Aside0.mk A140
 clear A140
 replace H := Option.bind_eq_some_iff.mp H
 obtain ⟨⟨t370, t371⟩, A150, H⟩ := H
 (try dsimp only at H)
 have A15 := Aside0.mk A150
 clear A150
 have HC16 := Aside0.mk H
 clear H
 go_enter Try.func3, Try.ntmps3
 go_upto_region 14 with (first | ((with_reducible refine gate_callee (f := 6) rfl ?_); refine goesA (some 55) Try.func6 #[.slice A0 l0.length c0, .slice A1 l1.length c1] ?_; (with_reducible refine (Zby.calls _ _ l0 _ _ l1 false _ ?side1 ?side2 ?side3 ?side4 A3.out).mono ?_); (case side1 => repeat (first | exact HR0.out | (with_reducible refine Kd.C_alloc ?_ _) | (with_reducible refine Kd.C_drewN ?_ _) | (with_reducible refine Kd.C_drew ?_))); (case side2 => exact HC0.out); (case side3 => repeat (first | exact HR1.out | (with_reducible refine Kd.C_alloc ?_ _) | (with_reducible refine Kd.C_drewN ?_ _) | (with_reducible refine Kd.C_drew ?_))); (case side4 => exact HC1.out); rintro e w' ⟨rfl, ⟨nd, rfl⟩⟩; refine ⟨_, rfl, ?_⟩) | ((with_reducible refine gate_callee (f := 7) rfl ?_); refine goesA (some 58) Try.func7 #[.slice A0 l0.length c0] ?_; (with_reducible refine (Zbe.calls k _ _ l0 t340 t341 _ ?side1 ?side2 A5.out).mono ?_); (case side1 => repeat (first | exact HR0.out | (with_reducible refine Kd.C_alloc ?_ _) | (with_reducible refine Kd.C_drewN ?_ _) | (with_reducible refine Kd.C_drew ?_))); (case side2 => exact HC0.out); rintro e w17 ⟨v342, v344, rfl, ho0, ho1, hb⟩; refine ⟨_, rfl, ?_⟩; have HO343 := lowR ho0 HB; have HO345 := lowR ho1 HB; replace HB := upB HB hb; obtain ⟨Ao18, co18, eo18⟩ := Kd.R_slice HO343.out; subst eo18; obtain ⟨Ao19, co19, eo19⟩ := Kd.R_slice HO345.out; subst eo19) | ((with_reducible refine gate_callee (f := 8) rfl ?_); refine goesA (some 64) Try.func8 #[.slice Ao18 t340.length co18, .slice Ao19 t341.length co19] ?_; (with_reducible refine (Zat.calls k _ _ t340 _ _ t341 t346 t347 _ ?side1 ?side2 ?side3 ?side4 A6.out).mono ?_); (case side1 => exact atRC HO343); (case side2 => exact (Kd.R_reads' HO343.out).2.1); (case side3 => exact atRC HO345); (case side4 => exact (Kd.R_reads' HO345.out).2.1); rintro e w20 ⟨rfl, hb⟩; refine ⟨_, rfl, ?_⟩; replace HO343 := upR HO343 hb; replace HO345 := upR HO345 hb; replace HB := upB HB hb) | ((with_reducible refine gate_callee (f := 9) rfl ?_); refine goesA (some 70) Try.func9 #[.slice Ao18 t340.length co18, .slice Ao19 t341.length co19] ?_; (with_reducible refine (Zbj.calls k _ _ t340 _ _ t341 t348 t349 _ ?side1 ?side2 ?side3 ?side4 A7.out).mono ?_); (case side1 => exact atRC HO343); (case side2 => exact (Kd.R_reads' HO343.out).2.1); (case side3 => exact atRC HO345); (case side4 => exact (Kd.R_reads' HO345.out).2.1); rintro e w21 ⟨rfl, hb⟩; refine ⟨_, rfl, ?_⟩; replace HO343 := upR HO343 hb; replace HO345 := upR HO345 hb; replace HB := upB HB hb) | ((with_reducible refine gate_callee (f := 10) rfl ?_); refine goesA (some 76) Try.func10 #[.slice Ao18 t340.length co18, .slice Ao19 t341.length co19] ?_; (with_reducible refine (Zbc.calls k _ _ t340 _ _ t341 t350 t351 _ ?side1 ?side2 ?side3 ?side4 A8.out).mono ?_); (case side1 => exact atRC HO343); (case side2 => exact (Kd.R_reads' HO343.out).2.1); (case side3 => exact atRC HO345); (case side4 => exact (Kd.R_reads' HO345.out).2.1); rintro e w22 ⟨v352, rfl, ho0, hb⟩; refine ⟨_, rfl, ?_⟩; have HO353 := lowR ho0 HB; replace HO343 := upR HO343 hb; replace HO345 := upR HO345 hb; replace HB := upB HB hb) | ((with_reducible refine gate_callee (f := 11) rfl ?_); refine goesA (some 82) Try.func11 #[.slice Ao18 t340.length co18, .slice Ao19 t341.length co19] ?_; (with_reducible refine (Zbi.calls k _ _ t340 _ _ t341 t354 t355 _ ?side1 ?side2 ?side3 ?side4 A9.out).mono ?_); (case side1 => exact atRC HO343); (case side2 => exact (Kd.R_reads' HO343.out).2.1); (case side3 => exact atRC HO345); (case side4 => exact (Kd.R_reads' HO345.out).2.1); rintro e w23 ⟨v356, rfl, ho0, hb⟩; refine ⟨_, rfl, ?_⟩; have HO357 := lowR ho0 HB; replace HO343 := upR HO343 hb; replace HO345 := upR HO345 hb; replace HO353 := upR HO353 hb; replace HB := upB HB hb) | ((with_reducible refine gate_callee (f := 12) rfl ?_); refine goesA (some 88) Try.func12 #[.slice Ao18 t340.length co18, .slice Ao19 t341.length co19] ?_; (with_reducible refine (Zbn.calls k _ _ t340 _ _ t341 t358 t359 _ ?side1 ?side2 ?side3 ?side4 A10.out).mono ?_); (case side1 => exact atRC HO343); (case side2 => exact (Kd.R_reads' HO343.out).2.1); (case side3 => exact atRC HO345); (case side4 => exact (Kd.R_reads' HO345.out).2.1); rintro e w' ⟨rfl, ⟨nd, rfl⟩⟩; refine ⟨_, rfl, ?_⟩; (try (rw [drewN_self w23]; generalize hq_ : World.drewN w23 _ = w23; have n0_ : Aside0 (Kd.R (Kd.int .i64) 3 w23 w.heap.size (fun _ => True) (.slice Ao18 t340.length co18) t340) := ⟨by rw [← hq_]; exact (atR HO343)⟩; have n1_ : Aside0 (Kd.R (Kd.int .i64) 3 w23 w.heap.size (fun _ => True) (.slice Ao19 t341.length co19) t341) := ⟨by rw [← hq_]; exact (atR HO345)⟩; have n2_ : Aside0 (Kd.R (Kd.int .i64) 3 w23 w.heap.size (fun _ => True) v352 t350) := ⟨by rw [← hq_]; exact (atR HO353)⟩; have n3_ : Aside0 (Kd.R (Kd.int .i64) 3 w23 w.heap.size (fun _ => True) v356 t354) := ⟨by rw [← hq_]; exact (atR HO357)⟩; have n4_ : Aside0 (Below w.heap.size w w23) := ⟨by rw [← hq_]; exact (atB HB)⟩; clear HO343 HO345 HO353 HO357 HB hq_; have HO343 := n0_; have HO345 := n1_; have HO353 := n2_; have HO357 := n3_; have HB := n4_; clear n0_ n1_ n2_ n3_ n4_))) | ((with_reducible refine gate_callee (f := 13) rfl ?_); refine goesA (some 94) Try.func13 #[.slice Ao18 t340.length co18, .slice Ao19 t341.length co19] ?_; (with_reducible refine (Zbm.calls k _ _ t340 _ _ t341 t360 t361 _ ?side1 ?side2 ?side3 ?side4 A11.out).mono ?_); (case side1 => exact atRC HO343); (case side2 => exact (Kd.R_reads' HO343.out).2.1); (case side3 => exact atRC HO345); (case side4 => exact (Kd.R_reads' HO345.out).2.1); rintro e w' ⟨rfl, ⟨nd, rfl⟩⟩; refine ⟨_, rfl, ?_⟩; (try (rw [drewN_self w23]; generalize hq_ : World.drewN w23 _ = w23; have n0_ : Aside0 (Kd.R (Kd.int .i64) 3 w23 w.heap.size (fun _ => True) (.slice Ao18 t340.length co18) t340) := ⟨by rw [← hq_]; exact (atR HO343)⟩; have n1_ : Aside0 (Kd.R (Kd.int .i64) 3 w23 w.heap.size (fun _ => True) (.slice Ao19 t341.length co19) t341) := ⟨by rw [← hq_]; exact (atR HO345)⟩; have n2_ : Aside0 (Kd.R (Kd.int .i64) 3 w23 w.heap.size (fun _ => True) v352 t350) := ⟨by rw [← hq_]; exact (atR HO353)⟩; have n3_ : Aside0 (Kd.R (Kd.int .i64) 3 w23 w.heap.size (fun _ => True) v356 t354) := ⟨by rw [← hq_]; exact (atR HO357)⟩; have n4_ : Aside0 (Below w.heap.size w w23) := ⟨by rw [← hq_]; exact (atB HB)⟩; clear HO343 HO345 HO353 HO357 HB hq_; have HO343 := n0_; have HO345 := n1_; have HO353 := n2_; have HO357 := n3_; have HB := n4_; clear n0_ n1_ n2_ n3_ n4_))) | ((with_reducible refine gate_callee (f := 14) rfl ?_); refine goesA (some 100) Try.func14 #[.slice Ao18 t340.length co18, .slice Ao19 t341.length co19] ?_; (with_reducible refine (Zad.calls k _ _ t340 _ _ t341 t362 t363 _ ?side1 ?side2 ?side3 ?side4 A12.out).mono ?_); (case side1 => exact atRC HO343); (case side2 => exact (Kd.R_reads' HO343.out).2.1); (case side3 => exact atRC HO345); (case side4 => exact (Kd.R_reads' HO345.out).2.1); rintro e w24 ⟨rfl, hb⟩; refine ⟨_, rfl, ?_⟩; replace HO343 := upR HO343 hb; replace HO345 := upR HO345 hb; replace HO353 := upR HO353 hb; replace HO357 := upR HO357 hb; replace HB := upB HB hb) | ((with_reducible refine gate_callee (f := 15) rfl ?_); refine goesA (some 106) Try.func15 #[.slice Ao18 t340.length co18, .slice Ao19 t341.length co19] ?_; (with_reducible refine (Zaf.calls k _ _ t340 _ _ t341 t364 t365 _ ?side1 ?side2 ?side3 ?side4 A13.out).mono ?_); (case side1 => exact atRC HO343); (case side2 => exact (Kd.R_reads' HO343.out).2.1); (case side3 => exact atRC HO345); (case side4 => exact (Kd.R_reads' HO345.out).2.1); rintro e w25 ⟨rfl, hb⟩; refine ⟨_, rfl, ?_⟩; replace HO343 := upR HO343 hb; replace HO345 := upR HO345 hb; replace HO353 := upR HO353 hb; replace HO357 := upR HO357 hb; replace HB := upB HB hb) | ((with_reducible refine gate_callee (f := 16) rfl ?_); refine goesA (some 111) Try.func16 #[.slice Ao18 t340.length co18] ?_; (with_reducible refine (Zap.calls k _ _ t340 t366 t367 _ ?side1 ?side2 A14.out).mono ?_); (case side1 => exact atRC HO343); (case side2 => exact (Kd.R_reads' HO343.out).2.1); rintro e w26 ⟨v368, rfl, ho0, hb⟩; refine ⟨_, rfl, ?_⟩; have HO369 := lowS ho0 HB; replace HO343 := upR HO343 hb; replace HO345 := upR HO345 hb; replace HO353 := upR HO353 hb; replace HO357 := upR HO357 hb; replace HB := upB HB hb) | ((with_reducible refine gate_callee (f := 17) rfl ?_); refine goesA (some 116) Try.func17 #[.slice Ao18 t340.length co18] ?_; (with_reducible refine (Zao.calls k _ _ t340 t370 t371 _ ?side1 ?side2 A15.out).mono ?_); (case side1 => exact atRC HO343); (case side2 => exact (Kd.R_reads' HO343.out).2.1); rintro e w27 ⟨v372, rfl, ho0, hb⟩; refine ⟨_, rfl, ?_⟩; have HO373 := lowS ho0 HB; replace HO343 := upR HO343 hb; replace HO345 := upR HO345 hb; replace HO353 := upR HO353 hb; replace HO357 := upR HO357 hb; replace HO369 := upS HO369 hb; replace HB := upB HB hb))
 (try simp only [Act.put, List.setIfInBounds_toArray, List.set_cons_zero, List.set_cons_succ])
 go_cut [209] (fun v209 wc => ∃ (kq : Nat) (x209_15 : Bool), v209 = .bool x209_15 ∧ Aside0 (Zaa.j0 kq l1 t340 t341 t346 t347 t350 t362 t363 t366 t367 x209_15 = some r) ∧ Aside0 (kq ≤ k) ∧ Aside0 (Kd.R (Kd.int .i64) 3 wc w.heap.size (fun _ => True) (.slice Ao18 t340.length co18) t340) ∧ Aside0 (Kd.R (Kd.int .i64) 3 wc w.heap.size (fun _ => True) (.slice Ao19 t341.length co19) t341) ∧ Aside0 (Kd.R (Kd.int .i64) 3 wc w.heap.size (fun _ => True) v352 t350) ∧ Aside0 (Kd.S (Kd.slice 3 (Kd.int .i64)) 24 wc w.heap.size (fun _ => True) v368 t366) ∧ Aside0 (Below w.heap.size w wc))
 case first => as_aux_lemma =>
  have H := HC16.out
  clear HC16
  by_cases c28 : (t347 != t349) = true
  ·rw [if_pos c28] at H
   have c28b0 : (t347 != t349) = true := c28
   (try (have c28b1 : decide (t347 = t349) = false := by simpa using c28))
   (try (have c28b2 : (t347 == t349) = false := by simpa using c28))
   (try (have c28b3 : ¬ (t347 = t349) := by simpa using c28))
   clear c28
   (first | rw [c28b0] | (simp only [i64_w, i32_w]; rw [c28b0]) | skip)
   exact absurd (H.trans (congrArg some HT.out)) (Zaa.j0_no k l1 t340 t341 t346 t347 t350 t362 t363 t366 t367)
  rw [if_neg c28] at H
  have c28b0 : (t347 != t349) = false := by simpa using c28
  (try (have c28b1 : decide (t347 = t349) = true := by simpa using c28))
  (try (have c28b2 : (t347 == t349) = true := by simpa using c28))
  clear c28
  (first | rw [c28b0] | (simp only [i64_w, i32_w]; rw [c28b0]) | skip)
  by_cases c29 : (t346 != t348) = true
  ·rw [if_pos c29] at H
   have c29b0 : (t346 != t348) = true := c29
   (try (have c29b1 : decide (t346 = t348) = false := by simpa using c29))
   (try (have c29b2 : (t346 == t348) = false := by simpa using c29))
   (try (have c29b3 : ¬ (t346 = t348) := by simpa using c29))
   clear c29
   exact absurd (H.trans (congrArg some HT.out)) (Zaa.j0_no k l1 t340 t341 t346 t347 t350 t362 t363 t366 t367)
  rw [if_neg c29] at H
  have c29b0 : (t346 != t348) = false := by simpa using c29
  (try (have c29b1 : decide (t346 = t348) = true := by simpa using c29))
  (try (have c29b2 : (t346 == t348) = true := by simpa using c29))
  clear c29
  by_cases c30 : (t351 != t355) = true
  ·rw [if_pos c30] at H
   have c30b0 : (t351 != t355) = true := c30
   (try (have c30b1 : decide (t351 = t355) = false := by simpa using c30))
   (try (have c30b2 : (t351 == t355) = false := by simpa using c30))
   (try (have c30b3 : ¬ (t351 = t355) := by simpa using c30))
   clear c30
   exact absurd (H.trans (congrArg some HT.out)) (Zaa.j0_no k l1 t340 t341 t346 t347 t350 t362 t363 t366 t367)
  rw [if_neg c30] at H
  have c30b0 : (t351 != t355) = false := by simpa using c30
  (try (have c30b1 : decide (t351 = t355) = true := by simpa using c30))
  (try (have c30b2 : (t351 == t355) = true := by simpa using c30))
  clear c30
  replace H := bs_ H
  obtain ⟨t374, A31, H⟩ := H
  (try dsimp only at H)
  by_cases c32 : t374 = true
  rotate_left
  ·replace c32 := Bool.eq_false_iff.mpr c32
   subst c32
   rw [if_neg (show ¬ (false = true) by decide)] at H
   exact absurd (H.trans (congrArg some HT.out)) (Zaa.j0_no k l1 t340 t341 t346 t347 t350 t362 t363 t366 t367)
  subst c32
  rw [if_pos rfl] at H
  by_cases c33 : (t359 != t361) = true
  ·rw [if_pos c33] at H
   have c33b0 : (t359 != t361) = true := c33
   (try (have c33b1 : decide (t359 = t361) = false := by simpa using c33))
   (try (have c33b2 : (t359 == t361) = false := by simpa using c33))
   (try (have c33b3 : ¬ (t359 = t361) := by simpa using c33))
   clear c33
   exact absurd (H.trans (congrArg some HT.out)) (Zaa.j0_no k l1 t340 t341 t346 t347 t350 t362 t363 t366 t367)
  rw [if_neg c33] at H
  have c33b0 : (t359 != t361) = false := by simpa using c33
  (try (have c33b1 : decide (t359 = t361) = true := by simpa using c33))
  (try (have c33b2 : (t359 == t361) = true := by simpa using c33))
  clear c33
  by_cases c34 : (t358 != t360) = true
  ·rw [if_pos c34] at H
   have c34b0 : (t358 != t360) = true := c34
   (try (have c34b1 : decide (t358 = t360) = false := by simpa using c34))
   (try (have c34b2 : (t358 == t360) = false := by simpa using c34))
   (try (have c34b3 : ¬ (t358 = t360) := by simpa using c34))
   clear c34
   exact absurd (H.trans (congrArg some HT.out)) (Zaa.j0_no k l1 t340 t341 t346 t347 t350 t362 t363 t366 t367)
  rw [if_neg c34] at H
  have c34b0 : (t358 != t360) = false := by simpa using c34
  (try (have c34b1 : decide (t358 = t360) = true := by simpa using c34))
  (try (have c34b2 : (t358 == t360) = true := by simpa using c34))
  clear c34
  by_cases c35 : (t363 != t365) = true
  ·rw [if_pos c35] at H
   have c35b0 : (t363 != t365) = true := c35
   (try (have c35b1 : decide (t363 = t365) = false := by simpa using c35))
   (try (have c35b2 : (t363 == t365) = false := by simpa using c35))
   (try (have c35b3 : ¬ (t363 = t365) := by simpa using c35))
   clear c35
   exact absurd (H.trans (congrArg some HT.out)) (Zaa.j0_no k l1 t340 t341 t346 t347 t350 t362 t363 t366 t367)
  rw [if_neg c35] at H
  have c35b0 : (t363 != t365) = false := by simpa using c35
  (try (have c35b1 : decide (t363 = t365) = true := by simpa using c35))
  (try (have c35b2 : (t363 == t365) = true := by simpa using c35))
  clear c35
  by_cases c36 : t362 = t364
  rotate_left
  ·rw [if_neg c36] at H
   have c36b0 : (t362 == t364) = false := beq_eq_false_iff_ne.mpr c36
   have c36b1 : (t362 != t364) = true := bne_iff_ne.mpr c36
   exact absurd (H.trans (congrArg some HT.out)) (Zaa.j0_no k l1 t340 t341 t346 t347 t350 t362 t363 t366 t367)
  rw [if_pos c36] at H
  have c36b0 : (t362 == t364) = true := beq_iff_eq.mpr c36
  have c36b1 : (t362 != t364) = false := bne_eq_false_iff_eq.mpr c36
  clear c36
  by_cases c37 : (t367 != t371) = true
  ·rw [if_pos c37] at H
   have c37b0 : (t367 != t371) = true := c37
   (try (have c37b1 : decide (t367 = t371) = false := by simpa using c37))
   (try (have c37b2 : (t367 == t371) = false := by simpa using c37))
   (try (have c37b3 : ¬ (t367 = t371) := by simpa using c37))
   clear c37
   exact absurd (H.trans (congrArg some HT.out)) (Zaa.j0_no k l1 t340 t341 t346 t347 t350 t362 t363 t366 t367)
  rw [if_neg c37] at H
  have c37b0 : (t367 != t371) = false := by simpa using c37
  (try (have c37b1 : decide (t367 = t371) = true := by simpa using c37))
  (try (have c37b2 : (t367 == t371) = true := by simpa using c37))
  clear c37
  replace H := bs_ H
  obtain ⟨t375, A38, H⟩ := H
  (try dsimp only at H)
  by_cases c39 : t375 = true
  rotate_left
  ·replace c39 := Bool.eq_false_iff.mpr c39
   subst c39
   rw [if_neg (show ¬ (false = true) by decide)] at H
   exact absurd (H.trans (congrArg some HT.out)) (Zaa.j0_no k l1 t340 t341 t346 t347 t350 t362 t363 t366 t367)
  subst c39
  rw [if_pos rfl] at H
  replace H := bs_ H
  obtain ⟨t376, A40, H⟩ := H
  (try dsimp only at H)
  by_cases c41 : (t359 != t376) = true
  ·rw [if_pos c41] at H
   have c41b0 : (t359 != t376) = true := c41
   (try (have c41b1 : decide (t359 = t376) = false := by simpa using c41))
   (try (have c41b2 : (t359 == t376) = false := by simpa using c41))
   (try (have c41b3 : ¬ (t359 = t376) := by simpa using c41))
   clear c41
   exact absurd (H.trans (congrArg some HT.out)) (Zaa.j0_no k l1 t340 t341 t346 t347 t350 t362 t363 t366 t367)
  rw [if_neg c41] at H
  have c41b0 : (t359 != t376) = false := by simpa using c41
  (try (have c41b1 : decide (t359 = t376) = true := by simpa using c41))
  (try (have c41b2 : (t359 == t376) = true := by simpa using c41))
  clear c41
  replace H := Option.bind_eq_some_iff.mp H
  obtain ⟨t377, A420, H⟩ := H
  (try dsimp only at H)
  have A42 := Aside0.mk A420
  have e_ : t376 = t377 := Option.some.inj (A40.out.symm.trans A42.out)
  subst e_
  clear A420
  replace H := bs_ H
  obtain ⟨t378, A43, H⟩ := H
  (try dsimp only at H)
  by_cases c44 : (t376 != t378) = true
  ·rw [if_pos c44] at H
   have c44b0 : (t376 != t378) = true := c44
   (try (have c44b1 : decide (t376 = t378) = false := by simpa using c44))
   (try (have c44b2 : (t376 == t378) = false := by simpa using c44))
   (try (have c44b3 : ¬ (t376 = t378) := by simpa using c44))
   clear c44
   exact absurd (H.trans (congrArg some HT.out)) (Zaa.j0_no k l1 t340 t341 t346 t347 t350 t362 t363 t366 t367)
  rw [if_neg c44] at H
  have c44b0 : (t376 != t378) = false := by simpa using c44
  (try (have c44b1 : decide (t376 = t378) = true := by simpa using c44))
  (try (have c44b2 : (t376 == t378) = true := by simpa using c44))
  clear c44
  by_cases c45 : t359 = true
  ·subst c45
   obtain rfl : t361 = true := (by simpa using c33b0)
   obtain rfl : t376 = true := (by simpa using c41b0)
   obtain rfl : t378 = true := (by simpa using c44b0)
   rw [if_pos rfl] at H
   by_cases c46 : (t347 != t358) = true
   ·rw [if_pos c46] at H
    have c46b0 : (t347 != t358) = true := c46
    (try (have c46b1 : decide (t347 = t358) = false := by simpa using c46))
    (try (have c46b2 : (t347 == t358) = false := by simpa using c46))
    (try (have c46b3 : ¬ (t347 = t358) := by simpa using c46))
    clear c46
    exact absurd (H.trans (congrArg some HT.out)) (Zaa.j0_no k l1 t340 t341 t346 t347 t350 t362 t363 t366 t367)
   rw [if_neg c46] at H
   have c46b0 : (t347 != t358) = false := by simpa using c46
   (try (have c46b1 : decide (t347 = t358) = true := by simpa using c46))
   (try (have c46b2 : (t347 == t358) = true := by simpa using c46))
   clear c46
   by_cases c47 : (t351 != t347) = true
   ·rw [if_pos c47] at H
    have c47b0 : (t351 != t347) = true := c47
    (try (have c47b1 : decide (t351 = t347) = false := by simpa using c47))
    (try (have c47b2 : (t351 == t347) = false := by simpa using c47))
    (try (have c47b3 : ¬ (t351 = t347) := by simpa using c47))
    clear c47
    exact absurd (H.trans (congrArg some HT.out)) (Zaa.j0_no k l1 t340 t341 t346 t347 t350 t362 t363 t366 t367)
   rw [if_neg c47] at H
   have c47b0 : (t351 != t347) = false := by simpa using c47
   (try (have c47b1 : decide (t351 = t347) = true := by simpa using c47))
   (try (have c47b2 : (t351 == t347) = true := by simpa using c47))
   clear c47
   by_cases c48 : (t367 != true) = true
   ·rw [if_pos c48] at H
    have c48b0 : (t367 != true) = true := c48
    (try (have c48b1 : decide (t367 = true) = false := by simpa using c48))
    (try (have c48b2 : (t367 == true) = false := by simpa using c48))
    (try (have c48b3 : ¬ (t367 = true) := by simpa using c48))
    clear c48
    exact absurd (H.trans (congrArg some HT.out)) (Zaa.j0_no k l1 t340 t341 t346 t347 t350 t362 t363 t366 t367)
   rw [if_neg c48] at H
   have c48b0 : (t367 != true) = false := by simpa using c48
   (try (have c48b1 : decide (t367 = true) = true := by simpa using c48))
   (try (have c48b2 : (t367 == true) = true := by simpa using c48))
   clear c48
   by_cases c49 : t363 = true
   ·subst c49
    obtain rfl : t365 = true := (by simpa using c35b0)
    rw [if_pos rfl] at H
    by_cases c50 : t347 = true
    ·subst c50
     obtain rfl : t349 = true := (by simpa using c28b0)
     obtain rfl : t358 = true := (by simpa using c46b0)
     obtain rfl : t351 = true := (by simpa using c47b0)
     rw [if_pos rfl] at H
     have H' := Aside0.mk H
     clear H
     obtain ⟨Ao51, co51, eo51⟩ := Kd.R_slice HO353.out
     subst eo51
     obtain ⟨Ao52, co52, eo52⟩ := Kd.R_slice HO357.out
     subst eo52
     as_aux_lemma =>
      go_wp2_with (first | (go_at_call 18; (with_reducible refine (Zaq.calls k _ _ t350 _ _ t354 true _ ?side1 ?side2 ?side3 ?side4 A31.out).mono ?_); (case side1 => exact atRC HO353); (case side2 => exact (Kd.R_reads' HO353.out).2.1); (case side3 => exact atRC HO357); (case side4 => exact (Kd.R_reads' HO357.out).2.1); rintro e w' ⟨rfl, ⟨nd, rfl⟩⟩; obtain ⟨Ao53, co53, eo53⟩ := Kd.S_slice HO369.out; subst eo53; obtain ⟨Ao54, co54, eo54⟩ := Kd.S_slice HO373.out; subst eo54) | (go_at_call 19; (with_reducible refine (Zaw.calls k _ _ t366 _ _ t370 true _ ?side1 ?side2 ?side3 ?side4 A38.out).mono ?_); (case side1 => exact atSC HO369); (case side2 => exact (Kd.S_reads' HO369.out).2.1); (case side3 => exact atSC HO373); (case side4 => exact (Kd.S_reads' HO373.out).2.1); rintro e w' ⟨rfl, ⟨nd, rfl⟩⟩) | (go_at_call 20; (with_reducible refine (Zae.calls k _ _ t340 true _ ?side1 ?side2 A40.out).mono ?_); (case side1 => exact atRC HO343); (case side2 => exact (Kd.R_reads' HO343.out).2.1); rintro e w' ⟨rfl, ⟨nd, rfl⟩⟩) | (go_at_call 20; (with_reducible refine (Zae.calls k _ _ t340 true _ ?side1 ?side2 A42.out).mono ?_); (case side1 => exact atRC HO343); (case side2 => exact (Kd.R_reads' HO343.out).2.1); rintro e w' ⟨rfl, ⟨nd, rfl⟩⟩) | (go_at_call 21; (with_reducible refine (Zbq.calls k _ _ t340 true _ ?side1 ?side2 A43.out).mono ?_); (case side1 => exact atRC HO343); (case side2 => exact (Kd.R_reads' HO343.out).2.1); rintro e w' ⟨rfl, ⟨nd, rfl⟩⟩))
      go_meet
      case rel => exact ⟨_, (!t346), eqd, H', ⟨leD⟩, ⟨atR HO343⟩, ⟨Kd.R_mono (atR HO345) (fun _ _ => trivial)⟩, ⟨atR HO353⟩, ⟨atS HO369⟩, ⟨atB HB⟩⟩
    ·replace c50 := Bool.eq_false_iff.mpr c50
     subst c50
     obtain rfl : t349 = false := (by simpa using c28b0)
     obtain rfl : t358 = false := (by simpa using c46b0)
     obtain rfl : t351 = false := (by simpa using c47b0)
     rw [if_neg (show ¬ (false = true) by decide)] at H
     have H' := Aside0.mk H
     clear H
     obtain ⟨Ao55, co55, eo55⟩ := Kd.R_slice HO353.out
     subst eo55
     obtain ⟨Ao56, co56, eo56⟩ := Kd.R_slice HO357.out
     subst eo56
     as_aux_lemma =>
      go_wp2_with (first | (go_at_call 18; (with_reducible refine (Zaq.calls k _ _ t350 _ _ t354 true _ ?side1 ?side2 ?side3 ?side4 A31.out).mono ?_); (case side1 => exact atRC HO353); (case side2 => exact (Kd.R_reads' HO353.out).2.1); (case side3 => exact atRC HO357); (case side4 => exact (Kd.R_reads' HO357.out).2.1); rintro e w' ⟨rfl, ⟨nd, rfl⟩⟩; obtain ⟨Ao57, co57, eo57⟩ := Kd.S_slice HO369.out; subst eo57; obtain ⟨Ao58, co58, eo58⟩ := Kd.S_slice HO373.out; subst eo58) | (go_at_call 19; (with_reducible refine (Zaw.calls k _ _ t366 _ _ t370 true _ ?side1 ?side2 ?side3 ?side4 A38.out).mono ?_); (case side1 => exact atSC HO369); (case side2 => exact (Kd.S_reads' HO369.out).2.1); (case side3 => exact atSC HO373); (case side4 => exact (Kd.S_reads' HO373.out).2.1); rintro e w' ⟨rfl, ⟨nd, rfl⟩⟩) | (go_at_call 20; (with_reducible refine (Zae.calls k _ _ t340 true _ ?side1 ?side2 A40.out).mono ?_); (case side1 => exact atRC HO343); (case side2 => exact (Kd.R_reads' HO343.out).2.1); rintro e w' ⟨rfl, ⟨nd, rfl⟩⟩) | (go_at_call 20; (with_reducible refine (Zae.calls k _ _ t340 true _ ?side1 ?side2 A42.out).mono ?_); (case side1 => exact atRC HO343); (case side2 => exact (Kd.R_reads' HO343.out).2.1); rintro e w' ⟨rfl, ⟨nd, rfl⟩⟩) | (go_at_call 21; (with_reducible refine (Zbq.calls k _ _ t340 true _ ?side1 ?side2 A43.out).mono ?_); (case side1 => exact atRC HO343); (case side2 => exact (Kd.R_reads' HO343.out).2.1); rintro e w' ⟨rfl, ⟨nd, rfl⟩⟩))
      go_meet
      case rel => exact ⟨_, (!false), eqd, H', ⟨leD⟩, ⟨atR HO343⟩, ⟨Kd.R_mono (atR HO345) (fun _ _ => trivial)⟩, ⟨atR HO353⟩, ⟨atS HO369⟩, ⟨atB HB⟩⟩
   ·replace c49 := Bool.eq_false_iff.mpr c49
    subst c49
    obtain rfl : t365 = false := (by simpa using c35b0)
    rw [if_neg (show ¬ (false = true) by decide)] at H
    have H' := Aside0.mk H
    clear H
    obtain ⟨Ao59, co59, eo59⟩ := Kd.R_slice HO353.out
    subst eo59
    obtain ⟨Ao60, co60, eo60⟩ := Kd.R_slice HO357.out
    subst eo60
    as_aux_lemma =>
     go_wp2_with (first | (go_at_call 18; (with_reducible refine (Zaq.calls k _ _ t350 _ _ t354 true _ ?side1 ?side2 ?side3 ?side4 A31.out).mono ?_); (case side1 => exact atRC HO353); (case side2 => exact (Kd.R_reads' HO353.out).2.1); (case side3 => exact atRC HO357); (case side4 => exact (Kd.R_reads' HO357.out).2.1); rintro e w' ⟨rfl, ⟨nd, rfl⟩⟩; obtain ⟨Ao61, co61, eo61⟩ := Kd.S_slice HO369.out; subst eo61; obtain ⟨Ao62, co62, eo62⟩ := Kd.S_slice HO373.out; subst eo62) | (go_at_call 19; (with_reducible refine (Zaw.calls k _ _ t366 _ _ t370 true _ ?side1 ?side2 ?side3 ?side4 A38.out).mono ?_); (case side1 => exact atSC HO369); (case side2 => exact (Kd.S_reads' HO369.out).2.1); (case side3 => exact atSC HO373); (case side4 => exact (Kd.S_reads' HO373.out).2.1); rintro e w' ⟨rfl, ⟨nd, rfl⟩⟩) | (go_at_call 20; (with_reducible refine (Zae.calls k _ _ t340 true _ ?side1 ?side2 A40.out).mono ?_); (case side1 => exact atRC HO343); (case side2 => exact (Kd.R_reads' HO343.out).2.1); rintro e w' ⟨rfl, ⟨nd, rfl⟩⟩) | (go_at_call 20; (with_reducible refine (Zae.calls k _ _ t340 true _ ?side1 ?side2 A42.out).mono ?_); (case side1 => exact atRC HO343); (case side2 => exact (Kd.R_reads' HO343.out).2.1); rintro e w' ⟨rfl, ⟨nd, rfl⟩⟩) | (go_at_call 21; (with_reducible refine (Zbq.calls k _ _ t340 true _ ?side1 ?side2 A43.out).mono ?_); (case side1 => exact atRC HO343); (case side2 => exact (Kd.R_reads' HO343.out).2.1); rintro e w' ⟨rfl, ⟨nd, rfl⟩⟩))
     go_meet
     case rel => exact ⟨_, (false), eqd, H', ⟨leD⟩, ⟨atR HO343⟩, ⟨Kd.R_mono (atR HO345) (fun _ _ => trivial)⟩, ⟨atR HO353⟩, ⟨atS HO369⟩, ⟨atB HB⟩⟩
  ·replace c45 := Bool.eq_false_iff.mpr c45
   subst c45
   obtain rfl : t361 = false := (by simpa using c33b0)
   obtain rfl : t376 = false := (by simpa using c41b0)
   obtain rfl : t378 = false := (by simpa using c44b0)
   rw [if_neg (show ¬ (false = true) by decide)] at H
   by_cases c63 : (t347 != false) = true
   ·rw [if_pos c63] at H
    have c63b0 : (t347 != false) = true := c63
    (try (have c63b1 : decide (t347 = false) = false := by simpa using c63))
    (try (have c63b2 : (t347 == false) = false := by simpa using c63))
    (try (have c63b3 : ¬ (t347 = false) := by simpa using c63))
    clear c63
    exact absurd (H.trans (congrArg some HT.out)) (Zaa.j0_no k l1 t340 t341 t346 t347 t350 t362 t363 t366 t367)
   rw [if_neg c63] at H
   have c63b0 : (t347 != false) = false := by simpa using c63
   (try (have c63b1 : decide (t347 = false) = true := by simpa using c63))
   (try (have c63b2 : (t347 == false) = true := by simpa using c63))
   clear c63
   by_cases c64 : (t351 != t347) = true
   ·rw [if_pos c64] at H
    have c64b0 : (t351 != t347) = true := c64
    (try (have c64b1 : decide (t351 = t347) = false := by simpa using c64))
    (try (have c64b2 : (t351 == t347) = false := by simpa using c64))
    (try (have c64b3 : ¬ (t351 = t347) := by simpa using c64))
    clear c64
    exact absurd (H.trans (congrArg some HT.out)) (Zaa.j0_no k l1 t340 t341 t346 t347 t350 t362 t363 t366 t367)
   rw [if_neg c64] at H
   have c64b0 : (t351 != t347) = false := by simpa using c64
   (try (have c64b1 : decide (t351 = t347) = true := by simpa using c64))
   (try (have c64b2 : (t351 == t347) = true := by simpa using c64))
   clear c64
   by_cases c65 : (t367 != false) = true
   ·rw [if_pos c65] at H
    have c65b0 : (t367 != false) = true := c65
    (try (have c65b1 : decide (t367 = false) = false := by simpa using c65))
    (try (have c65b2 : (t367 == false) = false := by simpa using c65))
    (try (have c65b3 : ¬ (t367 = false) := by simpa using c65))
    clear c65
    exact absurd (H.trans (congrArg some HT.out)) (Zaa.j0_no k l1 t340 t341 t346 t347 t350 t362 t363 t366 t367)
   rw [if_neg c65] at H
   have c65b0 : (t367 != false) = false := by simpa using c65
   (try (have c65b1 : decide (t367 = false) = true := by simpa using c65))
   (try (have c65b2 : (t367 == false) = true := by simpa using c65))
   clear c65
   by_cases c66 : t363 = true
   ·subst c66
    obtain rfl : t365 = true := (by simpa using c35b0)
    rw [if_pos rfl] at H
    by_cases c67 : t347 = true
    ·subst c67
     exact absurd c63b0 (by decide)
    replace c67 := Bool.eq_false_iff.mpr c67
    subst c67
    obtain rfl : t349 = false := (by simpa using c28b0)
    obtain rfl : t351 = false := (by simpa using c64b0)
    rw [if_neg (show ¬ (false = true) by decide)] at H
    have H' := Aside0.mk H
    clear H
    obtain ⟨Ao72, co72, eo72⟩ := Kd.R_slice HO353.out
    subst eo72
    obtain ⟨Ao73, co73, eo73⟩ := Kd.R_slice HO357.out
    subst eo73
    as_aux_lemma =>
     go_wp2_with (first | (go_at_call 18; (with_reducible refine (Zaq.calls k _ _ t350 _ _ t354 true _ ?side1 ?side2 ?side3 ?side4 A31.out).mono ?_); (case side1 => exact atRC HO353); (case side2 => exact (Kd.R_reads' HO353.out).2.1); (case side3 => exact atRC HO357); (case side4 => exact (Kd.R_reads' HO357.out).2.1); rintro e w' ⟨rfl, ⟨nd, rfl⟩⟩; obtain ⟨Ao74, co74, eo74⟩ := Kd.S_slice HO369.out; subst eo74; obtain ⟨Ao75, co75, eo75⟩ := Kd.S_slice HO373.out; subst eo75) | (go_at_call 19; (with_reducible refine (Zaw.calls k _ _ t366 _ _ t370 true _ ?side1 ?side2 ?side3 ?side4 A38.out).mono ?_); (case side1 => exact atSC HO369); (case side2 => exact (Kd.S_reads' HO369.out).2.1); (case side3 => exact atSC HO373); (case side4 => exact (Kd.S_reads' HO373.out).2.1); rintro e w' ⟨rfl, ⟨nd, rfl⟩⟩) | (go_at_call 20; (with_reducible refine (Zae.calls k _ _ t340 false _ ?side1 ?side2 A40.out).mono ?_); (case side1 => exact atRC HO343); (case side2 => exact (Kd.R_reads' HO343.out).2.1); rintro e w' ⟨rfl, ⟨nd, rfl⟩⟩) | (go_at_call 20; (with_reducible refine (Zae.calls k _ _ t340 false _ ?side1 ?side2 A42.out).mono ?_); (case side1 => exact atRC HO343); (case side2 => exact (Kd.R_reads' HO343.out).2.1); rintro e w' ⟨rfl, ⟨nd, rfl⟩⟩) | (go_at_call 21; (with_reducible refine (Zbq.calls k _ _ t340 false _ ?side1 ?side2 A43.out).mono ?_); (case side1 => exact atRC HO343); (case side2 => exact (Kd.R_reads' HO343.out).2.1); rintro e w' ⟨rfl, ⟨nd, rfl⟩⟩))
     go_meet
     case rel => exact ⟨_, (!false), eqd, H', ⟨leD⟩, ⟨atR HO343⟩, ⟨Kd.R_mono (atR HO345) (fun _ _ => trivial)⟩, ⟨atR HO353⟩, ⟨atS HO369⟩, ⟨atB HB⟩⟩
   ·replace c66 := Bool.eq_false_iff.mpr c66
    subst c66
    obtain rfl : t365 = false := (by simpa using c35b0)
    rw [if_neg (show ¬ (false = true) by decide)] at H
    have H' := Aside0.mk H
    clear H
    obtain ⟨Ao76, co76, eo76⟩ := Kd.R_slice HO353.out
    subst eo76
    obtain ⟨Ao77, co77, eo77⟩ := Kd.R_slice HO357.out
    subst eo77
    as_aux_lemma =>
     go_wp2_with (first | (go_at_call 18; (with_reducible refine (Zaq.calls k _ _ t350 _ _ t354 true _ ?side1 ?side2 ?side3 ?side4 A31.out).mono ?_); (case side1 => exact atRC HO353); (case side2 => exact (Kd.R_reads' HO353.out).2.1); (case side3 => exact atRC HO357); (case side4 => exact (Kd.R_reads' HO357.out).2.1); rintro e w' ⟨rfl, ⟨nd, rfl⟩⟩; obtain ⟨Ao78, co78, eo78⟩ := Kd.S_slice HO369.out; subst eo78; obtain ⟨Ao79, co79, eo79⟩ := Kd.S_slice HO373.out; subst eo79) | (go_at_call 19; (with_reducible refine (Zaw.calls k _ _ t366 _ _ t370 true _ ?side1 ?side2 ?side3 ?side4 A38.out).mono ?_); (case side1 => exact atSC HO369); (case side2 => exact (Kd.S_reads' HO369.out).2.1); (case side3 => exact atSC HO373); (case side4 => exact (Kd.S_reads' HO373.out).2.1); rintro e w' ⟨rfl, ⟨nd, rfl⟩⟩) | (go_at_call 20; (with_reducible refine (Zae.calls k _ _ t340 false _ ?side1 ?side2 A40.out).mono ?_); (case side1 => exact atRC HO343); (case side2 => exact (Kd.R_reads' HO343.out).2.1); rintro e w' ⟨rfl, ⟨nd, rfl⟩⟩) | (go_at_call 20; (with_reducible refine (Zae.calls k _ _ t340 false _ ?side1 ?side2 A42.out).mono ?_); (case side1 => exact atRC HO343); (case side2 => exact (Kd.R_reads' HO343.out).2.1); rintro e w' ⟨rfl, ⟨nd, rfl⟩⟩) | (go_at_call 21; (with_reducible refine (Zbq.calls k _ _ t340 false _ ?side1 ?side2 A43.out).mono ?_); (case side1 => exact atRC HO343); (case side2 => exact (Kd.R_reads' HO343.out).2.1); rintro e w' ⟨rfl, ⟨nd, rfl⟩⟩))
     go_meet
     case rel => exact ⟨_, (false), eqd, H', ⟨leD⟩, ⟨atR HO343⟩, ⟨Kd.R_mono (atR HO345) (fun _ _ => trivial)⟩, ⟨atR HO353⟩, ⟨atS HO369⟩, ⟨atB HB⟩⟩
 case rest =>
  rename_i z1_0 z1_1 z1_2 z1_3 z1_4 z1_5 z1_6 z1_7
  exact Zaa.rest1 k A0 c0 l0 A1 c1 l1 r w HR1 HC1 HT t340 t341 t346 t347 t348 t349 t350 t351 t354 t355 t358 t359 t360 t361 t362 t363 t364 t365 t366 t367 t370 t371 HC16 Ao18 co18 Ao19 co19 v352 v356 v368 w27 v372 HB z1_4 (by rfl) z1_5 z1_6 (by rfl) z1_7 wc u53 u54 u55 u56 u57 u58 u59 u60 u61 u62 u63 u64 u65 u66 u67 u68 u69 u70 u71 u72 u73 u74 u75 u76 u77 u78 u79 u80 u81 u82 u83 u84 u85 u86 u87 u88 u89 u90 u91 u92 u93 u94 u95 u96 u97 u98 u99 u100 u101 u102 u103 u104 u105 u106 u107 u108 u109 u110 u111 u112 u113 u114 u115 u116 u117 u118 u119 u120 u121 u122 u123 u124 u125 u126 u127 u128 u129 u130 u131 u132 u133 u134 u135 u136 u137 u138 u139 u140 u141 u142 u143 u144 u145 u146 u147 u148 u149 u150 u151 u152 u153 u154 u155 u156 u157 u158 u159 u160 u161 u162 u163 u164 u165 u166 u167 u168 u169 u170 u171 u172 u173 u174 u175 u176 u177 u178 u179 u180 u181 u182 u183 u184 u185 u186 u187 u188 u189 u190 u191 u192 u193 u194 u195 u196 u197 u198 u199 u200 u201 u202 u203 u204 u205 u206 u207 u208 u209 u210 u211 u212 u213 u214 u215 u216 u220 u221 u222 u223 u224 u225 u226 u227 u228 u229 u230 u231 u232 u233 u234 u235 u236 u237 u238 u239 u240 u241 u242 u243 u244 u245 u246 u247 u248 u249 u250 u251 u252 u253 u254 u255 u256 u257 u258 u259 u260 u261 u262 u263 u264 u265 u266 u267 u268 u269 u270 u271 u272 u273 u274 u275 u276 u277 u278 u279 u280 u281 u282 u283 u284 u285 u286 u287 u288 u289 u290 u291 u292 u293 u294 u295 u296 u297 u298 u299 u300 u301 u302 u303 u304 u305 u306 u307 u308 u309 u310 u311 u312 u313 u314 u315 u316 u320 u321 u322 u323 u324 u325 u326 u327 u328 u329 u330 u331 u332 u333 u334 u335 u336 u337 u338 u339 u340 u341 u342 u343 u344 u345 u346 u347 u348 u349 u350 u351 u352 u353 u354 u355 u356 u357 u358 u359 u360 u361 u362 u363 u364 u365 u366 u367 u368 u369 u370 u371 u372 u373 u374 u375 u376 u377 u378 u379 u380 u381 u382 u383 u384 u385 u386 u387 u388 u389 u390 u391 u392 u393 u394 u395 u396 u397 u398 u399 u400 u401 u402 u403 u404 u405 u406 u407 u408 u409 u410 u411 u412 u413 u414 u415 u416 u417 u418 u419 u420 u421 u422 u423 u424 u425 u426 u427 u428 u429 u430 u431 u432 u433 u434 u435 u436 u437 u438 u439 u440 u441 u442 u443 u444 u445 u446 u447 u448 u449 u450 u451 u452 u453 u454 u455 u456 u457 u458 u459 u460 u461 u462 u463 u464 hcut
theorem Zaa.walk (P : Zaa.Pure) (a0 : Option Addr) (len0 cap0 : Nat) (z0 : List Int) (a1 : Option Addr) (len1 cap1 : Nat) (z1 : List Int) (w : World) (w0 : (a0 = none ∧ len0 = 0 ∧ cap0 = 0 ∧ z0 = []) ∨ ∃ x, a0 = some x ∧ len0 ≤ cap0 ∧ cap0 ≤ maxLen ∧ z0.length = cap0 ∧ (∀ i, i < z0.length → w.cell? (x.add i) = some (.int .u8 (z0.getD i 0))) ∧ ∀ n ∈ z0, (Lit.int .u8 n).wf = true) (y0 : len0 * 1 ≤ 140737488351232) (w1 : (a1 = none ∧ len1 = 0 ∧ cap1 = 0 ∧ z1 = []) ∨ ∃ x, a1 = some x ∧ len1 ≤ cap1 ∧ cap1 ≤ maxLen ∧ z1.length = cap1 ∧ (∀ i, i < z1.length → w.cell? (x.add i) = some (.int .u8 (z1.getD i 0))) ∧ ∀ n ∈ z1, (Lit.int .u8 n).wf = true) (y1 : len1 * 1 ≤ 140737488351232) :
  Calls Try.prog 3 #[.slice a0 len0 cap0, .slice a1 len1 cap1] w fun e w' => e = .returned (.bool true) ∧ Below w.heap.size w w' := by
 obtain ⟨l0, rfl, hr0, hm0, hw0, hc0⟩ := ReadsInt.ofRowC w0
 obtain ⟨l1, rfl, hr1, hm1, hw1, hc1⟩ := ReadsInt.ofRowC w1
 obtain ⟨k, h⟩ := P l0 l1 hm0 y0 hw0 hm1 y1 hw1
 refine (Zaa.calls k _ _ l0 _ _ l1 true w (Kd.C_of_reads (d := (0 : Int)) (h1 := fun _ => rfl) hr0) hc0 (Kd.C_of_reads (d := (0 : Int)) (h1 := fun _ => rfl) hr1) hc1 rfl h).mono ?_
 rintro e w' ⟨rfl, hd⟩
 exact ⟨rfl, hd⟩
end Go.Proofs.Ytnhnpplccfojeaa.Fn
