/- The machine's side and plain lemmas for FnRulersMeasure: texts of this session, merged by its program (part 3). -/
import Derived.Test.YtofjndbpndpjjaaMFnRulersMeasure0
import Derived.Test.YtofjndbpndpjjaaMFnRulersMeasure1
import Derived.Test.YtofjndbpndpjjaaMFnRulersMeasure2
namespace Go.Proofs.Ytofjndbpndpjjaa.Fn
open Go.RowKit Go.Proofs.YtofjndbpndpjjaaW.PrintWords Go.Proofs.YtofjndbpndpjjaaW.PrintLast Go.Proofs.YtofjndbpndpjjaaW.PrintMore
attribute [local go_sem] max2_int min2_int max_two min_two max_three min_three max_four min_four   -- for this text's walks alone
set_option linter.unusedVariables false
set_option linter.unusedSimpArgs false


set_option maxHeartbeats 80000000 in
set_option maxRecDepth 100000 in
theorem laws_FnRulersMeasure.calls (k : Nat) (A0 : Option Addr) (c0 : Nat) (l0 : List Int) (A1 : Option Addr) (c1 : Nat) (l1 : List Int) (r : Bool) (w : World) (hr0 : Kd.C (Kd.int .u8) w A0 l0.length l0) (hc0 : l0.length ≤ c0) (hr1 : Kd.C (Kd.int .u8) w A1 l1.length l1) (hc1 : l1.length ≤ c1) (ht_ : r = true) (h : laws_FnRulersMeasure.f k l0 l1 = some r) :
  Calls Try.prog 3 #[.slice A0 l0.length c0, .slice A1 l1.length c1] w fun e w' => e = .returned (.bool r) ∧ Below w.heap.size w w' := by
 have HR0 := Aside0.mk hr0
 have HC0 := Aside0.mk hc0
 clear hr0 hc0
 have HR1 := Aside0.mk hr1
 have HC1 := Aside0.mk hc1
 clear hr1 hc1
 have HB := Aside0.mk (Below.refl w.heap.size w)
 have H := h
 unfold laws_FnRulersMeasure.f at H
 clear h
 have HT := Aside0.mk ht_
 clear ht_
 replace H := Option.bind_eq_some_iff.mp H
 obtain ⟨t530, A30, H⟩ := H
 (try dsimp only at H)
 have A3 := Aside0.mk A30
 clear A30
 by_cases c4 : t530 = true
 ·subst c4
  rw [if_pos rfl] at H
  obtain rfl := Option.some.inj H
  go_enter Try.func3, Try.ntmps3
  go_wp2_with (first | ((with_reducible refine gate_callee (f := 5) rfl ?_); refine goesA (some 72) Try.func5 #[.slice A0 l0.length c0, .slice A1 l1.length c1] ?_; (with_reducible refine (laws_big.calls _ _ l0 _ _ l1 true _ ?side1 ?side2 ?side3 ?side4 A3.out).mono ?_); (case side1 => repeat (first | exact HR0.out | (with_reducible refine Kd.C_alloc ?_ _) | (with_reducible refine Kd.C_drewN ?_ _) | (with_reducible refine Kd.C_drew ?_))); (case side2 => exact HC0.out); (case side3 => repeat (first | exact HR1.out | (with_reducible refine Kd.C_alloc ?_ _) | (with_reducible refine Kd.C_drewN ?_ _) | (with_reducible refine Kd.C_drew ?_))); (case side4 => exact HC1.out); rintro e w' ⟨rfl, ⟨nd, rfl⟩⟩; refine ⟨_, rfl, ?_⟩))
  go_ret
  exact ⟨eqr, atB HB⟩
 ·replace c4 := Bool.eq_false_iff.mpr c4
  subst c4
  rw [if_neg (show ¬ (false = true) by decide)] at H
  replace H := Option.bind_eq_some_iff.mp H
  obtain ⟨t531, A50, H⟩ := H
  (try dsimp only at H)
  have A5 := Aside0.mk A50
  clear A50
  replace H := Option.bind_eq_some_iff.mp H
  obtain ⟨⟨t534, t535⟩, A60, H⟩ := H
  (try dsimp only at H)
  have A6 := Aside0.mk A60
  clear A60
  replace H := Option.bind_eq_some_iff.mp H
  obtain ⟨⟨t538, t539⟩, A70, H⟩ := H
  (try dsimp only at H)
  have A7 := Aside0.mk A70
  clear A70
  replace H := Option.bind_eq_some_iff.mp H
  obtain ⟨⟨t542, t543⟩, A80, H⟩ := H
  (try dsimp only at H)
  have A8 := Aside0.mk A80
  clear A80
  replace H := Option.bind_eq_some_iff.mp H
  obtain ⟨⟨t544, t545⟩, A90, H⟩ := H
  (try dsimp only at H)
  have A9 := Aside0.mk A90
  clear A90
  replace H := Option.bind_eq_some_iff.mp H
  obtain ⟨⟨t546, t547⟩, A100, H⟩ := H
  (try dsimp only at H)
  have A10 := Aside0.mk A100
  clear A100
  replace H := Option.bind_eq_some_iff.mp H
  obtain ⟨⟨t550, t551⟩, A110, H⟩ := H
  (try dsimp only at H)
  have A11 := Aside0.mk A110
  clear A110
  replace H := Option.bind_eq_some_iff.mp H
  obtain ⟨⟨t554, t555⟩, A120, H⟩ := H
  (try dsimp only at H)
  have A12 := Aside0.mk A120
  clear A120
  replace H := Option.bind_eq_some_iff.mp H
  obtain ⟨⟨t556, t557⟩, A130, H⟩ := H
  (try dsimp only at H)
  have A13 := Aside0.mk A130
  clear A130
  replace H := Option.bind_eq_some_iff.mp H
  obtain ⟨⟨t558, t559⟩, A140, H⟩ := H
  (try dsimp only at H)
  have A14 := Aside0.mk A140
  clear A140
  replace H := Option.bind_eq_some_iff.mp H
  obtain ⟨⟨t560, t561⟩, A150, H⟩ := H
  (try dsimp only at H)
  have A15 := Aside0.mk A150
  clear A150
  replace H := Option.bind_eq_some_iff.mp H
  obtain ⟨⟨t562, t563⟩, A160, H⟩ := H
  (try dsimp only at H)
  have A16 := Aside0.mk A160
  clear A160
  replace H := Option.bind_eq_some_iff.mp H
  obtain ⟨⟨t566, t567⟩, A170, H⟩ := H
  (try dsimp only at H)
  have A17 := Aside0.mk A170
  clear A170
  replace H := Option.bind_eq_some_iff.mp H
  obtain ⟨⟨t570, t571⟩, A180, H⟩ := H
  (try dsimp only at H)
  have A18 := Aside0.mk A180
  clear A180
  replace H := Option.bind_eq_some_iff.mp H
  obtain ⟨⟨t574, t575⟩, A190, H⟩ := H
  (try dsimp only at H)
  have A19 := Aside0.mk A190
  clear A190
  have HC20 := Aside0.mk H
  clear H
  go_enter Try.func3, Try.ntmps3
  go_upto_region 18 with (first | ((with_reducible refine gate_callee (f := 5) rfl ?_); refine goesA (some 72) Try.func5 #[.slice A0 l0.length c0, .slice A1 l1.length c1] ?_; (with_reducible refine (laws_big.calls _ _ l0 _ _ l1 false _ ?side1 ?side2 ?side3 ?side4 A3.out).mono ?_); (case side1 => repeat (first | exact HR0.out | (with_reducible refine Kd.C_alloc ?_ _) | (with_reducible refine Kd.C_drewN ?_ _) | (with_reducible refine Kd.C_drew ?_))); (case side2 => exact HC0.out); (case side3 => repeat (first | exact HR1.out | (with_reducible refine Kd.C_alloc ?_ _) | (with_reducible refine Kd.C_drewN ?_ _) | (with_reducible refine Kd.C_drew ?_))); (case side4 => exact HC1.out); rintro e w' ⟨rfl, ⟨nd, rfl⟩⟩; refine ⟨_, rfl, ?_⟩) | ((with_reducible refine gate_callee (f := 6) rfl ?_); refine goesA (some 74) Try.func6 #[.slice A0 l0.length c0] ?_; (with_reducible refine (spec_DrawDistancesOf.calls k _ _ l0 t531 _ ?side1 ?side2 A5.out).mono ?_); (case side1 => repeat (first | exact HR0.out | (with_reducible refine Kd.C_alloc ?_ _) | (with_reducible refine Kd.C_drewN ?_ _) | (with_reducible refine Kd.C_drew ?_))); (case side2 => exact HC0.out); rintro e w21 ⟨v532, rfl, ho0, hb⟩; refine ⟨_, rfl, ?_⟩; have HO533 := lowR ho0 HB; replace HB := upB HB hb; (try clear hb); (try clear hb2); (try clear hk); (try clear hi); (try clear ho0); obtain ⟨Ao22, co22, eo22⟩ := Kd.R_slice HO533.out; subst eo22) | ((with_reducible refine gate_callee (f := 7) rfl ?_); refine goesA (some 77) Try.func7 #[.slice Ao22 t531.length co22] ?_; (with_reducible refine (impl_DistancesOf.calls k _ _ t531 t534 t535 _ ?side1 ?side2 A6.out).mono ?_); (case side1 => exact atRC HO533); (case side2 => exact (Kd.R_reads' HO533.out).2.1); rintro e w23 ⟨v536, rfl, ho0, hb⟩; refine ⟨_, rfl, ?_⟩; have HO537 := lowR ho0 HB; replace HO533 := upR HO533 hb; replace HB := upB HB hb; (try clear hb); (try clear hb2); (try clear hk); (try clear hi); (try clear ho0)) | ((with_reducible refine gate_callee (f := 8) rfl ?_); refine goesA (some 82) Try.func8 #[.slice Ao22 t531.length co22] ?_; (with_reducible refine (spec_DistancesOf.calls k _ _ t531 t538 t539 _ ?side1 ?side2 A7.out).mono ?_); (case side1 => exact atRC HO533); (case side2 => exact (Kd.R_reads' HO533.out).2.1); rintro e w24 ⟨v540, rfl, ho0, hb⟩; refine ⟨_, rfl, ?_⟩; have HO541 := lowR ho0 HB; replace HO533 := upR HO533 hb; replace HO537 := upR HO537 hb; replace HB := upB HB hb; (try clear hb); (try clear hb2); (try clear hk); (try clear hi); (try clear ho0)) | ((with_reducible refine gate_callee (f := 9) rfl ?_); refine goesA (some 87) Try.func9 #[.slice Ao22 t531.length co22] ?_; (with_reducible refine (impl_LengthOfRuler.calls k _ _ t531 t542 t543 _ ?side1 ?side2 A8.out).mono ?_); (case side1 => exact atRC HO533); (case side2 => exact (Kd.R_reads' HO533.out).2.1); rintro e w' ⟨rfl, ⟨nd, rfl⟩⟩; refine ⟨_, rfl, ?_⟩; (try (rw [drewN_self w24]; generalize hq_ : World.drewN w24 _ = w24; have n0_ : Aside0 (Kd.R (Kd.int .i64) 3 w24 w.heap.size (fun _ => True) (.slice Ao22 t531.length co22) t531) := ⟨by rw [← hq_]; exact (atR HO533)⟩; have n1_ : Aside0 (Kd.R (Kd.int .i64) 3 w24 w.heap.size (fun _ => True) v536 t534) := ⟨by rw [← hq_]; exact (atR HO537)⟩; have n2_ : Aside0 (Kd.R (Kd.int .i64) 3 w24 w.heap.size (fun _ => True) v540 t538) := ⟨by rw [← hq_]; exact (atR HO541)⟩; have n3_ : Aside0 (Below w.heap.size w w24) := ⟨by rw [← hq_]; exact (atB HB)⟩; clear HO533 HO537 HO541 HB hq_; have HO533 := n0_; have HO537 := n1_; have HO541 := n2_; have HB := n3_; clear n0_ n1_ n2_ n3_))) | ((with_reducible refine gate_callee (f := 10) rfl ?_); refine goesA (some 92) Try.func10 #[.slice Ao22 t531.length co22] ?_; (with_reducible refine (spec_LengthOfRuler.calls k _ _ t531 t544 t545 _ ?side1 ?side2 A9.out).mono ?_); (case side1 => exact atRC HO533); (case side2 => exact (Kd.R_reads' HO533.out).2.1); rintro e w' ⟨rfl, ⟨nd, rfl⟩⟩; refine ⟨_, rfl, ?_⟩; (try (rw [drewN_self w24]; generalize hq_ : World.drewN w24 _ = w24; have n0_ : Aside0 (Kd.R (Kd.int .i64) 3 w24 w.heap.size (fun _ => True) (.slice Ao22 t531.length co22) t531) := ⟨by rw [← hq_]; exact (atR HO533)⟩; have n1_ : Aside0 (Kd.R (Kd.int .i64) 3 w24 w.heap.size (fun _ => True) v536 t534) := ⟨by rw [← hq_]; exact (atR HO537)⟩; have n2_ : Aside0 (Kd.R (Kd.int .i64) 3 w24 w.heap.size (fun _ => True) v540 t538) := ⟨by rw [← hq_]; exact (atR HO541)⟩; have n3_ : Aside0 (Below w.heap.size w w24) := ⟨by rw [← hq_]; exact (atB HB)⟩; clear HO533 HO537 HO541 HB hq_; have HO533 := n0_; have HO537 := n1_; have HO541 := n2_; have HB := n3_; clear n0_ n1_ n2_ n3_))) | ((with_reducible refine gate_callee (f := 11) rfl ?_); refine goesA (some 97) Try.func11 #[.slice Ao22 t531.length co22] ?_; (with_reducible refine (impl_MissingDistances.calls k _ _ t531 t546 t547 _ ?side1 ?side2 A10.out).mono ?_); (case side1 => exact atRC HO533); (case side2 => exact (Kd.R_reads' HO533.out).2.1); rintro e w25 ⟨v548, rfl, ho0, hb⟩; refine ⟨_, rfl, ?_⟩; have HO549 := lowR ho0 HB; replace HO533 := upR HO533 hb; replace HO537 := upR HO537 hb; replace HO541 := upR HO541 hb; replace HB := upB HB hb; (try clear hb); (try clear hb2); (try clear hk); (try clear hi); (try clear ho0)) | ((with_reducible refine gate_callee (f := 12) rfl ?_); refine goesA (some 102) Try.func12 #[.slice Ao22 t531.length co22] ?_; (with_reducible refine (spec_MissingDistances.calls k _ _ t531 t550 t551 _ ?side1 ?side2 A11.out).mono ?_); (case side1 => exact atRC HO533); (case side2 => exact (Kd.R_reads' HO533.out).2.1); rintro e w26 ⟨v552, rfl, ho0, hb⟩; refine ⟨_, rfl, ?_⟩; have HO553 := lowR ho0 HB; replace HO533 := upR HO533 hb; replace HO537 := upR HO537 hb; replace HO541 := upR HO541 hb; replace HO549 := upR HO549 hb; replace HB := upB HB hb; (try clear hb); (try clear hb2); (try clear hk); (try clear hi); (try clear ho0)) | ((with_reducible refine gate_callee (f := 13) rfl ?_); refine goesA (some 107) Try.func13 #[.slice Ao22 t531.length co22] ?_; (with_reducible refine (impl_IsDifferent.calls k _ _ t531 t554 t555 _ ?side1 ?side2 A12.out).mono ?_); (case side1 => exact atRC HO533); (case side2 => exact (Kd.R_reads' HO533.out).2.1); rintro e w27 ⟨rfl, hb⟩; refine ⟨_, rfl, ?_⟩; replace HO533 := upR HO533 hb; replace HO537 := upR HO537 hb; replace HO541 := upR HO541 hb; replace HO549 := upR HO549 hb; replace HO553 := upR HO553 hb; replace HB := upB HB hb; (try clear hb); (try clear hb2); (try clear hk); (try clear hi)) | ((with_reducible refine gate_callee (f := 14) rfl ?_); refine goesA (some 112) Try.func14 #[.slice Ao22 t531.length co22] ?_; (with_reducible refine (spec_IsDifferent.calls k _ _ t531 t556 t557 _ ?side1 ?side2 A13.out).mono ?_); (case side1 => exact atRC HO533); (case side2 => exact (Kd.R_reads' HO533.out).2.1); rintro e w28 ⟨rfl, hb⟩; refine ⟨_, rfl, ?_⟩; replace HO533 := upR HO533 hb; replace HO537 := upR HO537 hb; replace HO541 := upR HO541 hb; replace HO549 := upR HO549 hb; replace HO553 := upR HO553 hb; replace HB := upB HB hb; (try clear hb); (try clear hb2); (try clear hk); (try clear hi)) | ((with_reducible refine gate_callee (f := 15) rfl ?_); refine goesA (some 117) Try.func15 #[.slice Ao22 t531.length co22] ?_; (with_reducible refine (impl_IsWhole.calls k _ _ t531 t558 t559 _ ?side1 ?side2 A14.out).mono ?_); (case side1 => exact atRC HO533); (case side2 => exact (Kd.R_reads' HO533.out).2.1); rintro e w29 ⟨rfl, hb⟩; refine ⟨_, rfl, ?_⟩; replace HO533 := upR HO533 hb; replace HO537 := upR HO537 hb; replace HO541 := upR HO541 hb; replace HO549 := upR HO549 hb; replace HO553 := upR HO553 hb; replace HB := upB HB hb; (try clear hb); (try clear hb2); (try clear hk); (try clear hi)) | ((with_reducible refine gate_callee (f := 16) rfl ?_); refine goesA (some 122) Try.func16 #[.slice Ao22 t531.length co22] ?_; (with_reducible refine (spec_IsWhole.calls k _ _ t531 t560 t561 _ ?side1 ?side2 A15.out).mono ?_); (case side1 => exact atRC HO533); (case side2 => exact (Kd.R_reads' HO533.out).2.1); rintro e w30 ⟨rfl, hb⟩; refine ⟨_, rfl, ?_⟩; replace HO533 := upR HO533 hb; replace HO537 := upR HO537 hb; replace HO541 := upR HO541 hb; replace HO549 := upR HO549 hb; replace HO553 := upR HO553 hb; replace HB := upB HB hb; (try clear hb); (try clear hb2); (try clear hk); (try clear hi)) | ((with_reducible refine gate_callee (f := 17) rfl ?_); refine goesA (some 127) Try.func17 #[.slice Ao22 t531.length co22] ?_; (with_reducible refine (impl_BackRuler.calls k _ _ t531 t562 t563 _ ?side1 ?side2 A16.out).mono ?_); (case side1 => exact atRC HO533); (case side2 => exact (Kd.R_reads' HO533.out).2.1); rintro e w31 ⟨v564, rfl, ho0, hb⟩; refine ⟨_, rfl, ?_⟩; have HO565 := lowR ho0 HB; replace HO533 := upR HO533 hb; replace HO537 := upR HO537 hb; replace HO541 := upR HO541 hb; replace HO549 := upR HO549 hb; replace HO553 := upR HO553 hb; replace HB := upB HB hb; (try clear hb); (try clear hb2); (try clear hk); (try clear hi); (try clear ho0)) | ((with_reducible refine gate_callee (f := 18) rfl ?_); refine goesA (some 132) Try.func18 #[.slice Ao22 t531.length co22] ?_; (with_reducible refine (spec_BackRuler.calls k _ _ t531 t566 t567 _ ?side1 ?side2 A17.out).mono ?_); (case side1 => exact atRC HO533); (case side2 => exact (Kd.R_reads' HO533.out).2.1); rintro e w32 ⟨v568, rfl, ho0, hb⟩; refine ⟨_, rfl, ?_⟩; have HO569 := lowR ho0 HB; replace HO533 := upR HO533 hb; replace HO537 := upR HO537 hb; replace HO541 := upR HO541 hb; replace HO549 := upR HO549 hb; replace HO553 := upR HO553 hb; replace HO565 := upR HO565 hb; replace HB := upB HB hb; (try clear hb); (try clear hb2); (try clear hk); (try clear hi); (try clear ho0)) | ((with_reducible refine gate_callee (f := 19) rfl ?_); refine goesA (some 137) Try.func19 #[.slice Ao22 t531.length co22] ?_; (with_reducible refine (impl_FreeMarks.calls k _ _ t531 t570 t571 _ ?side1 ?side2 A18.out).mono ?_); (case side1 => exact atRC HO533); (case side2 => exact (Kd.R_reads' HO533.out).2.1); rintro e w33 ⟨v572, rfl, ho0, hb⟩; refine ⟨_, rfl, ?_⟩; have HO573 := lowR ho0 HB; replace HO533 := upR HO533 hb; replace HO537 := upR HO537 hb; replace HO541 := upR HO541 hb; replace HO549 := upR HO549 hb; replace HO553 := upR HO553 hb; replace HO565 := upR HO565 hb; replace HO569 := upR HO569 hb; replace HB := upB HB hb; (try clear hb); (try clear hb2); (try clear hk); (try clear hi); (try clear ho0)) | ((with_reducible refine gate_callee (f := 20) rfl ?_); refine goesA (some 142) Try.func20 #[.slice Ao22 t531.length co22] ?_; (with_reducible refine (spec_FreeMarks.calls k _ _ t531 t574 t575 _ ?side1 ?side2 A19.out).mono ?_); (case side1 => exact atRC HO533); (case side2 => exact (Kd.R_reads' HO533.out).2.1); rintro e w34 ⟨v576, rfl, ho0, hb⟩; refine ⟨_, rfl, ?_⟩; have HO577 := lowR ho0 HB; replace HO533 := upR HO533 hb; replace HO537 := upR HO537 hb; replace HO541 := upR HO541 hb; replace HO549 := upR HO549 hb; replace HO553 := upR HO553 hb; replace HO565 := upR HO565 hb; replace HO569 := upR HO569 hb; replace HO573 := upR HO573 hb; replace HB := upB HB hb; (try clear hb); (try clear hb2); (try clear hk); (try clear hi); (try clear ho0)))
  (try simp only [Act.put, List.setIfInBounds_toArray, List.set_cons_zero, List.set_cons_succ])
  go_cut [262] (fun v262 wc => ∃ (kq : Nat) (x262_19 : Bool), v262 = .bool x262_19 ∧ Aside0 (laws_FnRulersMeasure.j0 kq l1 t531 t534 t535 t542 t546 t554 t558 t562 t570 t571 x262_19 = some r) ∧ Aside0 (kq ≤ k) ∧ Aside0 (Kd.R (Kd.int .i64) 3 wc w.heap.size (fun _ => True) (.slice Ao22 t531.length co22) t531) ∧ Aside0 (Kd.R (Kd.int .i64) 3 wc w.heap.size (fun _ => True) v536 t534) ∧ Aside0 (Kd.R (Kd.int .i64) 3 wc w.heap.size (fun _ => True) v548 t546) ∧ Aside0 (Kd.R (Kd.int .i64) 3 wc w.heap.size (fun _ => True) v564 t562) ∧ Aside0 (Kd.R (Kd.int .i64) 3 wc w.heap.size (fun _ => True) v572 t570) ∧ Aside0 (Below w.heap.size w wc))
  case first => as_aux_lemma =>
   have H := HC20.out
   clear HC20
   by_cases c35 : (t535 != t539) = true
   ·rw [if_pos c35] at H
    have c35b0 : (t535 != t539) = true := c35
    (try (have c35b1 : decide (t535 = t539) = false := by simpa using c35))
    (try (have c35b2 : (t535 == t539) = false := by simpa using c35))
    (try (have c35b3 : ¬ (t535 = t539) := by simpa using c35))
    clear c35
    (first | rw [c35b0] | (simp only [i64_w, i32_w]; rw [c35b0]) | skip)
    exact absurd (H.trans (congrArg some HT.out)) (laws_FnRulersMeasure.j0_no k l1 t531 t534 t535 t542 t546 t554 t558 t562 t570 t571)
   ·rw [if_neg c35] at H
    have c35b0 : (t535 != t539) = false := by simpa using c35
    (try (have c35b1 : decide (t535 = t539) = true := by simpa using c35))
    (try (have c35b2 : (t535 == t539) = true := by simpa using c35))
    clear c35
    (first | rw [c35b0] | (simp only [i64_w, i32_w]; rw [c35b0]) | skip)
    replace H := Option.bind_eq_some_iff.mp H
    obtain ⟨t578, A360, H⟩ := H
    (try dsimp only at H)
    have A36 := Aside0.mk A360
    clear A360
    by_cases c37 : t578 = true
    ·subst c37
     rw [if_pos rfl] at H
     by_cases c38 : (t543 != t545) = true
     ·rw [if_pos c38] at H
      have c38b0 : (t543 != t545) = true := c38
      (try (have c38b1 : decide (t543 = t545) = false := by simpa using c38))
      (try (have c38b2 : (t543 == t545) = false := by simpa using c38))
      (try (have c38b3 : ¬ (t543 = t545) := by simpa using c38))
      clear c38
      exact absurd (H.trans (congrArg some HT.out)) (laws_FnRulersMeasure.j0_no k l1 t531 t534 t535 t542 t546 t554 t558 t562 t570 t571)
     ·rw [if_neg c38] at H
      have c38b0 : (t543 != t545) = false := by simpa using c38
      (try (have c38b1 : decide (t543 = t545) = true := by simpa using c38))
      (try (have c38b2 : (t543 == t545) = true := by simpa using c38))
      clear c38
      by_cases c39 : t542 = t544
      ·rw [if_pos c39] at H
       have c39b0 : (t542 == t544) = true := beq_iff_eq.mpr c39
       have c39b1 : (t542 != t544) = false := bne_eq_false_iff_eq.mpr c39
       clear c39
       by_cases c40 : (t547 != t551) = true
       ·rw [if_pos c40] at H
        have c40b0 : (t547 != t551) = true := c40
        (try (have c40b1 : decide (t547 = t551) = false := by simpa using c40))
        (try (have c40b2 : (t547 == t551) = false := by simpa using c40))
        (try (have c40b3 : ¬ (t547 = t551) := by simpa using c40))
        clear c40
        exact absurd (H.trans (congrArg some HT.out)) (laws_FnRulersMeasure.j0_no k l1 t531 t534 t535 t542 t546 t554 t558 t562 t570 t571)
       ·rw [if_neg c40] at H
        have c40b0 : (t547 != t551) = false := by simpa using c40
        (try (have c40b1 : decide (t547 = t551) = true := by simpa using c40))
        (try (have c40b2 : (t547 == t551) = true := by simpa using c40))
        clear c40
        replace H := Option.bind_eq_some_iff.mp H
        obtain ⟨t579, A410, H⟩ := H
        (try dsimp only at H)
        have A41 := Aside0.mk A410
        clear A410
        by_cases c42 : t579 = true
        ·subst c42
         rw [if_pos rfl] at H
         by_cases c43 : (t555 != t557) = true
         ·rw [if_pos c43] at H
          have c43b0 : (t555 != t557) = true := c43
          (try (have c43b1 : decide (t555 = t557) = false := by simpa using c43))
          (try (have c43b2 : (t555 == t557) = false := by simpa using c43))
          (try (have c43b3 : ¬ (t555 = t557) := by simpa using c43))
          clear c43
          exact absurd (H.trans (congrArg some HT.out)) (laws_FnRulersMeasure.j0_no k l1 t531 t534 t535 t542 t546 t554 t558 t562 t570 t571)
         ·rw [if_neg c43] at H
          have c43b0 : (t555 != t557) = false := by simpa using c43
          (try (have c43b1 : decide (t555 = t557) = true := by simpa using c43))
          (try (have c43b2 : (t555 == t557) = true := by simpa using c43))
          clear c43
          by_cases c44 : (t554 != t556) = true
          ·rw [if_pos c44] at H
           have c44b0 : (t554 != t556) = true := c44
           (try (have c44b1 : decide (t554 = t556) = false := by simpa using c44))
           (try (have c44b2 : (t554 == t556) = false := by simpa using c44))
           (try (have c44b3 : ¬ (t554 = t556) := by simpa using c44))
           clear c44
           exact absurd (H.trans (congrArg some HT.out)) (laws_FnRulersMeasure.j0_no k l1 t531 t534 t535 t542 t546 t554 t558 t562 t570 t571)
          ·rw [if_neg c44] at H
           have c44b0 : (t554 != t556) = false := by simpa using c44
           (try (have c44b1 : decide (t554 = t556) = true := by simpa using c44))
           (try (have c44b2 : (t554 == t556) = true := by simpa using c44))
           clear c44
           by_cases c45 : (t559 != t561) = true
           ·rw [if_pos c45] at H
            have c45b0 : (t559 != t561) = true := c45
            (try (have c45b1 : decide (t559 = t561) = false := by simpa using c45))
            (try (have c45b2 : (t559 == t561) = false := by simpa using c45))
            (try (have c45b3 : ¬ (t559 = t561) := by simpa using c45))
            clear c45
            exact absurd (H.trans (congrArg some HT.out)) (laws_FnRulersMeasure.j0_no k l1 t531 t534 t535 t542 t546 t554 t558 t562 t570 t571)
           ·rw [if_neg c45] at H
            have c45b0 : (t559 != t561) = false := by simpa using c45
            (try (have c45b1 : decide (t559 = t561) = true := by simpa using c45))
            (try (have c45b2 : (t559 == t561) = true := by simpa using c45))
            clear c45
            by_cases c46 : (t558 != t560) = true
            ·rw [if_pos c46] at H
             have c46b0 : (t558 != t560) = true := c46
             (try (have c46b1 : decide (t558 = t560) = false := by simpa using c46))
             (try (have c46b2 : (t558 == t560) = false := by simpa using c46))
             (try (have c46b3 : ¬ (t558 = t560) := by simpa using c46))
             clear c46
             exact absurd (H.trans (congrArg some HT.out)) (laws_FnRulersMeasure.j0_no k l1 t531 t534 t535 t542 t546 t554 t558 t562 t570 t571)
            ·rw [if_neg c46] at H
             have c46b0 : (t558 != t560) = false := by simpa using c46
             (try (have c46b1 : decide (t558 = t560) = true := by simpa using c46))
             (try (have c46b2 : (t558 == t560) = true := by simpa using c46))
             clear c46
             by_cases c47 : (t563 != t567) = true
             ·rw [if_pos c47] at H
              have c47b0 : (t563 != t567) = true := c47
              (try (have c47b1 : decide (t563 = t567) = false := by simpa using c47))
              (try (have c47b2 : (t563 == t567) = false := by simpa using c47))
              (try (have c47b3 : ¬ (t563 = t567) := by simpa using c47))
              clear c47
              exact absurd (H.trans (congrArg some HT.out)) (laws_FnRulersMeasure.j0_no k l1 t531 t534 t535 t542 t546 t554 t558 t562 t570 t571)
             ·rw [if_neg c47] at H
              have c47b0 : (t563 != t567) = false := by simpa using c47
              (try (have c47b1 : decide (t563 = t567) = true := by simpa using c47))
              (try (have c47b2 : (t563 == t567) = true := by simpa using c47))
              clear c47
              replace H := Option.bind_eq_some_iff.mp H
              obtain ⟨t580, A480, H⟩ := H
              (try dsimp only at H)
              have A48 := Aside0.mk A480
              clear A480
              by_cases c49 : t580 = true
              ·subst c49
               rw [if_pos rfl] at H
               by_cases c50 : (t571 != t575) = true
               ·rw [if_pos c50] at H
                have c50b0 : (t571 != t575) = true := c50
                (try (have c50b1 : decide (t571 = t575) = false := by simpa using c50))
                (try (have c50b2 : (t571 == t575) = false := by simpa using c50))
                (try (have c50b3 : ¬ (t571 = t575) := by simpa using c50))
                clear c50
                exact absurd (H.trans (congrArg some HT.out)) (laws_FnRulersMeasure.j0_no k l1 t531 t534 t535 t542 t546 t554 t558 t562 t570 t571)
               ·rw [if_neg c50] at H
                have c50b0 : (t571 != t575) = false := by simpa using c50
                (try (have c50b1 : decide (t571 = t575) = true := by simpa using c50))
                (try (have c50b2 : (t571 == t575) = true := by simpa using c50))
                clear c50
                replace H := Option.bind_eq_some_iff.mp H
                obtain ⟨t581, A510, H⟩ := H
                (try dsimp only at H)
                have A51 := Aside0.mk A510
                clear A510
                by_cases c52 : t581 = true
                ·subst c52
                 rw [if_pos rfl] at H
                 replace H := Option.bind_eq_some_iff.mp H
                 obtain ⟨t582, A530, H⟩ := H
                 (try dsimp only at H)
                 have A53 := Aside0.mk A530
                 clear A530
                 by_cases c54 : (t535 != t582) = true
                 ·rw [if_pos c54] at H
                  have c54b0 : (t535 != t582) = true := c54
                  (try (have c54b1 : decide (t535 = t582) = false := by simpa using c54))
                  (try (have c54b2 : (t535 == t582) = false := by simpa using c54))
                  (try (have c54b3 : ¬ (t535 = t582) := by simpa using c54))
                  clear c54
                  exact absurd (H.trans (congrArg some HT.out)) (laws_FnRulersMeasure.j0_no k l1 t531 t534 t535 t542 t546 t554 t558 t562 t570 t571)
                 ·rw [if_neg c54] at H
                  have c54b0 : (t535 != t582) = false := by simpa using c54
                  (try (have c54b1 : decide (t535 = t582) = true := by simpa using c54))
                  (try (have c54b2 : (t535 == t582) = true := by simpa using c54))
                  clear c54
                  replace H := Option.bind_eq_some_iff.mp H
                  obtain ⟨t583, A550, H⟩ := H
                  (try dsimp only at H)
                  have A55 := Aside0.mk A550
                  have e_ : t582 = t583 := Option.some.inj (A53.out.symm.trans A55.out)
                  subst e_
                  clear A550
                  replace H := Option.bind_eq_some_iff.mp H
                  obtain ⟨t584, A560, H⟩ := H
                  (try dsimp only at H)
                  have A56 := Aside0.mk A560
                  clear A560
                  by_cases c57 : (t582 != t584) = true
                  ·rw [if_pos c57] at H
                   have c57b0 : (t582 != t584) = true := c57
                   (try (have c57b1 : decide (t582 = t584) = false := by simpa using c57))
                   (try (have c57b2 : (t582 == t584) = false := by simpa using c57))
                   (try (have c57b3 : ¬ (t582 = t584) := by simpa using c57))
                   clear c57
                   exact absurd (H.trans (congrArg some HT.out)) (laws_FnRulersMeasure.j0_no k l1 t531 t534 t535 t542 t546 t554 t558 t562 t570 t571)
                  ·rw [if_neg c57] at H
                   have c57b0 : (t582 != t584) = false := by simpa using c57
                   (try (have c57b1 : decide (t582 = t584) = true := by simpa using c57))
                   (try (have c57b2 : (t582 == t584) = true := by simpa using c57))
                   clear c57
                   by_cases c58 : (t543 != t535) = true
                   ·rw [if_pos c58] at H
                    have c58b0 : (t543 != t535) = true := c58
                    (try (have c58b1 : decide (t543 = t535) = false := by simpa using c58))
                    (try (have c58b2 : (t543 == t535) = false := by simpa using c58))
                    (try (have c58b3 : ¬ (t543 = t535) := by simpa using c58))
                    clear c58
                    exact absurd (H.trans (congrArg some HT.out)) (laws_FnRulersMeasure.j0_no k l1 t531 t534 t535 t542 t546 t554 t558 t562 t570 t571)
                   ·rw [if_neg c58] at H
                    have c58b0 : (t543 != t535) = false := by simpa using c58
                    (try (have c58b1 : decide (t543 = t535) = true := by simpa using c58))
                    (try (have c58b2 : (t543 == t535) = true := by simpa using c58))
                    clear c58
                    by_cases c59 : (t547 != t535) = true
                    ·rw [if_pos c59] at H
                     have c59b0 : (t547 != t535) = true := c59
                     (try (have c59b1 : decide (t547 = t535) = false := by simpa using c59))
                     (try (have c59b2 : (t547 == t535) = false := by simpa using c59))
                     (try (have c59b3 : ¬ (t547 = t535) := by simpa using c59))
                     clear c59
                     exact absurd (H.trans (congrArg some HT.out)) (laws_FnRulersMeasure.j0_no k l1 t531 t534 t535 t542 t546 t554 t558 t562 t570 t571)
                    ·rw [if_neg c59] at H
                     have c59b0 : (t547 != t535) = false := by simpa using c59
                     (try (have c59b1 : decide (t547 = t535) = true := by simpa using c59))
                     (try (have c59b2 : (t547 == t535) = true := by simpa using c59))
                     clear c59
                     by_cases c60 : (t555 != t535) = true
                     ·rw [if_pos c60] at H
                      have c60b0 : (t555 != t535) = true := c60
                      (try (have c60b1 : decide (t555 = t535) = false := by simpa using c60))
                      (try (have c60b2 : (t555 == t535) = false := by simpa using c60))
                      (try (have c60b3 : ¬ (t555 = t535) := by simpa using c60))
                      clear c60
                      exact absurd (H.trans (congrArg some HT.out)) (laws_FnRulersMeasure.j0_no k l1 t531 t534 t535 t542 t546 t554 t558 t562 t570 t571)
                     ·rw [if_neg c60] at H
                      have c60b0 : (t555 != t535) = false := by simpa using c60
                      (try (have c60b1 : decide (t555 = t535) = true := by simpa using c60))
                      (try (have c60b2 : (t555 == t535) = true := by simpa using c60))
                      clear c60
                      by_cases c61 : (t559 != t535) = true
                      ·rw [if_pos c61] at H
                       have c61b0 : (t559 != t535) = true := c61
                       (try (have c61b1 : decide (t559 = t535) = false := by simpa using c61))
                       (try (have c61b2 : (t559 == t535) = false := by simpa using c61))
                       (try (have c61b3 : ¬ (t559 = t535) := by simpa using c61))
                       clear c61
                       exact absurd (H.trans (congrArg some HT.out)) (laws_FnRulersMeasure.j0_no k l1 t531 t534 t535 t542 t546 t554 t558 t562 t570 t571)
                      ·rw [if_neg c61] at H
                       have c61b0 : (t559 != t535) = false := by simpa using c61
                       (try (have c61b1 : decide (t559 = t535) = true := by simpa using c61))
                       (try (have c61b2 : (t559 == t535) = true := by simpa using c61))
                       clear c61
                       by_cases c62 : (t563 != t535) = true
                       ·rw [if_pos c62] at H
                        have c62b0 : (t563 != t535) = true := c62
                        (try (have c62b1 : decide (t563 = t535) = false := by simpa using c62))
                        (try (have c62b2 : (t563 == t535) = false := by simpa using c62))
                        (try (have c62b3 : ¬ (t563 = t535) := by simpa using c62))
                        clear c62
                        exact absurd (H.trans (congrArg some HT.out)) (laws_FnRulersMeasure.j0_no k l1 t531 t534 t535 t542 t546 t554 t558 t562 t570 t571)
                       ·rw [if_neg c62] at H
                        have c62b0 : (t563 != t535) = false := by simpa using c62
                        (try (have c62b1 : decide (t563 = t535) = true := by simpa using c62))
                        (try (have c62b2 : (t563 == t535) = true := by simpa using c62))
                        clear c62
                        by_cases c63 : t535 = true
                        ·subst c63
                         obtain rfl : t539 = true := (by simpa using c35b0)
                         obtain rfl : t582 = true := (by simpa using c54b0)
                         obtain rfl : t584 = true := (by simpa using c57b0)
                         obtain rfl : t543 = true := (by simpa using c58b0)
                         obtain rfl : t547 = true := (by simpa using c59b0)
                         obtain rfl : t555 = true := (by simpa using c60b0)
                         obtain rfl : t559 = true := (by simpa using c61b0)
                         obtain rfl : t563 = true := (by simpa using c62b0)
                         rw [if_pos rfl] at H
                         have H' := Aside0.mk H
                         clear H
                         obtain ⟨Ao64, co64, eo64⟩ := Kd.R_slice HO537.out
                         subst eo64
                         obtain ⟨Ao65, co65, eo65⟩ := Kd.R_slice HO541.out
                         subst eo65
                         as_aux_lemma =>
                          go_wp2_with (first | (go_at_call 21; (with_reducible refine (laws_jSame.calls k _ _ t534 _ _ t538 true _ ?side1 ?side2 ?side3 ?side4 A36.out).mono ?_); (case side1 => exact atRC HO537); (case side2 => exact (Kd.R_reads' HO537.out).2.1); (case side3 => exact atRC HO541); (case side4 => exact (Kd.R_reads' HO541.out).2.1); rintro e w' ⟨rfl, ⟨nd, rfl⟩⟩; obtain ⟨Ao66, co66, eo66⟩ := Kd.R_slice HO549.out; subst eo66; obtain ⟨Ao67, co67, eo67⟩ := Kd.R_slice HO553.out; subst eo67) | (go_at_call 21; (with_reducible refine (laws_jSame.calls k _ _ t546 _ _ t550 true _ ?side1 ?side2 ?side3 ?side4 A41.out).mono ?_); (case side1 => exact atRC HO549); (case side2 => exact (Kd.R_reads' HO549.out).2.1); (case side3 => exact atRC HO553); (case side4 => exact (Kd.R_reads' HO553.out).2.1); rintro e w' ⟨rfl, ⟨nd, rfl⟩⟩; obtain ⟨Ao68, co68, eo68⟩ := Kd.R_slice HO565.out; subst eo68; obtain ⟨Ao69, co69, eo69⟩ := Kd.R_slice HO569.out; subst eo69) | (go_at_call 21; (with_reducible refine (laws_jSame.calls k _ _ t562 _ _ t566 true _ ?side1 ?side2 ?side3 ?side4 A48.out).mono ?_); (case side1 => exact atRC HO565); (case side2 => exact (Kd.R_reads' HO565.out).2.1); (case side3 => exact atRC HO569); (case side4 => exact (Kd.R_reads' HO569.out).2.1); rintro e w' ⟨rfl, ⟨nd, rfl⟩⟩; obtain ⟨Ao70, co70, eo70⟩ := Kd.R_slice HO573.out; subst eo70; obtain ⟨Ao71, co71, eo71⟩ := Kd.R_slice HO577.out; subst eo71) | (go_at_call 21; (with_reducible refine (laws_jSame.calls k _ _ t570 _ _ t574 true _ ?side1 ?side2 ?side3 ?side4 A51.out).mono ?_); (case side1 => exact atRC HO573); (case side2 => exact (Kd.R_reads' HO573.out).2.1); (case side3 => exact atRC HO577); (case side4 => exact (Kd.R_reads' HO577.out).2.1); rintro e w' ⟨rfl, ⟨nd, rfl⟩⟩) | (go_at_call 22; (with_reducible refine (impl_IsRuler.calls k _ _ t531 true _ ?side1 ?side2 A53.out).mono ?_); (case side1 => exact atRC HO533); (case side2 => exact (Kd.R_reads' HO533.out).2.1); rintro e w' ⟨rfl, ⟨nd, rfl⟩⟩) | (go_at_call 22; (with_reducible refine (impl_IsRuler.calls k _ _ t531 true _ ?side1 ?side2 A55.out).mono ?_); (case side1 => exact atRC HO533); (case side2 => exact (Kd.R_reads' HO533.out).2.1); rintro e w' ⟨rfl, ⟨nd, rfl⟩⟩) | (go_at_call 23; (with_reducible refine (spec_IsRuler.calls k _ _ t531 true _ ?side1 ?side2 A56.out).mono ?_); (case side1 => exact atRC HO533); (case side2 => exact (Kd.R_reads' HO533.out).2.1); rintro e w' ⟨rfl, ⟨nd, rfl⟩⟩))
                          go_meet
                          case rel => exact ⟨_, ((t571 != t554)), eqd, H', ⟨leD⟩, ⟨atR HO533⟩, ⟨atR HO537⟩, ⟨atR HO549⟩, ⟨atR HO565⟩, ⟨atR HO573⟩, ⟨atB HB⟩⟩
                        ·replace c63 := Bool.eq_false_iff.mpr c63
                         subst c63
                         obtain rfl : t539 = false := (by simpa using c35b0)
                         obtain rfl : t582 = false := (by simpa using c54b0)
                         obtain rfl : t584 = false := (by simpa using c57b0)
                         obtain rfl : t543 = false := (by simpa using c58b0)
                         obtain rfl : t547 = false := (by simpa using c59b0)
                         obtain rfl : t555 = false := (by simpa using c60b0)
                         obtain rfl : t559 = false := (by simpa using c61b0)
                         obtain rfl : t563 = false := (by simpa using c62b0)
                         rw [if_neg (show ¬ (false = true) by decide)] at H
                         have H' := Aside0.mk H
                         clear H
                         obtain ⟨Ao72, co72, eo72⟩ := Kd.R_slice HO537.out
                         subst eo72
                         obtain ⟨Ao73, co73, eo73⟩ := Kd.R_slice HO541.out
                         subst eo73
                         as_aux_lemma =>
                          go_wp2_with (first | (go_at_call 21; (with_reducible refine (laws_jSame.calls k _ _ t534 _ _ t538 true _ ?side1 ?side2 ?side3 ?side4 A36.out).mono ?_); (case side1 => exact atRC HO537); (case side2 => exact (Kd.R_reads' HO537.out).2.1); (case side3 => exact atRC HO541); (case side4 => exact (Kd.R_reads' HO541.out).2.1); rintro e w' ⟨rfl, ⟨nd, rfl⟩⟩; obtain ⟨Ao74, co74, eo74⟩ := Kd.R_slice HO549.out; subst eo74; obtain ⟨Ao75, co75, eo75⟩ := Kd.R_slice HO553.out; subst eo75) | (go_at_call 21; (with_reducible refine (laws_jSame.calls k _ _ t546 _ _ t550 true _ ?side1 ?side2 ?side3 ?side4 A41.out).mono ?_); (case side1 => exact atRC HO549); (case side2 => exact (Kd.R_reads' HO549.out).2.1); (case side3 => exact atRC HO553); (case side4 => exact (Kd.R_reads' HO553.out).2.1); rintro e w' ⟨rfl, ⟨nd, rfl⟩⟩; obtain ⟨Ao76, co76, eo76⟩ := Kd.R_slice HO565.out; subst eo76; obtain ⟨Ao77, co77, eo77⟩ := Kd.R_slice HO569.out; subst eo77) | (go_at_call 21; (with_reducible refine (laws_jSame.calls k _ _ t562 _ _ t566 true _ ?side1 ?side2 ?side3 ?side4 A48.out).mono ?_); (case side1 => exact atRC HO565); (case side2 => exact (Kd.R_reads' HO565.out).2.1); (case side3 => exact atRC HO569); (case side4 => exact (Kd.R_reads' HO569.out).2.1); rintro e w' ⟨rfl, ⟨nd, rfl⟩⟩; obtain ⟨Ao78, co78, eo78⟩ := Kd.R_slice HO573.out; subst eo78; obtain ⟨Ao79, co79, eo79⟩ := Kd.R_slice HO577.out; subst eo79) | (go_at_call 21; (with_reducible refine (laws_jSame.calls k _ _ t570 _ _ t574 true _ ?side1 ?side2 ?side3 ?side4 A51.out).mono ?_); (case side1 => exact atRC HO573); (case side2 => exact (Kd.R_reads' HO573.out).2.1); (case side3 => exact atRC HO577); (case side4 => exact (Kd.R_reads' HO577.out).2.1); rintro e w' ⟨rfl, ⟨nd, rfl⟩⟩) | (go_at_call 22; (with_reducible refine (impl_IsRuler.calls k _ _ t531 false _ ?side1 ?side2 A53.out).mono ?_); (case side1 => exact atRC HO533); (case side2 => exact (Kd.R_reads' HO533.out).2.1); rintro e w' ⟨rfl, ⟨nd, rfl⟩⟩) | (go_at_call 22; (with_reducible refine (impl_IsRuler.calls k _ _ t531 false _ ?side1 ?side2 A55.out).mono ?_); (case side1 => exact atRC HO533); (case side2 => exact (Kd.R_reads' HO533.out).2.1); rintro e w' ⟨rfl, ⟨nd, rfl⟩⟩) | (go_at_call 23; (with_reducible refine (spec_IsRuler.calls k _ _ t531 false _ ?side1 ?side2 A56.out).mono ?_); (case side1 => exact atRC HO533); (case side2 => exact (Kd.R_reads' HO533.out).2.1); rintro e w' ⟨rfl, ⟨nd, rfl⟩⟩))
                          go_meet
                          case rel => exact ⟨_, ((t571 != false)), eqd, H', ⟨leD⟩, ⟨atR HO533⟩, ⟨atR HO537⟩, ⟨atR HO549⟩, ⟨atR HO565⟩, ⟨atR HO573⟩, ⟨atB HB⟩⟩
                ·replace c52 := Bool.eq_false_iff.mpr c52
                 subst c52
                 rw [if_neg (show ¬ (false = true) by decide)] at H
                 exact absurd (H.trans (congrArg some HT.out)) (laws_FnRulersMeasure.j0_no k l1 t531 t534 t535 t542 t546 t554 t558 t562 t570 t571)
              ·replace c49 := Bool.eq_false_iff.mpr c49
               subst c49
               rw [if_neg (show ¬ (false = true) by decide)] at H
               exact absurd (H.trans (congrArg some HT.out)) (laws_FnRulersMeasure.j0_no k l1 t531 t534 t535 t542 t546 t554 t558 t562 t570 t571)
        ·replace c42 := Bool.eq_false_iff.mpr c42
         subst c42
         rw [if_neg (show ¬ (false = true) by decide)] at H
         exact absurd (H.trans (congrArg some HT.out)) (laws_FnRulersMeasure.j0_no k l1 t531 t534 t535 t542 t546 t554 t558 t562 t570 t571)
      ·rw [if_neg c39] at H
       have c39b0 : (t542 == t544) = false := beq_eq_false_iff_ne.mpr c39
       have c39b1 : (t542 != t544) = true := bne_iff_ne.mpr c39
       exact absurd (H.trans (congrArg some HT.out)) (laws_FnRulersMeasure.j0_no k l1 t531 t534 t535 t542 t546 t554 t558 t562 t570 t571)
    ·replace c37 := Bool.eq_false_iff.mpr c37
     subst c37
     rw [if_neg (show ¬ (false = true) by decide)] at H
     exact absurd (H.trans (congrArg some HT.out)) (laws_FnRulersMeasure.j0_no k l1 t531 t534 t535 t542 t546 t554 t558 t562 t570 t571)
  case rest => as_aux_lemma =>
   clear HC20
   try clear c1
   try clear c2
   try clear p2
   try clear c3
   try clear c4
   try clear c5
   try clear c6
   try clear c7
   try clear c8
   try clear c9
   try clear c10
   try clear c11
   try clear c12
   try clear c13
   try clear c14
   try clear c15
   try clear c16
   try clear c17
   try clear c18
   try clear c19
   try clear c20
   try clear c35
   try clear c35b0
   try clear c35b1
   try clear c35b2
   try clear c37
   try clear c38
   try clear c38b0
   try clear c38b1
   try clear c38b2
   try clear c39
   try clear c39b0
   try clear c39b1
   try clear c40
   try clear c40b0
   try clear c40b1
   try clear c40b2
   try clear c42
   try clear c43
   try clear c43b0
   try clear c43b1
   try clear c43b2
   try clear c44
   try clear c44b0
   try clear c44b1
   try clear c44b2
   try clear c45
   try clear c45b0
   try clear c45b1
   try clear c45b2
   try clear c46
   try clear c46b0
   try clear c46b1
   try clear c46b2
   try clear c47
   try clear c47b0
   try clear c47b1
   try clear c47b2
   try clear c49
   try clear c50
   try clear c50b0
   try clear c50b1
   try clear c50b2
   try clear c52
   try clear c54
   try clear c54b0
   try clear c54b1
   try clear c54b2
   try clear c57
   try clear c57b0
   try clear c57b1
   try clear c57b2
   try clear c58
   try clear c58b0
   try clear c58b1
   try clear c58b2
   try clear c59
   try clear c59b0
   try clear c59b1
   try clear c59b2
   try clear c60
   try clear c60b0
   try clear c60b1
   try clear c60b2
   try clear c61
   try clear c61b0
   try clear c61b1
   try clear c61b2
   try clear c62
   try clear c62b0
   try clear c62b1
   try clear c62b2
   try clear c63
   obtain ⟨kq, x262_19, rfl, HA, HJ19, HO_5, HO_6, HO_14, HO_26, HO_30, HB⟩ := hcut
   cases kq with
   | zero => exact absurd HA.out (by simp [laws_FnRulersMeasure.j0])
   | succ kj19 =>
    have H := HA.out
    clear HA
    simp only [laws_FnRulersMeasure.j0] at H
    by_cases c80 : x262_19 = true
    ·subst c80
     rw [if_pos rfl] at H
     exact absurd ((Option.some.inj H).trans HT.out) (by decide)
    ·replace c80 := Bool.eq_false_iff.mpr c80
     subst c80
     rw [if_neg (show ¬ (false = true) by decide)] at H
     have HC81 := Aside0.mk H
     clear H
     go_upto_if 263 with (fail)
     go_cut [] (fun wc => ∃ (kq : Nat), Aside0 (laws_FnRulersMeasure.j3 kq l1 = some r) ∧ Aside0 (kq ≤ kj19) ∧ Aside0 (Below w.heap.size w wc))
     case first => as_aux_lemma =>
      have H := HC81.out
      clear HC81
      by_cases c82 : t535 = true
      ·subst c82
       rw [if_pos rfl] at H
       replace H := Option.bind_eq_some_iff.mp H
       obtain ⟨⟨t585, t586⟩, A830, H⟩ := H
       (try dsimp only at H)
       have A83 := Aside0.mk A830
       clear A830
       replace H := Option.bind_eq_some_iff.mp H
       obtain ⟨⟨t589, t590⟩, A840, H⟩ := H
       (try dsimp only at H)
       have A84 := Aside0.mk A840
       clear A840
       obtain ⟨ji85, hji85⟩ : ∃ j_ : Int, (wrap64 ((t531.length : Int) - 1)) = j_ := ⟨_, rfl⟩
       replace H : (if 0 ≤ (ji85) then (if (ji85) < (t531.length : Int) then (if t542 = (rd t531 (ji85)) then (if t586 = true then ((laws_jSame.f kj19 t585 t534).bind fun t594 => (if t594 = true then (if t590 = true then ((laws_jSame.f kj19 t589 t531).bind fun t595 => (if t595 = true then (if (wrap64 ((t534.length : Int) + (t546.length : Int))) = t542 then (if (t554 != ((t534.length : Int) == (wrap64 (Int.tdiv (wrap64 ((t531.length : Int) * (ji85))) 2)))) = true then (some false) else (if (t558 != ((t546.length : Int) == 0)) = true then (some false) else (laws_FnRulersMeasure.l0 kj19 l1 t531 t534 t542 t546 t570 t571 (t531.length : Int) (wrap64 (Int.tdiv (wrap64 ((t531.length : Int) * (ji85))) 2)) 0 1))) else (some false)) else (some false))) else (some false)) else (some false))) else (some false)) else (some false)) else (none)) else (none)) = some r := by first | (rw [hji85] at H; exact H) | (simp only [hji85] at H ⊢; exact H)
       (try rw [hji85] at A83)
       (try rw [hji85] at A84)
       have hji85w : (IntKind.i64.wrap ((t531.length : Int) - 1)) = ji85 := (i64_w _).trans hji85
       by_cases c86 : 0 ≤ (ji85)
       ·rw [if_pos c86] at H
        have c86b0 : decide (0 ≤ (ji85)) = true := decide_eq_true c86
        clear c86
        (first | rw [c86b0] | (simp only [i64_w, i32_w]; rw [c86b0]) | skip)
        by_cases c87 : (ji85) < (t531.length : Int)
        ·rw [if_pos c87] at H
         have c87b0 : decide ((ji85) < (t531.length : Int)) = true := decide_eq_true c87
         clear c87
         by_cases c88 : t542 = (rd t531 (ji85))
         ·rw [if_pos c88] at H
          have c88b0 : (t542 == (rd t531 (ji85))) = true := beq_iff_eq.mpr c88
          have c88b1 : (t542 != (rd t531 (ji85))) = false := bne_eq_false_iff_eq.mpr c88
          clear c88
          by_cases c89 : t586 = true
          ·subst c89
           rw [if_pos rfl] at H
           replace H := Option.bind_eq_some_iff.mp H
           obtain ⟨t594, A900, H⟩ := H
           (try dsimp only at H)
           have A90 := Aside0.mk A900
           clear A900
           by_cases c91 : t594 = true
           ·subst c91
            rw [if_pos rfl] at H
            by_cases c92 : t590 = true
            ·subst c92
             rw [if_pos rfl] at H
             replace H := Option.bind_eq_some_iff.mp H
             obtain ⟨t595, A930, H⟩ := H
             (try dsimp only at H)
             have A93 := Aside0.mk A930
             clear A930
             by_cases c94 : t595 = true
             ·subst c94
              rw [if_pos rfl] at H
              by_cases c95 : (wrap64 ((t534.length : Int) + (t546.length : Int))) = t542
              ·rw [if_pos c95] at H
               have c95b0 : ((wrap64 ((t534.length : Int) + (t546.length : Int))) == t542) = true := beq_iff_eq.mpr c95
               have c95b1 : ((wrap64 ((t534.length : Int) + (t546.length : Int))) != t542) = false := bne_eq_false_iff_eq.mpr c95
               clear c95
               by_cases c96 : (t554 != ((t534.length : Int) == (wrap64 (Int.tdiv (wrap64 ((t531.length : Int) * (ji85))) 2)))) = true
               ·rw [if_pos c96] at H
                have c96b0 : (t554 != ((t534.length : Int) == (wrap64 (Int.tdiv (wrap64 ((t531.length : Int) * (ji85))) 2)))) = true := c96
                (try (have c96b1 : decide (t554 = ((t534.length : Int) == (wrap64 (Int.tdiv (wrap64 ((t531.length : Int) * (ji85))) 2)))) = false := by simpa using c96))
                (try (have c96b2 : (t554 == ((t534.length : Int) == (wrap64 (Int.tdiv (wrap64 ((t531.length : Int) * (ji85))) 2)))) = false := by simpa using c96))
                (try (have c96b3 : ¬ (t554 = ((t534.length : Int) == (wrap64 (Int.tdiv (wrap64 ((t531.length : Int) * (ji85))) 2)))) := by simpa using c96))
                clear c96
                exact absurd ((Option.some.inj H).trans HT.out) (by decide)
               ·rw [if_neg c96] at H
                have c96b0 : (t554 != ((t534.length : Int) == (wrap64 (Int.tdiv (wrap64 ((t531.length : Int) * (ji85))) 2)))) = false := by simpa using c96
                (try (have c96b1 : decide (t554 = ((t534.length : Int) == (wrap64 (Int.tdiv (wrap64 ((t531.length : Int) * (ji85))) 2)))) = true := by simpa using c96))
                (try (have c96b2 : (t554 == ((t534.length : Int) == (wrap64 (Int.tdiv (wrap64 ((t531.length : Int) * (ji85))) 2)))) = true := by simpa using c96))
                clear c96
                by_cases c97 : (t558 != ((t546.length : Int) == 0)) = true
                ·rw [if_pos c97] at H
                 have c97b0 : (t558 != ((t546.length : Int) == 0)) = true := c97
                 (try (have c97b1 : decide (t558 = ((t546.length : Int) == 0)) = false := by simpa using c97))
                 (try (have c97b2 : (t558 == ((t546.length : Int) == 0)) = false := by simpa using c97))
                 (try (have c97b3 : ¬ (t558 = ((t546.length : Int) == 0)) := by simpa using c97))
                 clear c97
                 exact absurd ((Option.some.inj H).trans HT.out) (by decide)
                ·rw [if_neg c97] at H
                 have c97b0 : (t558 != ((t546.length : Int) == 0)) = false := by simpa using c97
                 (try (have c97b1 : decide (t558 = ((t546.length : Int) == 0)) = true := by simpa using c97))
                 (try (have c97b2 : (t558 == ((t546.length : Int) == 0)) = true := by simpa using c97))
                 clear c97
                 have H' := Aside0.mk H
                 clear H
                 obtain ⟨Ao98, co98, eo98⟩ := Kd.R_slice HO_26.out
                 subst eo98
                 as_aux_lemma =>
                  go_wp2_with (first | ((with_reducible refine gate_callee (f := 7) rfl ?_); refine goesA (some 273) Try.func7 #[.slice Ao98 t562.length co98] ?_; (with_reducible refine (impl_DistancesOf.calls kj19 _ _ t562 t585 true _ ?side1 ?side2 A83.out).mono ?_); (case side1 => exact atRC HO_26); (case side2 => exact (Kd.R_reads' HO_26.out).2.1); rintro e w99 ⟨v587, rfl, ho0, hb⟩; refine ⟨_, rfl, ?_⟩; have HO588 := lowR ho0 HB; replace HO_5 := upR HO_5 hb; replace HO_6 := upR HO_6 hb; replace HO_14 := upR HO_14 hb; replace HO_26 := upR HO_26 hb; replace HO_30 := upR HO_30 hb; replace HB := upB HB hb; (try clear hb); (try clear hb2); (try clear hk); (try clear hi); (try clear ho0)) | ((with_reducible refine gate_callee (f := 17) rfl ?_); refine goesA (some 278) Try.func17 #[.slice Ao98 t562.length co98] ?_; (with_reducible refine (impl_BackRuler.calls kj19 _ _ t562 t589 true _ ?side1 ?side2 A84.out).mono ?_); (case side1 => exact atRC HO_26); (case side2 => exact (Kd.R_reads' HO_26.out).2.1); rintro e w100 ⟨v591, rfl, ho0, hb⟩; refine ⟨_, rfl, ?_⟩; have HO592 := lowR ho0 HB; replace HO_5 := upR HO_5 hb; replace HO_6 := upR HO_6 hb; replace HO_14 := upR HO_14 hb; replace HO_26 := upR HO_26 hb; replace HO_30 := upR HO_30 hb; replace HO588 := upR HO588 hb; replace HB := upB HB hb; (try clear hb); (try clear hb2); (try clear hk); (try clear hi); (try clear ho0); have p593 : 0 ≤ ((ji85) : Int) := ofd; have q593 : (ji85) < (t531.length : Int) := ofd; obtain ⟨ad593, e593, hx593_0⟩ := Kd.at_int (Kd.R_reads' HO_5.out).2.2 (ji85) p593 q593; cases e593; replace p593 := eq_true p593; replace q593 := eq_true q593; obtain ⟨Ao101, co101, eo101⟩ := Kd.R_slice HO588.out; subst eo101; obtain ⟨Ao102, co102, eo102⟩ := Kd.R_slice HO_6.out; subst eo102) | (go_at_call 21; (with_reducible refine (laws_jSame.calls kj19 _ _ t585 _ _ t534 true _ ?side1 ?side2 ?side3 ?side4 A90.out).mono ?_); (case side1 => exact atRC HO588); (case side2 => exact (Kd.R_reads' HO588.out).2.1); (case side3 => exact atRC HO_6); (case side4 => exact (Kd.R_reads' HO_6.out).2.1); rintro e w' ⟨rfl, ⟨nd, rfl⟩⟩; obtain ⟨Ao103, co103, eo103⟩ := Kd.R_slice HO592.out; subst eo103) | (go_at_call 21; (with_reducible refine (laws_jSame.calls kj19 _ _ t589 _ _ t531 true _ ?side1 ?side2 ?side3 ?side4 A93.out).mono ?_); (case side1 => exact atRC HO592); (case side2 => exact (Kd.R_reads' HO592.out).2.1); (case side3 => exact atRC HO_5); (case side4 => exact (Kd.R_reads' HO_5.out).2.1); rintro e w' ⟨rfl, ⟨nd, rfl⟩⟩; obtain ⟨Ao104, co104, eo104⟩ := Kd.R_slice HO_14.out; subst eo104))
                  go_loopg [40, 41] kj19 (fun kq v40 v41 w' => ∃ (x40_2 : Int) (x41_2 : Int), v40 = .int .i64 x40_2 ∧ v41 = .int .i64 x41_2 ∧ Aside0 (laws_FnRulersMeasure.l0 kq l1 t531 t534 t542 t546 t570 t571 (t531.length : Int) (wrap64 (Int.tdiv (wrap64 ((t531.length : Int) * (ji85))) 2)) x40_2 x41_2 = some r) ∧ Aside0 (kq ≤ kj19) ∧ Aside0 (Kd.R (Kd.int .i64) 3 w' w.heap.size (fun _ => True) (.slice (some ad593) t531.length co22) t531) ∧ Aside0 (Kd.R (Kd.int .i64) 3 w' w.heap.size (fun _ => True) (.slice Ao102 t534.length co102) t534) ∧ Aside0 (Kd.R (Kd.int .i64) 3 w' w.heap.size (fun _ => True) (.slice Ao104 t546.length co104) t546) ∧ Aside0 (Kd.R (Kd.int .i64) 3 w' w.heap.size (fun _ => True) v572 t570) ∧ Aside0 (Below w.heap.size w w'))
                  case atStart => exact ⟨(0), (1), eqd, eqd, H', ⟨Nat.le_refl _⟩, ⟨atR HO_5⟩, ⟨atR HO_6⟩, ⟨atR HO_14⟩, ⟨atR HO_30⟩, ⟨atB HB⟩⟩
                  case round => as_aux_lemma =>
                   clear H'
                   try clear c1
                   try clear c2
                   try clear p2
                   try clear c3
                   try clear c4
                   try clear c5
                   try clear p5
                   try clear q5
                   try clear hx5
                   try clear c6
                   try clear p6
                   try clear c7
                   try clear c8
                   try clear c9
                   try clear c10
                   try clear c11
                   try clear c12
                   try clear c13
                   try clear c14
                   try clear c15
                   try clear c16
                   try clear c17
                   try clear c18
                   try clear c19
                   try clear c20
                   try clear c35
                   try clear c35b0
                   try clear c35b1
                   try clear c35b2
                   try clear c37
                   try clear c38
                   try clear c38b0
                   try clear c38b1
                   try clear c38b2
                   try clear c39
                   try clear c39b0
                   try clear c39b1
                   try clear c40
                   try clear c40b0
                   try clear c40b1
                   try clear c40b2
                   try clear c42
                   try clear c43
                   try clear c43b0
                   try clear c43b1
                   try clear c43b2
                   try clear c44
                   try clear c44b0
                   try clear c44b1
                   try clear c44b2
                   try clear c45
                   try clear c45b0
                   try clear c45b1
                   try clear c45b2
                   try clear c46
                   try clear c46b0
                   try clear c46b1
                   try clear c46b2
                   try clear c47
                   try clear c47b0
                   try clear c47b1
                   try clear c47b2
                   try clear c49
                   try clear c50
                   try clear c50b0
                   try clear c50b1
                   try clear c50b2
                   try clear c52
                   try clear c54
                   try clear c54b0
                   try clear c54b1
                   try clear c54b2
                   try clear c57
                   try clear c57b0
                   try clear c57b1
                   try clear c57b2
                   try clear c58
                   try clear c58b0
                   try clear c58b1
                   try clear c58b2
                   try clear c59
                   try clear c59b0
                   try clear c59b1
                   try clear c59b2
                   try clear p59
                   try clear q59
                   try clear hx59
                   try clear c60
                   try clear c60b0
                   try clear c60b1
                   try clear c60b2
                   try clear c61
                   try clear c61b0
                   try clear c61b1
                   try clear c61b2
                   try clear c62
                   try clear c62b0
                   try clear c62b1
                   try clear c62b2
                   try clear c63
                   try clear p64
                   try clear c80
                   try clear c82
                   try clear c86
                   try clear c86b0
                   try clear c87
                   try clear c87b0
                   try clear c88
                   try clear c88b0
                   try clear c88b1
                   try clear c89
                   try clear c91
                   try clear c92
                   try clear c94
                   try clear c95
                   try clear c95b0
                   try clear c95b1
                   try clear c96
                   try clear c96b0
                   try clear c96b1
                   try clear c96b2
                   try clear c97
                   try clear c97b0
                   try clear c97b1
                   try clear c97b2
                   try clear hx593_0
                   try clear p2
                   try clear p593
                   try clear q593
                   obtain ⟨x40_2, x41_2, rfl, rfl, HA, HK2, HO_5, HO_6, HO_14, HO_30, HB⟩ := hrel
                   cases gk with
                   | zero => exact absurd HA.out (by simp [laws_FnRulersMeasure.l0])
                   | succ k2 =>
                    have H := HA.out
                    clear HA
                    simp only [laws_FnRulersMeasure.l0] at H
                    by_cases c105 : x41_2 ≤ t542
                    ·rw [if_pos c105] at H
                     have c105b0 : decide (x41_2 ≤ t542) = true := decide_eq_true c105
                     clear c105
                     replace H := Option.bind_eq_some_iff.mp H
                     obtain ⟨⟨t596, t597⟩, A1060, H⟩ := H
                     (try dsimp only at H)
                     have A106 := Aside0.mk A1060
                     clear A1060
                     replace H := Option.bind_eq_some_iff.mp H
                     obtain ⟨⟨t598, t599, t600⟩, A1070, H⟩ := H
                     (try dsimp only at H)
                     have A107 := Aside0.mk A1070
                     clear A1070
                     by_cases c108 : t597 = true
                     ·subst c108
                      rw [if_pos rfl] at H
                      replace H := Option.bind_eq_some_iff.mp H
                      obtain ⟨t601, A1090, H⟩ := H
                      (try dsimp only at H)
                      have A109 := Aside0.mk A1090
                      clear A1090
                      by_cases c110 : ((decide (t596 > 0)) != t601) = true
                      ·rw [if_pos c110] at H
                       have c110b0 : ((decide (t596 > 0)) != t601) = true := c110
                       (try (have c110b1 : decide ((decide (t596 > 0)) = t601) = false := by simpa using c110))
                       (try (have c110b2 : ((decide (t596 > 0)) == t601) = false := by simpa using c110))
                       (try (have c110b3 : ¬ ((decide (t596 > 0)) = t601) := by simpa using c110))
                       clear c110
                       exact absurd ((Option.some.inj H).trans HT.out) (by decide)
                      ·rw [if_neg c110] at H
                       have c110b0 : ((decide (t596 > 0)) != t601) = false := by simpa using c110
                       (try (have c110b1 : decide ((decide (t596 > 0)) = t601) = true := by simpa using c110))
                       (try (have c110b2 : ((decide (t596 > 0)) == t601) = true := by simpa using c110))
                       clear c110
                       replace H := Option.bind_eq_some_iff.mp H
                       obtain ⟨t602, A1110, H⟩ := H
                       (try dsimp only at H)
                       have A111 := Aside0.mk A1110
                       clear A1110
                       by_cases c112 : ((decide (t596 > 0)) == t602) = true
                       ·rw [if_pos c112] at H
                        have c112b0 : ((decide (t596 > 0)) == t602) = true := c112
                        (try (have c112b1 : decide ((decide (t596 > 0)) = t602) = true := by simpa using c112))
                        (try (have c112b2 : ((decide (t596 > 0)) == t602) = true := by simpa using c112))
                        clear c112
                        exact absurd ((Option.some.inj H).trans HT.out) (by decide)
                       ·rw [if_neg c112] at H
                        have c112b0 : ((decide (t596 > 0)) == t602) = false := by simpa using c112
                        (try (have c112b1 : decide ((decide (t596 > 0)) = t602) = false := by simpa using c112))
                        (try (have c112b2 : ((decide (t596 > 0)) == t602) = false := by simpa using c112))
                        (try (have c112b3 : ¬ ((decide (t596 > 0)) = t602) := by simpa using c112))
                        clear c112
                        by_cases c113 : (t600 != (decide (t596 > 0))) = true
                        ·rw [if_pos c113] at H
                         have c113b0 : (t600 != (decide (t596 > 0))) = true := c113
                         (try (have c113b1 : decide (t600 = (decide (t596 > 0))) = false := by simpa using c113))
                         (try (have c113b2 : (t600 == (decide (t596 > 0))) = false := by simpa using c113))
                         (try (have c113b3 : ¬ (t600 = (decide (t596 > 0))) := by simpa using c113))
                         clear c113
                         exact absurd ((Option.some.inj H).trans HT.out) (by decide)
                        ·rw [if_neg c113] at H
                         have c113b0 : (t600 != (decide (t596 > 0))) = false := by simpa using c113
                         (try (have c113b1 : decide (t600 = (decide (t596 > 0))) = true := by simpa using c113))
                         (try (have c113b2 : (t600 == (decide (t596 > 0))) = true := by simpa using c113))
                         clear c113
                         by_cases c114 : t600 = true
                         ·subst c114
                          rw [if_pos rfl] at H
                          by_cases c115 : (wrap64 (t599 - t598)) = x41_2
                          ·rw [if_pos c115] at H
                           have c115b0 : ((wrap64 (t599 - t598)) == x41_2) = true := beq_iff_eq.mpr c115
                           have c115b1 : ((wrap64 (t599 - t598)) != x41_2) = false := bne_eq_false_iff_eq.mpr c115
                           clear c115
                           replace H := Option.bind_eq_some_iff.mp H
                           obtain ⟨t603, A1160, H⟩ := H
                           (try dsimp only at H)
                           have A116 := Aside0.mk A1160
                           clear A1160
                           by_cases c117 : t603 = true
                           ·subst c117
                            rw [if_pos rfl] at H
                            replace H := Option.bind_eq_some_iff.mp H
                            obtain ⟨t604, A1180, H⟩ := H
                            (try dsimp only at H)
                            have A118 := Aside0.mk A1180
                            clear A1180
                            by_cases c119 : t604 = true
                            ·subst c119
                             rw [if_pos rfl] at H
                             have H' := Aside0.mk H
                             clear H
                             go_wp2_with (first | ((with_reducible refine gate_callee (f := 24) rfl ?_); refine goesA (some 340) Try.func24 #[.slice (some ad593) t531.length co22, .int .i64 x41_2] ?_; (with_reducible refine (impl_TimesMeasured.calls k2 _ _ t531 x41_2 t596 true _ ?side1 ?side2 A106.out).mono ?_); (case side1 => exact atRC HO_5); (case side2 => exact (Kd.R_reads' HO_5.out).2.1); rintro e w120 ⟨rfl, hb⟩; refine ⟨_, rfl, ?_⟩; replace HO_5 := upR HO_5 hb; replace HO_6 := upR HO_6 hb; replace HO_14 := upR HO_14 hb; replace HO_30 := upR HO_30 hb; replace HB := upB HB hb; (try clear hb); (try clear hb2); (try clear hk); (try clear hi)) | ((with_reducible refine gate_callee (f := 25) rfl ?_); refine goesA (some 346) Try.func25 #[.slice (some ad593) t531.length co22, .int .i64 x41_2] ?_; (with_reducible refine (impl_MeasureWith.calls k2 _ _ t531 x41_2 t598 t599 true _ ?side1 ?side2 A107.out).mono ?_); (case side1 => exact atRC HO_5); (case side2 => exact (Kd.R_reads' HO_5.out).2.1); rintro e w' ⟨rfl, ⟨nd, rfl⟩⟩; refine ⟨_, rfl, ?_⟩) | (go_at_call 26; (with_reducible refine (laws_jHas.calls k2 _ _ t534 x41_2 t601 _ ?side1 ?side2 A109.out).mono ?_); (case side1 => exact atRC HO_6); (case side2 => exact (Kd.R_reads' HO_6.out).2.1); rintro e w' ⟨rfl, ⟨nd, rfl⟩⟩) | (go_at_call 26; (with_reducible refine (laws_jHas.calls k2 _ _ t546 x41_2 t602 _ ?side1 ?side2 A111.out).mono ?_); (case side1 => exact atRC HO_14); (case side2 => exact (Kd.R_reads' HO_14.out).2.1); rintro e w' ⟨rfl, ⟨nd, rfl⟩⟩) | (go_at_call 26; (with_reducible refine (laws_jHas.calls k2 _ _ t531 t598 true _ ?side1 ?side2 A116.out).mono ?_); (case side1 => exact atRC HO_5); (case side2 => exact (Kd.R_reads' HO_5.out).2.1); rintro e w' ⟨rfl, ⟨nd, rfl⟩⟩) | (go_at_call 26; (with_reducible refine (laws_jHas.calls k2 _ _ t531 t599 true _ ?side1 ?side2 A118.out).mono ?_); (case side1 => exact atRC HO_5); (case side2 => exact (Kd.R_reads' HO_5.out).2.1); rintro e w' ⟨rfl, ⟨nd, rfl⟩⟩))
                             first | go_roundg k2 | ((try subst hji85); go_roundg k2)
                             case measure => have := HJ19.out; have := HK2.out; omega
                             case rel => exact ⟨(wrap64 (x40_2 + t596)), (wrap64 (x41_2 + 1)), eqd, eqd, H', ⟨by have := HJ19.out; have := HK2.out; omega⟩, ⟨atR HO_5⟩, ⟨atR HO_6⟩, ⟨atR HO_14⟩, ⟨atR HO_30⟩, ⟨atB HB⟩⟩
                            ·replace c119 := Bool.eq_false_iff.mpr c119
                             subst c119
                             rw [if_neg (show ¬ (false = true) by decide)] at H
                             exact absurd ((Option.some.inj H).trans HT.out) (by decide)
                           ·replace c117 := Bool.eq_false_iff.mpr c117
                            subst c117
                            rw [if_neg (show ¬ (false = true) by decide)] at H
                            exact absurd ((Option.some.inj H).trans HT.out) (by decide)
                          ·rw [if_neg c115] at H
                           have c115b0 : ((wrap64 (t599 - t598)) == x41_2) = false := beq_eq_false_iff_ne.mpr c115
                           have c115b1 : ((wrap64 (t599 - t598)) != x41_2) = true := bne_iff_ne.mpr c115
                           exact absurd ((Option.some.inj H).trans HT.out) (by decide)
                         ·replace c114 := Bool.eq_false_iff.mpr c114
                          subst c114
                          rw [if_neg (show ¬ (false = true) by decide)] at H
                          have H' := Aside0.mk H
                          clear H
                          go_wp2_with (first | ((with_reducible refine gate_callee (f := 24) rfl ?_); refine goesA (some 340) Try.func24 #[.slice (some ad593) t531.length co22, .int .i64 x41_2] ?_; (with_reducible refine (impl_TimesMeasured.calls k2 _ _ t531 x41_2 t596 true _ ?side1 ?side2 A106.out).mono ?_); (case side1 => exact atRC HO_5); (case side2 => exact (Kd.R_reads' HO_5.out).2.1); rintro e w121 ⟨rfl, hb⟩; refine ⟨_, rfl, ?_⟩; replace HO_5 := upR HO_5 hb; replace HO_6 := upR HO_6 hb; replace HO_14 := upR HO_14 hb; replace HO_30 := upR HO_30 hb; replace HB := upB HB hb; (try clear hb); (try clear hb2); (try clear hk); (try clear hi)) | ((with_reducible refine gate_callee (f := 25) rfl ?_); refine goesA (some 346) Try.func25 #[.slice (some ad593) t531.length co22, .int .i64 x41_2] ?_; (with_reducible refine (impl_MeasureWith.calls k2 _ _ t531 x41_2 t598 t599 false _ ?side1 ?side2 A107.out).mono ?_); (case side1 => exact atRC HO_5); (case side2 => exact (Kd.R_reads' HO_5.out).2.1); rintro e w' ⟨rfl, ⟨nd, rfl⟩⟩; refine ⟨_, rfl, ?_⟩) | (go_at_call 26; (with_reducible refine (laws_jHas.calls k2 _ _ t534 x41_2 t601 _ ?side1 ?side2 A109.out).mono ?_); (case side1 => exact atRC HO_6); (case side2 => exact (Kd.R_reads' HO_6.out).2.1); rintro e w' ⟨rfl, ⟨nd, rfl⟩⟩) | (go_at_call 26; (with_reducible refine (laws_jHas.calls k2 _ _ t546 x41_2 t602 _ ?side1 ?side2 A111.out).mono ?_); (case side1 => exact atRC HO_14); (case side2 => exact (Kd.R_reads' HO_14.out).2.1); rintro e w' ⟨rfl, ⟨nd, rfl⟩⟩))
                          first | go_roundg k2 | ((try subst hji85); go_roundg k2)
                          case measure => have := HJ19.out; have := HK2.out; omega
                          case rel => exact ⟨(wrap64 (x40_2 + t596)), (wrap64 (x41_2 + 1)), eqd, eqd, H', ⟨by have := HJ19.out; have := HK2.out; omega⟩, ⟨atR HO_5⟩, ⟨atR HO_6⟩, ⟨atR HO_14⟩, ⟨atR HO_30⟩, ⟨atB HB⟩⟩
                     ·replace c108 := Bool.eq_false_iff.mpr c108
                      subst c108
                      rw [if_neg (show ¬ (false = true) by decide)] at H
                      exact absurd ((Option.some.inj H).trans HT.out) (by decide)
                    ·rw [if_neg c105] at H
                     have c105b0 : decide (x41_2 ≤ t542) = false := decide_eq_false c105
                     clear c105
                     by_cases c122 : x40_2 = (wrap64 (Int.tdiv (wrap64 ((t531.length : Int) * (ji85))) 2))
                     ·rw [if_pos c122] at H
                      have c122b0 : (x40_2 == (wrap64 (Int.tdiv (wrap64 ((t531.length : Int) * (ji85))) 2))) = true := beq_iff_eq.mpr c122
                      have c122b1 : (x40_2 != (wrap64 (Int.tdiv (wrap64 ((t531.length : Int) * (ji85))) 2))) = false := bne_eq_false_iff_eq.mpr c122
                      clear c122
                      have H' := Aside0.mk H
                      clear H
                      go_wp2
                      go_loopg [47] k2 (fun kq v47 w' => ∃ (x47_3 : Int), v47 = .int .i64 x47_3 ∧ Aside0 (laws_FnRulersMeasure.l1 kq l1 t531 t542 t570 t571 (t531.length : Int) x47_3 = some r) ∧ Aside0 (kq ≤ k2) ∧ Aside0 (Kd.R (Kd.int .i64) 3 w' w.heap.size (fun _ => True) (.slice (some ad593) t531.length co22) t531) ∧ Aside0 (Kd.R (Kd.int .i64) 3 w' w.heap.size (fun _ => True) v572 t570) ∧ Aside0 (Below w.heap.size w w'))
                      case atStart => exact ⟨(1), eqd, H', ⟨Nat.le_refl _⟩, ⟨atR HO_5⟩, ⟨atR HO_30⟩, ⟨atB HB⟩⟩
                      case round => as_aux_lemma =>
                       clear H'
                       try clear c1
                       try clear c2
                       try clear p2
                       try clear c3
                       try clear c4
                       try clear c5
                       try clear p5
                       try clear q5
                       try clear hx5
                       try clear c6
                       try clear p6
                       try clear c7
                       try clear c8
                       try clear c9
                       try clear c10
                       try clear c11
                       try clear c12
                       try clear c13
                       try clear c14
                       try clear c15
                       try clear c16
                       try clear c17
                       try clear c18
                       try clear c19
                       try clear c20
                       try clear c24
                       try clear c25
                       try clear c35
                       try clear c35b0
                       try clear c35b1
                       try clear c35b2
                       try clear c37
                       try clear c38
                       try clear c38b0
                       try clear c38b1
                       try clear c38b2
                       try clear c39
                       try clear c39b0
                       try clear c39b1
                       try clear c40
                       try clear c40b0
                       try clear c40b1
                       try clear c40b2
                       try clear c42
                       try clear c43
                       try clear c43b0
                       try clear c43b1
                       try clear c43b2
                       try clear c44
                       try clear c44b0
                       try clear c44b1
                       try clear c44b2
                       try clear c45
                       try clear c45b0
                       try clear c45b1
                       try clear c45b2
                       try clear c46
                       try clear c46b0
                       try clear c46b1
                       try clear c46b2
                       try clear c47
                       try clear c47b0
                       try clear c47b1
                       try clear c47b2
                       try clear c49
                       try clear c50
                       try clear c50b0
                       try clear c50b1
                       try clear c50b2
                       try clear c52
                       try clear c54
                       try clear c54b0
                       try clear c54b1
                       try clear c54b2
                       try clear c57
                       try clear c57b0
                       try clear c57b1
                       try clear c57b2
                       try clear c58
                       try clear c58b0
                       try clear c58b1
                       try clear c58b2
                       try clear c59
                       try clear c59b0
                       try clear c59b1
                       try clear c59b2
                       try clear p59
                       try clear q59
                       try clear hx59
                       try clear c60
                       try clear c60b0
                       try clear c60b1
                       try clear c60b2
                       try clear c61
                       try clear c61b0
                       try clear c61b1
                       try clear c61b2
                       try clear c62
                       try clear c62b0
                       try clear c62b1
                       try clear c62b2
                       try clear c63
                       try clear p64
                       try clear c80
                       try clear c82
                       try clear c86
                       try clear c86b0
                       try clear c87
                       try clear c87b0
                       try clear c88
                       try clear c88b0
                       try clear c88b1
                       try clear c89
                       try clear c91
                       try clear c92
                       try clear c94
                       try clear c95
                       try clear c95b0
                       try clear c95b1
                       try clear c96
                       try clear c96b0
                       try clear c96b1
                       try clear c96b2
                       try clear c97
                       try clear c97b0
                       try clear c97b1
                       try clear c97b2
                       try clear c105
                       try clear c105b0
                       try clear c108
                       try clear c110
                       try clear c110b0
                       try clear c110b1
                       try clear c110b2
                       try clear c112
                       try clear c112b0
                       try clear c112b1
                       try clear c112b2
                       try clear c113
                       try clear c113b0
                       try clear c113b1
                       try clear c113b2
                       try clear c114
                       try clear c115
                       try clear c115b0
                       try clear c115b1
                       try clear c117
                       try clear c119
                       try clear c122
                       try clear c122b0
                       try clear c122b1
                       try clear hx593_0
                       try clear p2
                       try clear p5
                       try clear p59
                       try clear p593
                       try clear p6
                       try clear p64
                       try clear q5
                       try clear q59
                       try clear q593
                       obtain ⟨x47_3, rfl, HA, HK3, HO_5, HO_30, HB⟩ := hrel
                       cases gk with
                       | zero => exact absurd HA.out (by simp [laws_FnRulersMeasure.l1])
                       | succ k3 =>
                        have H := HA.out
                        clear HA
                        simp only [laws_FnRulersMeasure.l1] at H
                        by_cases c123 : x47_3 < t542
                        ·rw [if_pos c123] at H
                         have c123b0 : decide (x47_3 < t542) = true := decide_eq_true c123
                         clear c123
                         replace H := Option.bind_eq_some_iff.mp H
                         obtain ⟨⟨t605, t606⟩, A1240, H⟩ := H
                         (try dsimp only at H)
                         have A124 := Aside0.mk A1240
                         clear A1240
                         by_cases c125 : t606 = true
                         ·subst c125
                          rw [if_pos rfl] at H
                          replace H := Option.bind_eq_some_iff.mp H
                          obtain ⟨⟨t609, t610⟩, A1260, H⟩ := H
                          (try dsimp only at H)
                          have A126 := Aside0.mk A1260
                          clear A1260
                          by_cases c127 : t610 = true
                          ·subst c127
                           rw [if_pos rfl] at H
                           by_cases c128 : t571 = true
                           ·subst c128
                            rw [if_pos rfl] at H
                            replace H := Option.bind_eq_some_iff.mp H
                            obtain ⟨t611, A1290, H⟩ := H
                            (try dsimp only at H)
                            have A129 := Aside0.mk A1290
                            clear A1290
                            by_cases c130 : (t609 != t611) = true
                            ·rw [if_pos c130] at H
                             have c130b0 : (t609 != t611) = true := c130
                             (try (have c130b1 : decide (t609 = t611) = false := by simpa using c130))
                             (try (have c130b2 : (t609 == t611) = false := by simpa using c130))
                             (try (have c130b3 : ¬ (t609 = t611) := by simpa using c130))
                             clear c130
                             exact absurd ((Option.some.inj H).trans HT.out) (by decide)
                            ·rw [if_neg c130] at H
                             have c130b0 : (t609 != t611) = false := by simpa using c130
                             (try (have c130b1 : decide (t609 = t611) = true := by simpa using c130))
                             (try (have c130b2 : (t609 == t611) = true := by simpa using c130))
                             clear c130
                             by_cases c131 : (t605.length : Int) = (wrap64 ((t531.length : Int) + 1))
                             ·rw [if_pos c131] at H
                              have c131b0 : ((t605.length : Int) == (wrap64 ((t531.length : Int) + 1))) = true := beq_iff_eq.mpr c131
                              have c131b1 : ((t605.length : Int) != (wrap64 ((t531.length : Int) + 1))) = false := bne_eq_false_iff_eq.mpr c131
                              clear c131
                              have H' := Aside0.mk H
                              clear H
                              go_wp2_with (first | ((with_reducible refine gate_callee (f := 27) rfl ?_); refine goesA (some 410) Try.func27 #[.slice (some ad593) t531.length co22, .int .i64 x47_3] ?_; (with_reducible refine (impl_AddMark.calls k3 _ _ t531 x47_3 t605 true _ ?side1 ?side2 A124.out).mono ?_); (case side1 => exact atRC HO_5); (case side2 => exact (Kd.R_reads' HO_5.out).2.1); rintro e w132 ⟨v607, rfl, ho0, hb⟩; refine ⟨_, rfl, ?_⟩; have HO608 := lowR ho0 HB; replace HO_5 := upR HO_5 hb; replace HO_30 := upR HO_30 hb; replace HB := upB HB hb; (try clear hb); (try clear hb2); (try clear hk); (try clear hi); (try clear ho0); obtain ⟨Ao133, co133, eo133⟩ := Kd.R_slice HO608.out; subst eo133) | ((with_reducible refine gate_callee (f := 13) rfl ?_); refine goesA (some 417) Try.func13 #[.slice Ao133 t605.length co133] ?_; (with_reducible refine (impl_IsDifferent.calls k3 _ _ t605 t609 true _ ?side1 ?side2 A126.out).mono ?_); (case side1 => exact atRC HO608); (case side2 => exact (Kd.R_reads' HO608.out).2.1); rintro e w134 ⟨rfl, hb⟩; refine ⟨_, rfl, ?_⟩; replace HO_5 := upR HO_5 hb; replace HO_30 := upR HO_30 hb; replace HO608 := upR HO608 hb; replace HB := upB HB hb; (try clear hb); (try clear hb2); (try clear hk); (try clear hi); obtain ⟨Ao135, co135, eo135⟩ := Kd.R_slice HO_30.out; subst eo135) | (go_at_call 26; (with_reducible refine (laws_jHas.calls k3 _ _ t570 x47_3 t611 _ ?side1 ?side2 A129.out).mono ?_); (case side1 => exact atRC HO_30); (case side2 => exact (Kd.R_reads' HO_30.out).2.1); rintro e w' ⟨rfl, ⟨nd, rfl⟩⟩))
                              first | go_roundg k3 | ((try subst hji85); go_roundg k3)
                              case measure => have := HJ19.out; have := HK2.out; have := HK3.out; omega
                              case rel => exact ⟨(wrap64 (x47_3 + 1)), eqd, H', ⟨by have := HJ19.out; have := HK2.out; have := HK3.out; omega⟩, ⟨atR HO_5⟩, ⟨atR HO_30⟩, ⟨atB HB⟩⟩
                             ·rw [if_neg c131] at H
                              have c131b0 : ((t605.length : Int) == (wrap64 ((t531.length : Int) + 1))) = false := beq_eq_false_iff_ne.mpr c131
                              have c131b1 : ((t605.length : Int) != (wrap64 ((t531.length : Int) + 1))) = true := bne_iff_ne.mpr c131
                              exact absurd ((Option.some.inj H).trans HT.out) (by decide)
                           ·replace c128 := Bool.eq_false_iff.mpr c128
                            subst c128
                            rw [if_neg (show ¬ (false = true) by decide)] at H
                            by_cases c136 : (t605.length : Int) = (wrap64 ((t531.length : Int) + 1))
                            ·rw [if_pos c136] at H
                             have c136b0 : ((t605.length : Int) == (wrap64 ((t531.length : Int) + 1))) = true := beq_iff_eq.mpr c136
                             have c136b1 : ((t605.length : Int) != (wrap64 ((t531.length : Int) + 1))) = false := bne_eq_false_iff_eq.mpr c136
                             clear c136
                             have H' := Aside0.mk H
                             clear H
                             go_wp2_with (first | ((with_reducible refine gate_callee (f := 27) rfl ?_); refine goesA (some 410) Try.func27 #[.slice (some ad593) t531.length co22, .int .i64 x47_3] ?_; (with_reducible refine (impl_AddMark.calls k3 _ _ t531 x47_3 t605 true _ ?side1 ?side2 A124.out).mono ?_); (case side1 => exact atRC HO_5); (case side2 => exact (Kd.R_reads' HO_5.out).2.1); rintro e w137 ⟨v607, rfl, ho0, hb⟩; refine ⟨_, rfl, ?_⟩; have HO608 := lowR ho0 HB; replace HO_5 := upR HO_5 hb; replace HO_30 := upR HO_30 hb; replace HB := upB HB hb; (try clear hb); (try clear hb2); (try clear hk); (try clear hi); (try clear ho0); obtain ⟨Ao138, co138, eo138⟩ := Kd.R_slice HO608.out; subst eo138) | ((with_reducible refine gate_callee (f := 13) rfl ?_); refine goesA (some 417) Try.func13 #[.slice Ao138 t605.length co138] ?_; (with_reducible refine (impl_IsDifferent.calls k3 _ _ t605 t609 true _ ?side1 ?side2 A126.out).mono ?_); (case side1 => exact atRC HO608); (case side2 => exact (Kd.R_reads' HO608.out).2.1); rintro e w139 ⟨rfl, hb⟩; refine ⟨_, rfl, ?_⟩; replace HO_5 := upR HO_5 hb; replace HO_30 := upR HO_30 hb; replace HO608 := upR HO608 hb; replace HB := upB HB hb; (try clear hb); (try clear hb2); (try clear hk); (try clear hi)))
                             first | go_roundg k3 | ((try subst hji85); go_roundg k3)
                             case measure => have := HJ19.out; have := HK2.out; have := HK3.out; omega
                             case rel => exact ⟨(wrap64 (x47_3 + 1)), eqd, H', ⟨by have := HJ19.out; have := HK2.out; have := HK3.out; omega⟩, ⟨atR HO_5⟩, ⟨atR HO_30⟩, ⟨atB HB⟩⟩
                            ·rw [if_neg c136] at H
                             have c136b0 : ((t605.length : Int) == (wrap64 ((t531.length : Int) + 1))) = false := beq_eq_false_iff_ne.mpr c136
                             have c136b1 : ((t605.length : Int) != (wrap64 ((t531.length : Int) + 1))) = true := bne_iff_ne.mpr c136
                             exact absurd ((Option.some.inj H).trans HT.out) (by decide)
                          ·replace c127 := Bool.eq_false_iff.mpr c127
                           subst c127
                           rw [if_neg (show ¬ (false = true) by decide)] at H
                           exact absurd ((Option.some.inj H).trans HT.out) (by decide)
                         ·replace c125 := Bool.eq_false_iff.mpr c125
                          subst c125
                          rw [if_neg (show ¬ (false = true) by decide)] at H
                          have H' := Aside0.mk H
                          clear H
                          go_wp2_with (first | ((with_reducible refine gate_callee (f := 27) rfl ?_); refine goesA (some 410) Try.func27 #[.slice (some ad593) t531.length co22, .int .i64 x47_3] ?_; (with_reducible refine (impl_AddMark.calls k3 _ _ t531 x47_3 t605 false _ ?side1 ?side2 A124.out).mono ?_); (case side1 => exact atRC HO_5); (case side2 => exact (Kd.R_reads' HO_5.out).2.1); rintro e w140 ⟨v607, rfl, ho0, hb⟩; refine ⟨_, rfl, ?_⟩; have HO608 := lowR ho0 HB; replace HO_5 := upR HO_5 hb; replace HO_30 := upR HO_30 hb; replace HB := upB HB hb; (try clear hb); (try clear hb2); (try clear hk); (try clear hi); (try clear ho0)))
                          first | go_roundg k3 | ((try subst hji85); go_roundg k3)
                          case measure => have := HJ19.out; have := HK2.out; have := HK3.out; omega
                          case rel => exact ⟨(wrap64 (x47_3 + 1)), eqd, H', ⟨by have := HJ19.out; have := HK2.out; have := HK3.out; omega⟩, ⟨atR HO_5⟩, ⟨atR HO_30⟩, ⟨atB HB⟩⟩
                        ·rw [if_neg c123] at H
                         have c123b0 : decide (x47_3 < t542) = false := decide_eq_false c123
                         clear c123
                         have H' := Aside0.mk H
                         clear H
                         go_wp2
                         go_meet
                         case rel => exact ⟨_, H', ⟨by have := HJ19.out; have := HK2.out; have := HK3.out; first | omega | exact Nat.le_refl _⟩, ⟨atB HB⟩⟩
                     ·rw [if_neg c122] at H
                      have c122b0 : (x40_2 == (wrap64 (Int.tdiv (wrap64 ((t531.length : Int) * (ji85))) 2))) = false := beq_eq_false_iff_ne.mpr c122
                      have c122b1 : (x40_2 != (wrap64 (Int.tdiv (wrap64 ((t531.length : Int) * (ji85))) 2))) = true := bne_iff_ne.mpr c122
                      exact absurd ((Option.some.inj H).trans HT.out) (by decide)
              ·rw [if_neg c95] at H
               have c95b0 : ((wrap64 ((t534.length : Int) + (t546.length : Int))) == t542) = false := beq_eq_false_iff_ne.mpr c95
               have c95b1 : ((wrap64 ((t534.length : Int) + (t546.length : Int))) != t542) = true := bne_iff_ne.mpr c95
               exact absurd ((Option.some.inj H).trans HT.out) (by decide)
             ·replace c94 := Bool.eq_false_iff.mpr c94
              subst c94
              rw [if_neg (show ¬ (false = true) by decide)] at H
              exact absurd ((Option.some.inj H).trans HT.out) (by decide)
            ·replace c92 := Bool.eq_false_iff.mpr c92
             subst c92
             rw [if_neg (show ¬ (false = true) by decide)] at H
             exact absurd ((Option.some.inj H).trans HT.out) (by decide)
           ·replace c91 := Bool.eq_false_iff.mpr c91
            subst c91
            rw [if_neg (show ¬ (false = true) by decide)] at H
            exact absurd ((Option.some.inj H).trans HT.out) (by decide)
          ·replace c89 := Bool.eq_false_iff.mpr c89
           subst c89
           rw [if_neg (show ¬ (false = true) by decide)] at H
           exact absurd ((Option.some.inj H).trans HT.out) (by decide)
         ·rw [if_neg c88] at H
          have c88b0 : (t542 == (rd t531 (ji85))) = false := beq_eq_false_iff_ne.mpr c88
          have c88b1 : (t542 != (rd t531 (ji85))) = true := bne_iff_ne.mpr c88
          exact absurd ((Option.some.inj H).trans HT.out) (by decide)
        ·rw [if_neg c87] at H
         exact absurd H (by simp)
       ·rw [if_neg c86] at H
        exact absurd H (by simp)
      ·replace c82 := Bool.eq_false_iff.mpr c82
       subst c82
       rw [if_neg (show ¬ (false = true) by decide)] at H
       have H' := Aside0.mk H
       clear H
       as_aux_lemma =>
        go_wp2
        go_meet
        case rel => exact ⟨_, H', ⟨by have := HJ19.out; first | omega | exact Nat.le_refl _⟩, ⟨atB HB⟩⟩
     case rest => as_aux_lemma =>
      clear HC81
      try clear c1
      try clear c2
      try clear p2
      try clear c3
      try clear c4
      try clear c5
      try clear p5
      try clear q5
      try clear hx5
      try clear c6
      try clear p6
      try clear c7
      try clear c8
      try clear c9
      try clear c10
      try clear c11
      try clear c12
      try clear c13
      try clear c14
      try clear c15
      try clear c16
      try clear c17
      try clear c18
      try clear c19
      try clear c20
      try clear c24
      try clear c25
      try clear c27
      try clear c35
      try clear c35b0
      try clear c35b1
      try clear c35b2
      try clear c37
      try clear c38
      try clear c38b0
      try clear c38b1
      try clear c38b2
      try clear c39
      try clear c39b0
      try clear c39b1
      try clear c40
      try clear c40b0
      try clear c40b1
      try clear c40b2
      try clear c42
      try clear c43
      try clear c43b0
      try clear c43b1
      try clear c43b2
      try clear c44
      try clear c44b0
      try clear c44b1
      try clear c44b2
      try clear c45
      try clear c45b0
      try clear c45b1
      try clear c45b2
      try clear c46
      try clear c46b0
      try clear c46b1
      try clear c46b2
      try clear c47
      try clear c47b0
      try clear c47b1
      try clear c47b2
      try clear c49
      try clear c50
      try clear c50b0
      try clear c50b1
      try clear c50b2
      try clear c52
      try clear c54
      try clear c54b0
      try clear c54b1
      try clear c54b2
      try clear c57
      try clear c57b0
      try clear c57b1
      try clear c57b2
      try clear c58
      try clear c58b0
      try clear c58b1
      try clear c58b2
      try clear c59
      try clear c59b0
      try clear c59b1
      try clear c59b2
      try clear p59
      try clear q59
      try clear hx59
      try clear c60
      try clear c60b0
      try clear c60b1
      try clear c60b2
      try clear c61
      try clear c61b0
      try clear c61b1
      try clear c61b2
      try clear c62
      try clear c62b0
      try clear c62b1
      try clear c62b2
      try clear c63
      try clear p64
      try clear c80
      try clear c82
      try clear c86
      try clear c86b0
      try clear c87
      try clear c87b0
      try clear c88
      try clear c88b0
      try clear c88b1
      try clear c89
      try clear c91
      try clear c92
      try clear c94
      try clear c95
      try clear c95b0
      try clear c95b1
      try clear c96
      try clear c96b0
      try clear c96b1
      try clear c96b2
      try clear c97
      try clear c97b0
      try clear c97b1
      try clear c97b2
      try clear c105
      try clear c105b0
      try clear c108
      try clear c110
      try clear c110b0
      try clear c110b1
      try clear c110b2
      try clear c112
      try clear c112b0
      try clear c112b1
      try clear c112b2
      try clear c113
      try clear c113b0
      try clear c113b1
      try clear c113b2
      try clear c114
      try clear c115
      try clear c115b0
      try clear c115b1
      try clear c117
      try clear c119
      try clear c122
      try clear c122b0
      try clear c122b1
      try clear c123
      try clear c123b0
      try clear c125
      try clear c127
      try clear c128
      try clear c130
      try clear c130b0
      try clear c130b1
      try clear c130b2
      try clear c131
      try clear c131b0
      try clear c131b1
      try clear c136
      try clear c136b0
      try clear c136b1
      try clear hx593_0
      try clear p2
      try clear p5
      try clear p59
      try clear p593
      try clear p6
      try clear p64
      try clear q5
      try clear q59
      try clear q593
      obtain ⟨kq, HA, HJ80, HB⟩ := hcut
      cases kq with
      | zero => exact absurd HA.out (by simp [laws_FnRulersMeasure.j3])
      | succ kj80 =>
       have H := HA.out
       clear HA
       simp only [laws_FnRulersMeasure.j3] at H
       replace H := Option.bind_eq_some_iff.mp H
       obtain ⟨⟨t612, t613⟩, A1410, H⟩ := H
       (try dsimp only at H)
       have A141 := Aside0.mk A1410
       clear A1410
       replace H := Option.bind_eq_some_iff.mp H
       obtain ⟨⟨t616, t617⟩, A1420, H⟩ := H
       (try dsimp only at H)
       have A142 := Aside0.mk A1420
       clear A1420
       replace H := Option.bind_eq_some_iff.mp H
       obtain ⟨⟨t618, t619⟩, A1430, H⟩ := H
       (try dsimp only at H)
       have A143 := Aside0.mk A1430
       clear A1430
       replace H := Option.bind_eq_some_iff.mp H
       obtain ⟨⟨t620, t621, t622⟩, A1440, H⟩ := H
       (try dsimp only at H)
       have A144 := Aside0.mk A1440
       clear A1440
       replace H := Option.bind_eq_some_iff.mp H
       obtain ⟨⟨t623, t624, t625⟩, A1450, H⟩ := H
       (try dsimp only at H)
       have A145 := Aside0.mk A1450
       clear A1450
       replace H := Option.bind_eq_some_iff.mp H
       obtain ⟨⟨t626, t627⟩, A1460, H⟩ := H
       (try dsimp only at H)
       have A146 := Aside0.mk A1460
       clear A1460
       replace H := Option.bind_eq_some_iff.mp H
       obtain ⟨⟨t630, t631⟩, A1470, H⟩ := H
       (try dsimp only at H)
       have A147 := Aside0.mk A1470
       clear A1470
       replace H := Option.bind_eq_some_iff.mp H
       obtain ⟨⟨t634, t635⟩, A1480, H⟩ := H
       (try dsimp only at H)
       have A148 := Aside0.mk A1480
       clear A1480
       by_cases c149 : (t617 == t619) = true
       ·rw [if_pos c149] at H
        have c149b0 : (t617 == t619) = true := c149
        (try (have c149b1 : decide (t617 = t619) = true := by simpa using c149))
        (try (have c149b2 : (t617 == t619) = true := by simpa using c149))
        clear c149
        by_cases c150 : t616 = t618
        ·rw [if_pos c150] at H
         have c150b0 : (t616 == t618) = true := beq_iff_eq.mpr c150
         have c150b1 : (t616 != t618) = false := bne_eq_false_iff_eq.mpr c150
         clear c150
         by_cases c151 : (t622 == t625) = true
         ·rw [if_pos c151] at H
          have c151b0 : (t622 == t625) = true := c151
          (try (have c151b1 : decide (t622 = t625) = true := by simpa using c151))
          (try (have c151b2 : (t622 == t625) = true := by simpa using c151))
          clear c151
          by_cases c152 : t620 = t623
          ·rw [if_pos c152] at H
           have c152b0 : (t620 == t623) = true := beq_iff_eq.mpr c152
           have c152b1 : (t620 != t623) = false := bne_eq_false_iff_eq.mpr c152
           clear c152
           by_cases c153 : t621 = t624
           ·rw [if_pos c153] at H
            have c153b0 : (t621 == t624) = true := beq_iff_eq.mpr c153
            have c153b1 : (t621 != t624) = false := bne_eq_false_iff_eq.mpr c153
            clear c153
            by_cases c154 : (t631 == t635) = true
            ·rw [if_pos c154] at H
             have c154b0 : (t631 == t635) = true := c154
             (try (have c154b1 : decide (t631 = t635) = true := by simpa using c154))
             (try (have c154b2 : (t631 == t635) = true := by simpa using c154))
             clear c154
             replace H := Option.bind_eq_some_iff.mp H
             obtain ⟨t638, A1550, H⟩ := H
             (try dsimp only at H)
             have A155 := Aside0.mk A1550
             clear A1550
             by_cases c156 : t638 = true
             ·subst c156
              rw [if_pos rfl] at H
              by_cases c157 : t631 = true
              ·subst c157
               rw [if_pos rfl] at H
               replace H := Option.bind_eq_some_iff.mp H
               obtain ⟨t639, A1580, H⟩ := H
               (try dsimp only at H)
               have A158 := Aside0.mk A1580
               clear A1580
               by_cases c159 : t639 = true
               ·subst c159
                rw [if_pos rfl] at H
                replace H := Option.bind_eq_some_iff.mp H
                obtain ⟨t640, A1600, H⟩ := H
                (try dsimp only at H)
                have A160 := Aside0.mk A1600
                clear A1600
                obtain rfl := Option.some.inj H
                as_aux_lemma =>
                 go_wp2_with (first | ((with_reducible refine gate_callee (f := 28) rfl ?_); refine goesA (some 441) Try.func28 #[.slice A1 l1.length c1] ?_; (with_reducible refine (spec_DrawTimesMeasured.calls kj80 _ _ l1 t612 t613 _ ?side1 ?side2 A141.out).mono ?_); (case side1 => repeat (first | exact (Kd.C_below HR1.out HB.out) | (with_reducible refine Kd.C_alloc ?_ _) | (with_reducible refine Kd.C_drewN ?_ _) | (with_reducible refine Kd.C_drew ?_))); (case side2 => exact HC1.out); rintro e w161 ⟨v614, rfl, ho0, hb⟩; refine ⟨_, rfl, ?_⟩; have HO615 := lowR ho0 HB; replace HB := upB HB hb; (try clear hb); (try clear hb2); (try clear hk); (try clear hi); (try clear ho0); obtain ⟨Ao162, co162, eo162⟩ := Kd.R_slice HO615.out; subst eo162) | ((with_reducible refine gate_callee (f := 24) rfl ?_); refine goesA (some 447) Try.func24 #[.slice Ao162 t612.length co162, .int .i64 t613] ?_; (with_reducible refine (impl_TimesMeasured.calls kj80 _ _ t612 t613 t616 t617 _ ?side1 ?side2 A142.out).mono ?_); (case side1 => exact atRC HO615); (case side2 => exact (Kd.R_reads' HO615.out).2.1); rintro e w163 ⟨rfl, hb⟩; refine ⟨_, rfl, ?_⟩; replace HO615 := upR HO615 hb; replace HB := upB HB hb; (try clear hb); (try clear hb2); (try clear hk); (try clear hi)) | ((with_reducible refine gate_callee (f := 29) rfl ?_); refine goesA (some 453) Try.func29 #[.slice Ao162 t612.length co162, .int .i64 t613] ?_; (with_reducible refine (spec_TimesMeasured.calls kj80 _ _ t612 t613 t618 t619 _ ?side1 ?side2 A143.out).mono ?_); (case side1 => exact atRC HO615); (case side2 => exact (Kd.R_reads' HO615.out).2.1); rintro e w164 ⟨rfl, hb⟩; refine ⟨_, rfl, ?_⟩; replace HO615 := upR HO615 hb; replace HB := upB HB hb; (try clear hb); (try clear hb2); (try clear hk); (try clear hi)) | ((with_reducible refine gate_callee (f := 25) rfl ?_); refine goesA (some 459) Try.func25 #[.slice Ao162 t612.length co162, .int .i64 t613] ?_; (with_reducible refine (impl_MeasureWith.calls kj80 _ _ t612 t613 t620 t621 t622 _ ?side1 ?side2 A144.out).mono ?_); (case side1 => exact atRC HO615); (case side2 => exact (Kd.R_reads' HO615.out).2.1); rintro e w' ⟨rfl, ⟨nd, rfl⟩⟩; refine ⟨_, rfl, ?_⟩; (try (rw [drewN_self w164]; generalize hq_ : World.drewN w164 _ = w164; have n0_ : Aside0 (Kd.R (Kd.int .i64) 3 w164 w.heap.size (fun _ => True) (.slice Ao162 t612.length co162) t612) := ⟨by rw [← hq_]; exact (atR HO615)⟩; have n1_ : Aside0 (Below w.heap.size w w164) := ⟨by rw [← hq_]; exact (atB HB)⟩; clear HO615 HB hq_; have HO615 := n0_; have HB := n1_; clear n0_ n1_))) | ((with_reducible refine gate_callee (f := 30) rfl ?_); refine goesA (some 466) Try.func30 #[.slice Ao162 t612.length co162, .int .i64 t613] ?_; (with_reducible refine (spec_MeasureWith.calls kj80 _ _ t612 t613 t623 t624 t625 _ ?side1 ?side2 A145.out).mono ?_); (case side1 => exact atRC HO615); (case side2 => exact (Kd.R_reads' HO615.out).2.1); rintro e w' ⟨rfl, ⟨nd, rfl⟩⟩; refine ⟨_, rfl, ?_⟩; (try (rw [drewN_self w164]; generalize hq_ : World.drewN w164 _ = w164; have n0_ : Aside0 (Kd.R (Kd.int .i64) 3 w164 w.heap.size (fun _ => True) (.slice Ao162 t612.length co162) t612) := ⟨by rw [← hq_]; exact (atR HO615)⟩; have n1_ : Aside0 (Below w.heap.size w w164) := ⟨by rw [← hq_]; exact (atB HB)⟩; clear HO615 HB hq_; have HO615 := n0_; have HB := n1_; clear n0_ n1_))) | ((with_reducible refine gate_callee (f := 31) rfl ?_); refine goesA (some 472) Try.func31 #[.slice A1 l1.length c1] ?_; (with_reducible refine (spec_DrawAddMark.calls kj80 _ _ l1 t626 t627 _ ?side1 ?side2 A146.out).mono ?_); (case side1 => repeat (first | exact (Kd.C_below HR1.out HB.out) | (with_reducible refine Kd.C_alloc ?_ _) | (with_reducible refine Kd.C_drewN ?_ _) | (with_reducible refine Kd.C_drew ?_))); (case side2 => exact HC1.out); rintro e w165 ⟨v628, rfl, ho0, hb⟩; refine ⟨_, rfl, ?_⟩; have HO629 := lowR ho0 HB; replace HO615 := upR HO615 hb; replace HB := upB HB hb; (try clear hb); (try clear hb2); (try clear hk); (try clear hi); (try clear ho0); obtain ⟨Ao166, co166, eo166⟩ := Kd.R_slice HO629.out; subst eo166) | ((with_reducible refine gate_callee (f := 27) rfl ?_); refine goesA (some 478) Try.func27 #[.slice Ao166 t626.length co166, .int .i64 t627] ?_; (with_reducible refine (impl_AddMark.calls kj80 _ _ t626 t627 t630 true _ ?side1 ?side2 A147.out).mono ?_); (case side1 => exact atRC HO629); (case side2 => exact (Kd.R_reads' HO629.out).2.1); rintro e w167 ⟨v632, rfl, ho0, hb⟩; refine ⟨_, rfl, ?_⟩; have HO633 := lowR ho0 HB; replace HO615 := upR HO615 hb; replace HO629 := upR HO629 hb; replace HB := upB HB hb; (try clear hb); (try clear hb2); (try clear hk); (try clear hi); (try clear ho0)) | ((with_reducible refine gate_callee (f := 32) rfl ?_); refine goesA (some 484) Try.func32 #[.slice Ao166 t626.length co166, .int .i64 t627] ?_; (with_reducible refine (spec_AddMark.calls kj80 _ _ t626 t627 t634 t635 _ ?side1 ?side2 A148.out).mono ?_); (case side1 => exact atRC HO629); (case side2 => exact (Kd.R_reads' HO629.out).2.1); rintro e w168 ⟨v636, rfl, ho0, hb⟩; refine ⟨_, rfl, ?_⟩; have HO637 := lowR ho0 HB; replace HO615 := upR HO615 hb; replace HO629 := upR HO629 hb; replace HO633 := upR HO633 hb; replace HB := upB HB hb; (try clear hb); (try clear hb2); (try clear hk); (try clear hi); (try clear ho0); obtain ⟨Ao169, co169, eo169⟩ := Kd.R_slice HO633.out; subst eo169; obtain ⟨Ao170, co170, eo170⟩ := Kd.R_slice HO637.out; subst eo170) | (go_at_call 21; (with_reducible refine (laws_jSame.calls kj80 _ _ t630 _ _ t634 true _ ?side1 ?side2 ?side3 ?side4 A155.out).mono ?_); (case side1 => exact atRC HO633); (case side2 => exact (Kd.R_reads' HO633.out).2.1); (case side3 => exact atRC HO637); (case side4 => exact (Kd.R_reads' HO637.out).2.1); rintro e w' ⟨rfl, ⟨nd, rfl⟩⟩) | (go_at_call 22; (with_reducible refine (impl_IsRuler.calls kj80 _ _ t630 true _ ?side1 ?side2 A158.out).mono ?_); (case side1 => exact atRC HO633); (case side2 => exact (Kd.R_reads' HO633.out).2.1); rintro e w' ⟨rfl, ⟨nd, rfl⟩⟩) | (go_at_call 26; (with_reducible refine (laws_jHas.calls kj80 _ _ t630 t627 t640 _ ?side1 ?side2 A160.out).mono ?_); (case side1 => exact atRC HO633); (case side2 => exact (Kd.R_reads' HO633.out).2.1); rintro e w' ⟨rfl, ⟨nd, rfl⟩⟩))
                 go_ret
                 exact ⟨eqr, atB HB⟩
               ·replace c159 := Bool.eq_false_iff.mpr c159
                subst c159
                rw [if_neg (show ¬ (false = true) by decide)] at H
                exact absurd ((Option.some.inj H).trans HT.out) (by decide)
              ·replace c157 := Bool.eq_false_iff.mpr c157
               subst c157
               rw [if_neg (show ¬ (false = true) by decide)] at H
               obtain rfl := Option.some.inj H
               as_aux_lemma =>
                go_wp2_with (first | ((with_reducible refine gate_callee (f := 28) rfl ?_); refine goesA (some 441) Try.func28 #[.slice A1 l1.length c1] ?_; (with_reducible refine (spec_DrawTimesMeasured.calls kj80 _ _ l1 t612 t613 _ ?side1 ?side2 A141.out).mono ?_); (case side1 => repeat (first | exact (Kd.C_below HR1.out HB.out) | (with_reducible refine Kd.C_alloc ?_ _) | (with_reducible refine Kd.C_drewN ?_ _) | (with_reducible refine Kd.C_drew ?_))); (case side2 => exact HC1.out); rintro e w171 ⟨v614, rfl, ho0, hb⟩; refine ⟨_, rfl, ?_⟩; have HO615 := lowR ho0 HB; replace HB := upB HB hb; (try clear hb); (try clear hb2); (try clear hk); (try clear hi); (try clear ho0); obtain ⟨Ao172, co172, eo172⟩ := Kd.R_slice HO615.out; subst eo172) | ((with_reducible refine gate_callee (f := 24) rfl ?_); refine goesA (some 447) Try.func24 #[.slice Ao172 t612.length co172, .int .i64 t613] ?_; (with_reducible refine (impl_TimesMeasured.calls kj80 _ _ t612 t613 t616 t617 _ ?side1 ?side2 A142.out).mono ?_); (case side1 => exact atRC HO615); (case side2 => exact (Kd.R_reads' HO615.out).2.1); rintro e w173 ⟨rfl, hb⟩; refine ⟨_, rfl, ?_⟩; replace HO615 := upR HO615 hb; replace HB := upB HB hb; (try clear hb); (try clear hb2); (try clear hk); (try clear hi)) | ((with_reducible refine gate_callee (f := 29) rfl ?_); refine goesA (some 453) Try.func29 #[.slice Ao172 t612.length co172, .int .i64 t613] ?_; (with_reducible refine (spec_TimesMeasured.calls kj80 _ _ t612 t613 t618 t619 _ ?side1 ?side2 A143.out).mono ?_); (case side1 => exact atRC HO615); (case side2 => exact (Kd.R_reads' HO615.out).2.1); rintro e w174 ⟨rfl, hb⟩; refine ⟨_, rfl, ?_⟩; replace HO615 := upR HO615 hb; replace HB := upB HB hb; (try clear hb); (try clear hb2); (try clear hk); (try clear hi)) | ((with_reducible refine gate_callee (f := 25) rfl ?_); refine goesA (some 459) Try.func25 #[.slice Ao172 t612.length co172, .int .i64 t613] ?_; (with_reducible refine (impl_MeasureWith.calls kj80 _ _ t612 t613 t620 t621 t622 _ ?side1 ?side2 A144.out).mono ?_); (case side1 => exact atRC HO615); (case side2 => exact (Kd.R_reads' HO615.out).2.1); rintro e w' ⟨rfl, ⟨nd, rfl⟩⟩; refine ⟨_, rfl, ?_⟩; (try (rw [drewN_self w174]; generalize hq_ : World.drewN w174 _ = w174; have n0_ : Aside0 (Kd.R (Kd.int .i64) 3 w174 w.heap.size (fun _ => True) (.slice Ao172 t612.length co172) t612) := ⟨by rw [← hq_]; exact (atR HO615)⟩; have n1_ : Aside0 (Below w.heap.size w w174) := ⟨by rw [← hq_]; exact (atB HB)⟩; clear HO615 HB hq_; have HO615 := n0_; have HB := n1_; clear n0_ n1_))) | ((with_reducible refine gate_callee (f := 30) rfl ?_); refine goesA (some 466) Try.func30 #[.slice Ao172 t612.length co172, .int .i64 t613] ?_; (with_reducible refine (spec_MeasureWith.calls kj80 _ _ t612 t613 t623 t624 t625 _ ?side1 ?side2 A145.out).mono ?_); (case side1 => exact atRC HO615); (case side2 => exact (Kd.R_reads' HO615.out).2.1); rintro e w' ⟨rfl, ⟨nd, rfl⟩⟩; refine ⟨_, rfl, ?_⟩; (try (rw [drewN_self w174]; generalize hq_ : World.drewN w174 _ = w174; have n0_ : Aside0 (Kd.R (Kd.int .i64) 3 w174 w.heap.size (fun _ => True) (.slice Ao172 t612.length co172) t612) := ⟨by rw [← hq_]; exact (atR HO615)⟩; have n1_ : Aside0 (Below w.heap.size w w174) := ⟨by rw [← hq_]; exact (atB HB)⟩; clear HO615 HB hq_; have HO615 := n0_; have HB := n1_; clear n0_ n1_))) | ((with_reducible refine gate_callee (f := 31) rfl ?_); refine goesA (some 472) Try.func31 #[.slice A1 l1.length c1] ?_; (with_reducible refine (spec_DrawAddMark.calls kj80 _ _ l1 t626 t627 _ ?side1 ?side2 A146.out).mono ?_); (case side1 => repeat (first | exact (Kd.C_below HR1.out HB.out) | (with_reducible refine Kd.C_alloc ?_ _) | (with_reducible refine Kd.C_drewN ?_ _) | (with_reducible refine Kd.C_drew ?_))); (case side2 => exact HC1.out); rintro e w175 ⟨v628, rfl, ho0, hb⟩; refine ⟨_, rfl, ?_⟩; have HO629 := lowR ho0 HB; replace HO615 := upR HO615 hb; replace HB := upB HB hb; (try clear hb); (try clear hb2); (try clear hk); (try clear hi); (try clear ho0); obtain ⟨Ao176, co176, eo176⟩ := Kd.R_slice HO629.out; subst eo176) | ((with_reducible refine gate_callee (f := 27) rfl ?_); refine goesA (some 478) Try.func27 #[.slice Ao176 t626.length co176, .int .i64 t627] ?_; (with_reducible refine (impl_AddMark.calls kj80 _ _ t626 t627 t630 false _ ?side1 ?side2 A147.out).mono ?_); (case side1 => exact atRC HO629); (case side2 => exact (Kd.R_reads' HO629.out).2.1); rintro e w177 ⟨v632, rfl, ho0, hb⟩; refine ⟨_, rfl, ?_⟩; have HO633 := lowR ho0 HB; replace HO615 := upR HO615 hb; replace HO629 := upR HO629 hb; replace HB := upB HB hb; (try clear hb); (try clear hb2); (try clear hk); (try clear hi); (try clear ho0)) | ((with_reducible refine gate_callee (f := 32) rfl ?_); refine goesA (some 484) Try.func32 #[.slice Ao176 t626.length co176, .int .i64 t627] ?_; (with_reducible refine (spec_AddMark.calls kj80 _ _ t626 t627 t634 t635 _ ?side1 ?side2 A148.out).mono ?_); (case side1 => exact atRC HO629); (case side2 => exact (Kd.R_reads' HO629.out).2.1); rintro e w178 ⟨v636, rfl, ho0, hb⟩; refine ⟨_, rfl, ?_⟩; have HO637 := lowR ho0 HB; replace HO615 := upR HO615 hb; replace HO629 := upR HO629 hb; replace HO633 := upR HO633 hb; replace HB := upB HB hb; (try clear hb); (try clear hb2); (try clear hk); (try clear hi); (try clear ho0); obtain ⟨Ao179, co179, eo179⟩ := Kd.R_slice HO633.out; subst eo179; obtain ⟨Ao180, co180, eo180⟩ := Kd.R_slice HO637.out; subst eo180) | (go_at_call 21; (with_reducible refine (laws_jSame.calls kj80 _ _ t630 _ _ t634 true _ ?side1 ?side2 ?side3 ?side4 A155.out).mono ?_); (case side1 => exact atRC HO633); (case side2 => exact (Kd.R_reads' HO633.out).2.1); (case side3 => exact atRC HO637); (case side4 => exact (Kd.R_reads' HO637.out).2.1); rintro e w' ⟨rfl, ⟨nd, rfl⟩⟩))
                go_ret
                exact ⟨eqr, atB HB⟩
             ·replace c156 := Bool.eq_false_iff.mpr c156
              subst c156
              rw [if_neg (show ¬ (false = true) by decide)] at H
              exact absurd ((Option.some.inj H).trans HT.out) (by decide)
            ·rw [if_neg c154] at H
             have c154b0 : (t631 == t635) = false := by simpa using c154
             (try (have c154b1 : decide (t631 = t635) = false := by simpa using c154))
             (try (have c154b2 : (t631 == t635) = false := by simpa using c154))
             (try (have c154b3 : ¬ (t631 = t635) := by simpa using c154))
             clear c154
             exact absurd ((Option.some.inj H).trans HT.out) (by decide)
           ·rw [if_neg c153] at H
            have c153b0 : (t621 == t624) = false := beq_eq_false_iff_ne.mpr c153
            have c153b1 : (t621 != t624) = true := bne_iff_ne.mpr c153
            exact absurd ((Option.some.inj H).trans HT.out) (by decide)
          ·rw [if_neg c152] at H
           have c152b0 : (t620 == t623) = false := beq_eq_false_iff_ne.mpr c152
           have c152b1 : (t620 != t623) = true := bne_iff_ne.mpr c152
           exact absurd ((Option.some.inj H).trans HT.out) (by decide)
         ·rw [if_neg c151] at H
          have c151b0 : (t622 == t625) = false := by simpa using c151
          (try (have c151b1 : decide (t622 = t625) = false := by simpa using c151))
          (try (have c151b2 : (t622 == t625) = false := by simpa using c151))
          (try (have c151b3 : ¬ (t622 = t625) := by simpa using c151))
          clear c151
          exact absurd ((Option.some.inj H).trans HT.out) (by decide)
        ·rw [if_neg c150] at H
         have c150b0 : (t616 == t618) = false := beq_eq_false_iff_ne.mpr c150
         have c150b1 : (t616 != t618) = true := bne_iff_ne.mpr c150
         exact absurd ((Option.some.inj H).trans HT.out) (by decide)
       ·rw [if_neg c149] at H
        have c149b0 : (t617 == t619) = false := by simpa using c149
        (try (have c149b1 : decide (t617 = t619) = false := by simpa using c149))
        (try (have c149b2 : (t617 == t619) = false := by simpa using c149))
        (try (have c149b3 : ¬ (t617 = t619) := by simpa using c149))
        clear c149
        exact absurd ((Option.some.inj H).trans HT.out) (by decide)

theorem laws_FnRulersMeasure.walk (P : laws_FnRulersMeasure.Pure) (a0 : Option Addr) (len0 cap0 : Nat) (z0 : List Int) (a1 : Option Addr) (len1 cap1 : Nat) (z1 : List Int) (w : World) (w0 : (a0 = none ∧ len0 = 0 ∧ cap0 = 0 ∧ z0 = []) ∨ ∃ x, a0 = some x ∧ len0 ≤ cap0 ∧ cap0 ≤ maxLen ∧ z0.length = cap0 ∧ (∀ i, i < z0.length → w.cell? (x.add i) = some (.int .u8 (z0.getD i 0))) ∧ ∀ n ∈ z0, (Lit.int .u8 n).wf = true) (y0 : len0 * 1 ≤ 140737488351232) (w1 : (a1 = none ∧ len1 = 0 ∧ cap1 = 0 ∧ z1 = []) ∨ ∃ x, a1 = some x ∧ len1 ≤ cap1 ∧ cap1 ≤ maxLen ∧ z1.length = cap1 ∧ (∀ i, i < z1.length → w.cell? (x.add i) = some (.int .u8 (z1.getD i 0))) ∧ ∀ n ∈ z1, (Lit.int .u8 n).wf = true) (y1 : len1 * 1 ≤ 140737488351232) :
  Calls Try.prog 3 #[.slice a0 len0 cap0, .slice a1 len1 cap1] w fun e w' => e = .returned (.bool true) ∧ Below w.heap.size w w' := by
 obtain ⟨l0, rfl, hr0, hm0, hw0, hc0⟩ := ReadsInt.ofRowC w0
 obtain ⟨l1, rfl, hr1, hm1, hw1, hc1⟩ := ReadsInt.ofRowC w1
 obtain ⟨k, h⟩ := P l0 l1 hm0 y0 hw0 hm1 y1 hw1
 refine (laws_FnRulersMeasure.calls k _ _ l0 _ _ l1 true w (Kd.C_of_reads (d := (0 : Int)) (h1 := fun _ => rfl) hr0) hc0 (Kd.C_of_reads (d := (0 : Int)) (h1 := fun _ => rfl) hr1) hc1 rfl h).mono ?_
 rintro e w' ⟨rfl, hd⟩
 exact ⟨rfl, hd⟩

end Go.Proofs.Ytofjndbpndpjjaa.Fn
