/- The machine's side and plain lemmas for FnRowsThere: texts of this session, merged by its program (part 3). -/
import Derived.Test.YtaohgllnoomaeaaMFnRowsThere0
import Derived.Test.YtaohgllnoomaeaaMFnRowsThere1
import Derived.Test.YtaohgllnoomaeaaMFnRowsThere2
namespace Go.Proofs.Ytaohgllnoomaeaa.Fn
open Go.RowKit Go.Proofs.YtaohgllnoomaeaaW.PrintWords Go.Proofs.YtaohgllnoomaeaaW.PrintLast Go.Proofs.YtaohgllnoomaeaaW.PrintMore
attribute [local go_sem] max2_int min2_int max_two min_two max_three min_three max_four min_four   -- for this text's walks alone
set_option linter.unusedVariables false
set_option linter.unusedSimpArgs false


set_option maxHeartbeats 8000000 in
set_option maxRecDepth 100000 in
theorem laws_FnRowsThere.calls (k : Nat) (A0 : Option Addr) (c0 : Nat) (l0 : List Int) (A1 : Option Addr) (c1 : Nat) (l1 : List Int) (r : Bool) (w : World) (hr0 : Kd.C (Kd.int .u8) w A0 l0.length l0) (hc0 : l0.length ≤ c0) (hr1 : Kd.C (Kd.int .u8) w A1 l1.length l1) (hc1 : l1.length ≤ c1) (ht_ : r = true) (h : laws_FnRowsThere.f k l0 l1 = some r) :
  Calls Try.prog 4 #[.slice A0 l0.length c0, .slice A1 l1.length c1] w fun e w' => e = .returned (.bool r) ∧ Below w.heap.size w w' := by
 have HR0 := Aside0.mk hr0
 have HC0 := Aside0.mk hc0
 clear hr0 hc0
 have HR1 := Aside0.mk hr1
 have HC1 := Aside0.mk hc1
 clear hr1 hc1
 have HB := Aside0.mk (Below.refl w.heap.size w)
 have H : ((laws_big.f l0 l1).bind fun t328 => (if t328 = true then (some true) else ((spec_DrawAllSkolem.f l0).bind fun t329 => ((impl_IsSkolemThere.f t329).bind fun bt330 => ((impl_CountSkolem.f t329).bind fun bt332 => ((spec_CountSkolem.f t329).bind fun bt334 => ((impl_AllSkolem.f t329).bind fun bt336 => ((spec_AllSkolem.f t329).bind fun bt340 => ((impl_FirstSkolem.f t329).bind fun bt344 => ((spec_FirstSkolem.f t329).bind fun bt348 => (if (bt332.2 != bt334.2) = true then (laws_FnRowsThere.j0 k l1 t329 bt332.1 bt336.1 bt336.2 bt344.1 true) else (if bt332.1 = bt334.1 then (if (bt336.2 != bt340.2) = true then (laws_FnRowsThere.j0 k l1 t329 bt332.1 bt336.1 bt336.2 bt344.1 true) else ((laws_jRows.f k bt336.1 bt340.1).bind fun t352 => (if t352 = true then (if (bt344.2 != bt348.2) = true then (laws_FnRowsThere.j0 k l1 t329 bt332.1 bt336.1 bt336.2 bt344.1 true) else ((laws_jSame.f k bt344.1 bt348.1).bind fun t353 => (if t353 = true then (if bt332.2 = true then (if (bt336.2 != (decide (bt332.1 ≤ 600))) = true then (laws_FnRowsThere.j0 k l1 t329 bt332.1 bt336.1 bt336.2 bt344.1 true) else (if (bt344.2 != (decide (bt332.1 > 0))) = true then (laws_FnRowsThere.j0 k l1 t329 bt332.1 bt336.1 bt336.2 bt344.1 true) else (if bt330.2 = true then (laws_FnRowsThere.j0 k l1 t329 bt332.1 bt336.1 bt336.2 bt344.1 (bt330.1 != (decide (bt332.1 > 0)))) else (laws_FnRowsThere.j0 k l1 t329 bt332.1 bt336.1 bt336.2 bt344.1 true)))) else (if (bt336.2 != false) = true then (laws_FnRowsThere.j0 k l1 t329 bt332.1 bt336.1 bt336.2 bt344.1 true) else (if (bt344.2 != false) = true then (laws_FnRowsThere.j0 k l1 t329 bt332.1 bt336.1 bt336.2 bt344.1 true) else (laws_FnRowsThere.j0 k l1 t329 bt332.1 bt336.1 bt336.2 bt344.1 false)))) else (laws_FnRowsThere.j0 k l1 t329 bt332.1 bt336.1 bt336.2 bt344.1 true)))) else (laws_FnRowsThere.j0 k l1 t329 bt332.1 bt336.1 bt336.2 bt344.1 true)))) else (laws_FnRowsThere.j0 k l1 t329 bt332.1 bt336.1 bt336.2 bt344.1 true))))))))))))) = some r := h
 clear h
 have HT := Aside0.mk ht_
 clear ht_
 replace H := Option.bind_eq_some_iff.mp H
 obtain ⟨t328, A30, H⟩ := H
 (try dsimp only at H)
 have A3 := Aside0.mk A30
 clear A30
 by_cases c4 : t328 = true
 ·subst c4
  rw [if_pos rfl] at H
  obtain rfl := Option.some.inj H
  go_enter Try.func4, Try.ntmps4
  go_wp2_with (first | ((with_reducible refine gate_callee (f := 10) rfl ?_); refine goesL_ (some 60) rfl rfl Try.func10 (by as_aux_lemma => kernel_rfl) rfl #[.slice A0 l0.length c0, .slice A1 l1.length c1] rfl (by (try simp only [List.map_toArray, List.map_cons, List.map_nil]); first | done | rfl | (simp only [List.length_drop, List.length_take]; rfl)) ?_; (with_reducible refine (laws_big.calls _ _ l0 _ _ l1 true _ ?side1 ?side2 ?side3 ?side4 A3.out).mono ?_); (case side1 => repeat (first | exact HR0.out | (with_reducible refine Kd.C_alloc ?_ _) | (with_reducible refine Kd.C_drewN ?_ _) | (with_reducible refine Kd.C_drew ?_))); (case side2 => exact HC0.out); (case side3 => repeat (first | exact HR1.out | (with_reducible refine Kd.C_alloc ?_ _) | (with_reducible refine Kd.C_drewN ?_ _) | (with_reducible refine Kd.C_drew ?_))); (case side4 => exact HC1.out); rintro e w' ⟨rfl, ⟨nd, rfl⟩⟩; refine ⟨_, rfl, ?_⟩))
  go_ret
  exact ⟨by first | rfl | (simp [errW_none, errW_some] <;> rfl) | (simp [*, errW_none, errW_some] <;> rfl), by repeat (first | (with_reducible first | exact HB.out | apply below_alloc | apply pw_below_drewN | apply below_drew1) | exact HB.out)⟩
 ·replace c4 := Bool.eq_false_iff.mpr c4
  subst c4
  rw [if_neg (show ¬ (false = true) by decide)] at H
  replace H := Option.bind_eq_some_iff.mp H
  obtain ⟨t329, A50, H⟩ := H
  (try dsimp only at H)
  have A5 := Aside0.mk A50
  clear A50
  replace H := Option.bind_eq_some_iff.mp H
  obtain ⟨⟨t330, t331⟩, A60, H⟩ := H
  (try dsimp only at H)
  have A6 := Aside0.mk A60
  clear A60
  replace H := Option.bind_eq_some_iff.mp H
  obtain ⟨⟨t332, t333⟩, A70, H⟩ := H
  (try dsimp only at H)
  have A7 := Aside0.mk A70
  clear A70
  replace H := Option.bind_eq_some_iff.mp H
  obtain ⟨⟨t334, t335⟩, A80, H⟩ := H
  (try dsimp only at H)
  have A8 := Aside0.mk A80
  clear A80
  replace H := Option.bind_eq_some_iff.mp H
  obtain ⟨⟨t336, t337⟩, A90, H⟩ := H
  (try dsimp only at H)
  have A9 := Aside0.mk A90
  clear A90
  replace H := Option.bind_eq_some_iff.mp H
  obtain ⟨⟨t340, t341⟩, A100, H⟩ := H
  (try dsimp only at H)
  have A10 := Aside0.mk A100
  clear A100
  replace H := Option.bind_eq_some_iff.mp H
  obtain ⟨⟨t344, t345⟩, A110, H⟩ := H
  (try dsimp only at H)
  have A11 := Aside0.mk A110
  clear A110
  replace H := Option.bind_eq_some_iff.mp H
  obtain ⟨⟨t348, t349⟩, A120, H⟩ := H
  (try dsimp only at H)
  have A12 := Aside0.mk A120
  clear A120
  have HC13 := Aside0.mk H
  clear H
  go_enter Try.func4, Try.ntmps4
  go_upto_region 11 with (first | ((with_reducible refine gate_callee (f := 10) rfl ?_); refine goesL_ (some 60) rfl rfl Try.func10 (by as_aux_lemma => kernel_rfl) rfl #[.slice A0 l0.length c0, .slice A1 l1.length c1] rfl (by (try simp only [List.map_toArray, List.map_cons, List.map_nil]); first | done | rfl | (simp only [List.length_drop, List.length_take]; rfl)) ?_; (with_reducible refine (laws_big.calls _ _ l0 _ _ l1 false _ ?side1 ?side2 ?side3 ?side4 A3.out).mono ?_); (case side1 => repeat (first | exact HR0.out | (with_reducible refine Kd.C_alloc ?_ _) | (with_reducible refine Kd.C_drewN ?_ _) | (with_reducible refine Kd.C_drew ?_))); (case side2 => exact HC0.out); (case side3 => repeat (first | exact HR1.out | (with_reducible refine Kd.C_alloc ?_ _) | (with_reducible refine Kd.C_drewN ?_ _) | (with_reducible refine Kd.C_drew ?_))); (case side4 => exact HC1.out); rintro e w' ⟨rfl, ⟨nd, rfl⟩⟩; refine ⟨_, rfl, ?_⟩) | ((with_reducible refine gate_callee (f := 28) rfl ?_); refine goesL_ (some 62) rfl rfl Try.func28 (by as_aux_lemma => kernel_rfl) rfl #[.slice A0 l0.length c0] rfl (by (try simp only [List.map_toArray, List.map_cons, List.map_nil]); first | done | rfl | (simp only [List.length_drop, List.length_take]; rfl)) ?_; (with_reducible refine (spec_DrawAllSkolem.calls _ _ l0 t329 _ ?side1 ?side2 A5.out).mono ?_); (case side1 => repeat (first | exact HR0.out | (with_reducible refine Kd.C_alloc ?_ _) | (with_reducible refine Kd.C_drewN ?_ _) | (with_reducible refine Kd.C_drew ?_))); (case side2 => exact HC0.out); rintro e w14 ⟨rfl, hb⟩; refine ⟨_, rfl, ?_⟩; have n0_ := Aside0.mk (below_step (by repeat (first | (with_reducible first | exact HB.out | apply below_alloc | apply pw_below_drewN | apply below_drew1) | exact HB.out)) hb); clear HB; have HB := n0_; clear n0_; (try clear hb); (try clear hb2); (try clear hk); (try clear hi)) | ((with_reducible refine gate_callee (f := 29) rfl ?_); refine goesL_ (some 65) rfl rfl Try.func29 (by as_aux_lemma => kernel_rfl) rfl #[.int .i64 t329] rfl (by (try simp only [List.map_toArray, List.map_cons, List.map_nil]); first | done | rfl | (simp only [List.length_drop, List.length_take]; rfl)) ?_; (with_reducible refine (impl_IsSkolemThere.calls t329 t330 t331 _ A6.out).mono ?_); rintro e w' ⟨rfl, ⟨nd, rfl⟩⟩; refine ⟨_, rfl, ?_⟩; (try (rw [drewN_self w14]; generalize hq_ : World.drewN w14 _ = w14; have n0_ : Aside0 (Below w.heap.size w w14) := ⟨by rw [← hq_]; exact (by repeat (first | (with_reducible first | exact HB.out | apply below_alloc | apply pw_below_drewN | apply below_drew1) | exact HB.out))⟩; clear HB hq_; have HB := n0_; clear n0_))) | ((with_reducible refine gate_callee (f := 30) rfl ?_); refine goesL_ (some 70) rfl rfl Try.func30 (by as_aux_lemma => kernel_rfl) rfl #[.int .i64 t329] rfl (by (try simp only [List.map_toArray, List.map_cons, List.map_nil]); first | done | rfl | (simp only [List.length_drop, List.length_take]; rfl)) ?_; (with_reducible refine (impl_CountSkolem.calls t329 t332 t333 _ A7.out).mono ?_); rintro e w15 ⟨rfl, hb⟩; refine ⟨_, rfl, ?_⟩; have n0_ := Aside0.mk (below_step (by repeat (first | (with_reducible first | exact HB.out | apply below_alloc | apply pw_below_drewN | apply below_drew1) | exact HB.out)) hb); clear HB; have HB := n0_; clear n0_; (try clear hb); (try clear hb2); (try clear hk); (try clear hi)) | ((with_reducible refine gate_callee (f := 31) rfl ?_); refine goesL_ (some 75) rfl rfl Try.func31 (by as_aux_lemma => kernel_rfl) rfl #[.int .i64 t329] rfl (by (try simp only [List.map_toArray, List.map_cons, List.map_nil]); first | done | rfl | (simp only [List.length_drop, List.length_take]; rfl)) ?_; (with_reducible refine (spec_CountSkolem.calls t329 t334 t335 _ A8.out).mono ?_); rintro e w16 ⟨rfl, hb⟩; refine ⟨_, rfl, ?_⟩; have n0_ := Aside0.mk (below_step (by repeat (first | (with_reducible first | exact HB.out | apply below_alloc | apply pw_below_drewN | apply below_drew1) | exact HB.out)) hb); clear HB; have HB := n0_; clear n0_; (try clear hb); (try clear hb2); (try clear hk); (try clear hi)) | ((with_reducible refine gate_callee (f := 32) rfl ?_); refine goesL_ (some 80) rfl rfl Try.func32 (by as_aux_lemma => kernel_rfl) rfl #[.int .i64 t329] rfl (by (try simp only [List.map_toArray, List.map_cons, List.map_nil]); first | done | rfl | (simp only [List.length_drop, List.length_take]; rfl)) ?_; (with_reducible refine (impl_AllSkolem.calls t329 t336 t337 _ A9.out).mono ?_); rintro e w17 ⟨v338, rfl, ho0, hb⟩; refine ⟨_, rfl, ?_⟩; have n0_ := Aside0.mk (Kd.S_lower ho0 (below_size (by repeat (first | (with_reducible first | exact HB.out | apply below_alloc | apply pw_below_drewN | apply below_drew1) | exact HB.out)))); have n1_ := Aside0.mk (below_step (by repeat (first | (with_reducible first | exact HB.out | apply below_alloc | apply pw_below_drewN | apply below_drew1) | exact HB.out)) hb); clear HB; have HO339 := n0_; have HB := n1_; clear n0_ n1_; (try clear hb); (try clear hb2); (try clear hk); (try clear hi); (try clear ho0)) | ((with_reducible refine gate_callee (f := 33) rfl ?_); refine goesL_ (some 85) rfl rfl Try.func33 (by as_aux_lemma => kernel_rfl) rfl #[.int .i64 t329] rfl (by (try simp only [List.map_toArray, List.map_cons, List.map_nil]); first | done | rfl | (simp only [List.length_drop, List.length_take]; rfl)) ?_; (with_reducible refine (spec_AllSkolem.calls t329 t340 t341 _ A10.out).mono ?_); rintro e w18 ⟨v342, rfl, ho0, hb⟩; refine ⟨_, rfl, ?_⟩; have n0_ := Aside0.mk (Kd.S_below (by (with_reducible repeat (first | apply Kd.S_alloc | apply Kd.S_drewN | apply Kd.S_drew)); exact HO339.out) hb); have n1_ := Aside0.mk (Kd.S_lower ho0 (below_size (by repeat (first | (with_reducible first | exact HB.out | apply below_alloc | apply pw_below_drewN | apply below_drew1) | exact HB.out)))); have n2_ := Aside0.mk (below_step (by repeat (first | (with_reducible first | exact HB.out | apply below_alloc | apply pw_below_drewN | apply below_drew1) | exact HB.out)) hb); clear HO339; clear HB; have HO339 := n0_; have HO343 := n1_; have HB := n2_; clear n0_ n1_ n2_; (try clear hb); (try clear hb2); (try clear hk); (try clear hi); (try clear ho0)) | ((with_reducible refine gate_callee (f := 34) rfl ?_); refine goesL_ (some 90) rfl rfl Try.func34 (by as_aux_lemma => kernel_rfl) rfl #[.int .i64 t329] rfl (by (try simp only [List.map_toArray, List.map_cons, List.map_nil]); first | done | rfl | (simp only [List.length_drop, List.length_take]; rfl)) ?_; (with_reducible refine (impl_FirstSkolem.calls t329 t344 t345 _ A11.out).mono ?_); rintro e w19 ⟨v346, rfl, ho0, hb⟩; refine ⟨_, rfl, ?_⟩; have n0_ := Aside0.mk (Kd.S_below (by (with_reducible repeat (first | apply Kd.S_alloc | apply Kd.S_drewN | apply Kd.S_drew)); exact HO339.out) hb); have n1_ := Aside0.mk (Kd.S_below (by (with_reducible repeat (first | apply Kd.S_alloc | apply Kd.S_drewN | apply Kd.S_drew)); exact HO343.out) hb); have n2_ := Aside0.mk (Kd.R_lower ho0 (below_size (by repeat (first | (with_reducible first | exact HB.out | apply below_alloc | apply pw_below_drewN | apply below_drew1) | exact HB.out)))); have n3_ := Aside0.mk (below_step (by repeat (first | (with_reducible first | exact HB.out | apply below_alloc | apply pw_below_drewN | apply below_drew1) | exact HB.out)) hb); clear HO339; clear HO343; clear HB; have HO339 := n0_; have HO343 := n1_; have HO347 := n2_; have HB := n3_; clear n0_ n1_ n2_ n3_; (try clear hb); (try clear hb2); (try clear hk); (try clear hi); (try clear ho0)) | ((with_reducible refine gate_callee (f := 35) rfl ?_); refine goesL_ (some 95) rfl rfl Try.func35 (by as_aux_lemma => kernel_rfl) rfl #[.int .i64 t329] rfl (by (try simp only [List.map_toArray, List.map_cons, List.map_nil]); first | done | rfl | (simp only [List.length_drop, List.length_take]; rfl)) ?_; (with_reducible refine (spec_FirstSkolem.calls t329 t348 t349 _ A12.out).mono ?_); rintro e w20 ⟨v350, rfl, ho0, hb⟩; refine ⟨_, rfl, ?_⟩; have n0_ := Aside0.mk (Kd.S_below (by (with_reducible repeat (first | apply Kd.S_alloc | apply Kd.S_drewN | apply Kd.S_drew)); exact HO339.out) hb); have n1_ := Aside0.mk (Kd.S_below (by (with_reducible repeat (first | apply Kd.S_alloc | apply Kd.S_drewN | apply Kd.S_drew)); exact HO343.out) hb); have n2_ := Aside0.mk (Kd.R_below (by (with_reducible repeat (first | apply Kd.R_alloc | apply Kd.R_drewN | apply Kd.R_drew)); exact HO347.out) hb); have n3_ := Aside0.mk (Kd.R_lower ho0 (below_size (by repeat (first | (with_reducible first | exact HB.out | apply below_alloc | apply pw_below_drewN | apply below_drew1) | exact HB.out)))); have n4_ := Aside0.mk (below_step (by repeat (first | (with_reducible first | exact HB.out | apply below_alloc | apply pw_below_drewN | apply below_drew1) | exact HB.out)) hb); clear HO339; clear HO343; clear HO347; clear HB; have HO339 := n0_; have HO343 := n1_; have HO347 := n2_; have HO351 := n3_; have HB := n4_; clear n0_ n1_ n2_ n3_ n4_; (try clear hb); (try clear hb2); (try clear hk); (try clear hi); (try clear ho0)))
  (try simp only [Act.put, List.setIfInBounds_toArray, List.set_cons_zero, List.set_cons_succ])
  go_cut [158] (fun v158 wc => ∃ (kq : Nat) (x158_12 : Bool), v158 = .bool x158_12 ∧ Aside0 (laws_FnRowsThere.j0 kq l1 t329 t332 t336 t337 t344 x158_12 = some r) ∧ Aside0 (kq ≤ k) ∧ Aside0 (Kd.S (Kd.slice 3 (Kd.int .i64)) 31 wc w.heap.size (fun _ => True) v338 t336) ∧ Aside0 (Kd.R (Kd.int .i64) 3 wc w.heap.size (fun _ => True) v346 t344) ∧ Aside0 (Below w.heap.size w wc))
  case first => as_aux_lemma =>
   have H := HC13.out
   clear HC13
   by_cases c21 : (t333 != t335) = true
   ·rw [if_pos c21] at H
    have c21b0 : (t333 != t335) = true := c21
    (try (have c21b1 : decide (t333 = t335) = false := by simpa using c21))
    (try (have c21b2 : (t333 == t335) = false := by simpa using c21))
    (try (have c21b3 : ¬ (t333 = t335) := by simpa using c21))
    clear c21
    (first | rw [c21b0] | (simp only [i64_w, i32_w]; rw [c21b0]) | skip)
    exact absurd (H.trans (congrArg some HT.out)) (laws_FnRowsThere.j0_no k l1 t329 t332 t336 t337 t344)
   ·rw [if_neg c21] at H
    have c21b0 : (t333 != t335) = false := by simpa using c21
    (try (have c21b1 : decide (t333 = t335) = true := by simpa using c21))
    (try (have c21b2 : (t333 == t335) = true := by simpa using c21))
    clear c21
    (first | rw [c21b0] | (simp only [i64_w, i32_w]; rw [c21b0]) | skip)
    by_cases c22 : t332 = t334
    ·rw [if_pos c22] at H
     have c22b0 : (t332 == t334) = true := beq_iff_eq.mpr c22
     have c22b1 : (t332 != t334) = false := bne_eq_false_iff_eq.mpr c22
     clear c22
     by_cases c23 : (t337 != t341) = true
     ·rw [if_pos c23] at H
      have c23b0 : (t337 != t341) = true := c23
      (try (have c23b1 : decide (t337 = t341) = false := by simpa using c23))
      (try (have c23b2 : (t337 == t341) = false := by simpa using c23))
      (try (have c23b3 : ¬ (t337 = t341) := by simpa using c23))
      clear c23
      exact absurd (H.trans (congrArg some HT.out)) (laws_FnRowsThere.j0_no k l1 t329 t332 t336 t337 t344)
     ·rw [if_neg c23] at H
      have c23b0 : (t337 != t341) = false := by simpa using c23
      (try (have c23b1 : decide (t337 = t341) = true := by simpa using c23))
      (try (have c23b2 : (t337 == t341) = true := by simpa using c23))
      clear c23
      replace H := Option.bind_eq_some_iff.mp H
      obtain ⟨t352, A240, H⟩ := H
      (try dsimp only at H)
      have A24 := Aside0.mk A240
      clear A240
      by_cases c25 : t352 = true
      ·subst c25
       rw [if_pos rfl] at H
       by_cases c26 : (t345 != t349) = true
       ·rw [if_pos c26] at H
        have c26b0 : (t345 != t349) = true := c26
        (try (have c26b1 : decide (t345 = t349) = false := by simpa using c26))
        (try (have c26b2 : (t345 == t349) = false := by simpa using c26))
        (try (have c26b3 : ¬ (t345 = t349) := by simpa using c26))
        clear c26
        exact absurd (H.trans (congrArg some HT.out)) (laws_FnRowsThere.j0_no k l1 t329 t332 t336 t337 t344)
       ·rw [if_neg c26] at H
        have c26b0 : (t345 != t349) = false := by simpa using c26
        (try (have c26b1 : decide (t345 = t349) = true := by simpa using c26))
        (try (have c26b2 : (t345 == t349) = true := by simpa using c26))
        clear c26
        replace H := Option.bind_eq_some_iff.mp H
        obtain ⟨t353, A270, H⟩ := H
        (try dsimp only at H)
        have A27 := Aside0.mk A270
        clear A270
        by_cases c28 : t353 = true
        ·subst c28
         rw [if_pos rfl] at H
         by_cases c29 : t333 = true
         ·subst c29
          rw [if_pos rfl] at H
          by_cases c30 : (t337 != (decide (t332 ≤ 600))) = true
          ·rw [if_pos c30] at H
           have c30b0 : (t337 != (decide (t332 ≤ 600))) = true := c30
           (try (have c30b1 : decide (t337 = (decide (t332 ≤ 600))) = false := by simpa using c30))
           (try (have c30b2 : (t337 == (decide (t332 ≤ 600))) = false := by simpa using c30))
           (try (have c30b3 : ¬ (t337 = (decide (t332 ≤ 600))) := by simpa using c30))
           clear c30
           exact absurd (H.trans (congrArg some HT.out)) (laws_FnRowsThere.j0_no k l1 t329 t332 t336 t337 t344)
          ·rw [if_neg c30] at H
           have c30b0 : (t337 != (decide (t332 ≤ 600))) = false := by simpa using c30
           (try (have c30b1 : decide (t337 = (decide (t332 ≤ 600))) = true := by simpa using c30))
           (try (have c30b2 : (t337 == (decide (t332 ≤ 600))) = true := by simpa using c30))
           clear c30
           by_cases c31 : (t345 != (decide (t332 > 0))) = true
           ·rw [if_pos c31] at H
            have c31b0 : (t345 != (decide (t332 > 0))) = true := c31
            (try (have c31b1 : decide (t345 = (decide (t332 > 0))) = false := by simpa using c31))
            (try (have c31b2 : (t345 == (decide (t332 > 0))) = false := by simpa using c31))
            (try (have c31b3 : ¬ (t345 = (decide (t332 > 0))) := by simpa using c31))
            clear c31
            exact absurd (H.trans (congrArg some HT.out)) (laws_FnRowsThere.j0_no k l1 t329 t332 t336 t337 t344)
           ·rw [if_neg c31] at H
            have c31b0 : (t345 != (decide (t332 > 0))) = false := by simpa using c31
            (try (have c31b1 : decide (t345 = (decide (t332 > 0))) = true := by simpa using c31))
            (try (have c31b2 : (t345 == (decide (t332 > 0))) = true := by simpa using c31))
            clear c31
            by_cases c32 : t331 = true
            ·subst c32
             rw [if_pos rfl] at H
             have H' := Aside0.mk H
             clear H
             obtain ⟨Ao33, co33, eo33⟩ := Kd.S_slice HO339.out
             subst eo33
             obtain ⟨Ao34, co34, eo34⟩ := Kd.S_slice HO343.out
             subst eo34
             go_wp2_with (first | (go_at_call 19; (with_reducible refine (laws_jRows.calls k _ _ t336 _ _ t340 true _ ?side1 ?side2 ?side3 ?side4 A24.out).mono ?_); (case side1 => repeat (first | exact (Kd.S_reads' HO339.out).2.2 | (with_reducible refine Kd.C_alloc ?_ _) | (with_reducible refine Kd.C_drewN ?_ _) | (with_reducible refine Kd.C_drew ?_))); (case side2 => exact (Kd.S_reads' HO339.out).2.1); (case side3 => repeat (first | exact (Kd.S_reads' HO343.out).2.2 | (with_reducible refine Kd.C_alloc ?_ _) | (with_reducible refine Kd.C_drewN ?_ _) | (with_reducible refine Kd.C_drew ?_))); (case side4 => exact (Kd.S_reads' HO343.out).2.1); rintro e w' ⟨rfl, ⟨nd, rfl⟩⟩; obtain ⟨Ao35, co35, eo35⟩ := Kd.R_slice HO347.out; subst eo35; obtain ⟨Ao36, co36, eo36⟩ := Kd.R_slice HO351.out; subst eo36) | (go_at_call 20; (with_reducible refine (laws_jSame.calls k _ _ t344 _ _ t348 true _ ?side1 ?side2 ?side3 ?side4 A27.out).mono ?_); (case side1 => repeat (first | exact (Kd.R_reads' HO347.out).2.2 | (with_reducible refine Kd.C_alloc ?_ _) | (with_reducible refine Kd.C_drewN ?_ _) | (with_reducible refine Kd.C_drew ?_))); (case side2 => exact (Kd.R_reads' HO347.out).2.1); (case side3 => repeat (first | exact (Kd.R_reads' HO351.out).2.2 | (with_reducible refine Kd.C_alloc ?_ _) | (with_reducible refine Kd.C_drewN ?_ _) | (with_reducible refine Kd.C_drew ?_))); (case side4 => exact (Kd.R_reads' HO351.out).2.1); rintro e w' ⟨rfl, ⟨nd, rfl⟩⟩))
             go_meet
             case rel => exact ⟨_, ((t330 != (decide (t332 > 0)))), (by first | rfl | (simp; done) | (simp [*]; done)), H', ⟨by first | omega | exact Nat.le_refl _⟩, ⟨by (with_reducible repeat (first | apply Kd.S_alloc | apply Kd.S_drewN | apply Kd.S_drew)); exact HO339.out⟩, ⟨by (with_reducible repeat (first | apply Kd.R_alloc | apply Kd.R_drewN | apply Kd.R_drew)); exact HO347.out⟩, ⟨by repeat (first | (with_reducible first | exact HB.out | apply below_alloc | apply pw_below_drewN | apply below_drew1) | exact HB.out)⟩⟩
            ·replace c32 := Bool.eq_false_iff.mpr c32
             subst c32
             rw [if_neg (show ¬ (false = true) by decide)] at H
             exact absurd (H.trans (congrArg some HT.out)) (laws_FnRowsThere.j0_no k l1 t329 t332 t336 t337 t344)
         ·replace c29 := Bool.eq_false_iff.mpr c29
          subst c29
          rw [if_neg (show ¬ (false = true) by decide)] at H
          by_cases c37 : (t337 != false) = true
          ·rw [if_pos c37] at H
           have c37b0 : (t337 != false) = true := c37
           (try (have c37b1 : decide (t337 = false) = false := by simpa using c37))
           (try (have c37b2 : (t337 == false) = false := by simpa using c37))
           (try (have c37b3 : ¬ (t337 = false) := by simpa using c37))
           clear c37
           exact absurd (H.trans (congrArg some HT.out)) (laws_FnRowsThere.j0_no k l1 t329 t332 t336 t337 t344)
          ·rw [if_neg c37] at H
           have c37b0 : (t337 != false) = false := by simpa using c37
           (try (have c37b1 : decide (t337 = false) = true := by simpa using c37))
           (try (have c37b2 : (t337 == false) = true := by simpa using c37))
           clear c37
           by_cases c38 : (t345 != false) = true
           ·rw [if_pos c38] at H
            have c38b0 : (t345 != false) = true := c38
            (try (have c38b1 : decide (t345 = false) = false := by simpa using c38))
            (try (have c38b2 : (t345 == false) = false := by simpa using c38))
            (try (have c38b3 : ¬ (t345 = false) := by simpa using c38))
            clear c38
            exact absurd (H.trans (congrArg some HT.out)) (laws_FnRowsThere.j0_no k l1 t329 t332 t336 t337 t344)
           ·rw [if_neg c38] at H
            have c38b0 : (t345 != false) = false := by simpa using c38
            (try (have c38b1 : decide (t345 = false) = true := by simpa using c38))
            (try (have c38b2 : (t345 == false) = true := by simpa using c38))
            clear c38
            have H' := Aside0.mk H
            clear H
            obtain ⟨Ao39, co39, eo39⟩ := Kd.S_slice HO339.out
            subst eo39
            obtain ⟨Ao40, co40, eo40⟩ := Kd.S_slice HO343.out
            subst eo40
            go_wp2_with (first | (go_at_call 19; (with_reducible refine (laws_jRows.calls k _ _ t336 _ _ t340 true _ ?side1 ?side2 ?side3 ?side4 A24.out).mono ?_); (case side1 => repeat (first | exact (Kd.S_reads' HO339.out).2.2 | (with_reducible refine Kd.C_alloc ?_ _) | (with_reducible refine Kd.C_drewN ?_ _) | (with_reducible refine Kd.C_drew ?_))); (case side2 => exact (Kd.S_reads' HO339.out).2.1); (case side3 => repeat (first | exact (Kd.S_reads' HO343.out).2.2 | (with_reducible refine Kd.C_alloc ?_ _) | (with_reducible refine Kd.C_drewN ?_ _) | (with_reducible refine Kd.C_drew ?_))); (case side4 => exact (Kd.S_reads' HO343.out).2.1); rintro e w' ⟨rfl, ⟨nd, rfl⟩⟩; obtain ⟨Ao41, co41, eo41⟩ := Kd.R_slice HO347.out; subst eo41; obtain ⟨Ao42, co42, eo42⟩ := Kd.R_slice HO351.out; subst eo42) | (go_at_call 20; (with_reducible refine (laws_jSame.calls k _ _ t344 _ _ t348 true _ ?side1 ?side2 ?side3 ?side4 A27.out).mono ?_); (case side1 => repeat (first | exact (Kd.R_reads' HO347.out).2.2 | (with_reducible refine Kd.C_alloc ?_ _) | (with_reducible refine Kd.C_drewN ?_ _) | (with_reducible refine Kd.C_drew ?_))); (case side2 => exact (Kd.R_reads' HO347.out).2.1); (case side3 => repeat (first | exact (Kd.R_reads' HO351.out).2.2 | (with_reducible refine Kd.C_alloc ?_ _) | (with_reducible refine Kd.C_drewN ?_ _) | (with_reducible refine Kd.C_drew ?_))); (case side4 => exact (Kd.R_reads' HO351.out).2.1); rintro e w' ⟨rfl, ⟨nd, rfl⟩⟩))
            go_meet
            case rel => exact ⟨_, (false), (by first | rfl | (simp; done) | (simp [*]; done)), H', ⟨by first | omega | exact Nat.le_refl _⟩, ⟨by (with_reducible repeat (first | apply Kd.S_alloc | apply Kd.S_drewN | apply Kd.S_drew)); exact HO339.out⟩, ⟨by (with_reducible repeat (first | apply Kd.R_alloc | apply Kd.R_drewN | apply Kd.R_drew)); exact HO347.out⟩, ⟨by repeat (first | (with_reducible first | exact HB.out | apply below_alloc | apply pw_below_drewN | apply below_drew1) | exact HB.out)⟩⟩
        ·replace c28 := Bool.eq_false_iff.mpr c28
         subst c28
         rw [if_neg (show ¬ (false = true) by decide)] at H
         exact absurd (H.trans (congrArg some HT.out)) (laws_FnRowsThere.j0_no k l1 t329 t332 t336 t337 t344)
      ·replace c25 := Bool.eq_false_iff.mpr c25
       subst c25
       rw [if_neg (show ¬ (false = true) by decide)] at H
       exact absurd (H.trans (congrArg some HT.out)) (laws_FnRowsThere.j0_no k l1 t329 t332 t336 t337 t344)
    ·rw [if_neg c22] at H
     have c22b0 : (t332 == t334) = false := beq_eq_false_iff_ne.mpr c22
     have c22b1 : (t332 != t334) = true := bne_iff_ne.mpr c22
     exact absurd (H.trans (congrArg some HT.out)) (laws_FnRowsThere.j0_no k l1 t329 t332 t336 t337 t344)
  case rest => as_aux_lemma =>
   clear HC13
   try clear c1
   try clear c2
   try clear p2
   try clear c3
   try clear c4
   try clear c10
   try clear c21
   try clear c21b0
   try clear c21b1
   try clear c21b2
   try clear c22
   try clear c22b0
   try clear c22b1
   try clear c23
   try clear c23b0
   try clear c23b1
   try clear c23b2
   try clear c25
   try clear c26
   try clear c26b0
   try clear c26b1
   try clear c26b2
   try clear c28
   try clear c29
   try clear c30
   try clear c30b0
   try clear c30b1
   try clear c30b2
   try clear c31
   try clear c31b0
   try clear c31b1
   try clear c31b2
   try clear c32
   try clear c33
   try clear c34
   try clear c35
   try clear c37
   try clear c37b0
   try clear c37b1
   try clear c37b2
   try clear c38
   try clear c38b0
   try clear c38b1
   try clear c38b2
   obtain ⟨kq, x158_12, rfl, HA, HJ12, HO_12, HO_16, HB⟩ := hcut
   cases kq with
   | zero => exact absurd HA.out (by simp [laws_FnRowsThere.j0])
   | succ kj12 =>
    have H := HA.out
    clear HA
    simp only [laws_FnRowsThere.j0] at H
    by_cases c43 : x158_12 = true
    ·subst c43
     rw [if_pos rfl] at H
     exact absurd ((Option.some.inj H).trans HT.out) (by decide)
    ·replace c43 := Bool.eq_false_iff.mpr c43
     subst c43
     rw [if_neg (show ¬ (false = true) by decide)] at H
     have HC44 := Aside0.mk H
     clear H
     go_upto_if 159 with (fail)
     go_cut [] (fun wc => ∃ (kq : Nat), Aside0 (laws_FnRowsThere.j2 kq l1 = some r) ∧ Aside0 (kq ≤ kj12) ∧ Aside0 (Below w.heap.size w wc))
     case first => as_aux_lemma =>
      have H := HC44.out
      clear HC44
      by_cases c45 : t337 = true
      ·subst c45
       rw [if_pos rfl] at H
       have H' := Aside0.mk H
       clear H
       obtain ⟨Ao46, co46, eo46⟩ := Kd.S_slice HO_12.out
       subst eo46
       go_wp2
       go_loopg [162] kj12 (fun kq v162 w' => ∃ (x162_2 : Int), v162 = .int .i64 x162_2 ∧ Aside0 (laws_FnRowsThere.l0 kq l1 t329 t332 t336 t344 t336 (t336.length : Int) x162_2 = some r) ∧ Aside0 (kq ≤ kj12) ∧ Aside0 (Kd.S (Kd.slice 3 (Kd.int .i64)) 31 w' w.heap.size (fun _ => True) (.slice Ao46 t336.length co46) t336) ∧ Aside0 (Kd.R (Kd.int .i64) 3 w' w.heap.size (fun _ => True) v346 t344) ∧ Aside0 (Kd.S (Kd.slice 3 (Kd.int .i64)) 31 w' w.heap.size (fun _ => True) (.slice Ao46 t336.length co46) t336) ∧ Aside0 (Below w.heap.size w w'))
       case atStart => exact ⟨(0), (by first | rfl | (simp; done) | (simp [*]; done)), H', ⟨Nat.le_refl _⟩, ⟨by (with_reducible repeat (first | apply Kd.S_alloc | apply Kd.S_drewN | apply Kd.S_drew)); exact HO_12.out⟩, ⟨by (with_reducible repeat (first | apply Kd.R_alloc | apply Kd.R_drewN | apply Kd.R_drew)); exact HO_16.out⟩, ⟨by (with_reducible repeat (first | apply Kd.S_alloc | apply Kd.S_drewN | apply Kd.S_drew)); exact HO_12.out⟩, ⟨by repeat (first | (with_reducible first | exact HB.out | apply below_alloc | apply pw_below_drewN | apply below_drew1) | exact HB.out)⟩⟩
       case round => as_aux_lemma =>
        clear H'
        try clear c1
        try clear c2
        try clear p2
        try clear c3
        try clear c4
        try clear c10
        try clear c21
        try clear c21b0
        try clear c21b1
        try clear c21b2
        try clear c22
        try clear c22b0
        try clear c22b1
        try clear c23
        try clear c23b0
        try clear c23b1
        try clear c23b2
        try clear c25
        try clear c26
        try clear c26b0
        try clear c26b1
        try clear c26b2
        try clear c28
        try clear c29
        try clear c30
        try clear c30b0
        try clear c30b1
        try clear c30b2
        try clear c31
        try clear c31b0
        try clear c31b1
        try clear c31b2
        try clear c32
        try clear c33
        try clear c34
        try clear c35
        try clear c37
        try clear c37b0
        try clear c37b1
        try clear c37b2
        try clear c38
        try clear c38b0
        try clear c38b1
        try clear c38b2
        try clear c43
        try clear c45
        try clear p2
        obtain ⟨x162_2, rfl, HA, HK2, HO_12, HO_16, HO_160, HB⟩ := hrel
        cases gk with
        | zero => exact absurd HA.out (by simp [laws_FnRowsThere.l0])
        | succ k2 =>
         have H := HA.out
         clear HA
         simp only [laws_FnRowsThere.l0] at H
         by_cases c47 : x162_2 < (t336.length : Int)
         ·rw [if_pos c47] at H
          have c47b0 : decide (x162_2 < (t336.length : Int)) = true := decide_eq_true c47
          clear c47
          (first | rw [c47b0] | (simp only [i64_w, i32_w]; rw [c47b0]) | skip)
          by_cases c48 : 0 ≤ x162_2
          ·rw [if_pos c48] at H
           have c48b0 : decide (0 ≤ x162_2) = true := decide_eq_true c48
           clear c48
           by_cases c49 : x162_2 < (t336.length : Int)
           ·rw [if_pos c49] at H
            have c49b0 : decide (x162_2 < (t336.length : Int)) = true := decide_eq_true c49
            clear c49
            replace H := Option.bind_eq_some_iff.mp H
            obtain ⟨⟨t357, t358⟩, A500, H⟩ := H
            (try dsimp only at H)
            have A50 := Aside0.mk A500
            clear A500
            by_cases c51 : t358 = true
            ·subst c51
             rw [if_pos rfl] at H
             by_cases c52 : t357 = true
             ·subst c52
              rw [if_pos rfl] at H
              by_cases c53 : ((rd_L2 t336 x162_2).length : Int) = (wrap64 (2 * t329))
              ·rw [if_pos c53] at H
               have c53b0 : (((rd_L2 t336 x162_2).length : Int) == (wrap64 (2 * t329))) = true := beq_iff_eq.mpr c53
               have c53b1 : (((rd_L2 t336 x162_2).length : Int) != (wrap64 (2 * t329))) = false := bne_eq_false_iff_eq.mpr c53
               clear c53
               by_cases c54 : x162_2 > 0
               ·rw [if_pos c54] at H
                have c54b0 : decide (0 < x162_2) = true := decide_eq_true c54
                clear c54
                obtain ⟨ji55, hji55⟩ : ∃ j_ : Int, (wrap64 (x162_2 - 1)) = j_ := ⟨_, rfl⟩
                replace H : (if 0 ≤ (ji55) then (if (ji55) < (t336.length : Int) then ((laws_jLess.f k2 (rd_L2 t336 (ji55)) (rd_L2 t336 x162_2)).bind fun t360 => (if t360 = true then ((laws_jBack.f k2 (rd_L2 t336 x162_2)).bind fun t361 => ((laws_jIn.f k2 t336 t361).bind fun t364 => (if t364 = true then (laws_FnRowsThere.l0 k2 l1 t329 t332 t336 t344 t336 (t336.length : Int) (wrap64 (x162_2 + 1))) else (some false)))) else (some false))) else (none)) else (none)) = some r := by first | (rw [hji55] at H; exact H) | (simp only [hji55] at H ⊢; exact H)
                (try rw [hji55] at A50)
                have hji55w : (IntKind.i64.wrap (x162_2 - 1)) = ji55 := (i64_w _).trans hji55
                by_cases c56 : 0 ≤ (ji55)
                ·rw [if_pos c56] at H
                 have c56b0 : decide (0 ≤ (ji55)) = true := decide_eq_true c56
                 clear c56
                 by_cases c57 : (ji55) < (t336.length : Int)
                 ·rw [if_pos c57] at H
                  have c57b0 : decide ((ji55) < (t336.length : Int)) = true := decide_eq_true c57
                  clear c57
                  replace H := Option.bind_eq_some_iff.mp H
                  obtain ⟨t360, A580, H⟩ := H
                  (try dsimp only at H)
                  have A58 := Aside0.mk A580
                  clear A580
                  by_cases c59 : t360 = true
                  ·subst c59
                   rw [if_pos rfl] at H
                   replace H := Option.bind_eq_some_iff.mp H
                   obtain ⟨t361, A600, H⟩ := H
                   (try dsimp only at H)
                   have A60 := Aside0.mk A600
                   clear A600
                   replace H := Option.bind_eq_some_iff.mp H
                   obtain ⟨t364, A610, H⟩ := H
                   (try dsimp only at H)
                   have A61 := Aside0.mk A610
                   clear A610
                   by_cases c62 : t364 = true
                   ·subst c62
                    rw [if_pos rfl] at H
                    have H' := Aside0.mk H
                    clear H
                    have p356 : 0 ≤ (x162_2 : Int) := of_decide_eq_true (by first | (with_reducible assumption) | assumption)
                    have q356 : x162_2 < (t336.length : Int) := of_decide_eq_true (by first | (with_reducible assumption) | assumption)
                    obtain ⟨ad356, A356_0, c356_0, e356, hx356_0, hl356_0, hi356_0⟩ := at_L2 (Kd.S_reads' HO_160.out).2.2 x162_2 p356 q356
                    cases e356
                    obtain ⟨ce356, hce356, hMe356, hcc356⟩ := Kd.S_get HO_160.out [] x162_2 p356 (by first | exact q356 | exact of_decide_eq_true (by first | (with_reducible assumption) | assumption) | (have e_ := (Kd.S_reads' HO_160.out).1; omega))
                    obtain ⟨ve356_0, rfl, ge356_0⟩ := hMe356
                    have hv356_0 := hcc356 0 _ rfl
                    rw [Nat.add_zero, show ((Kd.slice 3 (Kd.int .i64))).sz = 1 from rfl, Nat.mul_one] at hv356_0
                    replace hv356_0 := Option.some.inj (hv356_0.symm.trans hx356_0)
                    rw [hv356_0] at ge356_0
                    have HL356_0 := Aside0.mk (show Kd.R (Kd.int .i64) 3 _ _ _ _ (rd_L2 t336 x162_2) from ge356_0)
                    clear hv356_0 ge356_0
                    clear hcc356 hce356
                    have HR356_0 := Aside0.mk hi356_0
                    have HC356_0 := Aside0.mk hl356_0
                    clear hi356_0 hl356_0
                    replace p356 := eq_true p356
                    replace q356 := eq_true q356
                    go_wp2_with (first | ((with_reducible refine gate_callee (f := 36) rfl ?_); refine goesL_ (some 169) rfl rfl Try.func36 (by as_aux_lemma => kernel_rfl) rfl #[.slice A356_0 (rd_L2 t336 x162_2).length c356_0] rfl (by (try simp only [List.map_toArray, List.map_cons, List.map_nil]); first | done | rfl | (simp only [List.length_drop, List.length_take]; rfl)) ?_; (with_reducible refine (impl_IsSkolem.calls k2 _ _ (rd_L2 t336 x162_2) true true _ ?side1 ?side2 A50.out).mono ?_); (case side1 => repeat (first | exact (by repeat (first | (with_reducible exact HR356_0.out) | (with_reducible refine Kd.C_alloc ?_ _) | (with_reducible refine Kd.C_drewN ?_ _) | (with_reducible refine Kd.C_drew ?_) | exact HR356_0.out)) | (with_reducible refine Kd.C_alloc ?_ _) | (with_reducible refine Kd.C_drewN ?_ _) | (with_reducible refine Kd.C_drew ?_))); (case side2 => exact HC356_0.out); rintro e w63 ⟨rfl, hb⟩; refine ⟨_, rfl, ?_⟩; have n0_ := Aside0.mk (Kd.S_below (by (with_reducible repeat (first | apply Kd.S_alloc | apply Kd.S_drewN | apply Kd.S_drew)); exact HO_12.out) hb); have n1_ := Aside0.mk (Kd.R_below (by (with_reducible repeat (first | apply Kd.R_alloc | apply Kd.R_drewN | apply Kd.R_drew)); exact HO_16.out) hb); have n2_ := Aside0.mk (Kd.S_below (by (with_reducible repeat (first | apply Kd.S_alloc | apply Kd.S_drewN | apply Kd.S_drew)); exact HO_160.out) hb); have n3_ := Aside0.mk (Kd.R_below (by (with_reducible repeat (first | apply Kd.R_alloc | apply Kd.R_drewN | apply Kd.R_drew)); exact HL356_0.out) hb); have n4_ := Aside0.mk (Kd.C_below (by repeat (first | (with_reducible exact HR356_0.out) | (with_reducible refine Kd.C_alloc ?_ _) | (with_reducible refine Kd.C_drewN ?_ _) | (with_reducible refine Kd.C_drew ?_) | exact HR356_0.out)) hb); have n5_ := Aside0.mk (below_step (by repeat (first | (with_reducible first | exact HB.out | apply below_alloc | apply pw_below_drewN | apply below_drew1) | exact HB.out)) hb); clear HO_12; clear HO_16; clear HO_160; clear HL356_0; clear HR356_0; clear HB; have HO_12 := n0_; have HO_16 := n1_; have HO_160 := n2_; have HL356_0 := n3_; have HR356_0 := n4_; have HB := n5_; clear n0_ n1_ n2_ n3_ n4_ n5_; (try clear hb); (try clear hb2); (try clear hk); (try clear hi); have p359 : 0 ≤ ((ji55) : Int) := of_decide_eq_true (by first | (with_reducible assumption) | assumption); have q359 : (ji55) < (t336.length : Int) := of_decide_eq_true (by first | (with_reducible assumption) | assumption); obtain ⟨ad359, A359_0, c359_0, e359, hx359_0, hl359_0, hi359_0⟩ := at_L2 (Kd.S_reads' HO_12.out).2.2 (ji55) p359 q359; obtain rfl : ad356 = ad359 := (by injection e359); obtain ⟨ce359, hce359, hMe359, hcc359⟩ := Kd.S_get HO_12.out [] (ji55) p359 (by first | exact q359 | exact of_decide_eq_true (by first | (with_reducible assumption) | assumption) | (have e_ := (Kd.S_reads' HO_12.out).1; omega)); obtain ⟨ve359_0, rfl, ge359_0⟩ := hMe359; have hv359_0 := hcc359 0 _ rfl; rw [Nat.add_zero, show ((Kd.slice 3 (Kd.int .i64))).sz = 1 from rfl, Nat.mul_one] at hv359_0; replace hv359_0 := Option.some.inj (hv359_0.symm.trans hx359_0); rw [hv359_0] at ge359_0; have HL359_0 := Aside0.mk (show Kd.R (Kd.int .i64) 3 _ _ _ _ (rd_L2 t336 (ji55)) from ge359_0); clear hv359_0 ge359_0; clear hcc359 hce359; have HR359_0 := Aside0.mk hi359_0; have HC359_0 := Aside0.mk hl359_0; clear hi359_0 hl359_0; replace p359 := eq_true p359; replace q359 := eq_true q359) | (go_at_call 23; (with_reducible refine (laws_jLess.calls k2 _ _ (rd_L2 t336 (ji55)) _ _ (rd_L2 t336 x162_2) true _ ?side1 ?side2 ?side3 ?side4 A58.out).mono ?_); (case side1 => repeat (first | exact (by repeat (first | (with_reducible exact HR359_0.out) | (with_reducible refine Kd.C_alloc ?_ _) | (with_reducible refine Kd.C_drewN ?_ _) | (with_reducible refine Kd.C_drew ?_) | exact HR359_0.out)) | (with_reducible refine Kd.C_alloc ?_ _) | (with_reducible refine Kd.C_drewN ?_ _) | (with_reducible refine Kd.C_drew ?_))); (case side2 => exact HC359_0.out); (case side3 => repeat (first | exact (by repeat (first | (with_reducible exact HR356_0.out) | (with_reducible refine Kd.C_alloc ?_ _) | (with_reducible refine Kd.C_drewN ?_ _) | (with_reducible refine Kd.C_drew ?_) | exact HR356_0.out)) | (with_reducible refine Kd.C_alloc ?_ _) | (with_reducible refine Kd.C_drewN ?_ _) | (with_reducible refine Kd.C_drew ?_))); (case side4 => exact HC356_0.out); rintro e w' ⟨rfl, ⟨nd, rfl⟩⟩; (try (rw [drewN_self w63]; generalize hq_ : World.drewN w63 _ = w63; have n0_ : Aside0 (Kd.R (Kd.int .i64) 3 w63 w.heap.size (fun k_ => some k_ ≠ (.slice (some ad356) t336.length co46 : Value).ownBlock) (.slice A356_0 (rd_L2 t336 x162_2).length c356_0) (rd_L2 t336 x162_2)) := ⟨by rw [← hq_]; exact (by (with_reducible repeat (first | apply Kd.R_alloc | apply Kd.R_drewN | apply Kd.R_drew)); exact Kd.R_mono HL356_0.out (fun _ hk => hk.2))⟩; have n1_ : Aside0 (Kd.R (Kd.int .i64) 3 w63 w.heap.size (fun k_ => some k_ ≠ (.slice (some ad356) t336.length co46 : Value).ownBlock) (.slice A359_0 (rd_L2 t336 (ji55)).length c359_0) (rd_L2 t336 (ji55))) := ⟨by rw [← hq_]; exact (by (with_reducible repeat (first | apply Kd.R_alloc | apply Kd.R_drewN | apply Kd.R_drew)); exact Kd.R_mono HL359_0.out (fun _ hk => hk.2))⟩; have n2_ : Aside0 (Kd.S (Kd.slice 3 (Kd.int .i64)) 31 w63 w.heap.size (fun _ => True) (.slice (some ad356) t336.length co46) t336) := ⟨by rw [← hq_]; exact (by (with_reducible repeat (first | apply Kd.S_alloc | apply Kd.S_drewN | apply Kd.S_drew)); exact HO_12.out)⟩; have n3_ : Aside0 (Kd.R (Kd.int .i64) 3 w63 w.heap.size (fun _ => True) v346 t344) := ⟨by rw [← hq_]; exact (by (with_reducible repeat (first | apply Kd.R_alloc | apply Kd.R_drewN | apply Kd.R_drew)); exact HO_16.out)⟩; have n4_ : Aside0 (Kd.S (Kd.slice 3 (Kd.int .i64)) 31 w63 w.heap.size (fun _ => True) (.slice (some ad356) t336.length co46) t336) := ⟨by rw [← hq_]; exact (by (with_reducible repeat (first | apply Kd.S_alloc | apply Kd.S_drewN | apply Kd.S_drew)); exact HO_160.out)⟩; have n5_ : Aside0 (Below w.heap.size w w63) := ⟨by rw [← hq_]; exact (by repeat (first | (with_reducible first | exact HB.out | apply below_alloc | apply pw_below_drewN | apply below_drew1) | exact HB.out))⟩; have n6_ : Aside0 (Kd.C (Kd.int .i64) w63 A356_0 (rd_L2 t336 x162_2).length (rd_L2 t336 x162_2)) := ⟨by rw [← hq_]; exact (by repeat (first | (with_reducible exact HR356_0.out) | (with_reducible refine Kd.C_alloc ?_ _) | (with_reducible refine Kd.C_drewN ?_ _) | (with_reducible refine Kd.C_drew ?_) | exact HR356_0.out))⟩; have n7_ : Aside0 (Kd.C (Kd.int .i64) w63 A359_0 (rd_L2 t336 (ji55)).length (rd_L2 t336 (ji55))) := ⟨by rw [← hq_]; exact (by repeat (first | (with_reducible exact HR359_0.out) | (with_reducible refine Kd.C_alloc ?_ _) | (with_reducible refine Kd.C_drewN ?_ _) | (with_reducible refine Kd.C_drew ?_) | exact HR359_0.out))⟩; clear HL356_0 HL359_0 HO_12 HO_16 HO_160 HB HR356_0 HR359_0 hq_; have HL356_0 := n0_; have HL359_0 := n1_; have HO_12 := n2_; have HO_16 := n3_; have HO_160 := n4_; have HB := n5_; have HR356_0 := n6_; have HR359_0 := n7_; clear n0_ n1_ n2_ n3_ n4_ n5_ n6_ n7_))) | (go_at_call 25; (with_reducible refine (laws_jBack.calls k2 _ _ (rd_L2 t336 x162_2) t361 _ ?side1 ?side2 A60.out).mono ?_); (case side1 => repeat (first | exact (by repeat (first | (with_reducible exact HR356_0.out) | (with_reducible refine Kd.C_alloc ?_ _) | (with_reducible refine Kd.C_drewN ?_ _) | (with_reducible refine Kd.C_drew ?_) | exact HR356_0.out)) | (with_reducible refine Kd.C_alloc ?_ _) | (with_reducible refine Kd.C_drewN ?_ _) | (with_reducible refine Kd.C_drew ?_))); (case side2 => exact HC356_0.out); rintro e w64 ⟨v362, rfl, ho0, hb⟩; have n0_ := Aside0.mk (Kd.S_below (by (with_reducible repeat (first | apply Kd.S_alloc | apply Kd.S_drewN | apply Kd.S_drew)); exact HO_12.out) hb); have n1_ := Aside0.mk (Kd.R_below (by (with_reducible repeat (first | apply Kd.R_alloc | apply Kd.R_drewN | apply Kd.R_drew)); exact HO_16.out) hb); have n2_ := Aside0.mk (Kd.S_below (by (with_reducible repeat (first | apply Kd.S_alloc | apply Kd.S_drewN | apply Kd.S_drew)); exact HO_160.out) hb); have n3_ := Aside0.mk (Kd.R_below (by (with_reducible repeat (first | apply Kd.R_alloc | apply Kd.R_drewN | apply Kd.R_drew)); exact HL356_0.out) hb); have n4_ := Aside0.mk (Kd.R_below (by (with_reducible repeat (first | apply Kd.R_alloc | apply Kd.R_drewN | apply Kd.R_drew)); exact HL359_0.out) hb); have n5_ := Aside0.mk (Kd.R_lower ho0 (below_size (by repeat (first | (with_reducible first | exact HB.out | apply below_alloc | apply pw_below_drewN | apply below_drew1) | exact HB.out)))); have n6_ := Aside0.mk (Kd.C_below (by repeat (first | (with_reducible exact HR356_0.out) | (with_reducible refine Kd.C_alloc ?_ _) | (with_reducible refine Kd.C_drewN ?_ _) | (with_reducible refine Kd.C_drew ?_) | exact HR356_0.out)) hb); have n7_ := Aside0.mk (Kd.C_below (by repeat (first | (with_reducible exact HR359_0.out) | (with_reducible refine Kd.C_alloc ?_ _) | (with_reducible refine Kd.C_drewN ?_ _) | (with_reducible refine Kd.C_drew ?_) | exact HR359_0.out)) hb); have n8_ := Aside0.mk (below_step (by repeat (first | (with_reducible first | exact HB.out | apply below_alloc | apply pw_below_drewN | apply below_drew1) | exact HB.out)) hb); clear HO_12; clear HO_16; clear HO_160; clear HL356_0; clear HL359_0; clear HR356_0; clear HR359_0; clear HB; have HO_12 := n0_; have HO_16 := n1_; have HO_160 := n2_; have HL356_0 := n3_; have HL359_0 := n4_; have HO363 := n5_; have HR356_0 := n6_; have HR359_0 := n7_; have HB := n8_; clear n0_ n1_ n2_ n3_ n4_ n5_ n6_ n7_ n8_; (try clear hb); (try clear hb2); (try clear hk); (try clear hi); (try clear ho0); obtain ⟨Ao65, co65, eo65⟩ := Kd.R_slice HO363.out; subst eo65) | (go_at_call 24; (with_reducible refine (laws_jIn.calls k2 _ _ t336 _ _ t361 true _ ?side1 ?side2 ?side3 ?side4 A61.out).mono ?_); (case side1 => repeat (first | exact (Kd.S_reads' HO_12.out).2.2 | (with_reducible refine Kd.C_alloc ?_ _) | (with_reducible refine Kd.C_drewN ?_ _) | (with_reducible refine Kd.C_drew ?_))); (case side2 => exact (Kd.S_reads' HO_12.out).2.1); (case side3 => repeat (first | exact (Kd.R_reads' HO363.out).2.2 | (with_reducible refine Kd.C_alloc ?_ _) | (with_reducible refine Kd.C_drewN ?_ _) | (with_reducible refine Kd.C_drew ?_))); (case side4 => exact (Kd.R_reads' HO363.out).2.1); rintro e w' ⟨rfl, ⟨nd, rfl⟩⟩))
                    go_roundg k2
                    case measure => have := HJ12.out; have := HK2.out; omega
                    case rel => exact ⟨(wrap64 (x162_2 + 1)), (by first | rfl | (simp; done) | (simp [*]; done)), H', ⟨by have := HJ12.out; have := HK2.out; omega⟩, ⟨by (with_reducible repeat (first | apply Kd.S_alloc | apply Kd.S_drewN | apply Kd.S_drew)); exact HO_12.out⟩, ⟨by (with_reducible repeat (first | apply Kd.R_alloc | apply Kd.R_drewN | apply Kd.R_drew)); exact HO_16.out⟩, ⟨by (with_reducible repeat (first | apply Kd.S_alloc | apply Kd.S_drewN | apply Kd.S_drew)); exact HO_160.out⟩, ⟨by repeat (first | (with_reducible first | exact HB.out | apply below_alloc | apply pw_below_drewN | apply below_drew1) | exact HB.out)⟩⟩
                   ·replace c62 := Bool.eq_false_iff.mpr c62
                    subst c62
                    rw [if_neg (show ¬ (false = true) by decide)] at H
                    exact absurd ((Option.some.inj H).trans HT.out) (by decide)
                  ·replace c59 := Bool.eq_false_iff.mpr c59
                   subst c59
                   rw [if_neg (show ¬ (false = true) by decide)] at H
                   exact absurd ((Option.some.inj H).trans HT.out) (by decide)
                 ·rw [if_neg c57] at H
                  exact absurd H (by simp)
                ·rw [if_neg c56] at H
                 exact absurd H (by simp)
               ·rw [if_neg c54] at H
                have c54b0 : decide (0 < x162_2) = false := decide_eq_false c54
                clear c54
                replace H := Option.bind_eq_some_iff.mp H
                obtain ⟨t365, A660, H⟩ := H
                (try dsimp only at H)
                have A66 := Aside0.mk A660
                clear A660
                replace H := Option.bind_eq_some_iff.mp H
                obtain ⟨t368, A670, H⟩ := H
                (try dsimp only at H)
                have A67 := Aside0.mk A670
                clear A670
                by_cases c68 : t368 = true
                ·subst c68
                 rw [if_pos rfl] at H
                 have H' := Aside0.mk H
                 clear H
                 have p356 : 0 ≤ (x162_2 : Int) := of_decide_eq_true (by first | (with_reducible assumption) | assumption)
                 have q356 : x162_2 < (t336.length : Int) := of_decide_eq_true (by first | (with_reducible assumption) | assumption)
                 obtain ⟨ad356, A356_0, c356_0, e356, hx356_0, hl356_0, hi356_0⟩ := at_L2 (Kd.S_reads' HO_160.out).2.2 x162_2 p356 q356
                 cases e356
                 obtain ⟨ce356, hce356, hMe356, hcc356⟩ := Kd.S_get HO_160.out [] x162_2 p356 (by first | exact q356 | exact of_decide_eq_true (by first | (with_reducible assumption) | assumption) | (have e_ := (Kd.S_reads' HO_160.out).1; omega))
                 obtain ⟨ve356_0, rfl, ge356_0⟩ := hMe356
                 have hv356_0 := hcc356 0 _ rfl
                 rw [Nat.add_zero, show ((Kd.slice 3 (Kd.int .i64))).sz = 1 from rfl, Nat.mul_one] at hv356_0
                 replace hv356_0 := Option.some.inj (hv356_0.symm.trans hx356_0)
                 rw [hv356_0] at ge356_0
                 have HL356_0 := Aside0.mk (show Kd.R (Kd.int .i64) 3 _ _ _ _ (rd_L2 t336 x162_2) from ge356_0)
                 clear hv356_0 ge356_0
                 clear hcc356 hce356
                 have HR356_0 := Aside0.mk hi356_0
                 have HC356_0 := Aside0.mk hl356_0
                 clear hi356_0 hl356_0
                 replace p356 := eq_true p356
                 replace q356 := eq_true q356
                 go_wp2_with (first | ((with_reducible refine gate_callee (f := 36) rfl ?_); refine goesL_ (some 169) rfl rfl Try.func36 (by as_aux_lemma => kernel_rfl) rfl #[.slice A356_0 (rd_L2 t336 x162_2).length c356_0] rfl (by (try simp only [List.map_toArray, List.map_cons, List.map_nil]); first | done | rfl | (simp only [List.length_drop, List.length_take]; rfl)) ?_; (with_reducible refine (impl_IsSkolem.calls k2 _ _ (rd_L2 t336 x162_2) true true _ ?side1 ?side2 A50.out).mono ?_); (case side1 => repeat (first | exact (by repeat (first | (with_reducible exact HR356_0.out) | (with_reducible refine Kd.C_alloc ?_ _) | (with_reducible refine Kd.C_drewN ?_ _) | (with_reducible refine Kd.C_drew ?_) | exact HR356_0.out)) | (with_reducible refine Kd.C_alloc ?_ _) | (with_reducible refine Kd.C_drewN ?_ _) | (with_reducible refine Kd.C_drew ?_))); (case side2 => exact HC356_0.out); rintro e w69 ⟨rfl, hb⟩; refine ⟨_, rfl, ?_⟩; have n0_ := Aside0.mk (Kd.S_below (by (with_reducible repeat (first | apply Kd.S_alloc | apply Kd.S_drewN | apply Kd.S_drew)); exact HO_12.out) hb); have n1_ := Aside0.mk (Kd.R_below (by (with_reducible repeat (first | apply Kd.R_alloc | apply Kd.R_drewN | apply Kd.R_drew)); exact HO_16.out) hb); have n2_ := Aside0.mk (Kd.S_below (by (with_reducible repeat (first | apply Kd.S_alloc | apply Kd.S_drewN | apply Kd.S_drew)); exact HO_160.out) hb); have n3_ := Aside0.mk (Kd.R_below (by (with_reducible repeat (first | apply Kd.R_alloc | apply Kd.R_drewN | apply Kd.R_drew)); exact HL356_0.out) hb); have n4_ := Aside0.mk (Kd.C_below (by repeat (first | (with_reducible exact HR356_0.out) | (with_reducible refine Kd.C_alloc ?_ _) | (with_reducible refine Kd.C_drewN ?_ _) | (with_reducible refine Kd.C_drew ?_) | exact HR356_0.out)) hb); have n5_ := Aside0.mk (below_step (by repeat (first | (with_reducible first | exact HB.out | apply below_alloc | apply pw_below_drewN | apply below_drew1) | exact HB.out)) hb); clear HO_12; clear HO_16; clear HO_160; clear HL356_0; clear HR356_0; clear HB; have HO_12 := n0_; have HO_16 := n1_; have HO_160 := n2_; have HL356_0 := n3_; have HR356_0 := n4_; have HB := n5_; clear n0_ n1_ n2_ n3_ n4_ n5_; (try clear hb); (try clear hb2); (try clear hk); (try clear hi)) | (go_at_call 25; (with_reducible refine (laws_jBack.calls k2 _ _ (rd_L2 t336 x162_2) t365 _ ?side1 ?side2 A66.out).mono ?_); (case side1 => repeat (first | exact (by repeat (first | (with_reducible exact HR356_0.out) | (with_reducible refine Kd.C_alloc ?_ _) | (with_reducible refine Kd.C_drewN ?_ _) | (with_reducible refine Kd.C_drew ?_) | exact HR356_0.out)) | (with_reducible refine Kd.C_alloc ?_ _) | (with_reducible refine Kd.C_drewN ?_ _) | (with_reducible refine Kd.C_drew ?_))); (case side2 => exact HC356_0.out); rintro e w70 ⟨v366, rfl, ho0, hb⟩; have n0_ := Aside0.mk (Kd.S_below (by (with_reducible repeat (first | apply Kd.S_alloc | apply Kd.S_drewN | apply Kd.S_drew)); exact HO_12.out) hb); have n1_ := Aside0.mk (Kd.R_below (by (with_reducible repeat (first | apply Kd.R_alloc | apply Kd.R_drewN | apply Kd.R_drew)); exact HO_16.out) hb); have n2_ := Aside0.mk (Kd.S_below (by (with_reducible repeat (first | apply Kd.S_alloc | apply Kd.S_drewN | apply Kd.S_drew)); exact HO_160.out) hb); have n3_ := Aside0.mk (Kd.R_below (by (with_reducible repeat (first | apply Kd.R_alloc | apply Kd.R_drewN | apply Kd.R_drew)); exact HL356_0.out) hb); have n4_ := Aside0.mk (Kd.R_lower ho0 (below_size (by repeat (first | (with_reducible first | exact HB.out | apply below_alloc | apply pw_below_drewN | apply below_drew1) | exact HB.out)))); have n5_ := Aside0.mk (Kd.C_below (by repeat (first | (with_reducible exact HR356_0.out) | (with_reducible refine Kd.C_alloc ?_ _) | (with_reducible refine Kd.C_drewN ?_ _) | (with_reducible refine Kd.C_drew ?_) | exact HR356_0.out)) hb); have n6_ := Aside0.mk (below_step (by repeat (first | (with_reducible first | exact HB.out | apply below_alloc | apply pw_below_drewN | apply below_drew1) | exact HB.out)) hb); clear HO_12; clear HO_16; clear HO_160; clear HL356_0; clear HR356_0; clear HB; have HO_12 := n0_; have HO_16 := n1_; have HO_160 := n2_; have HL356_0 := n3_; have HO367 := n4_; have HR356_0 := n5_; have HB := n6_; clear n0_ n1_ n2_ n3_ n4_ n5_ n6_; (try clear hb); (try clear hb2); (try clear hk); (try clear hi); (try clear ho0); obtain ⟨Ao71, co71, eo71⟩ := Kd.R_slice HO367.out; subst eo71) | (go_at_call 24; (with_reducible refine (laws_jIn.calls k2 _ _ t336 _ _ t365 true _ ?side1 ?side2 ?side3 ?side4 A67.out).mono ?_); (case side1 => repeat (first | exact (Kd.S_reads' HO_12.out).2.2 | (with_reducible refine Kd.C_alloc ?_ _) | (with_reducible refine Kd.C_drewN ?_ _) | (with_reducible refine Kd.C_drew ?_))); (case side2 => exact (Kd.S_reads' HO_12.out).2.1); (case side3 => repeat (first | exact (Kd.R_reads' HO367.out).2.2 | (with_reducible refine Kd.C_alloc ?_ _) | (with_reducible refine Kd.C_drewN ?_ _) | (with_reducible refine Kd.C_drew ?_))); (case side4 => exact (Kd.R_reads' HO367.out).2.1); rintro e w' ⟨rfl, ⟨nd, rfl⟩⟩))
                 go_roundg k2
                 case measure => have := HJ12.out; have := HK2.out; omega
                 case rel => exact ⟨(wrap64 (x162_2 + 1)), (by first | rfl | (simp; done) | (simp [*]; done)), H', ⟨by have := HJ12.out; have := HK2.out; omega⟩, ⟨by (with_reducible repeat (first | apply Kd.S_alloc | apply Kd.S_drewN | apply Kd.S_drew)); exact HO_12.out⟩, ⟨by (with_reducible repeat (first | apply Kd.R_alloc | apply Kd.R_drewN | apply Kd.R_drew)); exact HO_16.out⟩, ⟨by (with_reducible repeat (first | apply Kd.S_alloc | apply Kd.S_drewN | apply Kd.S_drew)); exact HO_160.out⟩, ⟨by repeat (first | (with_reducible first | exact HB.out | apply below_alloc | apply pw_below_drewN | apply below_drew1) | exact HB.out)⟩⟩
                ·replace c68 := Bool.eq_false_iff.mpr c68
                 subst c68
                 rw [if_neg (show ¬ (false = true) by decide)] at H
                 exact absurd ((Option.some.inj H).trans HT.out) (by decide)
              ·rw [if_neg c53] at H
               have c53b0 : (((rd_L2 t336 x162_2).length : Int) == (wrap64 (2 * t329))) = false := beq_eq_false_iff_ne.mpr c53
               have c53b1 : (((rd_L2 t336 x162_2).length : Int) != (wrap64 (2 * t329))) = true := bne_iff_ne.mpr c53
               exact absurd ((Option.some.inj H).trans HT.out) (by decide)
             ·replace c52 := Bool.eq_false_iff.mpr c52
              subst c52
              rw [if_neg (show ¬ (false = true) by decide)] at H
              exact absurd ((Option.some.inj H).trans HT.out) (by decide)
            ·replace c51 := Bool.eq_false_iff.mpr c51
             subst c51
             rw [if_neg (show ¬ (false = true) by decide)] at H
             exact absurd ((Option.some.inj H).trans HT.out) (by decide)
           ·rw [if_neg c49] at H
            exact absurd H (by simp)
          ·rw [if_neg c48] at H
           exact absurd H (by simp)
         ·rw [if_neg c47] at H
          have c47b0 : decide (x162_2 < (t336.length : Int)) = false := decide_eq_false c47
          clear c47
          (first | rw [c47b0] | (simp only [i64_w, i32_w]; rw [c47b0]) | skip)
          by_cases c72 : (t336.length : Int) = t332
          ·rw [if_pos c72] at H
           have c72b0 : ((t336.length : Int) == t332) = true := beq_iff_eq.mpr c72
           have c72b1 : ((t336.length : Int) != t332) = false := bne_eq_false_iff_eq.mpr c72
           clear c72
           by_cases c73 : t332 > 0
           ·rw [if_pos c73] at H
            have c73b0 : decide (0 < t332) = true := decide_eq_true c73
            clear c73
            by_cases c74 : 0 < (t336.length : Int)
            ·rw [if_pos c74] at H
             have c74b0 : decide (0 < (t336.length : Int)) = true := decide_eq_true c74
             have c74b1 : decide (0 < t336.length) = true := decide_eq_true (by omega)
             clear c74
             replace H := Option.bind_eq_some_iff.mp H
             obtain ⟨t355, A750, H⟩ := H
             (try dsimp only at H)
             have A75 := Aside0.mk A750
             clear A750
             by_cases c76 : t355 = true
             ·subst c76
              rw [if_pos rfl] at H
              have H' := Aside0.mk H
              clear H
              have p354 : 0 ≤ (0 : Int) := (by omega)
              have q354 : 0 < (t336.length : Int) := of_decide_eq_true (by first | (with_reducible assumption) | assumption)
              obtain ⟨ad354, A354_0, c354_0, e354, hx354_0, hl354_0, hi354_0⟩ := at_L2 (Kd.S_reads' HO_12.out).2.2 0 p354 q354
              cases e354
              obtain ⟨ce354, hce354, hMe354, hcc354⟩ := Kd.S_get HO_12.out [] 0 p354 (by first | exact q354 | exact of_decide_eq_true (by first | (with_reducible assumption) | assumption) | (have e_ := (Kd.S_reads' HO_12.out).1; omega))
              obtain ⟨ve354_0, rfl, ge354_0⟩ := hMe354
              have hv354_0 := hcc354 0 _ rfl
              rw [Nat.add_zero, show ((Kd.slice 3 (Kd.int .i64))).sz = 1 from rfl, Nat.mul_one] at hv354_0
              replace hv354_0 := Option.some.inj (hv354_0.symm.trans hx354_0)
              rw [hv354_0] at ge354_0
              have HL354_0 := Aside0.mk (show Kd.R (Kd.int .i64) 3 _ _ _ _ (rd_L2 t336 0) from ge354_0)
              clear hv354_0 ge354_0
              clear hcc354 hce354
              have qi354 : (0 < t336.length) = True := eq_true (by omega)
              (try rw [show ((0 : Int)).toNat = 0 from rfl] at hx354_0)
              (try rw [Addr.add_zero'] at hx354_0)
              have HR354_0 := Aside0.mk hi354_0
              have HC354_0 := Aside0.mk hl354_0
              clear hi354_0 hl354_0
              replace p354 := eq_true p354
              replace q354 := eq_true q354
              obtain ⟨Ao77, co77, eo77⟩ := Kd.R_slice HO_16.out
              subst eo77
              go_wp2_with (first | (go_at_call 20; (with_reducible refine (laws_jSame.calls k2 _ _ (rd_L2 t336 0) _ _ t344 true _ ?side1 ?side2 ?side3 ?side4 A75.out).mono ?_); (case side1 => repeat (first | exact (by repeat (first | (with_reducible exact HR354_0.out) | (with_reducible refine Kd.C_alloc ?_ _) | (with_reducible refine Kd.C_drewN ?_ _) | (with_reducible refine Kd.C_drew ?_) | exact HR354_0.out)) | (with_reducible refine Kd.C_alloc ?_ _) | (with_reducible refine Kd.C_drewN ?_ _) | (with_reducible refine Kd.C_drew ?_))); (case side2 => exact HC354_0.out); (case side3 => repeat (first | exact (Kd.R_reads' HO_16.out).2.2 | (with_reducible refine Kd.C_alloc ?_ _) | (with_reducible refine Kd.C_drewN ?_ _) | (with_reducible refine Kd.C_drew ?_))); (case side4 => exact (Kd.R_reads' HO_16.out).2.1); rintro e w' ⟨rfl, ⟨nd, rfl⟩⟩))
              go_meet
              case rel => exact ⟨_, H', ⟨by have := HJ12.out; have := HK2.out; first | omega | exact Nat.le_refl _⟩, ⟨by repeat (first | (with_reducible first | exact HB.out | apply below_alloc | apply pw_below_drewN | apply below_drew1) | exact HB.out)⟩⟩
             ·replace c76 := Bool.eq_false_iff.mpr c76
              subst c76
              rw [if_neg (show ¬ (false = true) by decide)] at H
              exact absurd ((Option.some.inj H).trans HT.out) (by decide)
            ·rw [if_neg c74] at H
             exact absurd H (by simp)
           ·rw [if_neg c73] at H
            have c73b0 : decide (0 < t332) = false := decide_eq_false c73
            clear c73
            have H' := Aside0.mk H
            clear H
            go_wp2
            go_meet
            case rel => exact ⟨_, H', ⟨by have := HJ12.out; have := HK2.out; first | omega | exact Nat.le_refl _⟩, ⟨by repeat (first | (with_reducible first | exact HB.out | apply below_alloc | apply pw_below_drewN | apply below_drew1) | exact HB.out)⟩⟩
          ·rw [if_neg c72] at H
           have c72b0 : ((t336.length : Int) == t332) = false := beq_eq_false_iff_ne.mpr c72
           have c72b1 : ((t336.length : Int) != t332) = true := bne_iff_ne.mpr c72
           exact absurd ((Option.some.inj H).trans HT.out) (by decide)
      ·replace c45 := Bool.eq_false_iff.mpr c45
       subst c45
       rw [if_neg (show ¬ (false = true) by decide)] at H
       have H' := Aside0.mk H
       clear H
       go_wp2
       go_meet
       case rel => exact ⟨_, H', ⟨by have := HJ12.out; first | omega | exact Nat.le_refl _⟩, ⟨by repeat (first | (with_reducible first | exact HB.out | apply below_alloc | apply pw_below_drewN | apply below_drew1) | exact HB.out)⟩⟩
     case rest => as_aux_lemma =>
      clear HC44
      try clear c1
      try clear c2
      try clear p2
      try clear c3
      try clear p3
      try clear q3
      try clear hx3
      try clear qi3
      try clear c4
      try clear c5
      try clear c6
      try clear p6
      try clear c7
      try clear c10
      try clear c21
      try clear c21b0
      try clear c21b1
      try clear c21b2
      try clear c22
      try clear c22b0
      try clear c22b1
      try clear c23
      try clear c23b0
      try clear c23b1
      try clear c23b2
      try clear c25
      try clear c26
      try clear c26b0
      try clear c26b1
      try clear c26b2
      try clear c28
      try clear c29
      try clear c30
      try clear c30b0
      try clear c30b1
      try clear c30b2
      try clear c31
      try clear c31b0
      try clear c31b1
      try clear c31b2
      try clear c32
      try clear c33
      try clear c34
      try clear c35
      try clear p35
      try clear q35
      try clear hx35
      try clear qi35
      try clear c36
      try clear c37
      try clear c37b0
      try clear c37b1
      try clear c37b2
      try clear c38
      try clear c38b0
      try clear c38b1
      try clear c38b2
      try clear c43
      try clear c45
      try clear c47
      try clear c47b0
      try clear c48
      try clear c48b0
      try clear c49
      try clear c49b0
      try clear c51
      try clear c52
      try clear c53
      try clear c53b0
      try clear c53b1
      try clear c54
      try clear c54b0
      try clear c56
      try clear c56b0
      try clear c57
      try clear c57b0
      try clear c59
      try clear c62
      try clear p64
      try clear c68
      try clear c72
      try clear c72b0
      try clear c72b1
      try clear c73
      try clear c73b0
      try clear c74
      try clear c74b0
      try clear c74b1
      try clear c76
      try clear hx354_0
      try clear hx356_0
      try clear hx359_0
      try clear p2
      try clear p354
      try clear p356
      try clear p359
      try clear q354
      try clear q356
      try clear q359
      obtain ⟨kq, HA, HJ43, HB⟩ := hcut
      cases kq with
      | zero => exact absurd HA.out (by simp [laws_FnRowsThere.j2])
      | succ kj43 =>
       have H := HA.out
       clear HA
       simp only [laws_FnRowsThere.j2] at H
       replace H := Option.bind_eq_some_iff.mp H
       obtain ⟨t369, A780, H⟩ := H
       (try dsimp only at H)
       have A78 := Aside0.mk A780
       clear A780
       replace H := Option.bind_eq_some_iff.mp H
       obtain ⟨⟨t370, t371⟩, A790, H⟩ := H
       (try dsimp only at H)
       have A79 := Aside0.mk A790
       clear A790
       replace H := Option.bind_eq_some_iff.mp H
       obtain ⟨⟨t372, t373⟩, A800, H⟩ := H
       (try dsimp only at H)
       have A80 := Aside0.mk A800
       clear A800
       replace H := Option.bind_eq_some_iff.mp H
       obtain ⟨⟨t374, t375⟩, A810, H⟩ := H
       (try dsimp only at H)
       have A81 := Aside0.mk A810
       clear A810
       replace H := Option.bind_eq_some_iff.mp H
       obtain ⟨⟨t376, t377⟩, A820, H⟩ := H
       (try dsimp only at H)
       have A82 := Aside0.mk A820
       clear A820
       replace H := Option.bind_eq_some_iff.mp H
       obtain ⟨⟨t380, t381⟩, A830, H⟩ := H
       (try dsimp only at H)
       have A83 := Aside0.mk A830
       clear A830
       replace H := Option.bind_eq_some_iff.mp H
       obtain ⟨⟨t384, t385⟩, A840, H⟩ := H
       (try dsimp only at H)
       have A84 := Aside0.mk A840
       clear A840
       replace H := Option.bind_eq_some_iff.mp H
       obtain ⟨⟨t388, t389⟩, A850, H⟩ := H
       (try dsimp only at H)
       have A85 := Aside0.mk A850
       clear A850
       have HC86 := Aside0.mk H
       clear H
       go_upto_region 31 with (first | ((with_reducible refine gate_callee (f := 37) rfl ?_); refine goesL_ (some 224) rfl rfl Try.func37 (by as_aux_lemma => kernel_rfl) rfl #[.slice A1 l1.length c1] rfl (by (try simp only [List.map_toArray, List.map_cons, List.map_nil]); first | done | rfl | (simp only [List.length_drop, List.length_take]; rfl)) ?_; (with_reducible refine (spec_DrawAllHooked.calls _ _ l1 t369 _ ?side1 ?side2 A78.out).mono ?_); (case side1 => repeat (first | exact (Kd.C_below HR1.out HB.out) | (with_reducible refine Kd.C_alloc ?_ _) | (with_reducible refine Kd.C_drewN ?_ _) | (with_reducible refine Kd.C_drew ?_))); (case side2 => exact HC1.out); rintro e w87 ⟨rfl, hb⟩; refine ⟨_, rfl, ?_⟩; have n0_ := Aside0.mk (below_step (by repeat (first | (with_reducible first | exact HB.out | apply below_alloc | apply pw_below_drewN | apply below_drew1) | exact HB.out)) hb); clear HB; have HB := n0_; clear n0_; (try clear hb); (try clear hb2); (try clear hk); (try clear hi)) | ((with_reducible refine gate_callee (f := 38) rfl ?_); refine goesL_ (some 227) rfl rfl Try.func38 (by as_aux_lemma => kernel_rfl) rfl #[.int .i64 t369] rfl (by (try simp only [List.map_toArray, List.map_cons, List.map_nil]); first | done | rfl | (simp only [List.length_drop, List.length_take]; rfl)) ?_; (with_reducible refine (impl_IsHookedThere.calls t369 t370 t371 _ A79.out).mono ?_); rintro e w' ⟨rfl, ⟨nd, rfl⟩⟩; refine ⟨_, rfl, ?_⟩; (try (rw [drewN_self w87]; generalize hq_ : World.drewN w87 _ = w87; have n0_ : Aside0 (Below w.heap.size w w87) := ⟨by rw [← hq_]; exact (by repeat (first | (with_reducible first | exact HB.out | apply below_alloc | apply pw_below_drewN | apply below_drew1) | exact HB.out))⟩; clear HB hq_; have HB := n0_; clear n0_))) | ((with_reducible refine gate_callee (f := 39) rfl ?_); refine goesL_ (some 232) rfl rfl Try.func39 (by as_aux_lemma => kernel_rfl) rfl #[.int .i64 t369] rfl (by (try simp only [List.map_toArray, List.map_cons, List.map_nil]); first | done | rfl | (simp only [List.length_drop, List.length_take]; rfl)) ?_; (with_reducible refine (impl_CountHooked.calls t369 t372 t373 _ A80.out).mono ?_); rintro e w88 ⟨rfl, hb⟩; refine ⟨_, rfl, ?_⟩; have n0_ := Aside0.mk (below_step (by repeat (first | (with_reducible first | exact HB.out | apply below_alloc | apply pw_below_drewN | apply below_drew1) | exact HB.out)) hb); clear HB; have HB := n0_; clear n0_; (try clear hb); (try clear hb2); (try clear hk); (try clear hi)) | ((with_reducible refine gate_callee (f := 40) rfl ?_); refine goesL_ (some 237) rfl rfl Try.func40 (by as_aux_lemma => kernel_rfl) rfl #[.int .i64 t369] rfl (by (try simp only [List.map_toArray, List.map_cons, List.map_nil]); first | done | rfl | (simp only [List.length_drop, List.length_take]; rfl)) ?_; (with_reducible refine (spec_CountHooked.calls t369 t374 t375 _ A81.out).mono ?_); rintro e w89 ⟨rfl, hb⟩; refine ⟨_, rfl, ?_⟩; have n0_ := Aside0.mk (below_step (by repeat (first | (with_reducible first | exact HB.out | apply below_alloc | apply pw_below_drewN | apply below_drew1) | exact HB.out)) hb); clear HB; have HB := n0_; clear n0_; (try clear hb); (try clear hb2); (try clear hk); (try clear hi)) | ((with_reducible refine gate_callee (f := 41) rfl ?_); refine goesL_ (some 242) rfl rfl Try.func41 (by as_aux_lemma => kernel_rfl) rfl #[.int .i64 t369] rfl (by (try simp only [List.map_toArray, List.map_cons, List.map_nil]); first | done | rfl | (simp only [List.length_drop, List.length_take]; rfl)) ?_; (with_reducible refine (impl_AllHooked.calls t369 t376 t377 _ A82.out).mono ?_); rintro e w90 ⟨v378, rfl, ho0, hb⟩; refine ⟨_, rfl, ?_⟩; have n0_ := Aside0.mk (Kd.S_lower ho0 (below_size (by repeat (first | (with_reducible first | exact HB.out | apply below_alloc | apply pw_below_drewN | apply below_drew1) | exact HB.out)))); have n1_ := Aside0.mk (below_step (by repeat (first | (with_reducible first | exact HB.out | apply below_alloc | apply pw_below_drewN | apply below_drew1) | exact HB.out)) hb); clear HB; have HO379 := n0_; have HB := n1_; clear n0_ n1_; (try clear hb); (try clear hb2); (try clear hk); (try clear hi); (try clear ho0)) | ((with_reducible refine gate_callee (f := 42) rfl ?_); refine goesL_ (some 247) rfl rfl Try.func42 (by as_aux_lemma => kernel_rfl) rfl #[.int .i64 t369] rfl (by (try simp only [List.map_toArray, List.map_cons, List.map_nil]); first | done | rfl | (simp only [List.length_drop, List.length_take]; rfl)) ?_; (with_reducible refine (spec_AllHooked.calls t369 t380 t381 _ A83.out).mono ?_); rintro e w91 ⟨v382, rfl, ho0, hb⟩; refine ⟨_, rfl, ?_⟩; have n0_ := Aside0.mk (Kd.S_below (by (with_reducible repeat (first | apply Kd.S_alloc | apply Kd.S_drewN | apply Kd.S_drew)); exact HO379.out) hb); have n1_ := Aside0.mk (Kd.S_lower ho0 (below_size (by repeat (first | (with_reducible first | exact HB.out | apply below_alloc | apply pw_below_drewN | apply below_drew1) | exact HB.out)))); have n2_ := Aside0.mk (below_step (by repeat (first | (with_reducible first | exact HB.out | apply below_alloc | apply pw_below_drewN | apply below_drew1) | exact HB.out)) hb); clear HO379; clear HB; have HO379 := n0_; have HO383 := n1_; have HB := n2_; clear n0_ n1_ n2_; (try clear hb); (try clear hb2); (try clear hk); (try clear hi); (try clear ho0)) | ((with_reducible refine gate_callee (f := 43) rfl ?_); refine goesL_ (some 252) rfl rfl Try.func43 (by as_aux_lemma => kernel_rfl) rfl #[.int .i64 t369] rfl (by (try simp only [List.map_toArray, List.map_cons, List.map_nil]); first | done | rfl | (simp only [List.length_drop, List.length_take]; rfl)) ?_; (with_reducible refine (impl_FirstHooked.calls t369 t384 t385 _ A84.out).mono ?_); rintro e w92 ⟨v386, rfl, ho0, hb⟩; refine ⟨_, rfl, ?_⟩; have n0_ := Aside0.mk (Kd.S_below (by (with_reducible repeat (first | apply Kd.S_alloc | apply Kd.S_drewN | apply Kd.S_drew)); exact HO379.out) hb); have n1_ := Aside0.mk (Kd.S_below (by (with_reducible repeat (first | apply Kd.S_alloc | apply Kd.S_drewN | apply Kd.S_drew)); exact HO383.out) hb); have n2_ := Aside0.mk (Kd.R_lower ho0 (below_size (by repeat (first | (with_reducible first | exact HB.out | apply below_alloc | apply pw_below_drewN | apply below_drew1) | exact HB.out)))); have n3_ := Aside0.mk (below_step (by repeat (first | (with_reducible first | exact HB.out | apply below_alloc | apply pw_below_drewN | apply below_drew1) | exact HB.out)) hb); clear HO379; clear HO383; clear HB; have HO379 := n0_; have HO383 := n1_; have HO387 := n2_; have HB := n3_; clear n0_ n1_ n2_ n3_; (try clear hb); (try clear hb2); (try clear hk); (try clear hi); (try clear ho0)) | ((with_reducible refine gate_callee (f := 44) rfl ?_); refine goesL_ (some 257) rfl rfl Try.func44 (by as_aux_lemma => kernel_rfl) rfl #[.int .i64 t369] rfl (by (try simp only [List.map_toArray, List.map_cons, List.map_nil]); first | done | rfl | (simp only [List.length_drop, List.length_take]; rfl)) ?_; (with_reducible refine (spec_FirstHooked.calls t369 t388 t389 _ A85.out).mono ?_); rintro e w93 ⟨v390, rfl, ho0, hb⟩; refine ⟨_, rfl, ?_⟩; have n0_ := Aside0.mk (Kd.S_below (by (with_reducible repeat (first | apply Kd.S_alloc | apply Kd.S_drewN | apply Kd.S_drew)); exact HO379.out) hb); have n1_ := Aside0.mk (Kd.S_below (by (with_reducible repeat (first | apply Kd.S_alloc | apply Kd.S_drewN | apply Kd.S_drew)); exact HO383.out) hb); have n2_ := Aside0.mk (Kd.R_below (by (with_reducible repeat (first | apply Kd.R_alloc | apply Kd.R_drewN | apply Kd.R_drew)); exact HO387.out) hb); have n3_ := Aside0.mk (Kd.R_lower ho0 (below_size (by repeat (first | (with_reducible first | exact HB.out | apply below_alloc | apply pw_below_drewN | apply below_drew1) | exact HB.out)))); have n4_ := Aside0.mk (below_step (by repeat (first | (with_reducible first | exact HB.out | apply below_alloc | apply pw_below_drewN | apply below_drew1) | exact HB.out)) hb); clear HO379; clear HO383; clear HO387; clear HB; have HO379 := n0_; have HO383 := n1_; have HO387 := n2_; have HO391 := n3_; have HB := n4_; clear n0_ n1_ n2_ n3_ n4_; (try clear hb); (try clear hb2); (try clear hk); (try clear hi); (try clear ho0)))
       (try simp only [Act.put, List.setIfInBounds_toArray, List.set_cons_zero, List.set_cons_succ])
       go_cut [320] (fun v320 wc => ∃ (kq : Nat) (x320_85 : Bool), v320 = .bool x320_85 ∧ Aside0 (laws_FnRowsThere.j3 kq l1 t372 t376 t377 t384 x320_85 = some r) ∧ Aside0 (kq ≤ kj43) ∧ Aside0 (Kd.S (Kd.slice 3 (Kd.int .i64)) 31 wc w.heap.size (fun _ => True) v378 t376) ∧ Aside0 (Kd.R (Kd.int .i64) 3 wc w.heap.size (fun _ => True) v386 t384) ∧ Aside0 (Below w.heap.size w wc))
       case first => as_aux_lemma =>
        have H := HC86.out
        clear HC86
        by_cases c94 : (t373 != t375) = true
        ·rw [if_pos c94] at H
         have c94b0 : (t373 != t375) = true := c94
         (try (have c94b1 : decide (t373 = t375) = false := by simpa using c94))
         (try (have c94b2 : (t373 == t375) = false := by simpa using c94))
         (try (have c94b3 : ¬ (t373 = t375) := by simpa using c94))
         clear c94
         (first | rw [c94b0] | (simp only [i64_w, i32_w]; rw [c94b0]) | skip)
         exact absurd (H.trans (congrArg some HT.out)) (laws_FnRowsThere.j3_no kj43 l1 t372 t376 t377 t384)
        ·rw [if_neg c94] at H
         have c94b0 : (t373 != t375) = false := by simpa using c94
         (try (have c94b1 : decide (t373 = t375) = true := by simpa using c94))
         (try (have c94b2 : (t373 == t375) = true := by simpa using c94))
         clear c94
         (first | rw [c94b0] | (simp only [i64_w, i32_w]; rw [c94b0]) | skip)
         by_cases c95 : t372 = t374
         ·rw [if_pos c95] at H
          have c95b0 : (t372 == t374) = true := beq_iff_eq.mpr c95
          have c95b1 : (t372 != t374) = false := bne_eq_false_iff_eq.mpr c95
          clear c95
          by_cases c96 : (t377 != t381) = true
          ·rw [if_pos c96] at H
           have c96b0 : (t377 != t381) = true := c96
           (try (have c96b1 : decide (t377 = t381) = false := by simpa using c96))
           (try (have c96b2 : (t377 == t381) = false := by simpa using c96))
           (try (have c96b3 : ¬ (t377 = t381) := by simpa using c96))
           clear c96
           exact absurd (H.trans (congrArg some HT.out)) (laws_FnRowsThere.j3_no kj43 l1 t372 t376 t377 t384)
          ·rw [if_neg c96] at H
           have c96b0 : (t377 != t381) = false := by simpa using c96
           (try (have c96b1 : decide (t377 = t381) = true := by simpa using c96))
           (try (have c96b2 : (t377 == t381) = true := by simpa using c96))
           clear c96
           replace H := Option.bind_eq_some_iff.mp H
           obtain ⟨t392, A970, H⟩ := H
           (try dsimp only at H)
           have A97 := Aside0.mk A970
           clear A970
           by_cases c98 : t392 = true
           ·subst c98
            rw [if_pos rfl] at H
            by_cases c99 : (t385 != t389) = true
            ·rw [if_pos c99] at H
             have c99b0 : (t385 != t389) = true := c99
             (try (have c99b1 : decide (t385 = t389) = false := by simpa using c99))
             (try (have c99b2 : (t385 == t389) = false := by simpa using c99))
             (try (have c99b3 : ¬ (t385 = t389) := by simpa using c99))
             clear c99
             exact absurd (H.trans (congrArg some HT.out)) (laws_FnRowsThere.j3_no kj43 l1 t372 t376 t377 t384)
            ·rw [if_neg c99] at H
             have c99b0 : (t385 != t389) = false := by simpa using c99
             (try (have c99b1 : decide (t385 = t389) = true := by simpa using c99))
             (try (have c99b2 : (t385 == t389) = true := by simpa using c99))
             clear c99
             replace H := Option.bind_eq_some_iff.mp H
             obtain ⟨t393, A1000, H⟩ := H
             (try dsimp only at H)
             have A100 := Aside0.mk A1000
             clear A1000
             by_cases c101 : t393 = true
             ·subst c101
              rw [if_pos rfl] at H
              by_cases c102 : t373 = true
              ·subst c102
               rw [if_pos rfl] at H
               by_cases c103 : (t377 != (decide (t372 ≤ 600))) = true
               ·rw [if_pos c103] at H
                have c103b0 : (t377 != (decide (t372 ≤ 600))) = true := c103
                (try (have c103b1 : decide (t377 = (decide (t372 ≤ 600))) = false := by simpa using c103))
                (try (have c103b2 : (t377 == (decide (t372 ≤ 600))) = false := by simpa using c103))
                (try (have c103b3 : ¬ (t377 = (decide (t372 ≤ 600))) := by simpa using c103))
                clear c103
                exact absurd (H.trans (congrArg some HT.out)) (laws_FnRowsThere.j3_no kj43 l1 t372 t376 t377 t384)
               ·rw [if_neg c103] at H
                have c103b0 : (t377 != (decide (t372 ≤ 600))) = false := by simpa using c103
                (try (have c103b1 : decide (t377 = (decide (t372 ≤ 600))) = true := by simpa using c103))
                (try (have c103b2 : (t377 == (decide (t372 ≤ 600))) = true := by simpa using c103))
                clear c103
                by_cases c104 : (t385 != (decide (t372 > 0))) = true
                ·rw [if_pos c104] at H
                 have c104b0 : (t385 != (decide (t372 > 0))) = true := c104
                 (try (have c104b1 : decide (t385 = (decide (t372 > 0))) = false := by simpa using c104))
                 (try (have c104b2 : (t385 == (decide (t372 > 0))) = false := by simpa using c104))
                 (try (have c104b3 : ¬ (t385 = (decide (t372 > 0))) := by simpa using c104))
                 clear c104
                 exact absurd (H.trans (congrArg some HT.out)) (laws_FnRowsThere.j3_no kj43 l1 t372 t376 t377 t384)
                ·rw [if_neg c104] at H
                 have c104b0 : (t385 != (decide (t372 > 0))) = false := by simpa using c104
                 (try (have c104b1 : decide (t385 = (decide (t372 > 0))) = true := by simpa using c104))
                 (try (have c104b2 : (t385 == (decide (t372 > 0))) = true := by simpa using c104))
                 clear c104
                 by_cases c105 : t371 = true
                 ·subst c105
                  rw [if_pos rfl] at H
                  have H' := Aside0.mk H
                  clear H
                  obtain ⟨Ao106, co106, eo106⟩ := Kd.S_slice HO379.out
                  subst eo106
                  obtain ⟨Ao107, co107, eo107⟩ := Kd.S_slice HO383.out
                  subst eo107
                  go_wp2_with (first | (go_at_call 19; (with_reducible refine (laws_jRows.calls kj43 _ _ t376 _ _ t380 true _ ?side1 ?side2 ?side3 ?side4 A97.out).mono ?_); (case side1 => repeat (first | exact (Kd.S_reads' HO379.out).2.2 | (with_reducible refine Kd.C_alloc ?_ _) | (with_reducible refine Kd.C_drewN ?_ _) | (with_reducible refine Kd.C_drew ?_))); (case side2 => exact (Kd.S_reads' HO379.out).2.1); (case side3 => repeat (first | exact (Kd.S_reads' HO383.out).2.2 | (with_reducible refine Kd.C_alloc ?_ _) | (with_reducible refine Kd.C_drewN ?_ _) | (with_reducible refine Kd.C_drew ?_))); (case side4 => exact (Kd.S_reads' HO383.out).2.1); rintro e w' ⟨rfl, ⟨nd, rfl⟩⟩; obtain ⟨Ao108, co108, eo108⟩ := Kd.R_slice HO387.out; subst eo108; obtain ⟨Ao109, co109, eo109⟩ := Kd.R_slice HO391.out; subst eo109) | (go_at_call 20; (with_reducible refine (laws_jSame.calls kj43 _ _ t384 _ _ t388 true _ ?side1 ?side2 ?side3 ?side4 A100.out).mono ?_); (case side1 => repeat (first | exact (Kd.R_reads' HO387.out).2.2 | (with_reducible refine Kd.C_alloc ?_ _) | (with_reducible refine Kd.C_drewN ?_ _) | (with_reducible refine Kd.C_drew ?_))); (case side2 => exact (Kd.R_reads' HO387.out).2.1); (case side3 => repeat (first | exact (Kd.R_reads' HO391.out).2.2 | (with_reducible refine Kd.C_alloc ?_ _) | (with_reducible refine Kd.C_drewN ?_ _) | (with_reducible refine Kd.C_drew ?_))); (case side4 => exact (Kd.R_reads' HO391.out).2.1); rintro e w' ⟨rfl, ⟨nd, rfl⟩⟩))
                  go_meet
                  case rel => exact ⟨_, ((t370 != (decide (t372 > 0)))), (by first | rfl | (simp; done) | (simp [*]; done)), H', ⟨by have := HJ12.out; have := HJ43.out; first | omega | exact Nat.le_refl _⟩, ⟨by (with_reducible repeat (first | apply Kd.S_alloc | apply Kd.S_drewN | apply Kd.S_drew)); exact HO379.out⟩, ⟨by (with_reducible repeat (first | apply Kd.R_alloc | apply Kd.R_drewN | apply Kd.R_drew)); exact HO387.out⟩, ⟨by repeat (first | (with_reducible first | exact HB.out | apply below_alloc | apply pw_below_drewN | apply below_drew1) | exact HB.out)⟩⟩
                 ·replace c105 := Bool.eq_false_iff.mpr c105
                  subst c105
                  rw [if_neg (show ¬ (false = true) by decide)] at H
                  exact absurd (H.trans (congrArg some HT.out)) (laws_FnRowsThere.j3_no kj43 l1 t372 t376 t377 t384)
              ·replace c102 := Bool.eq_false_iff.mpr c102
               subst c102
               rw [if_neg (show ¬ (false = true) by decide)] at H
               by_cases c110 : (t377 != false) = true
               ·rw [if_pos c110] at H
                have c110b0 : (t377 != false) = true := c110
                (try (have c110b1 : decide (t377 = false) = false := by simpa using c110))
                (try (have c110b2 : (t377 == false) = false := by simpa using c110))
                (try (have c110b3 : ¬ (t377 = false) := by simpa using c110))
                clear c110
                exact absurd (H.trans (congrArg some HT.out)) (laws_FnRowsThere.j3_no kj43 l1 t372 t376 t377 t384)
               ·rw [if_neg c110] at H
                have c110b0 : (t377 != false) = false := by simpa using c110
                (try (have c110b1 : decide (t377 = false) = true := by simpa using c110))
                (try (have c110b2 : (t377 == false) = true := by simpa using c110))
                clear c110
                by_cases c111 : (t385 != false) = true
                ·rw [if_pos c111] at H
                 have c111b0 : (t385 != false) = true := c111
                 (try (have c111b1 : decide (t385 = false) = false := by simpa using c111))
                 (try (have c111b2 : (t385 == false) = false := by simpa using c111))
                 (try (have c111b3 : ¬ (t385 = false) := by simpa using c111))
                 clear c111
                 exact absurd (H.trans (congrArg some HT.out)) (laws_FnRowsThere.j3_no kj43 l1 t372 t376 t377 t384)
                ·rw [if_neg c111] at H
                 have c111b0 : (t385 != false) = false := by simpa using c111
                 (try (have c111b1 : decide (t385 = false) = true := by simpa using c111))
                 (try (have c111b2 : (t385 == false) = true := by simpa using c111))
                 clear c111
                 have H' := Aside0.mk H
                 clear H
                 obtain ⟨Ao112, co112, eo112⟩ := Kd.S_slice HO379.out
                 subst eo112
                 obtain ⟨Ao113, co113, eo113⟩ := Kd.S_slice HO383.out
                 subst eo113
                 go_wp2_with (first | (go_at_call 19; (with_reducible refine (laws_jRows.calls kj43 _ _ t376 _ _ t380 true _ ?side1 ?side2 ?side3 ?side4 A97.out).mono ?_); (case side1 => repeat (first | exact (Kd.S_reads' HO379.out).2.2 | (with_reducible refine Kd.C_alloc ?_ _) | (with_reducible refine Kd.C_drewN ?_ _) | (with_reducible refine Kd.C_drew ?_))); (case side2 => exact (Kd.S_reads' HO379.out).2.1); (case side3 => repeat (first | exact (Kd.S_reads' HO383.out).2.2 | (with_reducible refine Kd.C_alloc ?_ _) | (with_reducible refine Kd.C_drewN ?_ _) | (with_reducible refine Kd.C_drew ?_))); (case side4 => exact (Kd.S_reads' HO383.out).2.1); rintro e w' ⟨rfl, ⟨nd, rfl⟩⟩; obtain ⟨Ao114, co114, eo114⟩ := Kd.R_slice HO387.out; subst eo114; obtain ⟨Ao115, co115, eo115⟩ := Kd.R_slice HO391.out; subst eo115) | (go_at_call 20; (with_reducible refine (laws_jSame.calls kj43 _ _ t384 _ _ t388 true _ ?side1 ?side2 ?side3 ?side4 A100.out).mono ?_); (case side1 => repeat (first | exact (Kd.R_reads' HO387.out).2.2 | (with_reducible refine Kd.C_alloc ?_ _) | (with_reducible refine Kd.C_drewN ?_ _) | (with_reducible refine Kd.C_drew ?_))); (case side2 => exact (Kd.R_reads' HO387.out).2.1); (case side3 => repeat (first | exact (Kd.R_reads' HO391.out).2.2 | (with_reducible refine Kd.C_alloc ?_ _) | (with_reducible refine Kd.C_drewN ?_ _) | (with_reducible refine Kd.C_drew ?_))); (case side4 => exact (Kd.R_reads' HO391.out).2.1); rintro e w' ⟨rfl, ⟨nd, rfl⟩⟩))
                 go_meet
                 case rel => exact ⟨_, (false), (by first | rfl | (simp; done) | (simp [*]; done)), H', ⟨by have := HJ12.out; have := HJ43.out; first | omega | exact Nat.le_refl _⟩, ⟨by (with_reducible repeat (first | apply Kd.S_alloc | apply Kd.S_drewN | apply Kd.S_drew)); exact HO379.out⟩, ⟨by (with_reducible repeat (first | apply Kd.R_alloc | apply Kd.R_drewN | apply Kd.R_drew)); exact HO387.out⟩, ⟨by repeat (first | (with_reducible first | exact HB.out | apply below_alloc | apply pw_below_drewN | apply below_drew1) | exact HB.out)⟩⟩
             ·replace c101 := Bool.eq_false_iff.mpr c101
              subst c101
              rw [if_neg (show ¬ (false = true) by decide)] at H
              exact absurd (H.trans (congrArg some HT.out)) (laws_FnRowsThere.j3_no kj43 l1 t372 t376 t377 t384)
           ·replace c98 := Bool.eq_false_iff.mpr c98
            subst c98
            rw [if_neg (show ¬ (false = true) by decide)] at H
            exact absurd (H.trans (congrArg some HT.out)) (laws_FnRowsThere.j3_no kj43 l1 t372 t376 t377 t384)
         ·rw [if_neg c95] at H
          have c95b0 : (t372 == t374) = false := beq_eq_false_iff_ne.mpr c95
          have c95b1 : (t372 != t374) = true := bne_iff_ne.mpr c95
          exact absurd (H.trans (congrArg some HT.out)) (laws_FnRowsThere.j3_no kj43 l1 t372 t376 t377 t384)
       case rest => as_aux_lemma =>
        clear HC86
        try clear c1
        try clear c2
        try clear p2
        try clear c3
        try clear p3
        try clear q3
        try clear hx3
        try clear qi3
        try clear c4
        try clear c5
        try clear c6
        try clear p6
        try clear c7
        try clear c9
        try clear c10
        try clear c11
        try clear c21
        try clear c21b0
        try clear c21b1
        try clear c21b2
        try clear c22
        try clear c22b0
        try clear c22b1
        try clear c23
        try clear c23b0
        try clear c23b1
        try clear c23b2
        try clear c25
        try clear c26
        try clear c26b0
        try clear c26b1
        try clear c26b2
        try clear c28
        try clear c29
        try clear c30
        try clear c30b0
        try clear c30b1
        try clear c30b2
        try clear c31
        try clear c31b0
        try clear c31b1
        try clear c31b2
        try clear c32
        try clear c33
        try clear c34
        try clear c35
        try clear p35
        try clear q35
        try clear hx35
        try clear qi35
        try clear c36
        try clear c37
        try clear c37b0
        try clear c37b1
        try clear c37b2
        try clear c38
        try clear c38b0
        try clear c38b1
        try clear c38b2
        try clear c39
        try clear c40
        try clear c41
        try clear c42
        try clear c43
        try clear c44
        try clear c45
        try clear c47
        try clear c47b0
        try clear c48
        try clear c48b0
        try clear c49
        try clear c49b0
        try clear c51
        try clear c52
        try clear c53
        try clear c53b0
        try clear c53b1
        try clear c54
        try clear c54b0
        try clear c56
        try clear c56b0
        try clear c57
        try clear c57b0
        try clear c59
        try clear c62
        try clear p64
        try clear c68
        try clear c72
        try clear c72b0
        try clear c72b1
        try clear c73
        try clear c73b0
        try clear c74
        try clear c74b0
        try clear c74b1
        try clear c76
        try clear c94
        try clear c94b0
        try clear c94b1
        try clear c94b2
        try clear c95
        try clear c95b0
        try clear c95b1
        try clear c96
        try clear c96b0
        try clear c96b1
        try clear c96b2
        try clear c98
        try clear c99
        try clear c99b0
        try clear c99b1
        try clear c99b2
        try clear c101
        try clear c102
        try clear c103
        try clear c103b0
        try clear c103b1
        try clear c103b2
        try clear c104
        try clear c104b0
        try clear c104b1
        try clear c104b2
        try clear c105
        try clear c110
        try clear c110b0
        try clear c110b1
        try clear c110b2
        try clear c111
        try clear c111b0
        try clear c111b1
        try clear c111b2
        try clear hx354_0
        try clear hx356_0
        try clear hx359_0
        try clear p2
        try clear p3
        try clear p35
        try clear p354
        try clear p356
        try clear p359
        try clear p6
        try clear p64
        try clear q3
        try clear q35
        try clear q354
        try clear q356
        try clear q359
        obtain ⟨kq, x320_85, rfl, HA, HJ85, HO_31, HO_35, HB⟩ := hcut
        cases kq with
        | zero => exact absurd HA.out (by simp [laws_FnRowsThere.j3])
        | succ kj85 =>
         have H := HA.out
         clear HA
         simp only [laws_FnRowsThere.j3] at H
         by_cases c116 : x320_85 = true
         ·subst c116
          rw [if_pos rfl] at H
          exact absurd ((Option.some.inj H).trans HT.out) (by decide)
         ·replace c116 := Bool.eq_false_iff.mpr c116
          subst c116
          rw [if_neg (show ¬ (false = true) by decide)] at H
          have HC117 := Aside0.mk H
          clear H
          go_upto_if 321 with (fail)
          go_cut [] (fun wc => ∃ (kq : Nat), Aside0 (laws_FnRowsThere.j5 kq l1 = some r) ∧ Aside0 (kq ≤ kj85) ∧ Aside0 (Below w.heap.size w wc))
          case first => as_aux_lemma =>
           have H := HC117.out
           clear HC117
           by_cases c118 : t377 = true
           ·subst c118
            rw [if_pos rfl] at H
            have H' := Aside0.mk H
            clear H
            obtain ⟨Ao119, co119, eo119⟩ := Kd.S_slice HO_31.out
            subst eo119
            go_wp2
            go_loopg [324] kj85 (fun kq v324 w' => ∃ (x324_4 : Int), v324 = .int .i64 x324_4 ∧ Aside0 (laws_FnRowsThere.l1 kq l1 t372 t376 t384 t376 (t376.length : Int) x324_4 = some r) ∧ Aside0 (kq ≤ kj85) ∧ Aside0 (Kd.S (Kd.slice 3 (Kd.int .i64)) 31 w' w.heap.size (fun _ => True) (.slice Ao119 t376.length co119) t376) ∧ Aside0 (Kd.R (Kd.int .i64) 3 w' w.heap.size (fun _ => True) v386 t384) ∧ Aside0 (Kd.S (Kd.slice 3 (Kd.int .i64)) 31 w' w.heap.size (fun _ => True) (.slice Ao119 t376.length co119) t376) ∧ Aside0 (Below w.heap.size w w'))
            case atStart => exact ⟨(0), (by first | rfl | (simp; done) | (simp [*]; done)), H', ⟨Nat.le_refl _⟩, ⟨by (with_reducible repeat (first | apply Kd.S_alloc | apply Kd.S_drewN | apply Kd.S_drew)); exact HO_31.out⟩, ⟨by (with_reducible repeat (first | apply Kd.R_alloc | apply Kd.R_drewN | apply Kd.R_drew)); exact HO_35.out⟩, ⟨by (with_reducible repeat (first | apply Kd.S_alloc | apply Kd.S_drewN | apply Kd.S_drew)); exact HO_31.out⟩, ⟨by repeat (first | (with_reducible first | exact HB.out | apply below_alloc | apply pw_below_drewN | apply below_drew1) | exact HB.out)⟩⟩
            case round => as_aux_lemma =>
             clear H'
             try clear c1
             try clear c2
             try clear p2
             try clear c3
             try clear p3
             try clear q3
             try clear hx3
             try clear qi3
             try clear c4
             try clear c5
             try clear c6
             try clear p6
             try clear c7
             try clear c9
             try clear c10
             try clear c11
             try clear c21
             try clear c21b0
             try clear c21b1
             try clear c21b2
             try clear c22
             try clear c22b0
             try clear c22b1
             try clear c23
             try clear c23b0
             try clear c23b1
             try clear c23b2
             try clear c25
             try clear c26
             try clear c26b0
             try clear c26b1
             try clear c26b2
             try clear c28
             try clear c29
             try clear c30
             try clear c30b0
             try clear c30b1
             try clear c30b2
             try clear c31
             try clear c31b0
             try clear c31b1
             try clear c31b2
             try clear c32
             try clear c33
             try clear c34
             try clear c35
             try clear p35
             try clear q35
             try clear hx35
             try clear qi35
             try clear c36
             try clear c37
             try clear c37b0
             try clear c37b1
             try clear c37b2
             try clear c38
             try clear c38b0
             try clear c38b1
             try clear c38b2
             try clear c39
             try clear c40
             try clear c41
             try clear c42
             try clear c43
             try clear c44
             try clear c45
             try clear c47
             try clear c47b0
             try clear c48
             try clear c48b0
             try clear c49
             try clear c49b0
             try clear c51
             try clear c52
             try clear c53
             try clear c53b0
             try clear c53b1
             try clear c54
             try clear c54b0
             try clear c56
             try clear c56b0
             try clear c57
             try clear c57b0
             try clear c59
             try clear c62
             try clear p64
             try clear c68
             try clear c72
             try clear c72b0
             try clear c72b1
             try clear c73
             try clear c73b0
             try clear c74
             try clear c74b0
             try clear c74b1
             try clear c76
             try clear c94
             try clear c94b0
             try clear c94b1
             try clear c94b2
             try clear c95
             try clear c95b0
             try clear c95b1
             try clear c96
             try clear c96b0
             try clear c96b1
             try clear c96b2
             try clear c98
             try clear c99
             try clear c99b0
             try clear c99b1
             try clear c99b2
             try clear c101
             try clear c102
             try clear c103
             try clear c103b0
             try clear c103b1
             try clear c103b2
             try clear c104
             try clear c104b0
             try clear c104b1
             try clear c104b2
             try clear c105
             try clear c110
             try clear c110b0
             try clear c110b1
             try clear c110b2
             try clear c111
             try clear c111b0
             try clear c111b1
             try clear c111b2
             try clear c116
             try clear c118
             try clear hx354_0
             try clear hx356_0
             try clear hx359_0
             try clear p2
             try clear p3
             try clear p35
             try clear p354
             try clear p356
             try clear p359
             try clear p6
             try clear p64
             try clear q3
             try clear q35
             try clear q354
             try clear q356
             try clear q359
             obtain ⟨x324_4, rfl, HA, HK4, HO_31, HO_35, HO_322, HB⟩ := hrel
             cases gk with
             | zero => exact absurd HA.out (by simp [laws_FnRowsThere.l1])
             | succ k4 =>
              have H := HA.out
              clear HA
              simp only [laws_FnRowsThere.l1] at H
              by_cases c120 : x324_4 < (t376.length : Int)
              ·rw [if_pos c120] at H
               have c120b0 : decide (x324_4 < (t376.length : Int)) = true := decide_eq_true c120
               clear c120
               (first | rw [c120b0] | (simp only [i64_w, i32_w]; rw [c120b0]) | skip)
               by_cases c121 : 0 ≤ x324_4
               ·rw [if_pos c121] at H
                have c121b0 : decide (0 ≤ x324_4) = true := decide_eq_true c121
                clear c121
                by_cases c122 : x324_4 < (t376.length : Int)
                ·rw [if_pos c122] at H
                 have c122b0 : decide (x324_4 < (t376.length : Int)) = true := decide_eq_true c122
                 clear c122
                 replace H := Option.bind_eq_some_iff.mp H
                 obtain ⟨⟨t397, t398⟩, A1230, H⟩ := H
                 (try dsimp only at H)
                 have A123 := Aside0.mk A1230
                 clear A1230
                 by_cases c124 : t398 = true
                 ·subst c124
                  rw [if_pos rfl] at H
                  by_cases c125 : t397 = true
                  ·subst c125
                   rw [if_pos rfl] at H
                   by_cases c126 : x324_4 > 0
                   ·rw [if_pos c126] at H
                    have c126b0 : decide (0 < x324_4) = true := decide_eq_true c126
                    clear c126
                    obtain ⟨ji127, hji127⟩ : ∃ j_ : Int, (wrap64 (x324_4 - 1)) = j_ := ⟨_, rfl⟩
                    replace H : (if 0 ≤ (ji127) then (if (ji127) < (t376.length : Int) then ((laws_jLess.f k4 (rd_L2 t376 (ji127)) (rd_L2 t376 x324_4)).bind fun t400 => (if t400 = true then (laws_FnRowsThere.l1 k4 l1 t372 t376 t384 t376 (t376.length : Int) (wrap64 (x324_4 + 1))) else (some false))) else (none)) else (none)) = some r := by first | (rw [hji127] at H; exact H) | (simp only [hji127] at H ⊢; exact H)
                    (try rw [hji127] at A123)
                    have hji127w : (IntKind.i64.wrap (x324_4 - 1)) = ji127 := (i64_w _).trans hji127
                    by_cases c128 : 0 ≤ (ji127)
                    ·rw [if_pos c128] at H
                     have c128b0 : decide (0 ≤ (ji127)) = true := decide_eq_true c128
                     clear c128
                     by_cases c129 : (ji127) < (t376.length : Int)
                     ·rw [if_pos c129] at H
                      have c129b0 : decide ((ji127) < (t376.length : Int)) = true := decide_eq_true c129
                      clear c129
                      replace H := Option.bind_eq_some_iff.mp H
                      obtain ⟨t400, A1300, H⟩ := H
                      (try dsimp only at H)
                      have A130 := Aside0.mk A1300
                      clear A1300
                      by_cases c131 : t400 = true
                      ·subst c131
                       rw [if_pos rfl] at H
                       have H' := Aside0.mk H
                       clear H
                       have p396 : 0 ≤ (x324_4 : Int) := of_decide_eq_true (by first | (with_reducible assumption) | assumption)
                       have q396 : x324_4 < (t376.length : Int) := of_decide_eq_true (by first | (with_reducible assumption) | assumption)
                       obtain ⟨ad396, A396_0, c396_0, e396, hx396_0, hl396_0, hi396_0⟩ := at_L2 (Kd.S_reads' HO_322.out).2.2 x324_4 p396 q396
                       cases e396
                       obtain ⟨ce396, hce396, hMe396, hcc396⟩ := Kd.S_get HO_322.out [] x324_4 p396 (by first | exact q396 | exact of_decide_eq_true (by first | (with_reducible assumption) | assumption) | (have e_ := (Kd.S_reads' HO_322.out).1; omega))
                       obtain ⟨ve396_0, rfl, ge396_0⟩ := hMe396
                       have hv396_0 := hcc396 0 _ rfl
                       rw [Nat.add_zero, show ((Kd.slice 3 (Kd.int .i64))).sz = 1 from rfl, Nat.mul_one] at hv396_0
                       replace hv396_0 := Option.some.inj (hv396_0.symm.trans hx396_0)
                       rw [hv396_0] at ge396_0
                       have HL396_0 := Aside0.mk (show Kd.R (Kd.int .i64) 3 _ _ _ _ (rd_L2 t376 x324_4) from ge396_0)
                       clear hv396_0 ge396_0
                       clear hcc396 hce396
                       have HR396_0 := Aside0.mk hi396_0
                       have HC396_0 := Aside0.mk hl396_0
                       clear hi396_0 hl396_0
                       replace p396 := eq_true p396
                       replace q396 := eq_true q396
                       go_wp2_with (first | ((with_reducible refine gate_callee (f := 45) rfl ?_); refine goesL_ (some 331) rfl rfl Try.func45 (by as_aux_lemma => kernel_rfl) rfl #[.slice A396_0 (rd_L2 t376 x324_4).length c396_0] rfl (by (try simp only [List.map_toArray, List.map_cons, List.map_nil]); first | done | rfl | (simp only [List.length_drop, List.length_take]; rfl)) ?_; (with_reducible refine (impl_IsHooked.calls k4 _ _ (rd_L2 t376 x324_4) true true _ ?side1 ?side2 A123.out).mono ?_); (case side1 => repeat (first | exact (by repeat (first | (with_reducible exact HR396_0.out) | (with_reducible refine Kd.C_alloc ?_ _) | (with_reducible refine Kd.C_drewN ?_ _) | (with_reducible refine Kd.C_drew ?_) | exact HR396_0.out)) | (with_reducible refine Kd.C_alloc ?_ _) | (with_reducible refine Kd.C_drewN ?_ _) | (with_reducible refine Kd.C_drew ?_))); (case side2 => exact HC396_0.out); rintro e w132 ⟨rfl, hb⟩; refine ⟨_, rfl, ?_⟩; have n0_ := Aside0.mk (Kd.S_below (by (with_reducible repeat (first | apply Kd.S_alloc | apply Kd.S_drewN | apply Kd.S_drew)); exact HO_31.out) hb); have n1_ := Aside0.mk (Kd.R_below (by (with_reducible repeat (first | apply Kd.R_alloc | apply Kd.R_drewN | apply Kd.R_drew)); exact HO_35.out) hb); have n2_ := Aside0.mk (Kd.S_below (by (with_reducible repeat (first | apply Kd.S_alloc | apply Kd.S_drewN | apply Kd.S_drew)); exact HO_322.out) hb); have n3_ := Aside0.mk (Kd.R_below (by (with_reducible repeat (first | apply Kd.R_alloc | apply Kd.R_drewN | apply Kd.R_drew)); exact HL396_0.out) hb); have n4_ := Aside0.mk (Kd.C_below (by repeat (first | (with_reducible exact HR396_0.out) | (with_reducible refine Kd.C_alloc ?_ _) | (with_reducible refine Kd.C_drewN ?_ _) | (with_reducible refine Kd.C_drew ?_) | exact HR396_0.out)) hb); have n5_ := Aside0.mk (below_step (by repeat (first | (with_reducible first | exact HB.out | apply below_alloc | apply pw_below_drewN | apply below_drew1) | exact HB.out)) hb); clear HO_31; clear HO_35; clear HO_322; clear HL396_0; clear HR396_0; clear HB; have HO_31 := n0_; have HO_35 := n1_; have HO_322 := n2_; have HL396_0 := n3_; have HR396_0 := n4_; have HB := n5_; clear n0_ n1_ n2_ n3_ n4_ n5_; (try clear hb); (try clear hb2); (try clear hk); (try clear hi); have p399 : 0 ≤ ((ji127) : Int) := of_decide_eq_true (by first | (with_reducible assumption) | assumption); have q399 : (ji127) < (t376.length : Int) := of_decide_eq_true (by first | (with_reducible assumption) | assumption); obtain ⟨ad399, A399_0, c399_0, e399, hx399_0, hl399_0, hi399_0⟩ := at_L2 (Kd.S_reads' HO_31.out).2.2 (ji127) p399 q399; obtain rfl : ad396 = ad399 := (by injection e399); obtain ⟨ce399, hce399, hMe399, hcc399⟩ := Kd.S_get HO_31.out [] (ji127) p399 (by first | exact q399 | exact of_decide_eq_true (by first | (with_reducible assumption) | assumption) | (have e_ := (Kd.S_reads' HO_31.out).1; omega)); obtain ⟨ve399_0, rfl, ge399_0⟩ := hMe399; have hv399_0 := hcc399 0 _ rfl; rw [Nat.add_zero, show ((Kd.slice 3 (Kd.int .i64))).sz = 1 from rfl, Nat.mul_one] at hv399_0; replace hv399_0 := Option.some.inj (hv399_0.symm.trans hx399_0); rw [hv399_0] at ge399_0; have HL399_0 := Aside0.mk (show Kd.R (Kd.int .i64) 3 _ _ _ _ (rd_L2 t376 (ji127)) from ge399_0); clear hv399_0 ge399_0; clear hcc399 hce399; have HR399_0 := Aside0.mk hi399_0; have HC399_0 := Aside0.mk hl399_0; clear hi399_0 hl399_0; replace p399 := eq_true p399; replace q399 := eq_true q399) | (go_at_call 23; (with_reducible refine (laws_jLess.calls k4 _ _ (rd_L2 t376 (ji127)) _ _ (rd_L2 t376 x324_4) true _ ?side1 ?side2 ?side3 ?side4 A130.out).mono ?_); (case side1 => repeat (first | exact (by repeat (first | (with_reducible exact HR399_0.out) | (with_reducible refine Kd.C_alloc ?_ _) | (with_reducible refine Kd.C_drewN ?_ _) | (with_reducible refine Kd.C_drew ?_) | exact HR399_0.out)) | (with_reducible refine Kd.C_alloc ?_ _) | (with_reducible refine Kd.C_drewN ?_ _) | (with_reducible refine Kd.C_drew ?_))); (case side2 => exact HC399_0.out); (case side3 => repeat (first | exact (by repeat (first | (with_reducible exact HR396_0.out) | (with_reducible refine Kd.C_alloc ?_ _) | (with_reducible refine Kd.C_drewN ?_ _) | (with_reducible refine Kd.C_drew ?_) | exact HR396_0.out)) | (with_reducible refine Kd.C_alloc ?_ _) | (with_reducible refine Kd.C_drewN ?_ _) | (with_reducible refine Kd.C_drew ?_))); (case side4 => exact HC396_0.out); rintro e w' ⟨rfl, ⟨nd, rfl⟩⟩))
                       go_roundg k4
                       case measure => have := HJ12.out; have := HJ43.out; have := HJ85.out; have := HK4.out; omega
                       case rel => exact ⟨(wrap64 (x324_4 + 1)), (by first | rfl | (simp; done) | (simp [*]; done)), H', ⟨by have := HJ12.out; have := HJ43.out; have := HJ85.out; have := HK4.out; omega⟩, ⟨by (with_reducible repeat (first | apply Kd.S_alloc | apply Kd.S_drewN | apply Kd.S_drew)); exact HO_31.out⟩, ⟨by (with_reducible repeat (first | apply Kd.R_alloc | apply Kd.R_drewN | apply Kd.R_drew)); exact HO_35.out⟩, ⟨by (with_reducible repeat (first | apply Kd.S_alloc | apply Kd.S_drewN | apply Kd.S_drew)); exact HO_322.out⟩, ⟨by repeat (first | (with_reducible first | exact HB.out | apply below_alloc | apply pw_below_drewN | apply below_drew1) | exact HB.out)⟩⟩
                      ·replace c131 := Bool.eq_false_iff.mpr c131
                       subst c131
                       rw [if_neg (show ¬ (false = true) by decide)] at H
                       exact absurd ((Option.some.inj H).trans HT.out) (by decide)
                     ·rw [if_neg c129] at H
                      exact absurd H (by simp)
                    ·rw [if_neg c128] at H
                     exact absurd H (by simp)
                   ·rw [if_neg c126] at H
                    have c126b0 : decide (0 < x324_4) = false := decide_eq_false c126
                    clear c126
                    have H' := Aside0.mk H
                    clear H
                    have p396 : 0 ≤ (x324_4 : Int) := of_decide_eq_true (by first | (with_reducible assumption) | assumption)
                    have q396 : x324_4 < (t376.length : Int) := of_decide_eq_true (by first | (with_reducible assumption) | assumption)
                    obtain ⟨ad396, A396_0, c396_0, e396, hx396_0, hl396_0, hi396_0⟩ := at_L2 (Kd.S_reads' HO_322.out).2.2 x324_4 p396 q396
                    cases e396
                    obtain ⟨ce396, hce396, hMe396, hcc396⟩ := Kd.S_get HO_322.out [] x324_4 p396 (by first | exact q396 | exact of_decide_eq_true (by first | (with_reducible assumption) | assumption) | (have e_ := (Kd.S_reads' HO_322.out).1; omega))
                    obtain ⟨ve396_0, rfl, ge396_0⟩ := hMe396
                    have hv396_0 := hcc396 0 _ rfl
                    rw [Nat.add_zero, show ((Kd.slice 3 (Kd.int .i64))).sz = 1 from rfl, Nat.mul_one] at hv396_0
                    replace hv396_0 := Option.some.inj (hv396_0.symm.trans hx396_0)
                    rw [hv396_0] at ge396_0
                    have HL396_0 := Aside0.mk (show Kd.R (Kd.int .i64) 3 _ _ _ _ (rd_L2 t376 x324_4) from ge396_0)
                    clear hv396_0 ge396_0
                    clear hcc396 hce396
                    have HR396_0 := Aside0.mk hi396_0
                    have HC396_0 := Aside0.mk hl396_0
                    clear hi396_0 hl396_0
                    replace p396 := eq_true p396
                    replace q396 := eq_true q396
                    go_wp2_with (first | ((with_reducible refine gate_callee (f := 45) rfl ?_); refine goesL_ (some 331) rfl rfl Try.func45 (by as_aux_lemma => kernel_rfl) rfl #[.slice A396_0 (rd_L2 t376 x324_4).length c396_0] rfl (by (try simp only [List.map_toArray, List.map_cons, List.map_nil]); first | done | rfl | (simp only [List.length_drop, List.length_take]; rfl)) ?_; (with_reducible refine (impl_IsHooked.calls k4 _ _ (rd_L2 t376 x324_4) true true _ ?side1 ?side2 A123.out).mono ?_); (case side1 => repeat (first | exact (by repeat (first | (with_reducible exact HR396_0.out) | (with_reducible refine Kd.C_alloc ?_ _) | (with_reducible refine Kd.C_drewN ?_ _) | (with_reducible refine Kd.C_drew ?_) | exact HR396_0.out)) | (with_reducible refine Kd.C_alloc ?_ _) | (with_reducible refine Kd.C_drewN ?_ _) | (with_reducible refine Kd.C_drew ?_))); (case side2 => exact HC396_0.out); rintro e w133 ⟨rfl, hb⟩; refine ⟨_, rfl, ?_⟩; have n0_ := Aside0.mk (Kd.S_below (by (with_reducible repeat (first | apply Kd.S_alloc | apply Kd.S_drewN | apply Kd.S_drew)); exact HO_31.out) hb); have n1_ := Aside0.mk (Kd.R_below (by (with_reducible repeat (first | apply Kd.R_alloc | apply Kd.R_drewN | apply Kd.R_drew)); exact HO_35.out) hb); have n2_ := Aside0.mk (Kd.S_below (by (with_reducible repeat (first | apply Kd.S_alloc | apply Kd.S_drewN | apply Kd.S_drew)); exact HO_322.out) hb); have n3_ := Aside0.mk (Kd.R_below (by (with_reducible repeat (first | apply Kd.R_alloc | apply Kd.R_drewN | apply Kd.R_drew)); exact HL396_0.out) hb); have n4_ := Aside0.mk (Kd.C_below (by repeat (first | (with_reducible exact HR396_0.out) | (with_reducible refine Kd.C_alloc ?_ _) | (with_reducible refine Kd.C_drewN ?_ _) | (with_reducible refine Kd.C_drew ?_) | exact HR396_0.out)) hb); have n5_ := Aside0.mk (below_step (by repeat (first | (with_reducible first | exact HB.out | apply below_alloc | apply pw_below_drewN | apply below_drew1) | exact HB.out)) hb); clear HO_31; clear HO_35; clear HO_322; clear HL396_0; clear HR396_0; clear HB; have HO_31 := n0_; have HO_35 := n1_; have HO_322 := n2_; have HL396_0 := n3_; have HR396_0 := n4_; have HB := n5_; clear n0_ n1_ n2_ n3_ n4_ n5_; (try clear hb); (try clear hb2); (try clear hk); (try clear hi)))
                    go_roundg k4
                    case measure => have := HJ12.out; have := HJ43.out; have := HJ85.out; have := HK4.out; omega
                    case rel => exact ⟨(wrap64 (x324_4 + 1)), (by first | rfl | (simp; done) | (simp [*]; done)), H', ⟨by have := HJ12.out; have := HJ43.out; have := HJ85.out; have := HK4.out; omega⟩, ⟨by (with_reducible repeat (first | apply Kd.S_alloc | apply Kd.S_drewN | apply Kd.S_drew)); exact HO_31.out⟩, ⟨by (with_reducible repeat (first | apply Kd.R_alloc | apply Kd.R_drewN | apply Kd.R_drew)); exact HO_35.out⟩, ⟨by (with_reducible repeat (first | apply Kd.S_alloc | apply Kd.S_drewN | apply Kd.S_drew)); exact HO_322.out⟩, ⟨by repeat (first | (with_reducible first | exact HB.out | apply below_alloc | apply pw_below_drewN | apply below_drew1) | exact HB.out)⟩⟩
                  ·replace c125 := Bool.eq_false_iff.mpr c125
                   subst c125
                   rw [if_neg (show ¬ (false = true) by decide)] at H
                   exact absurd ((Option.some.inj H).trans HT.out) (by decide)
                 ·replace c124 := Bool.eq_false_iff.mpr c124
                  subst c124
                  rw [if_neg (show ¬ (false = true) by decide)] at H
                  exact absurd ((Option.some.inj H).trans HT.out) (by decide)
                ·rw [if_neg c122] at H
                 exact absurd H (by simp)
               ·rw [if_neg c121] at H
                exact absurd H (by simp)
              ·rw [if_neg c120] at H
               have c120b0 : decide (x324_4 < (t376.length : Int)) = false := decide_eq_false c120
               clear c120
               (first | rw [c120b0] | (simp only [i64_w, i32_w]; rw [c120b0]) | skip)
               by_cases c134 : (t376.length : Int) = t372
               ·rw [if_pos c134] at H
                have c134b0 : ((t376.length : Int) == t372) = true := beq_iff_eq.mpr c134
                have c134b1 : ((t376.length : Int) != t372) = false := bne_eq_false_iff_eq.mpr c134
                clear c134
                by_cases c135 : t372 > 0
                ·rw [if_pos c135] at H
                 have c135b0 : decide (0 < t372) = true := decide_eq_true c135
                 clear c135
                 by_cases c136 : 0 < (t376.length : Int)
                 ·rw [if_pos c136] at H
                  have c136b0 : decide (0 < (t376.length : Int)) = true := decide_eq_true c136
                  have c136b1 : decide (0 < t376.length) = true := decide_eq_true (by omega)
                  clear c136
                  replace H := Option.bind_eq_some_iff.mp H
                  obtain ⟨t395, A1370, H⟩ := H
                  (try dsimp only at H)
                  have A137 := Aside0.mk A1370
                  clear A1370
                  by_cases c138 : t395 = true
                  ·subst c138
                   rw [if_pos rfl] at H
                   have H' := Aside0.mk H
                   clear H
                   have p394 : 0 ≤ (0 : Int) := (by omega)
                   have q394 : 0 < (t376.length : Int) := of_decide_eq_true (by first | (with_reducible assumption) | assumption)
                   obtain ⟨ad394, A394_0, c394_0, e394, hx394_0, hl394_0, hi394_0⟩ := at_L2 (Kd.S_reads' HO_31.out).2.2 0 p394 q394
                   cases e394
                   obtain ⟨ce394, hce394, hMe394, hcc394⟩ := Kd.S_get HO_31.out [] 0 p394 (by first | exact q394 | exact of_decide_eq_true (by first | (with_reducible assumption) | assumption) | (have e_ := (Kd.S_reads' HO_31.out).1; omega))
                   obtain ⟨ve394_0, rfl, ge394_0⟩ := hMe394
                   have hv394_0 := hcc394 0 _ rfl
                   rw [Nat.add_zero, show ((Kd.slice 3 (Kd.int .i64))).sz = 1 from rfl, Nat.mul_one] at hv394_0
                   replace hv394_0 := Option.some.inj (hv394_0.symm.trans hx394_0)
                   rw [hv394_0] at ge394_0
                   have HL394_0 := Aside0.mk (show Kd.R (Kd.int .i64) 3 _ _ _ _ (rd_L2 t376 0) from ge394_0)
                   clear hv394_0 ge394_0
                   clear hcc394 hce394
                   have qi394 : (0 < t376.length) = True := eq_true (by omega)
                   (try rw [show ((0 : Int)).toNat = 0 from rfl] at hx394_0)
                   (try rw [Addr.add_zero'] at hx394_0)
                   have HR394_0 := Aside0.mk hi394_0
                   have HC394_0 := Aside0.mk hl394_0
                   clear hi394_0 hl394_0
                   replace p394 := eq_true p394
                   replace q394 := eq_true q394
                   obtain ⟨Ao139, co139, eo139⟩ := Kd.R_slice HO_35.out
                   subst eo139
                   go_wp2_with (first | (go_at_call 20; (with_reducible refine (laws_jSame.calls k4 _ _ (rd_L2 t376 0) _ _ t384 true _ ?side1 ?side2 ?side3 ?side4 A137.out).mono ?_); (case side1 => repeat (first | exact (by repeat (first | (with_reducible exact HR394_0.out) | (with_reducible refine Kd.C_alloc ?_ _) | (with_reducible refine Kd.C_drewN ?_ _) | (with_reducible refine Kd.C_drew ?_) | exact HR394_0.out)) | (with_reducible refine Kd.C_alloc ?_ _) | (with_reducible refine Kd.C_drewN ?_ _) | (with_reducible refine Kd.C_drew ?_))); (case side2 => exact HC394_0.out); (case side3 => repeat (first | exact (Kd.R_reads' HO_35.out).2.2 | (with_reducible refine Kd.C_alloc ?_ _) | (with_reducible refine Kd.C_drewN ?_ _) | (with_reducible refine Kd.C_drew ?_))); (case side4 => exact (Kd.R_reads' HO_35.out).2.1); rintro e w' ⟨rfl, ⟨nd, rfl⟩⟩))
                   go_meet
                   case rel => exact ⟨_, H', ⟨by have := HJ12.out; have := HJ43.out; have := HJ85.out; have := HK4.out; first | omega | exact Nat.le_refl _⟩, ⟨by repeat (first | (with_reducible first | exact HB.out | apply below_alloc | apply pw_below_drewN | apply below_drew1) | exact HB.out)⟩⟩
                  ·replace c138 := Bool.eq_false_iff.mpr c138
                   subst c138
                   rw [if_neg (show ¬ (false = true) by decide)] at H
                   exact absurd ((Option.some.inj H).trans HT.out) (by decide)
                 ·rw [if_neg c136] at H
                  exact absurd H (by simp)
                ·rw [if_neg c135] at H
                 have c135b0 : decide (0 < t372) = false := decide_eq_false c135
                 clear c135
                 have H' := Aside0.mk H
                 clear H
                 go_wp2
                 go_meet
                 case rel => exact ⟨_, H', ⟨by have := HJ12.out; have := HJ43.out; have := HJ85.out; have := HK4.out; first | omega | exact Nat.le_refl _⟩, ⟨by repeat (first | (with_reducible first | exact HB.out | apply below_alloc | apply pw_below_drewN | apply below_drew1) | exact HB.out)⟩⟩
               ·rw [if_neg c134] at H
                have c134b0 : ((t376.length : Int) == t372) = false := beq_eq_false_iff_ne.mpr c134
                have c134b1 : ((t376.length : Int) != t372) = true := bne_iff_ne.mpr c134
                exact absurd ((Option.some.inj H).trans HT.out) (by decide)
           ·replace c118 := Bool.eq_false_iff.mpr c118
            subst c118
            rw [if_neg (show ¬ (false = true) by decide)] at H
            have H' := Aside0.mk H
            clear H
            go_wp2
            go_meet
            case rel => exact ⟨_, H', ⟨by have := HJ12.out; have := HJ43.out; have := HJ85.out; first | omega | exact Nat.le_refl _⟩, ⟨by repeat (first | (with_reducible first | exact HB.out | apply below_alloc | apply pw_below_drewN | apply below_drew1) | exact HB.out)⟩⟩
          case rest => as_aux_lemma =>
           clear HC117
           try clear c1
           try clear c2
           try clear p2
           try clear c3
           try clear p3
           try clear q3
           try clear hx3
           try clear qi3
           try clear c4
           try clear c5
           try clear c6
           try clear p6
           try clear c7
           try clear c9
           try clear c10
           try clear c11
           try clear c12
           try clear c13
           try clear c21
           try clear c21b0
           try clear c21b1
           try clear c21b2
           try clear c22
           try clear c22b0
           try clear c22b1
           try clear c23
           try clear c23b0
           try clear c23b1
           try clear c23b2
           try clear c25
           try clear c26
           try clear c26b0
           try clear c26b1
           try clear c26b2
           try clear c28
           try clear c29
           try clear c30
           try clear c30b0
           try clear c30b1
           try clear c30b2
           try clear c31
           try clear c31b0
           try clear c31b1
           try clear c31b2
           try clear c32
           try clear c33
           try clear c34
           try clear c35
           try clear p35
           try clear q35
           try clear hx35
           try clear qi35
           try clear c36
           try clear c37
           try clear c37b0
           try clear c37b1
           try clear c37b2
           try clear c38
           try clear c38b0
           try clear c38b1
           try clear c38b2
           try clear c39
           try clear p39
           try clear q39
           try clear hx39
           try clear qi39
           try clear c40
           try clear c41
           try clear c42
           try clear c43
           try clear c44
           try clear c45
           try clear c47
           try clear c47b0
           try clear c48
           try clear c48b0
           try clear c49
           try clear c49b0
           try clear c51
           try clear c52
           try clear c53
           try clear c53b0
           try clear c53b1
           try clear c54
           try clear c54b0
           try clear c56
           try clear c56b0
           try clear c57
           try clear c57b0
           try clear c59
           try clear c62
           try clear p64
           try clear c68
           try clear c72
           try clear c72b0
           try clear c72b1
           try clear c73
           try clear c73b0
           try clear c74
           try clear c74b0
           try clear c74b1
           try clear c76
           try clear c94
           try clear c94b0
           try clear c94b1
           try clear c94b2
           try clear c95
           try clear c95b0
           try clear c95b1
           try clear c96
           try clear c96b0
           try clear c96b1
           try clear c96b2
           try clear c98
           try clear c99
           try clear c99b0
           try clear c99b1
           try clear c99b2
           try clear c101
           try clear c102
           try clear c103
           try clear c103b0
           try clear c103b1
           try clear c103b2
           try clear c104
           try clear c104b0
           try clear c104b1
           try clear c104b2
           try clear c105
           try clear c110
           try clear c110b0
           try clear c110b1
           try clear c110b2
           try clear c111
           try clear c111b0
           try clear c111b1
           try clear c111b2
           try clear c116
           try clear c118
           try clear c120
           try clear c120b0
           try clear c121
           try clear c121b0
           try clear c122
           try clear c122b0
           try clear c124
           try clear c125
           try clear c126
           try clear c126b0
           try clear c128
           try clear c128b0
           try clear c129
           try clear c129b0
           try clear c131
           try clear c134
           try clear c134b0
           try clear c134b1
           try clear c135
           try clear c135b0
           try clear c136
           try clear c136b0
           try clear c136b1
           try clear c138
           try clear hx354_0
           try clear hx356_0
           try clear hx359_0
           try clear hx394_0
           try clear hx396_0
           try clear hx399_0
           try clear p2
           try clear p3
           try clear p35
           try clear p354
           try clear p356
           try clear p359
           try clear p394
           try clear p396
           try clear p399
           try clear p6
           try clear p64
           try clear q3
           try clear q35
           try clear q354
           try clear q356
           try clear q359
           try clear q394
           try clear q396
           try clear q399
           obtain ⟨kq, HA, HJ116, HB⟩ := hcut
           cases kq with
           | zero => exact absurd HA.out (by simp [laws_FnRowsThere.j5])
           | succ kj116 =>
            have H := HA.out
            clear HA
            simp only [laws_FnRowsThere.j5] at H
            replace H := Option.bind_eq_some_iff.mp H
            obtain ⟨⟨t401, t402⟩, A1400, H⟩ := H
            (try dsimp only at H)
            have A140 := Aside0.mk A1400
            clear A1400
            replace H := Option.bind_eq_some_iff.mp H
            obtain ⟨⟨t403, t404⟩, A1410, H⟩ := H
            (try dsimp only at H)
            have A141 := Aside0.mk A1410
            clear A1410
            replace H := Option.bind_eq_some_iff.mp H
            obtain ⟨⟨t405, t406⟩, A1420, H⟩ := H
            (try dsimp only at H)
            have A142 := Aside0.mk A1420
            clear A1420
            replace H := Option.bind_eq_some_iff.mp H
            obtain ⟨t407, A1430, H⟩ := H
            (try dsimp only at H)
            have A143 := Aside0.mk A1430
            clear A1430
            replace H := Option.bind_eq_some_iff.mp H
            obtain ⟨⟨t408, t409⟩, A1440, H⟩ := H
            (try dsimp only at H)
            have A144 := Aside0.mk A1440
            clear A1440
            replace H := Option.bind_eq_some_iff.mp H
            obtain ⟨⟨t410, t411⟩, A1450, H⟩ := H
            (try dsimp only at H)
            have A145 := Aside0.mk A1450
            clear A1450
            replace H := Option.bind_eq_some_iff.mp H
            obtain ⟨⟨t412, t413⟩, A1460, H⟩ := H
            (try dsimp only at H)
            have A146 := Aside0.mk A1460
            clear A1460
            replace H := Option.bind_eq_some_iff.mp H
            obtain ⟨⟨t414, t415⟩, A1470, H⟩ := H
            (try dsimp only at H)
            have A147 := Aside0.mk A1470
            clear A1470
            by_cases c148 : (t404 == t406) = true
            ·rw [if_pos c148] at H
             have c148b0 : (t404 == t406) = true := c148
             (try (have c148b1 : decide (t404 = t406) = true := by simpa using c148))
             (try (have c148b2 : (t404 == t406) = true := by simpa using c148))
             clear c148
             by_cases c149 : (t403 == t405) = true
             ·rw [if_pos c149] at H
              have c149b0 : (t403 == t405) = true := c149
              (try (have c149b1 : decide (t403 = t405) = true := by simpa using c149))
              (try (have c149b2 : (t403 == t405) = true := by simpa using c149))
              clear c149
              by_cases c150 : (t409 == t411) = true
              ·rw [if_pos c150] at H
               have c150b0 : (t409 == t411) = true := c150
               (try (have c150b1 : decide (t409 = t411) = true := by simpa using c150))
               (try (have c150b2 : (t409 == t411) = true := by simpa using c150))
               clear c150
               by_cases c151 : (t408 == t410) = true
               ·rw [if_pos c151] at H
                have c151b0 : (t408 == t410) = true := c151
                (try (have c151b1 : decide (t408 = t410) = true := by simpa using c151))
                (try (have c151b2 : (t408 == t410) = true := by simpa using c151))
                clear c151
                by_cases c152 : (t413 == t415) = true
                ·rw [if_pos c152] at H
                 have c152b0 : (t413 == t415) = true := c152
                 (try (have c152b1 : decide (t413 = t415) = true := by simpa using c152))
                 (try (have c152b2 : (t413 == t415) = true := by simpa using c152))
                 clear c152
                 by_cases c153 : (t412 == t414) = true
                 ·rw [if_pos c153] at H
                  have c153b0 : (t412 == t414) = true := c153
                  (try (have c153b1 : decide (t412 = t414) = true := by simpa using c153))
                  (try (have c153b2 : (t412 == t414) = true := by simpa using c153))
                  clear c153
                  by_cases c154 : (t413 == t409) = true
                  ·rw [if_pos c154] at H
                   have c154b0 : (t413 == t409) = true := c154
                   (try (have c154b1 : decide (t413 = t409) = true := by simpa using c154))
                   (try (have c154b2 : (t413 == t409) = true := by simpa using c154))
                   clear c154
                   by_cases c155 : t409 = true
                   ·subst c155
                    rw [if_pos rfl] at H
                    obtain rfl := Option.some.inj H
                    go_wp2_with (first | ((with_reducible refine gate_callee (f := 46) rfl ?_); refine goesL_ (some 373) rfl rfl Try.func46 (by as_aux_lemma => kernel_rfl) rfl #[.slice A1 l1.length c1] rfl (by (try simp only [List.map_toArray, List.map_cons, List.map_nil]); first | done | rfl | (simp only [List.length_drop, List.length_take]; rfl)) ?_; (with_reducible refine (spec_DrawIsLangfordThere.calls _ _ l1 t401 t402 _ ?side1 ?side2 A140.out).mono ?_); (case side1 => repeat (first | exact (Kd.C_below HR1.out HB.out) | (with_reducible refine Kd.C_alloc ?_ _) | (with_reducible refine Kd.C_drewN ?_ _) | (with_reducible refine Kd.C_drew ?_))); (case side2 => exact HC1.out); rintro e w156 ⟨rfl, hb⟩; refine ⟨_, rfl, ?_⟩; have n0_ := Aside0.mk (below_step (by repeat (first | (with_reducible first | exact HB.out | apply below_alloc | apply pw_below_drewN | apply below_drew1) | exact HB.out)) hb); clear HB; have HB := n0_; clear n0_; (try clear hb); (try clear hb2); (try clear hk); (try clear hi)) | ((with_reducible refine gate_callee (f := 18) rfl ?_); refine goesL_ (some 379) rfl rfl Try.func18 (by as_aux_lemma => kernel_rfl) rfl #[.int .i64 t401, .int .i64 t402] rfl (by (try simp only [List.map_toArray, List.map_cons, List.map_nil]); first | done | rfl | (simp only [List.length_drop, List.length_take]; rfl)) ?_; (with_reducible refine (impl_IsLangfordThere.calls kj116 t401 t402 t403 t404 _ A141.out).mono ?_); rintro e w' ⟨rfl, ⟨nd, rfl⟩⟩; refine ⟨_, rfl, ?_⟩; (try (rw [drewN_self w156]; generalize hq_ : World.drewN w156 _ = w156; have n0_ : Aside0 (Below w.heap.size w w156) := ⟨by rw [← hq_]; exact (by repeat (first | (with_reducible first | exact HB.out | apply below_alloc | apply pw_below_drewN | apply below_drew1) | exact HB.out))⟩; clear HB hq_; have HB := n0_; clear n0_))) | ((with_reducible refine gate_callee (f := 47) rfl ?_); refine goesL_ (some 385) rfl rfl Try.func47 (by as_aux_lemma => kernel_rfl) rfl #[.int .i64 t401, .int .i64 t402] rfl (by (try simp only [List.map_toArray, List.map_cons, List.map_nil]); first | done | rfl | (simp only [List.length_drop, List.length_take]; rfl)) ?_; (with_reducible refine (spec_IsLangfordThere.calls t401 t402 t405 t406 _ A142.out).mono ?_); rintro e w' ⟨rfl, ⟨nd, rfl⟩⟩; refine ⟨_, rfl, ?_⟩; (try (rw [drewN_self w156]; generalize hq_ : World.drewN w156 _ = w156; have n0_ : Aside0 (Below w.heap.size w w156) := ⟨by rw [← hq_]; exact (by repeat (first | (with_reducible first | exact HB.out | apply below_alloc | apply pw_below_drewN | apply below_drew1) | exact HB.out))⟩; clear HB hq_; have HB := n0_; clear n0_))) | ((with_reducible refine gate_callee (f := 48) rfl ?_); refine goesL_ (some 389) rfl rfl Try.func48 (by as_aux_lemma => kernel_rfl) rfl #[.slice A1 l1.length c1] rfl (by (try simp only [List.map_toArray, List.map_cons, List.map_nil]); first | done | rfl | (simp only [List.length_drop, List.length_take]; rfl)) ?_; (with_reducible refine (spec_DrawIsSkolemThere.calls _ _ l1 t407 _ ?side1 ?side2 A143.out).mono ?_); (case side1 => repeat (first | exact (Kd.C_below HR1.out HB.out) | (with_reducible refine Kd.C_alloc ?_ _) | (with_reducible refine Kd.C_drewN ?_ _) | (with_reducible refine Kd.C_drew ?_))); (case side2 => exact HC1.out); rintro e w157 ⟨rfl, hb⟩; refine ⟨_, rfl, ?_⟩; have n0_ := Aside0.mk (below_step (by repeat (first | (with_reducible first | exact HB.out | apply below_alloc | apply pw_below_drewN | apply below_drew1) | exact HB.out)) hb); clear HB; have HB := n0_; clear n0_; (try clear hb); (try clear hb2); (try clear hk); (try clear hi)) | ((with_reducible refine gate_callee (f := 29) rfl ?_); refine goesL_ (some 392) rfl rfl Try.func29 (by as_aux_lemma => kernel_rfl) rfl #[.int .i64 t407] rfl (by (try simp only [List.map_toArray, List.map_cons, List.map_nil]); first | done | rfl | (simp only [List.length_drop, List.length_take]; rfl)) ?_; (with_reducible refine (impl_IsSkolemThere.calls t407 t408 true _ A144.out).mono ?_); rintro e w' ⟨rfl, ⟨nd, rfl⟩⟩; refine ⟨_, rfl, ?_⟩) | ((with_reducible refine gate_callee (f := 49) rfl ?_); refine goesL_ (some 397) rfl rfl Try.func49 (by as_aux_lemma => kernel_rfl) rfl #[.int .i64 t407] rfl (by (try simp only [List.map_toArray, List.map_cons, List.map_nil]); first | done | rfl | (simp only [List.length_drop, List.length_take]; rfl)) ?_; (with_reducible refine (spec_IsSkolemThere.calls t407 t410 t411 _ A145.out).mono ?_); rintro e w' ⟨rfl, ⟨nd, rfl⟩⟩; refine ⟨_, rfl, ?_⟩) | ((with_reducible refine gate_callee (f := 38) rfl ?_); refine goesL_ (some 402) rfl rfl Try.func38 (by as_aux_lemma => kernel_rfl) rfl #[.int .i64 t407] rfl (by (try simp only [List.map_toArray, List.map_cons, List.map_nil]); first | done | rfl | (simp only [List.length_drop, List.length_take]; rfl)) ?_; (with_reducible refine (impl_IsHookedThere.calls t407 t412 t413 _ A146.out).mono ?_); rintro e w' ⟨rfl, ⟨nd, rfl⟩⟩; refine ⟨_, rfl, ?_⟩) | ((with_reducible refine gate_callee (f := 50) rfl ?_); refine goesL_ (some 407) rfl rfl Try.func50 (by as_aux_lemma => kernel_rfl) rfl #[.int .i64 t407] rfl (by (try simp only [List.map_toArray, List.map_cons, List.map_nil]); first | done | rfl | (simp only [List.length_drop, List.length_take]; rfl)) ?_; (with_reducible refine (spec_IsHookedThere.calls t407 t414 t415 _ A147.out).mono ?_); rintro e w' ⟨rfl, ⟨nd, rfl⟩⟩; refine ⟨_, rfl, ?_⟩))
                    go_ret
                    exact ⟨by first | rfl | (simp [errW_none, errW_some] <;> rfl) | (simp [*, errW_none, errW_some] <;> rfl), by repeat (first | (with_reducible first | exact HB.out | apply below_alloc | apply pw_below_drewN | apply below_drew1) | exact HB.out)⟩
                   ·replace c155 := Bool.eq_false_iff.mpr c155
                    subst c155
                    rw [if_neg (show ¬ (false = true) by decide)] at H
                    obtain rfl := Option.some.inj H
                    go_wp2_with (first | ((with_reducible refine gate_callee (f := 46) rfl ?_); refine goesL_ (some 373) rfl rfl Try.func46 (by as_aux_lemma => kernel_rfl) rfl #[.slice A1 l1.length c1] rfl (by (try simp only [List.map_toArray, List.map_cons, List.map_nil]); first | done | rfl | (simp only [List.length_drop, List.length_take]; rfl)) ?_; (with_reducible refine (spec_DrawIsLangfordThere.calls _ _ l1 t401 t402 _ ?side1 ?side2 A140.out).mono ?_); (case side1 => repeat (first | exact (Kd.C_below HR1.out HB.out) | (with_reducible refine Kd.C_alloc ?_ _) | (with_reducible refine Kd.C_drewN ?_ _) | (with_reducible refine Kd.C_drew ?_))); (case side2 => exact HC1.out); rintro e w158 ⟨rfl, hb⟩; refine ⟨_, rfl, ?_⟩; have n0_ := Aside0.mk (below_step (by repeat (first | (with_reducible first | exact HB.out | apply below_alloc | apply pw_below_drewN | apply below_drew1) | exact HB.out)) hb); clear HB; have HB := n0_; clear n0_; (try clear hb); (try clear hb2); (try clear hk); (try clear hi)) | ((with_reducible refine gate_callee (f := 18) rfl ?_); refine goesL_ (some 379) rfl rfl Try.func18 (by as_aux_lemma => kernel_rfl) rfl #[.int .i64 t401, .int .i64 t402] rfl (by (try simp only [List.map_toArray, List.map_cons, List.map_nil]); first | done | rfl | (simp only [List.length_drop, List.length_take]; rfl)) ?_; (with_reducible refine (impl_IsLangfordThere.calls kj116 t401 t402 t403 t404 _ A141.out).mono ?_); rintro e w' ⟨rfl, ⟨nd, rfl⟩⟩; refine ⟨_, rfl, ?_⟩; (try (rw [drewN_self w158]; generalize hq_ : World.drewN w158 _ = w158; have n0_ : Aside0 (Below w.heap.size w w158) := ⟨by rw [← hq_]; exact (by repeat (first | (with_reducible first | exact HB.out | apply below_alloc | apply pw_below_drewN | apply below_drew1) | exact HB.out))⟩; clear HB hq_; have HB := n0_; clear n0_))) | ((with_reducible refine gate_callee (f := 47) rfl ?_); refine goesL_ (some 385) rfl rfl Try.func47 (by as_aux_lemma => kernel_rfl) rfl #[.int .i64 t401, .int .i64 t402] rfl (by (try simp only [List.map_toArray, List.map_cons, List.map_nil]); first | done | rfl | (simp only [List.length_drop, List.length_take]; rfl)) ?_; (with_reducible refine (spec_IsLangfordThere.calls t401 t402 t405 t406 _ A142.out).mono ?_); rintro e w' ⟨rfl, ⟨nd, rfl⟩⟩; refine ⟨_, rfl, ?_⟩; (try (rw [drewN_self w158]; generalize hq_ : World.drewN w158 _ = w158; have n0_ : Aside0 (Below w.heap.size w w158) := ⟨by rw [← hq_]; exact (by repeat (first | (with_reducible first | exact HB.out | apply below_alloc | apply pw_below_drewN | apply below_drew1) | exact HB.out))⟩; clear HB hq_; have HB := n0_; clear n0_))) | ((with_reducible refine gate_callee (f := 48) rfl ?_); refine goesL_ (some 389) rfl rfl Try.func48 (by as_aux_lemma => kernel_rfl) rfl #[.slice A1 l1.length c1] rfl (by (try simp only [List.map_toArray, List.map_cons, List.map_nil]); first | done | rfl | (simp only [List.length_drop, List.length_take]; rfl)) ?_; (with_reducible refine (spec_DrawIsSkolemThere.calls _ _ l1 t407 _ ?side1 ?side2 A143.out).mono ?_); (case side1 => repeat (first | exact (Kd.C_below HR1.out HB.out) | (with_reducible refine Kd.C_alloc ?_ _) | (with_reducible refine Kd.C_drewN ?_ _) | (with_reducible refine Kd.C_drew ?_))); (case side2 => exact HC1.out); rintro e w159 ⟨rfl, hb⟩; refine ⟨_, rfl, ?_⟩; have n0_ := Aside0.mk (below_step (by repeat (first | (with_reducible first | exact HB.out | apply below_alloc | apply pw_below_drewN | apply below_drew1) | exact HB.out)) hb); clear HB; have HB := n0_; clear n0_; (try clear hb); (try clear hb2); (try clear hk); (try clear hi)) | ((with_reducible refine gate_callee (f := 29) rfl ?_); refine goesL_ (some 392) rfl rfl Try.func29 (by as_aux_lemma => kernel_rfl) rfl #[.int .i64 t407] rfl (by (try simp only [List.map_toArray, List.map_cons, List.map_nil]); first | done | rfl | (simp only [List.length_drop, List.length_take]; rfl)) ?_; (with_reducible refine (impl_IsSkolemThere.calls t407 t408 false _ A144.out).mono ?_); rintro e w' ⟨rfl, ⟨nd, rfl⟩⟩; refine ⟨_, rfl, ?_⟩) | ((with_reducible refine gate_callee (f := 49) rfl ?_); refine goesL_ (some 397) rfl rfl Try.func49 (by as_aux_lemma => kernel_rfl) rfl #[.int .i64 t407] rfl (by (try simp only [List.map_toArray, List.map_cons, List.map_nil]); first | done | rfl | (simp only [List.length_drop, List.length_take]; rfl)) ?_; (with_reducible refine (spec_IsSkolemThere.calls t407 t410 t411 _ A145.out).mono ?_); rintro e w' ⟨rfl, ⟨nd, rfl⟩⟩; refine ⟨_, rfl, ?_⟩) | ((with_reducible refine gate_callee (f := 38) rfl ?_); refine goesL_ (some 402) rfl rfl Try.func38 (by as_aux_lemma => kernel_rfl) rfl #[.int .i64 t407] rfl (by (try simp only [List.map_toArray, List.map_cons, List.map_nil]); first | done | rfl | (simp only [List.length_drop, List.length_take]; rfl)) ?_; (with_reducible refine (impl_IsHookedThere.calls t407 t412 t413 _ A146.out).mono ?_); rintro e w' ⟨rfl, ⟨nd, rfl⟩⟩; refine ⟨_, rfl, ?_⟩) | ((with_reducible refine gate_callee (f := 50) rfl ?_); refine goesL_ (some 407) rfl rfl Try.func50 (by as_aux_lemma => kernel_rfl) rfl #[.int .i64 t407] rfl (by (try simp only [List.map_toArray, List.map_cons, List.map_nil]); first | done | rfl | (simp only [List.length_drop, List.length_take]; rfl)) ?_; (with_reducible refine (spec_IsHookedThere.calls t407 t414 t415 _ A147.out).mono ?_); rintro e w' ⟨rfl, ⟨nd, rfl⟩⟩; refine ⟨_, rfl, ?_⟩))
                    go_ret
                    exact ⟨by first | rfl | (simp [errW_none, errW_some] <;> rfl) | (simp [*, errW_none, errW_some] <;> rfl), by repeat (first | (with_reducible first | exact HB.out | apply below_alloc | apply pw_below_drewN | apply below_drew1) | exact HB.out)⟩
                  ·rw [if_neg c154] at H
                   have c154b0 : (t413 == t409) = false := by simpa using c154
                   (try (have c154b1 : decide (t413 = t409) = false := by simpa using c154))
                   (try (have c154b2 : (t413 == t409) = false := by simpa using c154))
                   (try (have c154b3 : ¬ (t413 = t409) := by simpa using c154))
                   clear c154
                   exact absurd ((Option.some.inj H).trans HT.out) (by decide)
                 ·rw [if_neg c153] at H
                  have c153b0 : (t412 == t414) = false := by simpa using c153
                  (try (have c153b1 : decide (t412 = t414) = false := by simpa using c153))
                  (try (have c153b2 : (t412 == t414) = false := by simpa using c153))
                  (try (have c153b3 : ¬ (t412 = t414) := by simpa using c153))
                  clear c153
                  exact absurd ((Option.some.inj H).trans HT.out) (by decide)
                ·rw [if_neg c152] at H
                 have c152b0 : (t413 == t415) = false := by simpa using c152
                 (try (have c152b1 : decide (t413 = t415) = false := by simpa using c152))
                 (try (have c152b2 : (t413 == t415) = false := by simpa using c152))
                 (try (have c152b3 : ¬ (t413 = t415) := by simpa using c152))
                 clear c152
                 exact absurd ((Option.some.inj H).trans HT.out) (by decide)
               ·rw [if_neg c151] at H
                have c151b0 : (t408 == t410) = false := by simpa using c151
                (try (have c151b1 : decide (t408 = t410) = false := by simpa using c151))
                (try (have c151b2 : (t408 == t410) = false := by simpa using c151))
                (try (have c151b3 : ¬ (t408 = t410) := by simpa using c151))
                clear c151
                exact absurd ((Option.some.inj H).trans HT.out) (by decide)
              ·rw [if_neg c150] at H
               have c150b0 : (t409 == t411) = false := by simpa using c150
               (try (have c150b1 : decide (t409 = t411) = false := by simpa using c150))
               (try (have c150b2 : (t409 == t411) = false := by simpa using c150))
               (try (have c150b3 : ¬ (t409 = t411) := by simpa using c150))
               clear c150
               exact absurd ((Option.some.inj H).trans HT.out) (by decide)
             ·rw [if_neg c149] at H
              have c149b0 : (t403 == t405) = false := by simpa using c149
              (try (have c149b1 : decide (t403 = t405) = false := by simpa using c149))
              (try (have c149b2 : (t403 == t405) = false := by simpa using c149))
              (try (have c149b3 : ¬ (t403 = t405) := by simpa using c149))
              clear c149
              exact absurd ((Option.some.inj H).trans HT.out) (by decide)
            ·rw [if_neg c148] at H
             have c148b0 : (t404 == t406) = false := by simpa using c148
             (try (have c148b1 : decide (t404 = t406) = false := by simpa using c148))
             (try (have c148b2 : (t404 == t406) = false := by simpa using c148))
             (try (have c148b3 : ¬ (t404 = t406) := by simpa using c148))
             clear c148
             exact absurd ((Option.some.inj H).trans HT.out) (by decide)

theorem laws_FnRowsThere.walk (P : laws_FnRowsThere.Pure) (a0 : Option Addr) (len0 cap0 : Nat) (z0 : List Int) (a1 : Option Addr) (len1 cap1 : Nat) (z1 : List Int) (w : World) (w0 : (a0 = none ∧ len0 = 0 ∧ cap0 = 0 ∧ z0 = []) ∨ ∃ x, a0 = some x ∧ len0 ≤ cap0 ∧ cap0 ≤ maxLen ∧ z0.length = cap0 ∧ (∀ i, i < z0.length → w.cell? (x.add i) = some (.int .u8 (z0.getD i 0))) ∧ ∀ n ∈ z0, (Lit.int .u8 n).wf = true) (y0 : len0 * 1 ≤ 140737488351232) (w1 : (a1 = none ∧ len1 = 0 ∧ cap1 = 0 ∧ z1 = []) ∨ ∃ x, a1 = some x ∧ len1 ≤ cap1 ∧ cap1 ≤ maxLen ∧ z1.length = cap1 ∧ (∀ i, i < z1.length → w.cell? (x.add i) = some (.int .u8 (z1.getD i 0))) ∧ ∀ n ∈ z1, (Lit.int .u8 n).wf = true) (y1 : len1 * 1 ≤ 140737488351232) :
  Calls Try.prog 4 #[.slice a0 len0 cap0, .slice a1 len1 cap1] w fun e w' => e = .returned (.bool true) ∧ Below w.heap.size w w' := by
 obtain ⟨l0, rfl, hr0, hm0, hw0, hc0⟩ := ReadsInt.ofRowC w0
 obtain ⟨l1, rfl, hr1, hm1, hw1, hc1⟩ := ReadsInt.ofRowC w1
 obtain ⟨k, h⟩ := P l0 l1 hm0 y0 hw0 hm1 y1 hw1
 refine (laws_FnRowsThere.calls k _ _ l0 _ _ l1 true w (Kd.C_of_reads (d := (0 : Int)) (h1 := fun _ => rfl) hr0) hc0 (Kd.C_of_reads (d := (0 : Int)) (h1 := fun _ => rfl) hr1) hc1 rfl h).mono ?_
 rintro e w' ⟨rfl, hd⟩
 exact ⟨rfl, hd⟩

end Go.Proofs.Ytaohgllnoomaeaa.Fn
