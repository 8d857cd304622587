/- The machine's side and plain lemmas for FnCirclesDiffer: texts of this session, merged by its program (part 6). -/
import Derived.Test.YtofjndbpndpjjaaMFnCirclesDiffer0
import Derived.Test.YtofjndbpndpjjaaMFnCirclesDiffer1
import Derived.Test.YtofjndbpndpjjaaMFnCirclesDiffer2
import Derived.Test.YtofjndbpndpjjaaMFnCirclesDiffer3
import Derived.Test.YtofjndbpndpjjaaMFnCirclesDiffer4
import Derived.Test.YtofjndbpndpjjaaMFnCirclesDiffer5
namespace Go.Proofs.Ytofjndbpndpjjaa.Fn
open Go.RowKit Go.Proofs.YtofjndbpndpjjaaW.PrintWords Go.Proofs.YtofjndbpndpjjaaW.PrintLast Go.Proofs.YtofjndbpndpjjaaW.PrintMore
attribute [local go_sem] max2_int min2_int max_two min_two max_three min_three max_four min_four   -- for this text's walks alone
set_option linter.unusedVariables false
set_option linter.unusedSimpArgs false


set_option maxHeartbeats 80000000 in
set_option maxRecDepth 100000 in
theorem laws_FnCirclesDiffer.calls (k : Nat) (A0 : Option Addr) (c0 : Nat) (l0 : List Int) (A1 : Option Addr) (c1 : Nat) (l1 : List Int) (r : Bool) (w : World) (hr0 : Kd.C (Kd.int .u8) w A0 l0.length l0) (hc0 : l0.length ≤ c0) (hr1 : Kd.C (Kd.int .u8) w A1 l1.length l1) (hc1 : l1.length ≤ c1) (ht_ : r = true) (h : laws_FnCirclesDiffer.f k l0 l1 = some r) :
  Calls Try.prog 4 #[.slice A0 l0.length c0, .slice A1 l1.length c1] w fun e w' => e = .returned (.bool r) ∧ Below w.heap.size w w' := by
 have HR0 := Aside0.mk hr0
 have HC0 := Aside0.mk hc0
 clear hr0 hc0
 have HR1 := Aside0.mk hr1
 have HC1 := Aside0.mk hc1
 clear hr1 hc1
 have HB := Aside0.mk (Below.refl w.heap.size w)
 have H := h
 unfold laws_FnCirclesDiffer.f at H
 clear h
 have HT := Aside0.mk ht_
 clear ht_
 replace H := Option.bind_eq_some_iff.mp H
 obtain ⟨t925, A30, H⟩ := H
 (try dsimp only at H)
 have A3 := Aside0.mk A30
 clear A30
 by_cases c4 : t925 = true
 ·subst c4
  rw [if_pos rfl] at H
  obtain rfl := Option.some.inj H
  go_enter Try.func4, Try.ntmps4
  go_wp2_with (first | ((with_reducible refine gate_callee (f := 5) rfl ?_); refine goesA (some 70) Try.func5 #[.slice A0 l0.length c0, .slice A1 l1.length c1] ?_; (with_reducible refine (laws_big.calls _ _ l0 _ _ l1 true _ ?side1 ?side2 ?side3 ?side4 A3.out).mono ?_); (case side1 => repeat (first | exact HR0.out | (with_reducible refine Kd.C_alloc ?_ _) | (with_reducible refine Kd.C_drewN ?_ _) | (with_reducible refine Kd.C_drew ?_))); (case side2 => exact HC0.out); (case side3 => repeat (first | exact HR1.out | (with_reducible refine Kd.C_alloc ?_ _) | (with_reducible refine Kd.C_drewN ?_ _) | (with_reducible refine Kd.C_drew ?_))); (case side4 => exact HC1.out); rintro e w' ⟨rfl, ⟨nd, rfl⟩⟩; refine ⟨_, rfl, ?_⟩))
  go_ret
  exact ⟨eqr, atB HB⟩
 ·replace c4 := Bool.eq_false_iff.mpr c4
  subst c4
  rw [if_neg (show ¬ (false = true) by decide)] at H
  replace H := Option.bind_eq_some_iff.mp H
  obtain ⟨⟨t926, t927⟩, A50, H⟩ := H
  (try dsimp only at H)
  have A5 := Aside0.mk A50
  clear A50
  replace H := Option.bind_eq_some_iff.mp H
  obtain ⟨⟨t930, t931⟩, A60, H⟩ := H
  (try dsimp only at H)
  have A6 := Aside0.mk A60
  clear A60
  replace H := Option.bind_eq_some_iff.mp H
  obtain ⟨⟨t932, t933⟩, A70, H⟩ := H
  (try dsimp only at H)
  have A7 := Aside0.mk A70
  clear A70
  replace H := Option.bind_eq_some_iff.mp H
  obtain ⟨⟨t934, t935⟩, A80, H⟩ := H
  (try dsimp only at H)
  have A8 := Aside0.mk A80
  clear A80
  replace H := Option.bind_eq_some_iff.mp H
  obtain ⟨⟨t936, t937⟩, A90, H⟩ := H
  (try dsimp only at H)
  have A9 := Aside0.mk A90
  clear A90
  replace H := Option.bind_eq_some_iff.mp H
  obtain ⟨⟨t938, t939⟩, A100, H⟩ := H
  (try dsimp only at H)
  have A10 := Aside0.mk A100
  clear A100
  replace H := Option.bind_eq_some_iff.mp H
  obtain ⟨⟨t942, t945⟩, A110, H⟩ := H
  (try dsimp only at H)
  have A11 := Aside0.mk A110
  clear A110
  replace H := Option.bind_eq_some_iff.mp H
  obtain ⟨⟨t946, t947⟩, A120, H⟩ := H
  (try dsimp only at H)
  have A12 := Aside0.mk A120
  clear A120
  replace H := Option.bind_eq_some_iff.mp H
  obtain ⟨⟨t950, t951⟩, A130, H⟩ := H
  (try dsimp only at H)
  have A13 := Aside0.mk A130
  clear A130
  replace H := Option.bind_eq_some_iff.mp H
  obtain ⟨⟨t954, t955⟩, A140, H⟩ := H
  (try dsimp only at H)
  have A14 := Aside0.mk A140
  clear A140
  replace H := Option.bind_eq_some_iff.mp H
  obtain ⟨⟨t956, t957⟩, A150, H⟩ := H
  (try dsimp only at H)
  have A15 := Aside0.mk A150
  clear A150
  have HC16 := Aside0.mk H
  clear H
  go_enter Try.func4, Try.ntmps4
  go_upto_region 14 with (first | ((with_reducible refine gate_callee (f := 5) rfl ?_); refine goesA (some 70) Try.func5 #[.slice A0 l0.length c0, .slice A1 l1.length c1] ?_; (with_reducible refine (laws_big.calls _ _ l0 _ _ l1 false _ ?side1 ?side2 ?side3 ?side4 A3.out).mono ?_); (case side1 => repeat (first | exact HR0.out | (with_reducible refine Kd.C_alloc ?_ _) | (with_reducible refine Kd.C_drewN ?_ _) | (with_reducible refine Kd.C_drew ?_))); (case side2 => exact HC0.out); (case side3 => repeat (first | exact HR1.out | (with_reducible refine Kd.C_alloc ?_ _) | (with_reducible refine Kd.C_drewN ?_ _) | (with_reducible refine Kd.C_drew ?_))); (case side4 => exact HC1.out); rintro e w' ⟨rfl, ⟨nd, rfl⟩⟩; refine ⟨_, rfl, ?_⟩) | ((with_reducible refine gate_callee (f := 33) rfl ?_); refine goesA (some 73) Try.func33 #[.slice A0 l0.length c0] ?_; (with_reducible refine (spec_DrawLambdaOf.calls k _ _ l0 t926 t927 _ ?side1 ?side2 A5.out).mono ?_); (case side1 => repeat (first | exact HR0.out | (with_reducible refine Kd.C_alloc ?_ _) | (with_reducible refine Kd.C_drewN ?_ _) | (with_reducible refine Kd.C_drew ?_))); (case side2 => exact HC0.out); rintro e w17 ⟨v928, rfl, ho0, hb⟩; refine ⟨_, rfl, ?_⟩; have HO929 := lowR ho0 HB; replace HB := upB HB hb; (try clear hb); (try clear hb2); (try clear hk); (try clear hi); (try clear ho0); obtain ⟨Ao18, co18, eo18⟩ := Kd.R_slice HO929.out; subst eo18) | ((with_reducible refine gate_callee (f := 34) rfl ?_); refine goesA (some 79) Try.func34 #[.int .i64 t926, .slice Ao18 t927.length co18] ?_; (with_reducible refine (impl_LambdaOf.calls k t926 _ _ t927 t930 t931 _ ?side1 ?side2 A6.out).mono ?_); (case side1 => exact atRC HO929); (case side2 => exact (Kd.R_reads' HO929.out).2.1); rintro e w19 ⟨rfl, hb⟩; refine ⟨_, rfl, ?_⟩; replace HO929 := upR HO929 hb; replace HB := upB HB hb; (try clear hb); (try clear hb2); (try clear hk); (try clear hi)) | ((with_reducible refine gate_callee (f := 35) rfl ?_); refine goesA (some 85) Try.func35 #[.int .i64 t926, .slice Ao18 t927.length co18] ?_; (with_reducible refine (spec_LambdaOf.calls k t926 (fun k_ => some k_ = (.slice Ao18 t927.length co18 : Value).ownBlock) _ _ t927 t932 t933 _ ?side1 A7.out).mono ?_); (case side1 => exact Kd.R_V (Kd.R_tight rfl (HO929.out))); rintro e w20 ⟨rfl, hb⟩; refine ⟨_, rfl, ?_⟩; replace HO929 := upR HO929 hb; replace HB := upB HB hb; (try clear hb); (try clear hb2); (try clear hk); (try clear hi)) | ((with_reducible refine gate_callee (f := 36) rfl ?_); refine goesA (some 91) Try.func36 #[.int .i64 t926, .slice Ao18 t927.length co18] ?_; (with_reducible refine (impl_IsDifferenceSet.calls k t926 _ _ t927 t934 t935 _ ?side1 ?side2 A8.out).mono ?_); (case side1 => exact atRC HO929); (case side2 => exact (Kd.R_reads' HO929.out).2.1); rintro e w21 ⟨rfl, hb⟩; refine ⟨_, rfl, ?_⟩; replace HO929 := upR HO929 hb; replace HB := upB HB hb; (try clear hb); (try clear hb2); (try clear hk); (try clear hi)) | ((with_reducible refine gate_callee (f := 37) rfl ?_); refine goesA (some 97) Try.func37 #[.int .i64 t926, .slice Ao18 t927.length co18] ?_; (with_reducible refine (spec_IsDifferenceSet.calls k t926 (fun k_ => some k_ = (.slice Ao18 t927.length co18 : Value).ownBlock) _ _ t927 t936 t937 _ ?side1 A9.out).mono ?_); (case side1 => exact Kd.R_V (Kd.R_tight rfl (HO929.out))); rintro e w22 ⟨rfl, hb⟩; refine ⟨_, rfl, ?_⟩; replace HO929 := upR HO929 hb; replace HB := upB HB hb; (try clear hb); (try clear hb2); (try clear hk); (try clear hi)) | ((with_reducible refine gate_callee (f := 38) rfl ?_); refine goesA (some 103) Try.func38 #[.int .i64 t926, .slice Ao18 t927.length co18] ?_; (with_reducible refine (impl_DifferenceCounts.calls k t926 _ _ t927 t938 t939 _ ?side1 ?side2 A10.out).mono ?_); (case side1 => exact atRC HO929); (case side2 => exact (Kd.R_reads' HO929.out).2.1); rintro e w23 ⟨v940, rfl, ho0, hb⟩; refine ⟨_, rfl, ?_⟩; have HO941 := lowR ho0 HB; replace HO929 := upR HO929 hb; replace HB := upB HB hb; (try clear hb); (try clear hb2); (try clear hk); (try clear hi); (try clear ho0)) | ((with_reducible refine gate_callee (f := 39) rfl ?_); refine goesA (some 109) Try.func39 #[.int .i64 t926, .slice Ao18 t927.length co18] ?_; (with_reducible refine (spec_DifferenceCounts.calls k t926 (fun k_ => some k_ = (.slice Ao18 t927.length co18 : Value).ownBlock) _ _ t927 t942 t945 _ ?side1 A11.out).mono ?_); (case side1 => first | exact Kd.R_V (Kd.R_tight rfl (Kd.R_apart' (HO929.out) (Kd.R_typed HO941.out) (by decide))) | exact Kd.R_V (Kd.R_tight rfl (HO929.out))); rintro e w24 ⟨v943, rfl, ho0, hb⟩; refine ⟨_, rfl, ?_⟩; have HO944 := Aside0.mk (Kd.R_lower (Kd.R_mono (ok' := fun k_ => True) ho0 (fun _ hk_ => trivial)) (szB HB)); replace HO929 := upR HO929 hb; replace HO941 := upR HO941 hb; replace HB := upB HB hb; (try clear hb); (try clear hb2); (try clear hk); (try clear hi); (try clear ho0)) | ((with_reducible refine gate_callee (f := 40) rfl ?_); refine goesA (some 115) Try.func40 #[.int .i64 t926, .slice Ao18 t927.length co18] ?_; (with_reducible refine (impl_MultipliersOf.calls k t926 _ _ t927 t946 t947 _ ?side1 ?side2 A12.out).mono ?_); (case side1 => exact atRC HO929); (case side2 => exact (Kd.R_reads' HO929.out).2.1); rintro e w25 ⟨v948, rfl, ho0, hb⟩; refine ⟨_, rfl, ?_⟩; have HO949 := lowR ho0 HB; replace HO929 := upR HO929 hb; replace HO941 := upR HO941 hb; replace HO944 := upR HO944 hb; replace HB := upB HB hb; (try clear hb); (try clear hb2); (try clear hk); (try clear hi); (try clear ho0)) | ((with_reducible refine gate_callee (f := 41) rfl ?_); refine goesA (some 121) Try.func41 #[.int .i64 t926, .slice Ao18 t927.length co18] ?_; (with_reducible refine (spec_MultipliersOf.calls k t926 _ _ t927 t950 t951 _ ?side1 ?side2 A13.out).mono ?_); (case side1 => exact atRC HO929); (case side2 => exact (Kd.R_reads' HO929.out).2.1); rintro e w26 ⟨v952, rfl, ho0, hb⟩; refine ⟨_, rfl, ?_⟩; have HO953 := lowR ho0 HB; replace HO929 := upR HO929 hb; replace HO941 := upR HO941 hb; replace HO944 := upR HO944 hb; replace HO949 := upR HO949 hb; replace HB := upB HB hb; (try clear hb); (try clear hb2); (try clear hk); (try clear hi); (try clear ho0)) | ((with_reducible refine gate_callee (f := 42) rfl ?_); refine goesA (some 127) Try.func42 #[.int .i64 t926, .slice Ao18 t927.length co18] ?_; (with_reducible refine (impl_IsAroundRuler.calls k t926 _ _ t927 t954 t955 _ ?side1 ?side2 A14.out).mono ?_); (case side1 => exact atRC HO929); (case side2 => exact (Kd.R_reads' HO929.out).2.1); rintro e w27 ⟨rfl, hb⟩; refine ⟨_, rfl, ?_⟩; replace HO929 := upR HO929 hb; replace HO941 := upR HO941 hb; replace HO944 := upR HO944 hb; replace HO949 := upR HO949 hb; replace HO953 := upR HO953 hb; replace HB := upB HB hb; (try clear hb); (try clear hb2); (try clear hk); (try clear hi)) | ((with_reducible refine gate_callee (f := 43) rfl ?_); refine goesA (some 133) Try.func43 #[.int .i64 t926, .slice Ao18 t927.length co18] ?_; (with_reducible refine (spec_IsAroundRuler.calls k t926 (fun k_ => some k_ = (.slice Ao18 t927.length co18 : Value).ownBlock) _ _ t927 t956 t957 _ ?side1 A15.out).mono ?_); (case side1 => first | exact Kd.R_V (Kd.R_tight rfl (Kd.R_apart' (Kd.R_apart' (Kd.R_apart' (Kd.R_apart' (HO929.out) (Kd.R_typed HO941.out) (by decide)) (Kd.R_typed HO944.out) (by decide)) (Kd.R_typed HO949.out) (by decide)) (Kd.R_typed HO953.out) (by decide))) | exact Kd.R_V (Kd.R_tight rfl (HO929.out))); rintro e w28 ⟨rfl, hb⟩; refine ⟨_, rfl, ?_⟩; replace HO929 := upR HO929 hb; replace HO941 := upR HO941 hb; replace HO944 := upR HO944 hb; replace HO949 := upR HO949 hb; replace HO953 := upR HO953 hb; replace HB := upB HB hb; (try clear hb); (try clear hb2); (try clear hk); (try clear hi)))
  (try simp only [Act.put, List.setIfInBounds_toArray, List.set_cons_zero, List.set_cons_succ])
  go_cut [224] (fun v224 wc => ∃ (kq : Nat) (x224_15 : Bool), v224 = .bool x224_15 ∧ Aside0 (laws_FnCirclesDiffer.j0 kq l1 t926 t927 t930 t931 t935 t938 t946 t954 x224_15 = some r) ∧ Aside0 (kq ≤ k) ∧ Aside0 (Kd.R (Kd.int .i64) 3 wc w.heap.size (fun _ => True) (.slice Ao18 t927.length co18) t927) ∧ Aside0 (Kd.R (Kd.int .i64) 3 wc w.heap.size (fun _ => True) v940 t938) ∧ Aside0 (Kd.R (Kd.int .i64) 3 wc w.heap.size (fun _ => True) v948 t946) ∧ Aside0 (Below w.heap.size w wc))
  case first => as_aux_lemma =>
   have H := HC16.out
   clear HC16
   by_cases c29 : (t931 != t933) = true
   ·rw [if_pos c29] at H
    have c29b0 : (t931 != t933) = true := c29
    (try (have c29b1 : decide (t931 = t933) = false := by simpa using c29))
    (try (have c29b2 : (t931 == t933) = false := by simpa using c29))
    (try (have c29b3 : ¬ (t931 = t933) := by simpa using c29))
    clear c29
    (first | rw [c29b0] | (simp only [i64_w, i32_w]; rw [c29b0]) | skip)
    exact absurd (H.trans (congrArg some HT.out)) (laws_FnCirclesDiffer.j0_no k l1 t926 t927 t930 t931 t935 t938 t946 t954)
   ·rw [if_neg c29] at H
    have c29b0 : (t931 != t933) = false := by simpa using c29
    (try (have c29b1 : decide (t931 = t933) = true := by simpa using c29))
    (try (have c29b2 : (t931 == t933) = true := by simpa using c29))
    clear c29
    (first | rw [c29b0] | (simp only [i64_w, i32_w]; rw [c29b0]) | skip)
    by_cases c30 : t930 = t932
    ·rw [if_pos c30] at H
     have c30b0 : (t930 == t932) = true := beq_iff_eq.mpr c30
     have c30b1 : (t930 != t932) = false := bne_eq_false_iff_eq.mpr c30
     clear c30
     by_cases c31 : (t935 != t937) = true
     ·rw [if_pos c31] at H
      have c31b0 : (t935 != t937) = true := c31
      (try (have c31b1 : decide (t935 = t937) = false := by simpa using c31))
      (try (have c31b2 : (t935 == t937) = false := by simpa using c31))
      (try (have c31b3 : ¬ (t935 = t937) := by simpa using c31))
      clear c31
      exact absurd (H.trans (congrArg some HT.out)) (laws_FnCirclesDiffer.j0_no k l1 t926 t927 t930 t931 t935 t938 t946 t954)
     ·rw [if_neg c31] at H
      have c31b0 : (t935 != t937) = false := by simpa using c31
      (try (have c31b1 : decide (t935 = t937) = true := by simpa using c31))
      (try (have c31b2 : (t935 == t937) = true := by simpa using c31))
      clear c31
      by_cases c32 : (t934 != t936) = true
      ·rw [if_pos c32] at H
       have c32b0 : (t934 != t936) = true := c32
       (try (have c32b1 : decide (t934 = t936) = false := by simpa using c32))
       (try (have c32b2 : (t934 == t936) = false := by simpa using c32))
       (try (have c32b3 : ¬ (t934 = t936) := by simpa using c32))
       clear c32
       exact absurd (H.trans (congrArg some HT.out)) (laws_FnCirclesDiffer.j0_no k l1 t926 t927 t930 t931 t935 t938 t946 t954)
      ·rw [if_neg c32] at H
       have c32b0 : (t934 != t936) = false := by simpa using c32
       (try (have c32b1 : decide (t934 = t936) = true := by simpa using c32))
       (try (have c32b2 : (t934 == t936) = true := by simpa using c32))
       clear c32
       by_cases c33 : (t939 != t945) = true
       ·rw [if_pos c33] at H
        have c33b0 : (t939 != t945) = true := c33
        (try (have c33b1 : decide (t939 = t945) = false := by simpa using c33))
        (try (have c33b2 : (t939 == t945) = false := by simpa using c33))
        (try (have c33b3 : ¬ (t939 = t945) := by simpa using c33))
        clear c33
        exact absurd (H.trans (congrArg some HT.out)) (laws_FnCirclesDiffer.j0_no k l1 t926 t927 t930 t931 t935 t938 t946 t954)
       ·rw [if_neg c33] at H
        have c33b0 : (t939 != t945) = false := by simpa using c33
        (try (have c33b1 : decide (t939 = t945) = true := by simpa using c33))
        (try (have c33b2 : (t939 == t945) = true := by simpa using c33))
        clear c33
        replace H := Option.bind_eq_some_iff.mp H
        obtain ⟨t958, A340, H⟩ := H
        (try dsimp only at H)
        have A34 := Aside0.mk A340
        clear A340
        by_cases c35 : t958 = true
        ·subst c35
         rw [if_pos rfl] at H
         by_cases c36 : (t947 != t951) = true
         ·rw [if_pos c36] at H
          have c36b0 : (t947 != t951) = true := c36
          (try (have c36b1 : decide (t947 = t951) = false := by simpa using c36))
          (try (have c36b2 : (t947 == t951) = false := by simpa using c36))
          (try (have c36b3 : ¬ (t947 = t951) := by simpa using c36))
          clear c36
          exact absurd (H.trans (congrArg some HT.out)) (laws_FnCirclesDiffer.j0_no k l1 t926 t927 t930 t931 t935 t938 t946 t954)
         ·rw [if_neg c36] at H
          have c36b0 : (t947 != t951) = false := by simpa using c36
          (try (have c36b1 : decide (t947 = t951) = true := by simpa using c36))
          (try (have c36b2 : (t947 == t951) = true := by simpa using c36))
          clear c36
          replace H := Option.bind_eq_some_iff.mp H
          obtain ⟨t959, A370, H⟩ := H
          (try dsimp only at H)
          have A37 := Aside0.mk A370
          clear A370
          by_cases c38 : t959 = true
          ·subst c38
           rw [if_pos rfl] at H
           by_cases c39 : (t955 != t957) = true
           ·rw [if_pos c39] at H
            have c39b0 : (t955 != t957) = true := c39
            (try (have c39b1 : decide (t955 = t957) = false := by simpa using c39))
            (try (have c39b2 : (t955 == t957) = false := by simpa using c39))
            (try (have c39b3 : ¬ (t955 = t957) := by simpa using c39))
            clear c39
            exact absurd (H.trans (congrArg some HT.out)) (laws_FnCirclesDiffer.j0_no k l1 t926 t927 t930 t931 t935 t938 t946 t954)
           ·rw [if_neg c39] at H
            have c39b0 : (t955 != t957) = false := by simpa using c39
            (try (have c39b1 : decide (t955 = t957) = true := by simpa using c39))
            (try (have c39b2 : (t955 == t957) = true := by simpa using c39))
            clear c39
            by_cases c40 : (t954 != t956) = true
            ·rw [if_pos c40] at H
             have c40b0 : (t954 != t956) = true := c40
             (try (have c40b1 : decide (t954 = t956) = false := by simpa using c40))
             (try (have c40b2 : (t954 == t956) = false := by simpa using c40))
             (try (have c40b3 : ¬ (t954 = t956) := by simpa using c40))
             clear c40
             exact absurd (H.trans (congrArg some HT.out)) (laws_FnCirclesDiffer.j0_no k l1 t926 t927 t930 t931 t935 t938 t946 t954)
            ·rw [if_neg c40] at H
             have c40b0 : (t954 != t956) = false := by simpa using c40
             (try (have c40b1 : decide (t954 = t956) = true := by simpa using c40))
             (try (have c40b2 : (t954 == t956) = true := by simpa using c40))
             clear c40
             replace H := Option.bind_eq_some_iff.mp H
             obtain ⟨t960, A410, H⟩ := H
             (try dsimp only at H)
             have A41 := Aside0.mk A410
             clear A410
             by_cases c42 : (t935 != t960) = true
             ·rw [if_pos c42] at H
              have c42b0 : (t935 != t960) = true := c42
              (try (have c42b1 : decide (t935 = t960) = false := by simpa using c42))
              (try (have c42b2 : (t935 == t960) = false := by simpa using c42))
              (try (have c42b3 : ¬ (t935 = t960) := by simpa using c42))
              clear c42
              exact absurd (H.trans (congrArg some HT.out)) (laws_FnCirclesDiffer.j0_no k l1 t926 t927 t930 t931 t935 t938 t946 t954)
             ·rw [if_neg c42] at H
              have c42b0 : (t935 != t960) = false := by simpa using c42
              (try (have c42b1 : decide (t935 = t960) = true := by simpa using c42))
              (try (have c42b2 : (t935 == t960) = true := by simpa using c42))
              clear c42
              replace H := Option.bind_eq_some_iff.mp H
              obtain ⟨t961, A430, H⟩ := H
              (try dsimp only at H)
              have A43 := Aside0.mk A430
              have e_ : t960 = t961 := Option.some.inj (A41.out.symm.trans A43.out)
              subst e_
              clear A430
              replace H := Option.bind_eq_some_iff.mp H
              obtain ⟨t962, A440, H⟩ := H
              (try dsimp only at H)
              have A44 := Aside0.mk A440
              clear A440
              by_cases c45 : (t960 != t962) = true
              ·rw [if_pos c45] at H
               have c45b0 : (t960 != t962) = true := c45
               (try (have c45b1 : decide (t960 = t962) = false := by simpa using c45))
               (try (have c45b2 : (t960 == t962) = false := by simpa using c45))
               (try (have c45b3 : ¬ (t960 = t962) := by simpa using c45))
               clear c45
               exact absurd (H.trans (congrArg some HT.out)) (laws_FnCirclesDiffer.j0_no k l1 t926 t927 t930 t931 t935 t938 t946 t954)
              ·rw [if_neg c45] at H
               have c45b0 : (t960 != t962) = false := by simpa using c45
               (try (have c45b1 : decide (t960 = t962) = true := by simpa using c45))
               (try (have c45b2 : (t960 == t962) = true := by simpa using c45))
               clear c45
               by_cases c46 : t935 = true
               ·subst c46
                obtain rfl : t937 = true := (by simpa using c31b0)
                obtain rfl : t960 = true := (by simpa using c42b0)
                obtain rfl : t962 = true := (by simpa using c45b0)
                rw [if_pos rfl] at H
                by_cases c47 : (t931 != t934) = true
                ·rw [if_pos c47] at H
                 have c47b0 : (t931 != t934) = true := c47
                 (try (have c47b1 : decide (t931 = t934) = false := by simpa using c47))
                 (try (have c47b2 : (t931 == t934) = false := by simpa using c47))
                 (try (have c47b3 : ¬ (t931 = t934) := by simpa using c47))
                 clear c47
                 exact absurd (H.trans (congrArg some HT.out)) (laws_FnCirclesDiffer.j0_no k l1 t926 t927 t930 t931 true t938 t946 t954)
                ·rw [if_neg c47] at H
                 have c47b0 : (t931 != t934) = false := by simpa using c47
                 (try (have c47b1 : decide (t931 = t934) = true := by simpa using c47))
                 (try (have c47b2 : (t931 == t934) = true := by simpa using c47))
                 clear c47
                 by_cases c48 : (t939 != true) = true
                 ·rw [if_pos c48] at H
                  have c48b0 : (t939 != true) = true := c48
                  (try (have c48b1 : decide (t939 = true) = false := by simpa using c48))
                  (try (have c48b2 : (t939 == true) = false := by simpa using c48))
                  (try (have c48b3 : ¬ (t939 = true) := by simpa using c48))
                  clear c48
                  exact absurd (H.trans (congrArg some HT.out)) (laws_FnCirclesDiffer.j0_no k l1 t926 t927 t930 t931 true t938 t946 t954)
                 ·rw [if_neg c48] at H
                  have c48b0 : (t939 != true) = false := by simpa using c48
                  (try (have c48b1 : decide (t939 = true) = true := by simpa using c48))
                  (try (have c48b2 : (t939 == true) = true := by simpa using c48))
                  clear c48
                  by_cases c49 : (t947 != true) = true
                  ·rw [if_pos c49] at H
                   have c49b0 : (t947 != true) = true := c49
                   (try (have c49b1 : decide (t947 = true) = false := by simpa using c49))
                   (try (have c49b2 : (t947 == true) = false := by simpa using c49))
                   (try (have c49b3 : ¬ (t947 = true) := by simpa using c49))
                   clear c49
                   exact absurd (H.trans (congrArg some HT.out)) (laws_FnCirclesDiffer.j0_no k l1 t926 t927 t930 t931 true t938 t946 t954)
                  ·rw [if_neg c49] at H
                   have c49b0 : (t947 != true) = false := by simpa using c49
                   (try (have c49b1 : decide (t947 = true) = true := by simpa using c49))
                   (try (have c49b2 : (t947 == true) = true := by simpa using c49))
                   clear c49
                   have H' := Aside0.mk H
                   clear H
                   obtain ⟨Ao50, co50, eo50⟩ := Kd.R_slice HO941.out
                   subst eo50
                   obtain ⟨Ao51, co51, eo51⟩ := Kd.R_slice HO944.out
                   subst eo51
                   as_aux_lemma =>
                    go_wp2_with (first | (go_at_call 44; (with_reducible refine (laws_zSame.calls k _ _ t938 _ _ t942 true _ ?side1 ?side2 ?side3 ?side4 A34.out).mono ?_); (case side1 => exact atRC HO941); (case side2 => exact (Kd.R_reads' HO941.out).2.1); (case side3 => exact atRC HO944); (case side4 => exact (Kd.R_reads' HO944.out).2.1); rintro e w' ⟨rfl, ⟨nd, rfl⟩⟩; obtain ⟨Ao52, co52, eo52⟩ := Kd.R_slice HO949.out; subst eo52; obtain ⟨Ao53, co53, eo53⟩ := Kd.R_slice HO953.out; subst eo53) | (go_at_call 44; (with_reducible refine (laws_zSame.calls k _ _ t946 _ _ t950 true _ ?side1 ?side2 ?side3 ?side4 A37.out).mono ?_); (case side1 => exact atRC HO949); (case side2 => exact (Kd.R_reads' HO949.out).2.1); (case side3 => exact atRC HO953); (case side4 => exact (Kd.R_reads' HO953.out).2.1); rintro e w' ⟨rfl, ⟨nd, rfl⟩⟩) | (go_at_call 45; (with_reducible refine (impl_IsCircleSet.calls k t926 _ _ t927 true _ ?side1 ?side2 A41.out).mono ?_); (case side1 => exact atRC HO929); (case side2 => exact (Kd.R_reads' HO929.out).2.1); rintro e w' ⟨rfl, ⟨nd, rfl⟩⟩) | (go_at_call 45; (with_reducible refine (impl_IsCircleSet.calls k t926 _ _ t927 true _ ?side1 ?side2 A43.out).mono ?_); (case side1 => exact atRC HO929); (case side2 => exact (Kd.R_reads' HO929.out).2.1); rintro e w' ⟨rfl, ⟨nd, rfl⟩⟩) | (go_at_call 46; (with_reducible refine (spec_IsCircleSet.calls k t926 _ _ t927 true _ ?side1 ?side2 A44.out).mono ?_); (case side1 => exact atRC HO929); (case side2 => exact (Kd.R_reads' HO929.out).2.1); rintro e w' ⟨rfl, ⟨nd, rfl⟩⟩))
                    go_meet
                    case rel => exact ⟨_, ((t955 != true)), eqd, H', ⟨leD⟩, ⟨atR HO929⟩, ⟨atR HO941⟩, ⟨atR HO949⟩, ⟨atB HB⟩⟩
               ·replace c46 := Bool.eq_false_iff.mpr c46
                subst c46
                obtain rfl : t937 = false := (by simpa using c31b0)
                obtain rfl : t960 = false := (by simpa using c42b0)
                obtain rfl : t962 = false := (by simpa using c45b0)
                rw [if_neg (show ¬ (false = true) by decide)] at H
                by_cases c54 : (t931 != false) = true
                ·rw [if_pos c54] at H
                 have c54b0 : (t931 != false) = true := c54
                 (try (have c54b1 : decide (t931 = false) = false := by simpa using c54))
                 (try (have c54b2 : (t931 == false) = false := by simpa using c54))
                 (try (have c54b3 : ¬ (t931 = false) := by simpa using c54))
                 clear c54
                 exact absurd (H.trans (congrArg some HT.out)) (laws_FnCirclesDiffer.j0_no k l1 t926 t927 t930 t931 false t938 t946 t954)
                ·rw [if_neg c54] at H
                 have c54b0 : (t931 != false) = false := by simpa using c54
                 (try (have c54b1 : decide (t931 = false) = true := by simpa using c54))
                 (try (have c54b2 : (t931 == false) = true := by simpa using c54))
                 clear c54
                 by_cases c55 : (t939 != false) = true
                 ·rw [if_pos c55] at H
                  have c55b0 : (t939 != false) = true := c55
                  (try (have c55b1 : decide (t939 = false) = false := by simpa using c55))
                  (try (have c55b2 : (t939 == false) = false := by simpa using c55))
                  (try (have c55b3 : ¬ (t939 = false) := by simpa using c55))
                  clear c55
                  exact absurd (H.trans (congrArg some HT.out)) (laws_FnCirclesDiffer.j0_no k l1 t926 t927 t930 t931 false t938 t946 t954)
                 ·rw [if_neg c55] at H
                  have c55b0 : (t939 != false) = false := by simpa using c55
                  (try (have c55b1 : decide (t939 = false) = true := by simpa using c55))
                  (try (have c55b2 : (t939 == false) = true := by simpa using c55))
                  clear c55
                  by_cases c56 : (t947 != false) = true
                  ·rw [if_pos c56] at H
                   have c56b0 : (t947 != false) = true := c56
                   (try (have c56b1 : decide (t947 = false) = false := by simpa using c56))
                   (try (have c56b2 : (t947 == false) = false := by simpa using c56))
                   (try (have c56b3 : ¬ (t947 = false) := by simpa using c56))
                   clear c56
                   exact absurd (H.trans (congrArg some HT.out)) (laws_FnCirclesDiffer.j0_no k l1 t926 t927 t930 t931 false t938 t946 t954)
                  ·rw [if_neg c56] at H
                   have c56b0 : (t947 != false) = false := by simpa using c56
                   (try (have c56b1 : decide (t947 = false) = true := by simpa using c56))
                   (try (have c56b2 : (t947 == false) = true := by simpa using c56))
                   clear c56
                   have H' := Aside0.mk H
                   clear H
                   obtain ⟨Ao57, co57, eo57⟩ := Kd.R_slice HO941.out
                   subst eo57
                   obtain ⟨Ao58, co58, eo58⟩ := Kd.R_slice HO944.out
                   subst eo58
                   as_aux_lemma =>
                    go_wp2_with (first | (go_at_call 44; (with_reducible refine (laws_zSame.calls k _ _ t938 _ _ t942 true _ ?side1 ?side2 ?side3 ?side4 A34.out).mono ?_); (case side1 => exact atRC HO941); (case side2 => exact (Kd.R_reads' HO941.out).2.1); (case side3 => exact atRC HO944); (case side4 => exact (Kd.R_reads' HO944.out).2.1); rintro e w' ⟨rfl, ⟨nd, rfl⟩⟩; obtain ⟨Ao59, co59, eo59⟩ := Kd.R_slice HO949.out; subst eo59; obtain ⟨Ao60, co60, eo60⟩ := Kd.R_slice HO953.out; subst eo60) | (go_at_call 44; (with_reducible refine (laws_zSame.calls k _ _ t946 _ _ t950 true _ ?side1 ?side2 ?side3 ?side4 A37.out).mono ?_); (case side1 => exact atRC HO949); (case side2 => exact (Kd.R_reads' HO949.out).2.1); (case side3 => exact atRC HO953); (case side4 => exact (Kd.R_reads' HO953.out).2.1); rintro e w' ⟨rfl, ⟨nd, rfl⟩⟩) | (go_at_call 45; (with_reducible refine (impl_IsCircleSet.calls k t926 _ _ t927 false _ ?side1 ?side2 A41.out).mono ?_); (case side1 => exact atRC HO929); (case side2 => exact (Kd.R_reads' HO929.out).2.1); rintro e w' ⟨rfl, ⟨nd, rfl⟩⟩) | (go_at_call 45; (with_reducible refine (impl_IsCircleSet.calls k t926 _ _ t927 false _ ?side1 ?side2 A43.out).mono ?_); (case side1 => exact atRC HO929); (case side2 => exact (Kd.R_reads' HO929.out).2.1); rintro e w' ⟨rfl, ⟨nd, rfl⟩⟩) | (go_at_call 46; (with_reducible refine (spec_IsCircleSet.calls k t926 _ _ t927 false _ ?side1 ?side2 A44.out).mono ?_); (case side1 => exact atRC HO929); (case side2 => exact (Kd.R_reads' HO929.out).2.1); rintro e w' ⟨rfl, ⟨nd, rfl⟩⟩))
                    go_meet
                    case rel => exact ⟨_, ((t955 != false)), eqd, H', ⟨leD⟩, ⟨atR HO929⟩, ⟨atR HO941⟩, ⟨atR HO949⟩, ⟨atB HB⟩⟩
          ·replace c38 := Bool.eq_false_iff.mpr c38
           subst c38
           rw [if_neg (show ¬ (false = true) by decide)] at H
           exact absurd (H.trans (congrArg some HT.out)) (laws_FnCirclesDiffer.j0_no k l1 t926 t927 t930 t931 t935 t938 t946 t954)
        ·replace c35 := Bool.eq_false_iff.mpr c35
         subst c35
         rw [if_neg (show ¬ (false = true) by decide)] at H
         exact absurd (H.trans (congrArg some HT.out)) (laws_FnCirclesDiffer.j0_no k l1 t926 t927 t930 t931 t935 t938 t946 t954)
    ·rw [if_neg c30] at H
     have c30b0 : (t930 == t932) = false := beq_eq_false_iff_ne.mpr c30
     have c30b1 : (t930 != t932) = true := bne_iff_ne.mpr c30
     exact absurd (H.trans (congrArg some HT.out)) (laws_FnCirclesDiffer.j0_no k l1 t926 t927 t930 t931 t935 t938 t946 t954)
  case rest =>
   rename_i z0_ z1_ z2_ z3_ z4_ z5_
   exact laws_FnCirclesDiffer.rest1 (k := k) (A0 := A0) (c0 := c0) (l0 := l0) (A1 := A1) (c1 := c1) (l1 := l1) (r := r) (w := w) (HR1 := HR1) (HC1 := HC1) (HT := HT) (t926 := t926) (t927 := t927) (t930 := t930) (t931 := t931) (t932 := t932) (t933 := t933) (t934 := t934) (t935 := t935) (t936 := t936) (t937 := t937) (t938 := t938) (t939 := t939) (t942 := t942) (t945 := t945) (t946 := t946) (t947 := t947) (t950 := t950) (t951 := t951) (t954 := t954) (t955 := t955) (t956 := t956) (t957 := t957) (HC16 := HC16) (Ao18 := Ao18) (co18 := co18) (v940 := v940) (v943 := v943) (v948 := v948) (v952 := v952) (w28 := w28) (HB := HB) (z2_ := z2_) (ez3_ := by rfl) (z3_ := z3_) (z4_ := z4_) (ez5_ := by rfl) (z5_ := z5_) (wc := wc) (u68 := u68) (u69 := u69) (u70 := u70) (u71 := u71) (u72 := u72) (u73 := u73) (u74 := u74) (u75 := u75) (u76 := u76) (u77 := u77) (u78 := u78) (u79 := u79) (u80 := u80) (u81 := u81) (u82 := u82) (u83 := u83) (u84 := u84) (u85 := u85) (u86 := u86) (u87 := u87) (u88 := u88) (u89 := u89) (u90 := u90) (u91 := u91) (u92 := u92) (u93 := u93) (u94 := u94) (u95 := u95) (u96 := u96) (u97 := u97) (u98 := u98) (u99 := u99) (u100 := u100) (u101 := u101) (u102 := u102) (u103 := u103) (u104 := u104) (u105 := u105) (u106 := u106) (u107 := u107) (u108 := u108) (u109 := u109) (u110 := u110) (u111 := u111) (u112 := u112) (u113 := u113) (u114 := u114) (u115 := u115) (u116 := u116) (u117 := u117) (u118 := u118) (u119 := u119) (u120 := u120) (u121 := u121) (u122 := u122) (u123 := u123) (u124 := u124) (u125 := u125) (u126 := u126) (u127 := u127) (u128 := u128) (u129 := u129) (u130 := u130) (u131 := u131) (u132 := u132) (u133 := u133) (u134 := u134) (u135 := u135) (u136 := u136) (u137 := u137) (u138 := u138) (u139 := u139) (u140 := u140) (u141 := u141) (u142 := u142) (u143 := u143) (u144 := u144) (u145 := u145) (u146 := u146) (u147 := u147) (u148 := u148) (u149 := u149) (u150 := u150) (u151 := u151) (u152 := u152) (u153 := u153) (u154 := u154) (u155 := u155) (u156 := u156) (u157 := u157) (u158 := u158) (u159 := u159) (u160 := u160) (u161 := u161) (u162 := u162) (u163 := u163) (u164 := u164) (u165 := u165) (u166 := u166) (u167 := u167) (u168 := u168) (u169 := u169) (u170 := u170) (u171 := u171) (u172 := u172) (u173 := u173) (u174 := u174) (u175 := u175) (u176 := u176) (u177 := u177) (u178 := u178) (u179 := u179) (u180 := u180) (u181 := u181) (u182 := u182) (u183 := u183) (u184 := u184) (u185 := u185) (u186 := u186) (u187 := u187) (u188 := u188) (u189 := u189) (u190 := u190) (u191 := u191) (u192 := u192) (u193 := u193) (u194 := u194) (u195 := u195) (u196 := u196) (u197 := u197) (u198 := u198) (u199 := u199) (u200 := u200) (u201 := u201) (u202 := u202) (u203 := u203) (u204 := u204) (u205 := u205) (u206 := u206) (u207 := u207) (u208 := u208) (u209 := u209) (u210 := u210) (u211 := u211) (u212 := u212) (u213 := u213) (u214 := u214) (u215 := u215) (u216 := u216) (u217 := u217) (u218 := u218) (u219 := u219) (u220 := u220) (u221 := u221) (u222 := u222) (u223 := u223) (u224 := u224) (u225 := u225) (u226 := u226) (u227 := u227) (u231 := u231) (u232 := u232) (u233 := u233) (u234 := u234) (u235 := u235) (u236 := u236) (u237 := u237) (u238 := u238) (u239 := u239) (u240 := u240) (u241 := u241) (u242 := u242) (u243 := u243) (u244 := u244) (u245 := u245) (u246 := u246) (u247 := u247) (u248 := u248) (u249 := u249) (u250 := u250) (u251 := u251) (u252 := u252) (u253 := u253) (u254 := u254) (u255 := u255) (u256 := u256) (u257 := u257) (u258 := u258) (u259 := u259) (u260 := u260) (u261 := u261) (u262 := u262) (u263 := u263) (u264 := u264) (u265 := u265) (u266 := u266) (u267 := u267) (u268 := u268) (u269 := u269) (u270 := u270) (u271 := u271) (u272 := u272) (u273 := u273) (u274 := u274) (u275 := u275) (u276 := u276) (u277 := u277) (u278 := u278) (u279 := u279) (u280 := u280) (u281 := u281) (u282 := u282) (u283 := u283) (u284 := u284) (u285 := u285) (u286 := u286) (u287 := u287) (u288 := u288) (u289 := u289) (u293 := u293) (u294 := u294) (u295 := u295) (u299 := u299) (u300 := u300) (u301 := u301) (u302 := u302) (u303 := u303) (u304 := u304) (u305 := u305) (u306 := u306) (u307 := u307) (u308 := u308) (u309 := u309) (u310 := u310) (u311 := u311) (u312 := u312) (u313 := u313) (u314 := u314) (u315 := u315) (u316 := u316) (u317 := u317) (u318 := u318) (u319 := u319) (u320 := u320) (u321 := u321) (u322 := u322) (u323 := u323) (u324 := u324) (u325 := u325) (u326 := u326) (u327 := u327) (u328 := u328) (u329 := u329) (u330 := u330) (u331 := u331) (u332 := u332) (u333 := u333) (u334 := u334) (u335 := u335) (u336 := u336) (u337 := u337) (u338 := u338) (u339 := u339) (u340 := u340) (u341 := u341) (u342 := u342) (u343 := u343) (u344 := u344) (u345 := u345) (u346 := u346) (u347 := u347) (u348 := u348) (u349 := u349) (u350 := u350) (u351 := u351) (u352 := u352) (u353 := u353) (u354 := u354) (u355 := u355) (u356 := u356) (u357 := u357) (u358 := u358) (u359 := u359) (u360 := u360) (u361 := u361) (u362 := u362) (u363 := u363) (u364 := u364) (u365 := u365) (u366 := u366) (u367 := u367) (u368 := u368) (u369 := u369) (u370 := u370) (u371 := u371) (u372 := u372) (u373 := u373) (u374 := u374) (u375 := u375) (u376 := u376) (u377 := u377) (u378 := u378) (u379 := u379) (u380 := u380) (u381 := u381) (u382 := u382) (u383 := u383) (u384 := u384) (u385 := u385) (u386 := u386) (u387 := u387) (u388 := u388) (u389 := u389) (u390 := u390) (u391 := u391) (u392 := u392) (u393 := u393) (u394 := u394) (u395 := u395) (u396 := u396) (u397 := u397) (u398 := u398) (u399 := u399) (u400 := u400) (u401 := u401) (u402 := u402) (u403 := u403) (u404 := u404) (u405 := u405) (u406 := u406) (u407 := u407) (u408 := u408) (u409 := u409) (u410 := u410) (u411 := u411) (u412 := u412) (u413 := u413) (u414 := u414) (u415 := u415) (u416 := u416) (u417 := u417) (u418 := u418) (u419 := u419) (u420 := u420) (u421 := u421) (u422 := u422) (u423 := u423) (u424 := u424) (u425 := u425) (u426 := u426) (u427 := u427) (u428 := u428) (u429 := u429) (u430 := u430) (u431 := u431) (u432 := u432) (u433 := u433) (u434 := u434) (u435 := u435) (u436 := u436) (u437 := u437) (u438 := u438) (u439 := u439) (u440 := u440) (u441 := u441) (u442 := u442) (u443 := u443) (u444 := u444) (u445 := u445) (u446 := u446) (u447 := u447) (u448 := u448) (u449 := u449) (u450 := u450) (u451 := u451) (u452 := u452) (u453 := u453) (u454 := u454) (u455 := u455) (u456 := u456) (u457 := u457) (u458 := u458) (u459 := u459) (u460 := u460) (u461 := u461) (u462 := u462) (u463 := u463) (u464 := u464) (u465 := u465) (u466 := u466) (u467 := u467) (u468 := u468) (u469 := u469) (u470 := u470) (u471 := u471) (u472 := u472) (u473 := u473) (u474 := u474) (u475 := u475) (u476 := u476) (u477 := u477) (u478 := u478) (u479 := u479) (u480 := u480) (u481 := u481) (u482 := u482) (u483 := u483) (u484 := u484) (u485 := u485) (u486 := u486) (u487 := u487) (u488 := u488) (u489 := u489) (u490 := u490) (u491 := u491) (u492 := u492) (u493 := u493) (u494 := u494) (u495 := u495) (u496 := u496) (u497 := u497) (u498 := u498) (u499 := u499) (u500 := u500) (u501 := u501) (u502 := u502) (u503 := u503) (u504 := u504) (u505 := u505) (u506 := u506) (u507 := u507) (u508 := u508) (u509 := u509) (u510 := u510) (u511 := u511) (u512 := u512) (u513 := u513) (u514 := u514) (u515 := u515) (u516 := u516) (u517 := u517) (u518 := u518) (u519 := u519) (u520 := u520) (u521 := u521) (u522 := u522) (u523 := u523) (u524 := u524) (u525 := u525) (u526 := u526) (u527 := u527) (u528 := u528) (u529 := u529) (hcut := hcut)
theorem laws_FnCirclesDiffer.walk (P : laws_FnCirclesDiffer.Pure) (a0 : Option Addr) (len0 cap0 : Nat) (z0 : List Int) (a1 : Option Addr) (len1 cap1 : Nat) (z1 : List Int) (w : World) (w0 : (a0 = none ∧ len0 = 0 ∧ cap0 = 0 ∧ z0 = []) ∨ ∃ x, a0 = some x ∧ len0 ≤ cap0 ∧ cap0 ≤ maxLen ∧ z0.length = cap0 ∧ (∀ i, i < z0.length → w.cell? (x.add i) = some (.int .u8 (z0.getD i 0))) ∧ ∀ n ∈ z0, (Lit.int .u8 n).wf = true) (y0 : len0 * 1 ≤ 140737488351232) (w1 : (a1 = none ∧ len1 = 0 ∧ cap1 = 0 ∧ z1 = []) ∨ ∃ x, a1 = some x ∧ len1 ≤ cap1 ∧ cap1 ≤ maxLen ∧ z1.length = cap1 ∧ (∀ i, i < z1.length → w.cell? (x.add i) = some (.int .u8 (z1.getD i 0))) ∧ ∀ n ∈ z1, (Lit.int .u8 n).wf = true) (y1 : len1 * 1 ≤ 140737488351232) :
  Calls Try.prog 4 #[.slice a0 len0 cap0, .slice a1 len1 cap1] w fun e w' => e = .returned (.bool true) ∧ Below w.heap.size w w' := by
 obtain ⟨l0, rfl, hr0, hm0, hw0, hc0⟩ := ReadsInt.ofRowC w0
 obtain ⟨l1, rfl, hr1, hm1, hw1, hc1⟩ := ReadsInt.ofRowC w1
 obtain ⟨k, h⟩ := P l0 l1 hm0 y0 hw0 hm1 y1 hw1
 refine (laws_FnCirclesDiffer.calls k _ _ l0 _ _ l1 true w (Kd.C_of_reads (d := (0 : Int)) (h1 := fun _ => rfl) hr0) hc0 (Kd.C_of_reads (d := (0 : Int)) (h1 := fun _ => rfl) hr1) hc1 rfl h).mono ?_
 rintro e w' ⟨rfl, hd⟩
 exact ⟨rfl, hd⟩

end Go.Proofs.Ytofjndbpndpjjaa.Fn
