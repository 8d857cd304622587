/- The machine's side and plain lemmas for FnCirclesDiffer: texts of this session, merged by its program (part 3). -/
import Derived.Test.YtofjndbpndpjjaaMFnCirclesDiffer0
import Derived.Test.YtofjndbpndpjjaaMFnCirclesDiffer1
import Derived.Test.YtofjndbpndpjjaaMFnCirclesDiffer2
namespace Go.Proofs.Ytofjndbpndpjjaa.Fn
open Go.RowKit Go.Proofs.YtofjndbpndpjjaaW.PrintWords Go.Proofs.YtofjndbpndpjjaaW.PrintLast Go.Proofs.YtofjndbpndpjjaaW.PrintMore
attribute [local go_sem] max2_int min2_int max_two min_two max_three min_three max_four min_four   -- for this text's walks alone
set_option linter.unusedVariables false
set_option linter.unusedSimpArgs false


set_option maxHeartbeats 80000000 in
set_option maxRecDepth 100000 in
theorem laws_FnCirclesDiffer.calls (k : Nat) (A0 : Option Addr) (c0 : Nat) (l0 : List Int) (A1 : Option Addr) (c1 : Nat) (l1 : List Int) (r : Bool) (w : World) (hr0 : Kd.C (Kd.int .u8) w A0 l0.length l0) (hc0 : l0.length ≤ c0) (hr1 : Kd.C (Kd.int .u8) w A1 l1.length l1) (hc1 : l1.length ≤ c1) (ht_ : r = true) (h : laws_FnCirclesDiffer.f k l0 l1 = some r) :
  Calls Try.prog 4 #[.slice A0 l0.length c0, .slice A1 l1.length c1] w fun e w' => e = .returned (.bool r) ∧ Below w.heap.size w w' := by
 have HR0 := Aside0.mk hr0
 have HC0 := Aside0.mk hc0
 clear hr0 hc0
 have HR1 := Aside0.mk hr1
 have HC1 := Aside0.mk hc1
 clear hr1 hc1
 have HB := Aside0.mk (Below.refl w.heap.size w)
 have H := h
 unfold laws_FnCirclesDiffer.f at H
 clear h
 have HT := Aside0.mk ht_
 clear ht_
 replace H := Option.bind_eq_some_iff.mp H
 obtain ⟨t925, A30, H⟩ := H
 (try dsimp only at H)
 have A3 := Aside0.mk A30
 clear A30
 by_cases c4 : t925 = true
 ·subst c4
  rw [if_pos rfl] at H
  obtain rfl := Option.some.inj H
  go_enter Try.func4, Try.ntmps4
  go_wp2_with (first | ((with_reducible refine gate_callee (f := 5) rfl ?_); refine goesA (some 70) Try.func5 #[.slice A0 l0.length c0, .slice A1 l1.length c1] ?_; (with_reducible refine (laws_big.calls _ _ l0 _ _ l1 true _ ?side1 ?side2 ?side3 ?side4 A3.out).mono ?_); (case side1 => repeat (first | exact HR0.out | (with_reducible refine Kd.C_alloc ?_ _) | (with_reducible refine Kd.C_drewN ?_ _) | (with_reducible refine Kd.C_drew ?_))); (case side2 => exact HC0.out); (case side3 => repeat (first | exact HR1.out | (with_reducible refine Kd.C_alloc ?_ _) | (with_reducible refine Kd.C_drewN ?_ _) | (with_reducible refine Kd.C_drew ?_))); (case side4 => exact HC1.out); rintro e w' ⟨rfl, ⟨nd, rfl⟩⟩; refine ⟨_, rfl, ?_⟩))
  go_ret
  exact ⟨eqr, atB HB⟩
 ·replace c4 := Bool.eq_false_iff.mpr c4
  subst c4
  rw [if_neg (show ¬ (false = true) by decide)] at H
  replace H := Option.bind_eq_some_iff.mp H
  obtain ⟨⟨t926, t927⟩, A50, H⟩ := H
  (try dsimp only at H)
  have A5 := Aside0.mk A50
  clear A50
  replace H := Option.bind_eq_some_iff.mp H
  obtain ⟨⟨t930, t931⟩, A60, H⟩ := H
  (try dsimp only at H)
  have A6 := Aside0.mk A60
  clear A60
  replace H := Option.bind_eq_some_iff.mp H
  obtain ⟨⟨t932, t933⟩, A70, H⟩ := H
  (try dsimp only at H)
  have A7 := Aside0.mk A70
  clear A70
  replace H := Option.bind_eq_some_iff.mp H
  obtain ⟨⟨t934, t935⟩, A80, H⟩ := H
  (try dsimp only at H)
  have A8 := Aside0.mk A80
  clear A80
  replace H := Option.bind_eq_some_iff.mp H
  obtain ⟨⟨t936, t937⟩, A90, H⟩ := H
  (try dsimp only at H)
  have A9 := Aside0.mk A90
  clear A90
  replace H := Option.bind_eq_some_iff.mp H
  obtain ⟨⟨t938, t939⟩, A100, H⟩ := H
  (try dsimp only at H)
  have A10 := Aside0.mk A100
  clear A100
  replace H := Option.bind_eq_some_iff.mp H
  obtain ⟨⟨t942, t945⟩, A110, H⟩ := H
  (try dsimp only at H)
  have A11 := Aside0.mk A110
  clear A110
  replace H := Option.bind_eq_some_iff.mp H
  obtain ⟨⟨t946, t947⟩, A120, H⟩ := H
  (try dsimp only at H)
  have A12 := Aside0.mk A120
  clear A120
  replace H := Option.bind_eq_some_iff.mp H
  obtain ⟨⟨t950, t951⟩, A130, H⟩ := H
  (try dsimp only at H)
  have A13 := Aside0.mk A130
  clear A130
  replace H := Option.bind_eq_some_iff.mp H
  obtain ⟨⟨t954, t955⟩, A140, H⟩ := H
  (try dsimp only at H)
  have A14 := Aside0.mk A140
  clear A140
  replace H := Option.bind_eq_some_iff.mp H
  obtain ⟨⟨t956, t957⟩, A150, H⟩ := H
  (try dsimp only at H)
  have A15 := Aside0.mk A150
  clear A150
  have HC16 := Aside0.mk H
  clear H
  go_enter Try.func4, Try.ntmps4
  go_upto_region 14 with (first | ((with_reducible refine gate_callee (f := 5) rfl ?_); refine goesA (some 70) Try.func5 #[.slice A0 l0.length c0, .slice A1 l1.length c1] ?_; (with_reducible refine (laws_big.calls _ _ l0 _ _ l1 false _ ?side1 ?side2 ?side3 ?side4 A3.out).mono ?_); (case side1 => repeat (first | exact HR0.out | (with_reducible refine Kd.C_alloc ?_ _) | (with_reducible refine Kd.C_drewN ?_ _) | (with_reducible refine Kd.C_drew ?_))); (case side2 => exact HC0.out); (case side3 => repeat (first | exact HR1.out | (with_reducible refine Kd.C_alloc ?_ _) | (with_reducible refine Kd.C_drewN ?_ _) | (with_reducible refine Kd.C_drew ?_))); (case side4 => exact HC1.out); rintro e w' ⟨rfl, ⟨nd, rfl⟩⟩; refine ⟨_, rfl, ?_⟩) | ((with_reducible refine gate_callee (f := 33) rfl ?_); refine goesA (some 73) Try.func33 #[.slice A0 l0.length c0] ?_; (with_reducible refine (spec_DrawLambdaOf.calls k _ _ l0 t926 t927 _ ?side1 ?side2 A5.out).mono ?_); (case side1 => repeat (first | exact HR0.out | (with_reducible refine Kd.C_alloc ?_ _) | (with_reducible refine Kd.C_drewN ?_ _) | (with_reducible refine Kd.C_drew ?_))); (case side2 => exact HC0.out); rintro e w17 ⟨v928, rfl, ho0, hb⟩; refine ⟨_, rfl, ?_⟩; have HO929 := lowR ho0 HB; replace HB := upB HB hb; (try clear hb); (try clear hb2); (try clear hk); (try clear hi); (try clear ho0); obtain ⟨Ao18, co18, eo18⟩ := Kd.R_slice HO929.out; subst eo18) | ((with_reducible refine gate_callee (f := 34) rfl ?_); refine goesA (some 79) Try.func34 #[.int .i64 t926, .slice Ao18 t927.length co18] ?_; (with_reducible refine (impl_LambdaOf.calls k t926 _ _ t927 t930 t931 _ ?side1 ?side2 A6.out).mono ?_); (case side1 => exact atRC HO929); (case side2 => exact (Kd.R_reads' HO929.out).2.1); rintro e w19 ⟨rfl, hb⟩; refine ⟨_, rfl, ?_⟩; replace HO929 := upR HO929 hb; replace HB := upB HB hb; (try clear hb); (try clear hb2); (try clear hk); (try clear hi)) | ((with_reducible refine gate_callee (f := 35) rfl ?_); refine goesA (some 85) Try.func35 #[.int .i64 t926, .slice Ao18 t927.length co18] ?_; (with_reducible refine (spec_LambdaOf.calls k t926 (fun k_ => some k_ = (.slice Ao18 t927.length co18 : Value).ownBlock) _ _ t927 t932 t933 _ ?side1 A7.out).mono ?_); (case side1 => exact Kd.R_V (Kd.R_tight rfl (HO929.out))); rintro e w20 ⟨rfl, hb⟩; refine ⟨_, rfl, ?_⟩; replace HO929 := upR HO929 hb; replace HB := upB HB hb; (try clear hb); (try clear hb2); (try clear hk); (try clear hi)) | ((with_reducible refine gate_callee (f := 36) rfl ?_); refine goesA (some 91) Try.func36 #[.int .i64 t926, .slice Ao18 t927.length co18] ?_; (with_reducible refine (impl_IsDifferenceSet.calls k t926 _ _ t927 t934 t935 _ ?side1 ?side2 A8.out).mono ?_); (case side1 => exact atRC HO929); (case side2 => exact (Kd.R_reads' HO929.out).2.1); rintro e w21 ⟨rfl, hb⟩; refine ⟨_, rfl, ?_⟩; replace HO929 := upR HO929 hb; replace HB := upB HB hb; (try clear hb); (try clear hb2); (try clear hk); (try clear hi)) | ((with_reducible refine gate_callee (f := 37) rfl ?_); refine goesA (some 97) Try.func37 #[.int .i64 t926, .slice Ao18 t927.length co18] ?_; (with_reducible refine (spec_IsDifferenceSet.calls k t926 (fun k_ => some k_ = (.slice Ao18 t927.length co18 : Value).ownBlock) _ _ t927 t936 t937 _ ?side1 A9.out).mono ?_); (case side1 => exact Kd.R_V (Kd.R_tight rfl (HO929.out))); rintro e w22 ⟨rfl, hb⟩; refine ⟨_, rfl, ?_⟩; replace HO929 := upR HO929 hb; replace HB := upB HB hb; (try clear hb); (try clear hb2); (try clear hk); (try clear hi)) | ((with_reducible refine gate_callee (f := 38) rfl ?_); refine goesA (some 103) Try.func38 #[.int .i64 t926, .slice Ao18 t927.length co18] ?_; (with_reducible refine (impl_DifferenceCounts.calls k t926 _ _ t927 t938 t939 _ ?side1 ?side2 A10.out).mono ?_); (case side1 => exact atRC HO929); (case side2 => exact (Kd.R_reads' HO929.out).2.1); rintro e w23 ⟨v940, rfl, ho0, hb⟩; refine ⟨_, rfl, ?_⟩; have HO941 := lowR ho0 HB; replace HO929 := upR HO929 hb; replace HB := upB HB hb; (try clear hb); (try clear hb2); (try clear hk); (try clear hi); (try clear ho0)) | ((with_reducible refine gate_callee (f := 39) rfl ?_); refine goesA (some 109) Try.func39 #[.int .i64 t926, .slice Ao18 t927.length co18] ?_; (with_reducible refine (spec_DifferenceCounts.calls k t926 (fun k_ => some k_ = (.slice Ao18 t927.length co18 : Value).ownBlock) _ _ t927 t942 t945 _ ?side1 A11.out).mono ?_); (case side1 => first | exact Kd.R_V (Kd.R_tight rfl (Kd.R_apart' (HO929.out) (Kd.R_typed HO941.out) (by decide))) | exact Kd.R_V (Kd.R_tight rfl (HO929.out))); rintro e w24 ⟨v943, rfl, ho0, hb⟩; refine ⟨_, rfl, ?_⟩; have HO944 := Aside0.mk (Kd.R_lower (Kd.R_mono (ok' := fun k_ => True) ho0 (fun _ hk_ => trivial)) (szB HB)); replace HO929 := upR HO929 hb; replace HO941 := upR HO941 hb; replace HB := upB HB hb; (try clear hb); (try clear hb2); (try clear hk); (try clear hi); (try clear ho0)) | ((with_reducible refine gate_callee (f := 40) rfl ?_); refine goesA (some 115) Try.func40 #[.int .i64 t926, .slice Ao18 t927.length co18] ?_; (with_reducible refine (impl_MultipliersOf.calls k t926 _ _ t927 t946 t947 _ ?side1 ?side2 A12.out).mono ?_); (case side1 => exact atRC HO929); (case side2 => exact (Kd.R_reads' HO929.out).2.1); rintro e w25 ⟨v948, rfl, ho0, hb⟩; refine ⟨_, rfl, ?_⟩; have HO949 := lowR ho0 HB; replace HO929 := upR HO929 hb; replace HO941 := upR HO941 hb; replace HO944 := upR HO944 hb; replace HB := upB HB hb; (try clear hb); (try clear hb2); (try clear hk); (try clear hi); (try clear ho0)) | ((with_reducible refine gate_callee (f := 41) rfl ?_); refine goesA (some 121) Try.func41 #[.int .i64 t926, .slice Ao18 t927.length co18] ?_; (with_reducible refine (spec_MultipliersOf.calls k t926 _ _ t927 t950 t951 _ ?side1 ?side2 A13.out).mono ?_); (case side1 => exact atRC HO929); (case side2 => exact (Kd.R_reads' HO929.out).2.1); rintro e w26 ⟨v952, rfl, ho0, hb⟩; refine ⟨_, rfl, ?_⟩; have HO953 := lowR ho0 HB; replace HO929 := upR HO929 hb; replace HO941 := upR HO941 hb; replace HO944 := upR HO944 hb; replace HO949 := upR HO949 hb; replace HB := upB HB hb; (try clear hb); (try clear hb2); (try clear hk); (try clear hi); (try clear ho0)) | ((with_reducible refine gate_callee (f := 42) rfl ?_); refine goesA (some 127) Try.func42 #[.int .i64 t926, .slice Ao18 t927.length co18] ?_; (with_reducible refine (impl_IsAroundRuler.calls k t926 _ _ t927 t954 t955 _ ?side1 ?side2 A14.out).mono ?_); (case side1 => exact atRC HO929); (case side2 => exact (Kd.R_reads' HO929.out).2.1); rintro e w27 ⟨rfl, hb⟩; refine ⟨_, rfl, ?_⟩; replace HO929 := upR HO929 hb; replace HO941 := upR HO941 hb; replace HO944 := upR HO944 hb; replace HO949 := upR HO949 hb; replace HO953 := upR HO953 hb; replace HB := upB HB hb; (try clear hb); (try clear hb2); (try clear hk); (try clear hi)) | ((with_reducible refine gate_callee (f := 43) rfl ?_); refine goesA (some 133) Try.func43 #[.int .i64 t926, .slice Ao18 t927.length co18] ?_; (with_reducible refine (spec_IsAroundRuler.calls k t926 (fun k_ => some k_ = (.slice Ao18 t927.length co18 : Value).ownBlock) _ _ t927 t956 t957 _ ?side1 A15.out).mono ?_); (case side1 => first | exact Kd.R_V (Kd.R_tight rfl (Kd.R_apart' (Kd.R_apart' (Kd.R_apart' (Kd.R_apart' (HO929.out) (Kd.R_typed HO941.out) (by decide)) (Kd.R_typed HO944.out) (by decide)) (Kd.R_typed HO949.out) (by decide)) (Kd.R_typed HO953.out) (by decide))) | exact Kd.R_V (Kd.R_tight rfl (HO929.out))); rintro e w28 ⟨rfl, hb⟩; refine ⟨_, rfl, ?_⟩; replace HO929 := upR HO929 hb; replace HO941 := upR HO941 hb; replace HO944 := upR HO944 hb; replace HO949 := upR HO949 hb; replace HO953 := upR HO953 hb; replace HB := upB HB hb; (try clear hb); (try clear hb2); (try clear hk); (try clear hi)))
  (try simp only [Act.put, List.setIfInBounds_toArray, List.set_cons_zero, List.set_cons_succ])
  go_cut [224] (fun v224 wc => ∃ (kq : Nat) (x224_15 : Bool), v224 = .bool x224_15 ∧ Aside0 (laws_FnCirclesDiffer.j0 kq l1 t926 t927 t930 t931 t935 t938 t946 t954 x224_15 = some r) ∧ Aside0 (kq ≤ k) ∧ Aside0 (Kd.R (Kd.int .i64) 3 wc w.heap.size (fun _ => True) (.slice Ao18 t927.length co18) t927) ∧ Aside0 (Kd.R (Kd.int .i64) 3 wc w.heap.size (fun _ => True) v940 t938) ∧ Aside0 (Kd.R (Kd.int .i64) 3 wc w.heap.size (fun _ => True) v948 t946) ∧ Aside0 (Below w.heap.size w wc))
  case first => as_aux_lemma =>
   have H := HC16.out
   clear HC16
   by_cases c29 : (t931 != t933) = true
   ·rw [if_pos c29] at H
    have c29b0 : (t931 != t933) = true := c29
    (try (have c29b1 : decide (t931 = t933) = false := by simpa using c29))
    (try (have c29b2 : (t931 == t933) = false := by simpa using c29))
    (try (have c29b3 : ¬ (t931 = t933) := by simpa using c29))
    clear c29
    (first | rw [c29b0] | (simp only [i64_w, i32_w]; rw [c29b0]) | skip)
    exact absurd (H.trans (congrArg some HT.out)) (laws_FnCirclesDiffer.j0_no k l1 t926 t927 t930 t931 t935 t938 t946 t954)
   ·rw [if_neg c29] at H
    have c29b0 : (t931 != t933) = false := by simpa using c29
    (try (have c29b1 : decide (t931 = t933) = true := by simpa using c29))
    (try (have c29b2 : (t931 == t933) = true := by simpa using c29))
    clear c29
    (first | rw [c29b0] | (simp only [i64_w, i32_w]; rw [c29b0]) | skip)
    by_cases c30 : t930 = t932
    ·rw [if_pos c30] at H
     have c30b0 : (t930 == t932) = true := beq_iff_eq.mpr c30
     have c30b1 : (t930 != t932) = false := bne_eq_false_iff_eq.mpr c30
     clear c30
     by_cases c31 : (t935 != t937) = true
     ·rw [if_pos c31] at H
      have c31b0 : (t935 != t937) = true := c31
      (try (have c31b1 : decide (t935 = t937) = false := by simpa using c31))
      (try (have c31b2 : (t935 == t937) = false := by simpa using c31))
      (try (have c31b3 : ¬ (t935 = t937) := by simpa using c31))
      clear c31
      exact absurd (H.trans (congrArg some HT.out)) (laws_FnCirclesDiffer.j0_no k l1 t926 t927 t930 t931 t935 t938 t946 t954)
     ·rw [if_neg c31] at H
      have c31b0 : (t935 != t937) = false := by simpa using c31
      (try (have c31b1 : decide (t935 = t937) = true := by simpa using c31))
      (try (have c31b2 : (t935 == t937) = true := by simpa using c31))
      clear c31
      by_cases c32 : (t934 != t936) = true
      ·rw [if_pos c32] at H
       have c32b0 : (t934 != t936) = true := c32
       (try (have c32b1 : decide (t934 = t936) = false := by simpa using c32))
       (try (have c32b2 : (t934 == t936) = false := by simpa using c32))
       (try (have c32b3 : ¬ (t934 = t936) := by simpa using c32))
       clear c32
       exact absurd (H.trans (congrArg some HT.out)) (laws_FnCirclesDiffer.j0_no k l1 t926 t927 t930 t931 t935 t938 t946 t954)
      ·rw [if_neg c32] at H
       have c32b0 : (t934 != t936) = false := by simpa using c32
       (try (have c32b1 : decide (t934 = t936) = true := by simpa using c32))
       (try (have c32b2 : (t934 == t936) = true := by simpa using c32))
       clear c32
       by_cases c33 : (t939 != t945) = true
       ·rw [if_pos c33] at H
        have c33b0 : (t939 != t945) = true := c33
        (try (have c33b1 : decide (t939 = t945) = false := by simpa using c33))
        (try (have c33b2 : (t939 == t945) = false := by simpa using c33))
        (try (have c33b3 : ¬ (t939 = t945) := by simpa using c33))
        clear c33
        exact absurd (H.trans (congrArg some HT.out)) (laws_FnCirclesDiffer.j0_no k l1 t926 t927 t930 t931 t935 t938 t946 t954)
       ·rw [if_neg c33] at H
        have c33b0 : (t939 != t945) = false := by simpa using c33
        (try (have c33b1 : decide (t939 = t945) = true := by simpa using c33))
        (try (have c33b2 : (t939 == t945) = true := by simpa using c33))
        clear c33
        replace H := Option.bind_eq_some_iff.mp H
        obtain ⟨t958, A340, H⟩ := H
        (try dsimp only at H)
        have A34 := Aside0.mk A340
        clear A340
        by_cases c35 : t958 = true
        ·subst c35
         rw [if_pos rfl] at H
         by_cases c36 : (t947 != t951) = true
         ·rw [if_pos c36] at H
          have c36b0 : (t947 != t951) = true := c36
          (try (have c36b1 : decide (t947 = t951) = false := by simpa using c36))
          (try (have c36b2 : (t947 == t951) = false := by simpa using c36))
          (try (have c36b3 : ¬ (t947 = t951) := by simpa using c36))
          clear c36
          exact absurd (H.trans (congrArg some HT.out)) (laws_FnCirclesDiffer.j0_no k l1 t926 t927 t930 t931 t935 t938 t946 t954)
         ·rw [if_neg c36] at H
          have c36b0 : (t947 != t951) = false := by simpa using c36
          (try (have c36b1 : decide (t947 = t951) = true := by simpa using c36))
          (try (have c36b2 : (t947 == t951) = true := by simpa using c36))
          clear c36
          replace H := Option.bind_eq_some_iff.mp H
          obtain ⟨t959, A370, H⟩ := H
          (try dsimp only at H)
          have A37 := Aside0.mk A370
          clear A370
          by_cases c38 : t959 = true
          ·subst c38
           rw [if_pos rfl] at H
           by_cases c39 : (t955 != t957) = true
           ·rw [if_pos c39] at H
            have c39b0 : (t955 != t957) = true := c39
            (try (have c39b1 : decide (t955 = t957) = false := by simpa using c39))
            (try (have c39b2 : (t955 == t957) = false := by simpa using c39))
            (try (have c39b3 : ¬ (t955 = t957) := by simpa using c39))
            clear c39
            exact absurd (H.trans (congrArg some HT.out)) (laws_FnCirclesDiffer.j0_no k l1 t926 t927 t930 t931 t935 t938 t946 t954)
           ·rw [if_neg c39] at H
            have c39b0 : (t955 != t957) = false := by simpa using c39
            (try (have c39b1 : decide (t955 = t957) = true := by simpa using c39))
            (try (have c39b2 : (t955 == t957) = true := by simpa using c39))
            clear c39
            by_cases c40 : (t954 != t956) = true
            ·rw [if_pos c40] at H
             have c40b0 : (t954 != t956) = true := c40
             (try (have c40b1 : decide (t954 = t956) = false := by simpa using c40))
             (try (have c40b2 : (t954 == t956) = false := by simpa using c40))
             (try (have c40b3 : ¬ (t954 = t956) := by simpa using c40))
             clear c40
             exact absurd (H.trans (congrArg some HT.out)) (laws_FnCirclesDiffer.j0_no k l1 t926 t927 t930 t931 t935 t938 t946 t954)
            ·rw [if_neg c40] at H
             have c40b0 : (t954 != t956) = false := by simpa using c40
             (try (have c40b1 : decide (t954 = t956) = true := by simpa using c40))
             (try (have c40b2 : (t954 == t956) = true := by simpa using c40))
             clear c40
             replace H := Option.bind_eq_some_iff.mp H
             obtain ⟨t960, A410, H⟩ := H
             (try dsimp only at H)
             have A41 := Aside0.mk A410
             clear A410
             by_cases c42 : (t935 != t960) = true
             ·rw [if_pos c42] at H
              have c42b0 : (t935 != t960) = true := c42
              (try (have c42b1 : decide (t935 = t960) = false := by simpa using c42))
              (try (have c42b2 : (t935 == t960) = false := by simpa using c42))
              (try (have c42b3 : ¬ (t935 = t960) := by simpa using c42))
              clear c42
              exact absurd (H.trans (congrArg some HT.out)) (laws_FnCirclesDiffer.j0_no k l1 t926 t927 t930 t931 t935 t938 t946 t954)
             ·rw [if_neg c42] at H
              have c42b0 : (t935 != t960) = false := by simpa using c42
              (try (have c42b1 : decide (t935 = t960) = true := by simpa using c42))
              (try (have c42b2 : (t935 == t960) = true := by simpa using c42))
              clear c42
              replace H := Option.bind_eq_some_iff.mp H
              obtain ⟨t961, A430, H⟩ := H
              (try dsimp only at H)
              have A43 := Aside0.mk A430
              have e_ : t960 = t961 := Option.some.inj (A41.out.symm.trans A43.out)
              subst e_
              clear A430
              replace H := Option.bind_eq_some_iff.mp H
              obtain ⟨t962, A440, H⟩ := H
              (try dsimp only at H)
              have A44 := Aside0.mk A440
              clear A440
              by_cases c45 : (t960 != t962) = true
              ·rw [if_pos c45] at H
               have c45b0 : (t960 != t962) = true := c45
               (try (have c45b1 : decide (t960 = t962) = false := by simpa using c45))
               (try (have c45b2 : (t960 == t962) = false := by simpa using c45))
               (try (have c45b3 : ¬ (t960 = t962) := by simpa using c45))
               clear c45
               exact absurd (H.trans (congrArg some HT.out)) (laws_FnCirclesDiffer.j0_no k l1 t926 t927 t930 t931 t935 t938 t946 t954)
              ·rw [if_neg c45] at H
               have c45b0 : (t960 != t962) = false := by simpa using c45
               (try (have c45b1 : decide (t960 = t962) = true := by simpa using c45))
               (try (have c45b2 : (t960 == t962) = true := by simpa using c45))
               clear c45
               by_cases c46 : t935 = true
               ·subst c46
                obtain rfl : t937 = true := (by simpa using c31b0)
                obtain rfl : t960 = true := (by simpa using c42b0)
                obtain rfl : t962 = true := (by simpa using c45b0)
                rw [if_pos rfl] at H
                by_cases c47 : (t931 != t934) = true
                ·rw [if_pos c47] at H
                 have c47b0 : (t931 != t934) = true := c47
                 (try (have c47b1 : decide (t931 = t934) = false := by simpa using c47))
                 (try (have c47b2 : (t931 == t934) = false := by simpa using c47))
                 (try (have c47b3 : ¬ (t931 = t934) := by simpa using c47))
                 clear c47
                 exact absurd (H.trans (congrArg some HT.out)) (laws_FnCirclesDiffer.j0_no k l1 t926 t927 t930 t931 true t938 t946 t954)
                ·rw [if_neg c47] at H
                 have c47b0 : (t931 != t934) = false := by simpa using c47
                 (try (have c47b1 : decide (t931 = t934) = true := by simpa using c47))
                 (try (have c47b2 : (t931 == t934) = true := by simpa using c47))
                 clear c47
                 by_cases c48 : (t939 != true) = true
                 ·rw [if_pos c48] at H
                  have c48b0 : (t939 != true) = true := c48
                  (try (have c48b1 : decide (t939 = true) = false := by simpa using c48))
                  (try (have c48b2 : (t939 == true) = false := by simpa using c48))
                  (try (have c48b3 : ¬ (t939 = true) := by simpa using c48))
                  clear c48
                  exact absurd (H.trans (congrArg some HT.out)) (laws_FnCirclesDiffer.j0_no k l1 t926 t927 t930 t931 true t938 t946 t954)
                 ·rw [if_neg c48] at H
                  have c48b0 : (t939 != true) = false := by simpa using c48
                  (try (have c48b1 : decide (t939 = true) = true := by simpa using c48))
                  (try (have c48b2 : (t939 == true) = true := by simpa using c48))
                  clear c48
                  by_cases c49 : (t947 != true) = true
                  ·rw [if_pos c49] at H
                   have c49b0 : (t947 != true) = true := c49
                   (try (have c49b1 : decide (t947 = true) = false := by simpa using c49))
                   (try (have c49b2 : (t947 == true) = false := by simpa using c49))
                   (try (have c49b3 : ¬ (t947 = true) := by simpa using c49))
                   clear c49
                   exact absurd (H.trans (congrArg some HT.out)) (laws_FnCirclesDiffer.j0_no k l1 t926 t927 t930 t931 true t938 t946 t954)
                  ·rw [if_neg c49] at H
                   have c49b0 : (t947 != true) = false := by simpa using c49
                   (try (have c49b1 : decide (t947 = true) = true := by simpa using c49))
                   (try (have c49b2 : (t947 == true) = true := by simpa using c49))
                   clear c49
                   have H' := Aside0.mk H
                   clear H
                   obtain ⟨Ao50, co50, eo50⟩ := Kd.R_slice HO941.out
                   subst eo50
                   obtain ⟨Ao51, co51, eo51⟩ := Kd.R_slice HO944.out
                   subst eo51
                   as_aux_lemma =>
                    go_wp2_with (first | (go_at_call 44; (with_reducible refine (laws_zSame.calls k _ _ t938 _ _ t942 true _ ?side1 ?side2 ?side3 ?side4 A34.out).mono ?_); (case side1 => exact atRC HO941); (case side2 => exact (Kd.R_reads' HO941.out).2.1); (case side3 => exact atRC HO944); (case side4 => exact (Kd.R_reads' HO944.out).2.1); rintro e w' ⟨rfl, ⟨nd, rfl⟩⟩; obtain ⟨Ao52, co52, eo52⟩ := Kd.R_slice HO949.out; subst eo52; obtain ⟨Ao53, co53, eo53⟩ := Kd.R_slice HO953.out; subst eo53) | (go_at_call 44; (with_reducible refine (laws_zSame.calls k _ _ t946 _ _ t950 true _ ?side1 ?side2 ?side3 ?side4 A37.out).mono ?_); (case side1 => exact atRC HO949); (case side2 => exact (Kd.R_reads' HO949.out).2.1); (case side3 => exact atRC HO953); (case side4 => exact (Kd.R_reads' HO953.out).2.1); rintro e w' ⟨rfl, ⟨nd, rfl⟩⟩) | (go_at_call 45; (with_reducible refine (impl_IsCircleSet.calls k t926 _ _ t927 true _ ?side1 ?side2 A41.out).mono ?_); (case side1 => exact atRC HO929); (case side2 => exact (Kd.R_reads' HO929.out).2.1); rintro e w' ⟨rfl, ⟨nd, rfl⟩⟩) | (go_at_call 45; (with_reducible refine (impl_IsCircleSet.calls k t926 _ _ t927 true _ ?side1 ?side2 A43.out).mono ?_); (case side1 => exact atRC HO929); (case side2 => exact (Kd.R_reads' HO929.out).2.1); rintro e w' ⟨rfl, ⟨nd, rfl⟩⟩) | (go_at_call 46; (with_reducible refine (spec_IsCircleSet.calls k t926 _ _ t927 true _ ?side1 ?side2 A44.out).mono ?_); (case side1 => exact atRC HO929); (case side2 => exact (Kd.R_reads' HO929.out).2.1); rintro e w' ⟨rfl, ⟨nd, rfl⟩⟩))
                    go_meet
                    case rel => exact ⟨_, ((t955 != true)), eqd, H', ⟨leD⟩, ⟨atR HO929⟩, ⟨atR HO941⟩, ⟨atR HO949⟩, ⟨atB HB⟩⟩
               ·replace c46 := Bool.eq_false_iff.mpr c46
                subst c46
                obtain rfl : t937 = false := (by simpa using c31b0)
                obtain rfl : t960 = false := (by simpa using c42b0)
                obtain rfl : t962 = false := (by simpa using c45b0)
                rw [if_neg (show ¬ (false = true) by decide)] at H
                by_cases c54 : (t931 != false) = true
                ·rw [if_pos c54] at H
                 have c54b0 : (t931 != false) = true := c54
                 (try (have c54b1 : decide (t931 = false) = false := by simpa using c54))
                 (try (have c54b2 : (t931 == false) = false := by simpa using c54))
                 (try (have c54b3 : ¬ (t931 = false) := by simpa using c54))
                 clear c54
                 exact absurd (H.trans (congrArg some HT.out)) (laws_FnCirclesDiffer.j0_no k l1 t926 t927 t930 t931 false t938 t946 t954)
                ·rw [if_neg c54] at H
                 have c54b0 : (t931 != false) = false := by simpa using c54
                 (try (have c54b1 : decide (t931 = false) = true := by simpa using c54))
                 (try (have c54b2 : (t931 == false) = true := by simpa using c54))
                 clear c54
                 by_cases c55 : (t939 != false) = true
                 ·rw [if_pos c55] at H
                  have c55b0 : (t939 != false) = true := c55
                  (try (have c55b1 : decide (t939 = false) = false := by simpa using c55))
                  (try (have c55b2 : (t939 == false) = false := by simpa using c55))
                  (try (have c55b3 : ¬ (t939 = false) := by simpa using c55))
                  clear c55
                  exact absurd (H.trans (congrArg some HT.out)) (laws_FnCirclesDiffer.j0_no k l1 t926 t927 t930 t931 false t938 t946 t954)
                 ·rw [if_neg c55] at H
                  have c55b0 : (t939 != false) = false := by simpa using c55
                  (try (have c55b1 : decide (t939 = false) = true := by simpa using c55))
                  (try (have c55b2 : (t939 == false) = true := by simpa using c55))
                  clear c55
                  by_cases c56 : (t947 != false) = true
                  ·rw [if_pos c56] at H
                   have c56b0 : (t947 != false) = true := c56
                   (try (have c56b1 : decide (t947 = false) = false := by simpa using c56))
                   (try (have c56b2 : (t947 == false) = false := by simpa using c56))
                   (try (have c56b3 : ¬ (t947 = false) := by simpa using c56))
                   clear c56
                   exact absurd (H.trans (congrArg some HT.out)) (laws_FnCirclesDiffer.j0_no k l1 t926 t927 t930 t931 false t938 t946 t954)
                  ·rw [if_neg c56] at H
                   have c56b0 : (t947 != false) = false := by simpa using c56
                   (try (have c56b1 : decide (t947 = false) = true := by simpa using c56))
                   (try (have c56b2 : (t947 == false) = true := by simpa using c56))
                   clear c56
                   have H' := Aside0.mk H
                   clear H
                   obtain ⟨Ao57, co57, eo57⟩ := Kd.R_slice HO941.out
                   subst eo57
                   obtain ⟨Ao58, co58, eo58⟩ := Kd.R_slice HO944.out
                   subst eo58
                   as_aux_lemma =>
                    go_wp2_with (first | (go_at_call 44; (with_reducible refine (laws_zSame.calls k _ _ t938 _ _ t942 true _ ?side1 ?side2 ?side3 ?side4 A34.out).mono ?_); (case side1 => exact atRC HO941); (case side2 => exact (Kd.R_reads' HO941.out).2.1); (case side3 => exact atRC HO944); (case side4 => exact (Kd.R_reads' HO944.out).2.1); rintro e w' ⟨rfl, ⟨nd, rfl⟩⟩; obtain ⟨Ao59, co59, eo59⟩ := Kd.R_slice HO949.out; subst eo59; obtain ⟨Ao60, co60, eo60⟩ := Kd.R_slice HO953.out; subst eo60) | (go_at_call 44; (with_reducible refine (laws_zSame.calls k _ _ t946 _ _ t950 true _ ?side1 ?side2 ?side3 ?side4 A37.out).mono ?_); (case side1 => exact atRC HO949); (case side2 => exact (Kd.R_reads' HO949.out).2.1); (case side3 => exact atRC HO953); (case side4 => exact (Kd.R_reads' HO953.out).2.1); rintro e w' ⟨rfl, ⟨nd, rfl⟩⟩) | (go_at_call 45; (with_reducible refine (impl_IsCircleSet.calls k t926 _ _ t927 false _ ?side1 ?side2 A41.out).mono ?_); (case side1 => exact atRC HO929); (case side2 => exact (Kd.R_reads' HO929.out).2.1); rintro e w' ⟨rfl, ⟨nd, rfl⟩⟩) | (go_at_call 45; (with_reducible refine (impl_IsCircleSet.calls k t926 _ _ t927 false _ ?side1 ?side2 A43.out).mono ?_); (case side1 => exact atRC HO929); (case side2 => exact (Kd.R_reads' HO929.out).2.1); rintro e w' ⟨rfl, ⟨nd, rfl⟩⟩) | (go_at_call 46; (with_reducible refine (spec_IsCircleSet.calls k t926 _ _ t927 false _ ?side1 ?side2 A44.out).mono ?_); (case side1 => exact atRC HO929); (case side2 => exact (Kd.R_reads' HO929.out).2.1); rintro e w' ⟨rfl, ⟨nd, rfl⟩⟩))
                    go_meet
                    case rel => exact ⟨_, ((t955 != false)), eqd, H', ⟨leD⟩, ⟨atR HO929⟩, ⟨atR HO941⟩, ⟨atR HO949⟩, ⟨atB HB⟩⟩
          ·replace c38 := Bool.eq_false_iff.mpr c38
           subst c38
           rw [if_neg (show ¬ (false = true) by decide)] at H
           exact absurd (H.trans (congrArg some HT.out)) (laws_FnCirclesDiffer.j0_no k l1 t926 t927 t930 t931 t935 t938 t946 t954)
        ·replace c35 := Bool.eq_false_iff.mpr c35
         subst c35
         rw [if_neg (show ¬ (false = true) by decide)] at H
         exact absurd (H.trans (congrArg some HT.out)) (laws_FnCirclesDiffer.j0_no k l1 t926 t927 t930 t931 t935 t938 t946 t954)
    ·rw [if_neg c30] at H
     have c30b0 : (t930 == t932) = false := beq_eq_false_iff_ne.mpr c30
     have c30b1 : (t930 != t932) = true := bne_iff_ne.mpr c30
     exact absurd (H.trans (congrArg some HT.out)) (laws_FnCirclesDiffer.j0_no k l1 t926 t927 t930 t931 t935 t938 t946 t954)
  case rest => as_aux_lemma =>
   clear HC16
   try clear c1
   try clear c2
   try clear p2
   try clear c3
   try clear c4
   try clear c5
   try clear c29
   try clear c29b0
   try clear c29b1
   try clear c29b2
   try clear c30
   try clear c30b0
   try clear c30b1
   try clear c31
   try clear c31b0
   try clear c31b1
   try clear c31b2
   try clear c32
   try clear c32b0
   try clear c32b1
   try clear c32b2
   try clear c33
   try clear c33b0
   try clear c33b1
   try clear c33b2
   try clear c34
   try clear c35
   try clear c36
   try clear c36b0
   try clear c36b1
   try clear c36b2
   try clear c37
   try clear c38
   try clear c39
   try clear c39b0
   try clear c39b1
   try clear c39b2
   try clear c40
   try clear c40b0
   try clear c40b1
   try clear c40b2
   try clear c41
   try clear c42
   try clear c42b0
   try clear c42b1
   try clear c42b2
   try clear c43
   try clear c45
   try clear c45b0
   try clear c45b1
   try clear c45b2
   try clear c46
   try clear c47
   try clear c47b0
   try clear c47b1
   try clear c47b2
   try clear c48
   try clear c48b0
   try clear c48b1
   try clear c48b2
   try clear c49
   try clear c49b0
   try clear c49b1
   try clear c49b2
   try clear c54
   try clear c54b0
   try clear c54b1
   try clear c54b2
   try clear c55
   try clear c55b0
   try clear c55b1
   try clear c55b2
   try clear c56
   try clear c56b0
   try clear c56b1
   try clear c56b2
   obtain ⟨kq, x224_15, rfl, HA, HJ15, HO_6, HO_15, HO_19, HB⟩ := hcut
   cases kq with
   | zero => exact absurd HA.out (by simp [laws_FnCirclesDiffer.j0])
   | succ kj15 =>
    have H := HA.out
    clear HA
    simp only [laws_FnCirclesDiffer.j0] at H
    by_cases c61 : x224_15 = true
    ·subst c61
     rw [if_pos rfl] at H
     exact absurd ((Option.some.inj H).trans HT.out) (by decide)
    ·replace c61 := Bool.eq_false_iff.mpr c61
     subst c61
     rw [if_neg (show ¬ (false = true) by decide)] at H
     have HC62 := Aside0.mk H
     clear H
     go_upto_if 225 with (fail)
     go_cut [] (fun wc => ∃ (kq : Nat), Aside0 (laws_FnCirclesDiffer.j5 kq l1 t926 t927 t930 t931 = some r) ∧ Aside0 (kq ≤ kj15) ∧ Aside0 (Kd.R (Kd.int .i64) 3 wc w.heap.size (fun _ => True) (.slice Ao18 t927.length co18) t927) ∧ Aside0 (Below w.heap.size w wc))
     case first => as_aux_lemma =>
      have H := HC62.out
      clear HC62
      by_cases c63 : t935 = true
      ·subst c63
       rw [if_pos rfl] at H
       have H' := Aside0.mk H
       clear H
       obtain ⟨Ao64, co64, eo64⟩ := Kd.R_slice HO_15.out
       subst eo64
       as_aux_lemma =>
        go_wp2
        go_loopg [28, 230] kj15 (fun kq v28 v230 w' => ∃ (x28_2 : Int) (x230_2 : Int), v28 = .int .i64 x28_2 ∧ v230 = .int .i64 x230_2 ∧ Aside0 (laws_FnCirclesDiffer.l0 kq l1 t926 t927 t930 t931 t938 t946 t954 (t927.length : Int) x28_2 t938 (t938.length : Int) x230_2 = some r) ∧ Aside0 (kq ≤ kj15) ∧ Aside0 (Kd.R (Kd.int .i64) 3 w' w.heap.size (fun _ => True) (.slice Ao18 t927.length co18) t927) ∧ Aside0 (Kd.R (Kd.int .i64) 3 w' w.heap.size (fun _ => True) (.slice Ao64 t938.length co64) t938) ∧ Aside0 (Kd.R (Kd.int .i64) 3 w' w.heap.size (fun _ => True) v948 t946) ∧ Aside0 (Kd.R (Kd.int .i64) 3 w' w.heap.size (fun _ => True) (.slice Ao64 t938.length co64) t938) ∧ Aside0 (Below w.heap.size w w'))
        case atStart => exact ⟨(0), (0), eqd, eqd, H', ⟨Nat.le_refl _⟩, ⟨atR HO_6⟩, ⟨atR HO_15⟩, ⟨atR HO_19⟩, ⟨atR HO_15⟩, ⟨atB HB⟩⟩
        case round => as_aux_lemma =>
         clear H'
         try clear c1
         try clear c2
         try clear p2
         try clear c3
         try clear c4
         try clear c5
         try clear c6
         try clear c29
         try clear c29b0
         try clear c29b1
         try clear c29b2
         try clear c30
         try clear c30b0
         try clear c30b1
         try clear c31
         try clear c31b0
         try clear c31b1
         try clear c31b2
         try clear c32
         try clear c32b0
         try clear c32b1
         try clear c32b2
         try clear c33
         try clear c33b0
         try clear c33b1
         try clear c33b2
         try clear c34
         try clear c35
         try clear c36
         try clear c36b0
         try clear c36b1
         try clear c36b2
         try clear c37
         try clear c38
         try clear c39
         try clear c39b0
         try clear c39b1
         try clear c39b2
         try clear c40
         try clear c40b0
         try clear c40b1
         try clear c40b2
         try clear c41
         try clear c42
         try clear c42b0
         try clear c42b1
         try clear c42b2
         try clear c43
         try clear c45
         try clear c45b0
         try clear c45b1
         try clear c45b2
         try clear c46
         try clear c47
         try clear c47b0
         try clear c47b1
         try clear c47b2
         try clear c48
         try clear c48b0
         try clear c48b1
         try clear c48b2
         try clear c49
         try clear c49b0
         try clear c49b1
         try clear c49b2
         try clear c54
         try clear c54b0
         try clear c54b1
         try clear c54b2
         try clear c55
         try clear c55b0
         try clear c55b1
         try clear c55b2
         try clear c56
         try clear c56b0
         try clear c56b1
         try clear c56b2
         try clear c61
         try clear c63
         try clear p2
         obtain ⟨x28_2, x230_2, rfl, rfl, HA, HK2, HO_6, HO_15, HO_19, HO_228, HB⟩ := hrel
         cases gk with
         | zero => exact absurd HA.out (by simp [laws_FnCirclesDiffer.l0])
         | succ k2 =>
          have H := HA.out
          clear HA
          simp only [laws_FnCirclesDiffer.l0] at H
          by_cases c65 : x230_2 < (t938.length : Int)
          ·rw [if_pos c65] at H
           have c65b0 : decide (x230_2 < (t938.length : Int)) = true := decide_eq_true c65
           clear c65
           (first | rw [c65b0] | (simp only [i64_w, i32_w]; rw [c65b0]) | skip)
           by_cases c66 : 0 ≤ x230_2
           ·rw [if_pos c66] at H
            have c66b0 : decide (0 ≤ x230_2) = true := decide_eq_true c66
            clear c66
            by_cases c67 : x230_2 < (t938.length : Int)
            ·rw [if_pos c67] at H
             have c67b0 : decide (x230_2 < (t938.length : Int)) = true := decide_eq_true c67
             clear c67
             have HC68 := Aside0.mk H
             clear H
             have p963 : 0 ≤ (x230_2 : Int) := ofd
             have q963 : x230_2 < (t938.length : Int) := ofd
             obtain ⟨ad963, e963, hx963_0⟩ := Kd.at_int (Kd.R_reads' HO_228.out).2.2 x230_2 p963 q963
             cases e963
             replace p963 := eq_true p963
             replace q963 := eq_true q963
             go_upto_region 22 with (fail)
             go_cut [254] (fun v254 wc => ∃ (kq : Nat) (x254_67 : Bool), v254 = .bool x254_67 ∧ Aside0 (laws_FnCirclesDiffer.j2 kq l1 t926 t927 t930 t931 t938 t946 t954 (t927.length : Int) x28_2 (rd t938 x230_2) t938 (t938.length : Int) x230_2 x254_67 = some r) ∧ Aside0 (kq ≤ k2) ∧ Aside0 (Kd.R (Kd.int .i64) 3 wc w.heap.size (fun _ => True) (.slice Ao18 t927.length co18) t927) ∧ Aside0 (Kd.R (Kd.int .i64) 3 wc w.heap.size (fun _ => True) (.slice (some ad963) t938.length co64) t938) ∧ Aside0 (Kd.R (Kd.int .i64) 3 wc w.heap.size (fun _ => True) v948 t946) ∧ Aside0 (Kd.R (Kd.int .i64) 3 wc w.heap.size (fun _ => True) (.slice (some ad963) t938.length co64) t938) ∧ Aside0 (Below w.heap.size w wc))
             case first => as_aux_lemma =>
              have H := HC68.out
              clear HC68
              by_cases c69 : x230_2 = 0
              ·rw [if_pos c69] at H
               have c69b0 : (x230_2 == 0) = true := beq_iff_eq.mpr c69
               have c69b1 : (x230_2 != 0) = false := bne_eq_false_iff_eq.mpr c69
               clear c69
               (first | rw [c69b0] | (simp only [i64_w, i32_w]; rw [c69b0]) | skip)
               by_cases c70 : (rd t938 x230_2) = 0
               ·rw [if_pos c70] at H
                have c70b0 : ((rd t938 x230_2) == 0) = true := beq_iff_eq.mpr c70
                have c70b1 : ((rd t938 x230_2) != 0) = false := bne_eq_false_iff_eq.mpr c70
                clear c70
                by_cases c71 : x230_2 > 0
                ·rw [if_pos c71] at H
                 have c71b0 : decide (0 < x230_2) = true := decide_eq_true c71
                 clear c71
                 obtain ⟨ji72, hji72⟩ : ∃ j_ : Int, (wrap64 (t926 - x230_2)) = j_ := ⟨_, rfl⟩
                 replace H : (if 0 ≤ (ji72) then (if (ji72) < (t938.length : Int) then (laws_FnCirclesDiffer.j2 k2 l1 t926 t927 t930 t931 t938 t946 t954 (t927.length : Int) x28_2 (rd t938 x230_2) t938 (t938.length : Int) x230_2 ((rd t938 x230_2) != (rd t938 (ji72)))) else (none)) else (none)) = some r := by first | (rw [hji72] at H; exact H) | (simp only [hji72] at H ⊢; exact H)
                 have hji72w : (IntKind.i64.wrap (t926 - x230_2)) = ji72 := (i64_w _).trans hji72
                 by_cases c73 : 0 ≤ (ji72)
                 ·rw [if_pos c73] at H
                  have c73b0 : decide (0 ≤ (ji72)) = true := decide_eq_true c73
                  clear c73
                  by_cases c74 : (ji72) < (t938.length : Int)
                  ·rw [if_pos c74] at H
                   have c74b0 : decide ((ji72) < (t938.length : Int)) = true := decide_eq_true c74
                   clear c74
                   have H' := Aside0.mk H
                   clear H
                   have p964 : 0 ≤ ((ji72) : Int) := ofd
                   have q964 : (ji72) < (t938.length : Int) := ofd
                   obtain ⟨ad964, e964, hx964_0⟩ := Kd.at_int (Kd.R_reads' HO_15.out).2.2 (ji72) p964 q964
                   obtain rfl : ad963 = ad964 := (by injection e964)
                   replace p964 := eq_true p964
                   replace q964 := eq_true q964
                   as_aux_lemma =>
                    go_wp2
                    go_meet
                    case rel => exact ⟨_, (((rd t938 x230_2) != (rd t938 (ji72)))), (by first | rfl | (simp; done) | (simp only [← hji72] <;> (first | rfl | simp)) | (simp [*]; done)), H', ⟨by have := HJ15.out; have := HK2.out; first | omega | exact Nat.le_refl _⟩, ⟨atR HO_6⟩, ⟨atR HO_15⟩, ⟨atR HO_19⟩, ⟨atR HO_228⟩, ⟨atB HB⟩⟩
                  ·rw [if_neg c74] at H
                   exact absurd H (by simp)
                 ·rw [if_neg c73] at H
                  exact absurd H (by simp)
                ·rw [if_neg c71] at H
                 have c71b0 : decide (0 < x230_2) = false := decide_eq_false c71
                 clear c71
                 have H' := Aside0.mk H
                 clear H
                 as_aux_lemma =>
                  go_wp2
                  go_meet
                  case rel => exact ⟨_, (false), eqd, H', ⟨by have := HJ15.out; have := HK2.out; first | omega | exact Nat.le_refl _⟩, ⟨atR HO_6⟩, ⟨atR HO_15⟩, ⟨atR HO_19⟩, ⟨atR HO_228⟩, ⟨atB HB⟩⟩
               ·rw [if_neg c70] at H
                have c70b0 : ((rd t938 x230_2) == 0) = false := beq_eq_false_iff_ne.mpr c70
                have c70b1 : ((rd t938 x230_2) != 0) = true := bne_iff_ne.mpr c70
                exact absurd (H.trans (congrArg some HT.out)) (laws_FnCirclesDiffer.j2_no k2 l1 t926 t927 t930 t931 t938 t946 t954 (t927.length : Int) x28_2 (rd t938 x230_2) t938 (t938.length : Int) x230_2)
              ·rw [if_neg c69] at H
               have c69b0 : (x230_2 == 0) = false := beq_eq_false_iff_ne.mpr c69
               have c69b1 : (x230_2 != 0) = true := bne_iff_ne.mpr c69
               (first | rw [c69b0] | (simp only [i64_w, i32_w]; rw [c69b0]) | skip)
               by_cases c75 : x230_2 > 0
               ·rw [if_pos c75] at H
                have c75b0 : decide (0 < x230_2) = true := decide_eq_true c75
                clear c75
                obtain ⟨ji76, hji76⟩ : ∃ j_ : Int, (wrap64 (t926 - x230_2)) = j_ := ⟨_, rfl⟩
                replace H : (if 0 ≤ (ji76) then (if (ji76) < (t938.length : Int) then (laws_FnCirclesDiffer.j2 k2 l1 t926 t927 t930 t931 t938 t946 t954 (t927.length : Int) x28_2 (rd t938 x230_2) t938 (t938.length : Int) x230_2 ((rd t938 x230_2) != (rd t938 (ji76)))) else (none)) else (none)) = some r := by first | (rw [hji76] at H; exact H) | (simp only [hji76] at H ⊢; exact H)
                have hji76w : (IntKind.i64.wrap (t926 - x230_2)) = ji76 := (i64_w _).trans hji76
                by_cases c77 : 0 ≤ (ji76)
                ·rw [if_pos c77] at H
                 have c77b0 : decide (0 ≤ (ji76)) = true := decide_eq_true c77
                 clear c77
                 by_cases c78 : (ji76) < (t938.length : Int)
                 ·rw [if_pos c78] at H
                  have c78b0 : decide ((ji76) < (t938.length : Int)) = true := decide_eq_true c78
                  clear c78
                  have H' := Aside0.mk H
                  clear H
                  have p965 : 0 ≤ ((ji76) : Int) := ofd
                  have q965 : (ji76) < (t938.length : Int) := ofd
                  obtain ⟨ad965, e965, hx965_0⟩ := Kd.at_int (Kd.R_reads' HO_15.out).2.2 (ji76) p965 q965
                  obtain rfl : ad963 = ad965 := (by injection e965)
                  replace p965 := eq_true p965
                  replace q965 := eq_true q965
                  as_aux_lemma =>
                   go_wp2
                   go_meet
                   case rel => exact ⟨_, (((rd t938 x230_2) != (rd t938 (ji76)))), (by first | rfl | (simp; done) | (simp only [← hji76] <;> (first | rfl | simp)) | (simp [*]; done)), H', ⟨by have := HJ15.out; have := HK2.out; first | omega | exact Nat.le_refl _⟩, ⟨atR HO_6⟩, ⟨atR HO_15⟩, ⟨atR HO_19⟩, ⟨atR HO_228⟩, ⟨atB HB⟩⟩
                 ·rw [if_neg c78] at H
                  exact absurd H (by simp)
                ·rw [if_neg c77] at H
                 exact absurd H (by simp)
               ·rw [if_neg c75] at H
                have c75b0 : decide (0 < x230_2) = false := decide_eq_false c75
                clear c75
                have H' := Aside0.mk H
                clear H
                as_aux_lemma =>
                 go_wp2
                 go_meet
                 case rel => exact ⟨_, (false), eqd, H', ⟨by have := HJ15.out; have := HK2.out; first | omega | exact Nat.le_refl _⟩, ⟨atR HO_6⟩, ⟨atR HO_15⟩, ⟨atR HO_19⟩, ⟨atR HO_228⟩, ⟨atB HB⟩⟩
             case rest => as_aux_lemma =>
              clear HC68
              try clear c1
              try clear c2
              try clear p2
              try clear c3
              try clear c4
              try clear c5
              try clear c6
              try clear p6
              try clear c7
              try clear p9
              try clear q9
              try clear hx9
              try clear c29
              try clear c29b0
              try clear c29b1
              try clear c29b2
              try clear c30
              try clear c30b0
              try clear c30b1
              try clear c31
              try clear c31b0
              try clear c31b1
              try clear c31b2
              try clear c32
              try clear c32b0
              try clear c32b1
              try clear c32b2
              try clear c33
              try clear c33b0
              try clear c33b1
              try clear c33b2
              try clear c34
              try clear c35
              try clear c36
              try clear c36b0
              try clear c36b1
              try clear c36b2
              try clear c37
              try clear c38
              try clear c39
              try clear c39b0
              try clear c39b1
              try clear c39b2
              try clear c40
              try clear c40b0
              try clear c40b1
              try clear c40b2
              try clear c41
              try clear c42
              try clear c42b0
              try clear c42b1
              try clear c42b2
              try clear c43
              try clear c45
              try clear c45b0
              try clear c45b1
              try clear c45b2
              try clear c46
              try clear c47
              try clear c47b0
              try clear c47b1
              try clear c47b2
              try clear c48
              try clear c48b0
              try clear c48b1
              try clear c48b2
              try clear c49
              try clear c49b0
              try clear c49b1
              try clear c49b2
              try clear c54
              try clear c54b0
              try clear c54b1
              try clear c54b2
              try clear c55
              try clear c55b0
              try clear c55b1
              try clear c55b2
              try clear c56
              try clear c56b0
              try clear c56b1
              try clear c56b2
              try clear c61
              try clear c63
              try clear p64
              try clear c65
              try clear c65b0
              try clear c66
              try clear c66b0
              try clear c67
              try clear c67b0
              try clear c69
              try clear c69b0
              try clear c69b1
              try clear c70
              try clear c70b0
              try clear c70b1
              try clear c71
              try clear c71b0
              try clear c73
              try clear c73b0
              try clear c74
              try clear c74b0
              try clear c75
              try clear c75b0
              try clear c77
              try clear c77b0
              try clear c78
              try clear c78b0
              try clear hx963_0
              try clear hx964_0
              try clear hx965_0
              try clear p2
              try clear p963
              try clear p964
              try clear p965
              try clear q963
              try clear q964
              try clear q965
              obtain ⟨kq, x254_67, rfl, HA, HJ67, HO_6, HO_15, HO_19, HO_228, HB⟩ := hcut
              cases kq with
              | zero => exact absurd HA.out (by simp [laws_FnCirclesDiffer.j2])
              | succ kj67 =>
               have H := HA.out
               clear HA
               simp only [laws_FnCirclesDiffer.j2] at H
               by_cases c79 : x254_67 = true
               ·subst c79
                rw [if_pos rfl] at H
                exact absurd ((Option.some.inj H).trans HT.out) (by decide)
               ·replace c79 := Bool.eq_false_iff.mpr c79
                subst c79
                rw [if_neg (show ¬ (false = true) by decide)] at H
                by_cases c80 : (rd t938 x230_2) > x28_2
                ·rw [if_pos c80] at H
                 have c80b0 : decide (x28_2 < (rd t938 x230_2)) = true := decide_eq_true c80
                 clear c80
                 have H' := Aside0.mk H
                 clear H
                 as_aux_lemma =>
                  go_wp2
                  go_roundg kj67
                  case measure => have := HJ15.out; have := HK2.out; have := HJ67.out; omega
                  case rel => exact ⟨((rd t938 x230_2)), (wrap64 (x230_2 + 1)), eqd, eqd, H', ⟨by have := HJ15.out; have := HK2.out; have := HJ67.out; omega⟩, ⟨atR HO_6⟩, ⟨atR HO_15⟩, ⟨atR HO_19⟩, ⟨atR HO_228⟩, ⟨atB HB⟩⟩
                ·rw [if_neg c80] at H
                 have c80b0 : decide (x28_2 < (rd t938 x230_2)) = false := decide_eq_false c80
                 clear c80
                 have H' := Aside0.mk H
                 clear H
                 as_aux_lemma =>
                  go_wp2
                  go_roundg kj67
                  case measure => have := HJ15.out; have := HK2.out; have := HJ67.out; omega
                  case rel => exact ⟨(x28_2), (wrap64 (x230_2 + 1)), eqd, eqd, H', ⟨by have := HJ15.out; have := HK2.out; have := HJ67.out; omega⟩, ⟨atR HO_6⟩, ⟨atR HO_15⟩, ⟨atR HO_19⟩, ⟨atR HO_228⟩, ⟨atB HB⟩⟩
            ·rw [if_neg c67] at H
             exact absurd H (by simp)
           ·rw [if_neg c66] at H
            exact absurd H (by simp)
          ·rw [if_neg c65] at H
           have c65b0 : decide (x230_2 < (t938.length : Int)) = false := decide_eq_false c65
           clear c65
           (first | rw [c65b0] | (simp only [i64_w, i32_w]; rw [c65b0]) | skip)
           by_cases c81 : (t938.length : Int) = t926
           ·rw [if_pos c81] at H
            have c81b0 : ((t938.length : Int) == t926) = true := beq_iff_eq.mpr c81
            have c81b1 : ((t938.length : Int) != t926) = false := bne_eq_false_iff_eq.mpr c81
            clear c81
            replace H := Option.bind_eq_some_iff.mp H
            obtain ⟨t966, A820, H⟩ := H
            (try dsimp only at H)
            have A82 := Aside0.mk A820
            clear A820
            by_cases c83 : t966 = (wrap64 ((t927.length : Int) * (wrap64 ((t927.length : Int) - 1))))
            ·rw [if_pos c83] at H
             have c83b0 : (t966 == (wrap64 ((t927.length : Int) * (wrap64 ((t927.length : Int) - 1))))) = true := beq_iff_eq.mpr c83
             have c83b1 : (t966 != (wrap64 ((t927.length : Int) * (wrap64 ((t927.length : Int) - 1))))) = false := bne_eq_false_iff_eq.mpr c83
             clear c83
             by_cases c84 : (t954 != (decide (x28_2 ≤ 1))) = true
             ·rw [if_pos c84] at H
              have c84b0 : (t954 != (decide (x28_2 ≤ 1))) = true := c84
              (try (have c84b1 : decide (t954 = (decide (x28_2 ≤ 1))) = false := by simpa using c84))
              (try (have c84b2 : (t954 == (decide (x28_2 ≤ 1))) = false := by simpa using c84))
              (try (have c84b3 : ¬ (t954 = (decide (x28_2 ≤ 1))) := by simpa using c84))
              clear c84
              exact absurd ((Option.some.inj H).trans HT.out) (by decide)
             ·rw [if_neg c84] at H
              have c84b0 : (t954 != (decide (x28_2 ≤ 1))) = false := by simpa using c84
              (try (have c84b1 : decide (t954 = (decide (x28_2 ≤ 1))) = true := by simpa using c84))
              (try (have c84b2 : (t954 == (decide (x28_2 ≤ 1))) = true := by simpa using c84))
              clear c84
              by_cases c85 : (t946.length : Int) < 1
              ·rw [if_pos c85] at H
               have c85b0 : decide ((t946.length : Int) < 1) = true := decide_eq_true c85
               have c85b1 : decide (t946.length < 1) = true := decide_eq_true (by omega)
               clear c85
               exact absurd ((Option.some.inj H).trans HT.out) (by decide)
              ·rw [if_neg c85] at H
               have c85b0 : decide ((t946.length : Int) < 1) = false := decide_eq_false c85
               have c85b1 : decide (t946.length < 1) = false := decide_eq_false (by omega)
               clear c85
               by_cases c86 : 0 < (t946.length : Int)
               ·rw [if_pos c86] at H
                have c86b0 : decide (0 < (t946.length : Int)) = true := decide_eq_true c86
                have c86b1 : decide (0 < t946.length) = true := decide_eq_true (by omega)
                clear c86
                by_cases c87 : (rd t946 0) = 1
                ·rw [if_pos c87] at H
                 have c87b0 : ((rd t946 0) == 1) = true := beq_iff_eq.mpr c87
                 have c87b1 : ((rd t946 0) != 1) = false := bne_eq_false_iff_eq.mpr c87
                 clear c87
                 have H' := Aside0.mk H
                 clear H
                 as_aux_lemma =>
                  go_wp2_with (first | (go_at_call 47; (with_reducible refine (laws_zSum.calls k2 _ _ t938 t966 _ ?side1 ?side2 A82.out).mono ?_); (case side1 => exact atRC HO_15); (case side2 => exact (Kd.R_reads' HO_15.out).2.1); rintro e w' ⟨rfl, ⟨nd, rfl⟩⟩; obtain ⟨Ao88, co88, eo88⟩ := Kd.R_slice HO_19.out; subst eo88; have p967 : 0 ≤ (0 : Int) := (by omega); have q967 : 0 < (t946.length : Int) := ofd; obtain ⟨ad967, e967, hx967_0⟩ := Kd.at_int (Kd.R_reads' HO_19.out).2.2 0 p967 q967; cases e967; have qi967 : (0 < t946.length) = True := eq_true (by omega); (try rw [show ((0 : Int)).toNat = 0 from rfl] at hx967_0); (try rw [Addr.add_zero'] at hx967_0); replace p967 := eq_true p967; replace q967 := eq_true q967))
                  go_loopg [292] k2 (fun kq v292 w' => ∃ (x292_3 : Int), v292 = .int .i64 x292_3 ∧ Aside0 (laws_FnCirclesDiffer.l1 kq l1 t926 t927 t930 t931 t938 t946 t946 (t946.length : Int) x292_3 = some r) ∧ Aside0 (kq ≤ k2) ∧ Aside0 (Kd.R (Kd.int .i64) 3 w' w.heap.size (fun _ => True) (.slice Ao18 t927.length co18) t927) ∧ Aside0 (Kd.R (Kd.int .i64) 3 w' w.heap.size (fun _ => True) (.slice Ao64 t938.length co64) t938) ∧ Aside0 (Kd.R (Kd.int .i64) 3 w' w.heap.size (fun _ => True) (.slice (some ad967) t946.length co88) t946) ∧ Aside0 (Kd.R (Kd.int .i64) 3 w' w.heap.size (fun _ => True) (.slice (some ad967) t946.length co88) t946) ∧ Aside0 (Below w.heap.size w w'))
                  case atStart => exact ⟨(0), eqd, H', ⟨Nat.le_refl _⟩, ⟨atR HO_6⟩, ⟨atR HO_15⟩, ⟨atR HO_19⟩, ⟨atR HO_19⟩, ⟨atB HB⟩⟩
                  case round => as_aux_lemma =>
                   clear H'
                   try clear c1
                   try clear c2
                   try clear p2
                   try clear c3
                   try clear c4
                   try clear c5
                   try clear c6
                   try clear p6
                   try clear c7
                   try clear c8
                   try clear p9
                   try clear q9
                   try clear hx9
                   try clear qi9
                   try clear c29
                   try clear c29b0
                   try clear c29b1
                   try clear c29b2
                   try clear c30
                   try clear c30b0
                   try clear c30b1
                   try clear c31
                   try clear c31b0
                   try clear c31b1
                   try clear c31b2
                   try clear c32
                   try clear c32b0
                   try clear c32b1
                   try clear c32b2
                   try clear c33
                   try clear c33b0
                   try clear c33b1
                   try clear c33b2
                   try clear c34
                   try clear c35
                   try clear c36
                   try clear c36b0
                   try clear c36b1
                   try clear c36b2
                   try clear c37
                   try clear c38
                   try clear c39
                   try clear c39b0
                   try clear c39b1
                   try clear c39b2
                   try clear c40
                   try clear c40b0
                   try clear c40b1
                   try clear c40b2
                   try clear c41
                   try clear c42
                   try clear c42b0
                   try clear c42b1
                   try clear c42b2
                   try clear c43
                   try clear c45
                   try clear c45b0
                   try clear c45b1
                   try clear c45b2
                   try clear c46
                   try clear c47
                   try clear c47b0
                   try clear c47b1
                   try clear c47b2
                   try clear c48
                   try clear c48b0
                   try clear c48b1
                   try clear c48b2
                   try clear c49
                   try clear c49b0
                   try clear c49b1
                   try clear c49b2
                   try clear c54
                   try clear c54b0
                   try clear c54b1
                   try clear c54b2
                   try clear c55
                   try clear c55b0
                   try clear c55b1
                   try clear c55b2
                   try clear c56
                   try clear c56b0
                   try clear c56b1
                   try clear c56b2
                   try clear c61
                   try clear c63
                   try clear p64
                   try clear c65
                   try clear c65b0
                   try clear c66
                   try clear c66b0
                   try clear c67
                   try clear c67b0
                   try clear c69
                   try clear c69b0
                   try clear c69b1
                   try clear c70
                   try clear c70b0
                   try clear c70b1
                   try clear c71
                   try clear c71b0
                   try clear c73
                   try clear c73b0
                   try clear c74
                   try clear c74b0
                   try clear c75
                   try clear c75b0
                   try clear c77
                   try clear c77b0
                   try clear c78
                   try clear c78b0
                   try clear c79
                   try clear c80
                   try clear c80b0
                   try clear c81
                   try clear c81b0
                   try clear c81b1
                   try clear c83
                   try clear c83b0
                   try clear c83b1
                   try clear c84
                   try clear c84b0
                   try clear c84b1
                   try clear c84b2
                   try clear c85
                   try clear c85b0
                   try clear c85b1
                   try clear c86
                   try clear c86b0
                   try clear c86b1
                   try clear c87
                   try clear c87b0
                   try clear c87b1
                   try clear hx963_0
                   try clear hx964_0
                   try clear hx965_0
                   try clear hx967_0
                   try clear p2
                   try clear p6
                   try clear p64
                   try clear p9
                   try clear p963
                   try clear p964
                   try clear p965
                   try clear p967
                   try clear q9
                   try clear q963
                   try clear q964
                   try clear q965
                   try clear q967
                   obtain ⟨x292_3, rfl, HA, HK3, HO_6, HO_15, HO_19, HO_290, HB⟩ := hrel
                   cases gk with
                   | zero => exact absurd HA.out (by simp [laws_FnCirclesDiffer.l1])
                   | succ k3 =>
                    have H := HA.out
                    clear HA
                    simp only [laws_FnCirclesDiffer.l1] at H
                    by_cases c89 : x292_3 < (t946.length : Int)
                    ·rw [if_pos c89] at H
                     have c89b0 : decide (x292_3 < (t946.length : Int)) = true := decide_eq_true c89
                     clear c89
                     by_cases c90 : 0 ≤ x292_3
                     ·rw [if_pos c90] at H
                      have c90b0 : decide (0 ≤ x292_3) = true := decide_eq_true c90
                      clear c90
                      by_cases c91 : x292_3 < (t946.length : Int)
                      ·rw [if_pos c91] at H
                       have c91b0 : decide (x292_3 < (t946.length : Int)) = true := decide_eq_true c91
                       clear c91
                       have H' := Aside0.mk H
                       clear H
                       have p968 : 0 ≤ (x292_3 : Int) := ofd
                       have q968 : x292_3 < (t946.length : Int) := ofd
                       obtain ⟨ad968, e968, hx968_0⟩ := Kd.at_int (Kd.R_reads' HO_290.out).2.2 x292_3 p968 q968
                       obtain rfl : ad967 = ad968 := (by injection e968)
                       replace p968 := eq_true p968
                       replace q968 := eq_true q968
                       as_aux_lemma =>
                        go_wp2
                        go_loopg [298] k3 (fun kq v298 w' => ∃ (x298_4 : Int), v298 = .int .i64 x298_4 ∧ Aside0 (laws_FnCirclesDiffer.l2 kq l1 t926 t927 t930 t931 t938 t946 (rd t946 x292_3) t946 (t946.length : Int) x292_3 t946 (t946.length : Int) x298_4 = some r) ∧ Aside0 (kq ≤ k3) ∧ Aside0 (Kd.R (Kd.int .i64) 3 w' w.heap.size (fun _ => True) (.slice Ao18 t927.length co18) t927) ∧ Aside0 (Kd.R (Kd.int .i64) 3 w' w.heap.size (fun _ => True) (.slice Ao64 t938.length co64) t938) ∧ Aside0 (Kd.R (Kd.int .i64) 3 w' w.heap.size (fun _ => True) (.slice (some ad967) t946.length co88) t946) ∧ Aside0 (Kd.R (Kd.int .i64) 3 w' w.heap.size (fun _ => True) (.slice (some ad967) t946.length co88) t946) ∧ Aside0 (Kd.R (Kd.int .i64) 3 w' w.heap.size (fun _ => True) (.slice (some ad967) t946.length co88) t946) ∧ Aside0 (Below w.heap.size w w'))
                        case atStart => exact ⟨(0), eqd, H', ⟨Nat.le_refl _⟩, ⟨atR HO_6⟩, ⟨atR HO_15⟩, ⟨atR HO_19⟩, ⟨atR HO_290⟩, ⟨atR HO_19⟩, ⟨atB HB⟩⟩
                        case round => as_aux_lemma =>
                         clear H'
                         try clear c1
                         try clear c2
                         try clear p2
                         try clear c3
                         try clear c4
                         try clear c5
                         try clear c6
                         try clear p6
                         try clear c7
                         try clear c8
                         try clear c9
                         try clear p9
                         try clear q9
                         try clear hx9
                         try clear qi9
                         try clear c29
                         try clear c29b0
                         try clear c29b1
                         try clear c29b2
                         try clear c30
                         try clear c30b0
                         try clear c30b1
                         try clear c31
                         try clear c31b0
                         try clear c31b1
                         try clear c31b2
                         try clear c32
                         try clear c32b0
                         try clear c32b1
                         try clear c32b2
                         try clear c33
                         try clear c33b0
                         try clear c33b1
                         try clear c33b2
                         try clear c34
                         try clear c35
                         try clear c36
                         try clear c36b0
                         try clear c36b1
                         try clear c36b2
                         try clear c37
                         try clear c38
                         try clear c39
                         try clear c39b0
                         try clear c39b1
                         try clear c39b2
                         try clear c40
                         try clear c40b0
                         try clear c40b1
                         try clear c40b2
                         try clear c41
                         try clear c42
                         try clear c42b0
                         try clear c42b1
                         try clear c42b2
                         try clear c43
                         try clear c45
                         try clear c45b0
                         try clear c45b1
                         try clear c45b2
                         try clear c46
                         try clear c47
                         try clear c47b0
                         try clear c47b1
                         try clear c47b2
                         try clear c48
                         try clear c48b0
                         try clear c48b1
                         try clear c48b2
                         try clear c49
                         try clear c49b0
                         try clear c49b1
                         try clear c49b2
                         try clear c54
                         try clear c54b0
                         try clear c54b1
                         try clear c54b2
                         try clear c55
                         try clear c55b0
                         try clear c55b1
                         try clear c55b2
                         try clear c56
                         try clear c56b0
                         try clear c56b1
                         try clear c56b2
                         try clear c61
                         try clear c63
                         try clear p64
                         try clear c65
                         try clear c65b0
                         try clear c66
                         try clear c66b0
                         try clear c67
                         try clear c67b0
                         try clear c69
                         try clear c69b0
                         try clear c69b1
                         try clear c70
                         try clear c70b0
                         try clear c70b1
                         try clear c71
                         try clear c71b0
                         try clear c73
                         try clear c73b0
                         try clear c74
                         try clear c74b0
                         try clear c75
                         try clear c75b0
                         try clear c77
                         try clear c77b0
                         try clear c78
                         try clear c78b0
                         try clear c79
                         try clear c80
                         try clear c80b0
                         try clear c81
                         try clear c81b0
                         try clear c81b1
                         try clear c83
                         try clear c83b0
                         try clear c83b1
                         try clear c84
                         try clear c84b0
                         try clear c84b1
                         try clear c84b2
                         try clear c85
                         try clear c85b0
                         try clear c85b1
                         try clear c86
                         try clear c86b0
                         try clear c86b1
                         try clear c87
                         try clear c87b0
                         try clear c87b1
                         try clear c89
                         try clear c89b0
                         try clear c90
                         try clear c90b0
                         try clear c91
                         try clear c91b0
                         try clear hx963_0
                         try clear hx964_0
                         try clear hx965_0
                         try clear hx967_0
                         try clear hx968_0
                         try clear p2
                         try clear p6
                         try clear p64
                         try clear p9
                         try clear p963
                         try clear p964
                         try clear p965
                         try clear p967
                         try clear p968
                         try clear q9
                         try clear q963
                         try clear q964
                         try clear q965
                         try clear q967
                         try clear q968
                         obtain ⟨x298_4, rfl, HA, HK4, HO_6, HO_15, HO_19, HO_290, HO_296, HB⟩ := hrel
                         cases gk with
                         | zero => exact absurd HA.out (by simp [laws_FnCirclesDiffer.l2])
                         | succ k4 =>
                          have H := HA.out
                          clear HA
                          simp only [laws_FnCirclesDiffer.l2] at H
                          by_cases c92 : x298_4 < (t946.length : Int)
                          ·rw [if_pos c92] at H
                           have c92b0 : decide (x298_4 < (t946.length : Int)) = true := decide_eq_true c92
                           clear c92
                           by_cases c93 : 0 ≤ x298_4
                           ·rw [if_pos c93] at H
                            have c93b0 : decide (0 ≤ x298_4) = true := decide_eq_true c93
                            clear c93
                            by_cases c94 : x298_4 < (t946.length : Int)
                            ·rw [if_pos c94] at H
                             have c94b0 : decide (x298_4 < (t946.length : Int)) = true := decide_eq_true c94
                             clear c94
                             by_cases c95 : t926 = 0
                             ·rw [if_pos c95] at H
                              exact absurd H (by simp)
                             ·rw [if_neg c95] at H
                              have c95b0 : (t926 == 0) = false := beq_eq_false_iff_ne.mpr c95
                              have c95b1 : (t926 != 0) = true := bne_iff_ne.mpr c95
                              replace H := Option.bind_eq_some_iff.mp H
                              obtain ⟨t970, A960, H⟩ := H
                              (try dsimp only at H)
                              have A96 := Aside0.mk A960
                              clear A960
                              by_cases c97 : t970 = true
                              ·subst c97
                               rw [if_pos rfl] at H
                               have H' := Aside0.mk H
                               clear H
                               have p969 : 0 ≤ (x298_4 : Int) := ofd
                               have q969 : x298_4 < (t946.length : Int) := ofd
                               obtain ⟨ad969, e969, hx969_0⟩ := Kd.at_int (Kd.R_reads' HO_296.out).2.2 x298_4 p969 q969
                               obtain rfl : ad967 = ad969 := (by injection e969)
                               replace p969 := eq_true p969
                               replace q969 := eq_true q969
                               as_aux_lemma =>
                                go_wp2_with (first | ((with_reducible refine gate_callee (f := 48) rfl ?_); refine goesA (some 308) Try.func48 #[.slice (some ad967) t946.length co88, .int .i64 (Int.tmod (wrap64 ((rd t946 x292_3) * (rd t946 x298_4))) t926)] ?_; (with_reducible refine (laws_zHas.calls k4 _ _ t946 (Int.tmod (wrap64 ((rd t946 x292_3) * (rd t946 x298_4))) t926) true _ ?side1 ?side2 A96.out).mono ?_); (case side1 => exact atRC HO_19); (case side2 => exact (Kd.R_reads' HO_19.out).2.1); rintro e w' ⟨rfl, ⟨nd, rfl⟩⟩; refine ⟨_, rfl, ?_⟩))
                                go_roundg k4
                                case measure => have := HJ15.out; have := HK2.out; have := HK3.out; have := HK4.out; omega
                                case rel => exact ⟨(wrap64 (x298_4 + 1)), eqd, H', ⟨by have := HJ15.out; have := HK2.out; have := HK3.out; have := HK4.out; omega⟩, ⟨atR HO_6⟩, ⟨atR HO_15⟩, ⟨atR HO_19⟩, ⟨atR HO_290⟩, ⟨atR HO_296⟩, ⟨atB HB⟩⟩
                              ·replace c97 := Bool.eq_false_iff.mpr c97
                               subst c97
                               rw [if_neg (show ¬ (false = true) by decide)] at H
                               exact absurd ((Option.some.inj H).trans HT.out) (by decide)
                            ·rw [if_neg c94] at H
                             exact absurd H (by simp)
                           ·rw [if_neg c93] at H
                            exact absurd H (by simp)
                          ·rw [if_neg c92] at H
                           have c92b0 : decide (x298_4 < (t946.length : Int)) = false := decide_eq_false c92
                           clear c92
                           have H' := Aside0.mk H
                           clear H
                           as_aux_lemma =>
                            go_wp2
                            go_roundg k4
                            case measure => have := HJ15.out; have := HK2.out; have := HK3.out; have := HK4.out; omega
                            case rel => exact ⟨(wrap64 (x292_3 + 1)), eqd, H', ⟨by have := HJ15.out; have := HK2.out; have := HK3.out; have := HK4.out; omega⟩, ⟨atR HO_6⟩, ⟨atR HO_15⟩, ⟨atR HO_19⟩, ⟨atR HO_290⟩, ⟨atB HB⟩⟩
                      ·rw [if_neg c91] at H
                       exact absurd H (by simp)
                     ·rw [if_neg c90] at H
                      exact absurd H (by simp)
                    ·rw [if_neg c89] at H
                     have c89b0 : decide (x292_3 < (t946.length : Int)) = false := decide_eq_false c89
                     clear c89
                     replace H := Option.bind_eq_some_iff.mp H
                     obtain ⟨⟨t971, t972⟩, A980, H⟩ := H
                     (try dsimp only at H)
                     have A98 := Aside0.mk A980
                     clear A980
                     replace H := Option.bind_eq_some_iff.mp H
                     obtain ⟨⟨t975, t976⟩, A990, H⟩ := H
                     (try dsimp only at H)
                     have A99 := Aside0.mk A990
                     clear A990
                     by_cases c100 : t972 = true
                     ·subst c100
                      rw [if_pos rfl] at H
                      by_cases c101 : t976 = true
                      ·subst c101
                       rw [if_pos rfl] at H
                       replace H := Option.bind_eq_some_iff.mp H
                       obtain ⟨t979, A1020, H⟩ := H
                       (try dsimp only at H)
                       have A102 := Aside0.mk A1020
                       clear A1020
                       by_cases c103 : t979 = true
                       ·subst c103
                        rw [if_pos rfl] at H
                        have H' := Aside0.mk H
                        clear H
                        as_aux_lemma =>
                         go_wp2_with (first | ((with_reducible refine gate_callee (f := 49) rfl ?_); refine goesA (some 317) Try.func49 #[.int .i64 t926, .slice Ao18 t927.length co18, .int .i64 (wrap64 (Int.tdiv t926 2))] ?_; (with_reducible refine (impl_MoveSet.calls k3 t926 _ _ t927 (wrap64 (Int.tdiv t926 2)) t971 true _ ?side1 ?side2 A98.out).mono ?_); (case side1 => exact atRC HO_6); (case side2 => exact (Kd.R_reads' HO_6.out).2.1); rintro e w104 ⟨v973, rfl, ho0, hb⟩; refine ⟨_, rfl, ?_⟩; have HO974 := lowR ho0 HB; replace HO_6 := upR HO_6 hb; replace HO_15 := upR HO_15 hb; replace HO_19 := upR HO_19 hb; replace HO_290 := upR HO_290 hb; replace HB := upB HB hb; (try clear hb); (try clear hb2); (try clear hk); (try clear hi); (try clear ho0); obtain ⟨Ao105, co105, eo105⟩ := Kd.R_slice HO974.out; subst eo105) | ((with_reducible refine gate_callee (f := 38) rfl ?_); refine goesA (some 323) Try.func38 #[.int .i64 t926, .slice Ao105 t971.length co105] ?_; (with_reducible refine (impl_DifferenceCounts.calls k3 t926 _ _ t971 t975 true _ ?side1 ?side2 A99.out).mono ?_); (case side1 => exact atRC HO974); (case side2 => exact (Kd.R_reads' HO974.out).2.1); rintro e w106 ⟨v977, rfl, ho0, hb⟩; refine ⟨_, rfl, ?_⟩; have HO978 := lowR ho0 HB; replace HO_6 := upR HO_6 hb; replace HO_15 := upR HO_15 hb; replace HO_19 := upR HO_19 hb; replace HO_290 := upR HO_290 hb; replace HO974 := upR HO974 hb; replace HB := upB HB hb; (try clear hb); (try clear hb2); (try clear hk); (try clear hi); (try clear ho0); obtain ⟨Ao107, co107, eo107⟩ := Kd.R_slice HO978.out; subst eo107) | (go_at_call 44; (with_reducible refine (laws_zSame.calls k3 _ _ t975 _ _ t938 true _ ?side1 ?side2 ?side3 ?side4 A102.out).mono ?_); (case side1 => exact atRC HO978); (case side2 => exact (Kd.R_reads' HO978.out).2.1); (case side3 => exact atRC HO_15); (case side4 => exact (Kd.R_reads' HO_15.out).2.1); rintro e w' ⟨rfl, ⟨nd, rfl⟩⟩))
                         go_meet
                         case rel => exact ⟨_, H', ⟨by have := HJ15.out; have := HK2.out; have := HK3.out; first | omega | exact Nat.le_refl _⟩, ⟨atR HO_6⟩, ⟨atB HB⟩⟩
                       ·replace c103 := Bool.eq_false_iff.mpr c103
                        subst c103
                        rw [if_neg (show ¬ (false = true) by decide)] at H
                        exact absurd ((Option.some.inj H).trans HT.out) (by decide)
                      ·replace c101 := Bool.eq_false_iff.mpr c101
                       subst c101
                       rw [if_neg (show ¬ (false = true) by decide)] at H
                       exact absurd ((Option.some.inj H).trans HT.out) (by decide)
                     ·replace c100 := Bool.eq_false_iff.mpr c100
                      subst c100
                      rw [if_neg (show ¬ (false = true) by decide)] at H
                      exact absurd ((Option.some.inj H).trans HT.out) (by decide)
                ·rw [if_neg c87] at H
                 have c87b0 : ((rd t946 0) == 1) = false := beq_eq_false_iff_ne.mpr c87
                 have c87b1 : ((rd t946 0) != 1) = true := bne_iff_ne.mpr c87
                 exact absurd ((Option.some.inj H).trans HT.out) (by decide)
               ·rw [if_neg c86] at H
                exact absurd H (by simp)
            ·rw [if_neg c83] at H
             have c83b0 : (t966 == (wrap64 ((t927.length : Int) * (wrap64 ((t927.length : Int) - 1))))) = false := beq_eq_false_iff_ne.mpr c83
             have c83b1 : (t966 != (wrap64 ((t927.length : Int) * (wrap64 ((t927.length : Int) - 1))))) = true := bne_iff_ne.mpr c83
             exact absurd ((Option.some.inj H).trans HT.out) (by decide)
           ·rw [if_neg c81] at H
            have c81b0 : ((t938.length : Int) == t926) = false := beq_eq_false_iff_ne.mpr c81
            have c81b1 : ((t938.length : Int) != t926) = true := bne_iff_ne.mpr c81
            exact absurd ((Option.some.inj H).trans HT.out) (by decide)
      ·replace c63 := Bool.eq_false_iff.mpr c63
       subst c63
       rw [if_neg (show ¬ (false = true) by decide)] at H
       have H' := Aside0.mk H
       clear H
       as_aux_lemma =>
        go_wp2
        go_meet
        case rel => exact ⟨_, H', ⟨by have := HJ15.out; first | omega | exact Nat.le_refl _⟩, ⟨atR HO_6⟩, ⟨atB HB⟩⟩
     case rest => as_aux_lemma =>
      clear HC62
      try clear c1
      try clear c2
      try clear p2
      try clear c3
      try clear c4
      try clear c5
      try clear c6
      try clear p6
      try clear c7
      try clear c8
      try clear c9
      try clear p9
      try clear q9
      try clear hx9
      try clear qi9
      try clear c10
      try clear c29
      try clear c29b0
      try clear c29b1
      try clear c29b2
      try clear c30
      try clear c30b0
      try clear c30b1
      try clear c31
      try clear c31b0
      try clear c31b1
      try clear c31b2
      try clear c32
      try clear c32b0
      try clear c32b1
      try clear c32b2
      try clear c33
      try clear c33b0
      try clear c33b1
      try clear c33b2
      try clear c34
      try clear c35
      try clear c36
      try clear c36b0
      try clear c36b1
      try clear c36b2
      try clear c37
      try clear c38
      try clear c39
      try clear c39b0
      try clear c39b1
      try clear c39b2
      try clear c40
      try clear c40b0
      try clear c40b1
      try clear c40b2
      try clear c41
      try clear c42
      try clear c42b0
      try clear c42b1
      try clear c42b2
      try clear c43
      try clear c45
      try clear c45b0
      try clear c45b1
      try clear c45b2
      try clear c46
      try clear c47
      try clear c47b0
      try clear c47b1
      try clear c47b2
      try clear c48
      try clear c48b0
      try clear c48b1
      try clear c48b2
      try clear c49
      try clear c49b0
      try clear c49b1
      try clear c49b2
      try clear c54
      try clear c54b0
      try clear c54b1
      try clear c54b2
      try clear c55
      try clear c55b0
      try clear c55b1
      try clear c55b2
      try clear c56
      try clear c56b0
      try clear c56b1
      try clear c56b2
      try clear c61
      try clear c63
      try clear p64
      try clear c65
      try clear c65b0
      try clear c66
      try clear c66b0
      try clear c67
      try clear c67b0
      try clear c69
      try clear c69b0
      try clear c69b1
      try clear c70
      try clear c70b0
      try clear c70b1
      try clear c71
      try clear c71b0
      try clear c73
      try clear c73b0
      try clear c74
      try clear c74b0
      try clear c75
      try clear c75b0
      try clear c77
      try clear c77b0
      try clear c78
      try clear c78b0
      try clear c79
      try clear c80
      try clear c80b0
      try clear c81
      try clear c81b0
      try clear c81b1
      try clear c83
      try clear c83b0
      try clear c83b1
      try clear c84
      try clear c84b0
      try clear c84b1
      try clear c84b2
      try clear c85
      try clear c85b0
      try clear c85b1
      try clear c86
      try clear c86b0
      try clear c86b1
      try clear c87
      try clear c87b0
      try clear c87b1
      try clear c89
      try clear c89b0
      try clear c90
      try clear c90b0
      try clear c91
      try clear c91b0
      try clear c92
      try clear c92b0
      try clear c93
      try clear c93b0
      try clear c94
      try clear c94b0
      try clear c95
      try clear c95b0
      try clear c95b1
      try clear p96
      try clear q96
      try clear hx96
      try clear qi96
      try clear c97
      try clear c100
      try clear c101
      try clear c103
      try clear hx963_0
      try clear hx964_0
      try clear hx965_0
      try clear hx967_0
      try clear hx968_0
      try clear hx969_0
      try clear p2
      try clear p6
      try clear p64
      try clear p9
      try clear p963
      try clear p964
      try clear p965
      try clear p967
      try clear p968
      try clear p969
      try clear q9
      try clear q963
      try clear q964
      try clear q965
      try clear q967
      try clear q968
      try clear q969
      obtain ⟨kq, HA, HJ61, HO_6, HB⟩ := hcut
      cases kq with
      | zero => exact absurd HA.out (by simp [laws_FnCirclesDiffer.j5])
      | succ kj61 =>
       have H := HA.out
       clear HA
       simp only [laws_FnCirclesDiffer.j5] at H
       have HC108 := Aside0.mk H
       clear H
       go_upto_if 338 with (fail)
       go_cut [] (fun wc => ∃ (kq : Nat), Aside0 (laws_FnCirclesDiffer.j10 kq l1 = some r) ∧ Aside0 (kq ≤ kj61) ∧ Aside0 (Below w.heap.size w wc))
       case first => as_aux_lemma =>
        have H := HC108.out
        clear HC108
        by_cases c109 : t931 = true
        ·subst c109
         rw [if_pos rfl] at H
         by_cases c110 : (wrap64 (t930 * (wrap64 (t926 - 1)))) = (wrap64 ((t927.length : Int) * (wrap64 ((t927.length : Int) - 1))))
         ·rw [if_pos c110] at H
          have c110b0 : ((wrap64 (t930 * (wrap64 (t926 - 1)))) == (wrap64 ((t927.length : Int) * (wrap64 ((t927.length : Int) - 1))))) = true := beq_iff_eq.mpr c110
          have c110b1 : ((wrap64 (t930 * (wrap64 (t926 - 1)))) != (wrap64 ((t927.length : Int) * (wrap64 ((t927.length : Int) - 1))))) = false := bne_eq_false_iff_eq.mpr c110
          clear c110
          (first | rw [c110b0] | (simp only [i64_w, i32_w]; rw [c110b0]) | skip)
          replace H := Option.bind_eq_some_iff.mp H
          obtain ⟨⟨t980, t981⟩, A1110, H⟩ := H
          (try dsimp only at H)
          have A111 := Aside0.mk A1110
          clear A1110
          have HC112 := Aside0.mk H
          clear H
          go_upto_region 48 with (first | ((with_reducible refine gate_callee (f := 50) rfl ?_); refine goesA (some 353) Try.func50 #[.int .i64 t926, .slice Ao18 t927.length co18] ?_; (with_reducible refine (impl_ComplementSet.calls kj61 t926 _ _ t927 t980 t981 _ ?side1 ?side2 A111.out).mono ?_); (case side1 => exact atRC HO_6); (case side2 => exact (Kd.R_reads' HO_6.out).2.1); rintro e w113 ⟨v982, rfl, ho0, hb⟩; refine ⟨_, rfl, ?_⟩; have HO983 := lowR ho0 HB; replace HO_6 := upR HO_6 hb; replace HB := upB HB hb; (try clear hb); (try clear hb2); (try clear hk); (try clear hi); (try clear ho0)))
          (try simp only [Act.put, List.setIfInBounds_toArray, List.set_cons_zero, List.set_cons_succ])
          go_cut [361] (fun v361 wc => ∃ (kq : Nat) (x361_111 : Bool), v361 = .bool x361_111 ∧ Aside0 (laws_FnCirclesDiffer.j6 kq l1 t926 t927 t930 (t927.length : Int) t980 x361_111 = some r) ∧ Aside0 (kq ≤ kj61) ∧ Aside0 (Kd.R (Kd.int .i64) 3 wc w.heap.size (fun _ => True) (.slice Ao18 t927.length co18) t927) ∧ Aside0 (Kd.R (Kd.int .i64) 3 wc w.heap.size (fun _ => True) v982 t980) ∧ Aside0 (Below w.heap.size w wc))
          case first => as_aux_lemma =>
           have H := HC112.out
           clear HC112
           by_cases c114 : t981 = true
           ·subst c114
            rw [if_pos rfl] at H
            have H' := Aside0.mk H
            clear H
            obtain ⟨Ao115, co115, eo115⟩ := Kd.R_slice HO983.out
            subst eo115
            as_aux_lemma =>
             go_wp2
             go_meet
             case rel => exact ⟨_, (decide ((t980.length : Int) > 1)), eqd, H', ⟨by have := HJ15.out; have := HJ61.out; first | omega | exact Nat.le_refl _⟩, ⟨atR HO_6⟩, ⟨atR HO983⟩, ⟨atB HB⟩⟩
           ·replace c114 := Bool.eq_false_iff.mpr c114
            subst c114
            rw [if_neg (show ¬ (false = true) by decide)] at H
            have H' := Aside0.mk H
            clear H
            as_aux_lemma =>
             go_wp2
             go_meet
             case rel => exact ⟨_, (false), eqd, H', ⟨by have := HJ15.out; have := HJ61.out; first | omega | exact Nat.le_refl _⟩, ⟨atR HO_6⟩, ⟨atR HO983⟩, ⟨atB HB⟩⟩
          case rest => as_aux_lemma =>
           clear HC112
           try clear c1
           try clear c2
           try clear p2
           try clear c3
           try clear c4
           try clear c5
           try clear c6
           try clear p6
           try clear c7
           try clear c8
           try clear c9
           try clear p9
           try clear q9
           try clear hx9
           try clear qi9
           try clear c10
           try clear c11
           try clear c29
           try clear c29b0
           try clear c29b1
           try clear c29b2
           try clear c30
           try clear c30b0
           try clear c30b1
           try clear c31
           try clear c31b0
           try clear c31b1
           try clear c31b2
           try clear c32
           try clear c32b0
           try clear c32b1
           try clear c32b2
           try clear c33
           try clear c33b0
           try clear c33b1
           try clear c33b2
           try clear c34
           try clear c35
           try clear c36
           try clear c36b0
           try clear c36b1
           try clear c36b2
           try clear c37
           try clear c38
           try clear c39
           try clear c39b0
           try clear c39b1
           try clear c39b2
           try clear c40
           try clear c40b0
           try clear c40b1
           try clear c40b2
           try clear c41
           try clear c42
           try clear c42b0
           try clear c42b1
           try clear c42b2
           try clear c43
           try clear c45
           try clear c45b0
           try clear c45b1
           try clear c45b2
           try clear c46
           try clear c47
           try clear c47b0
           try clear c47b1
           try clear c47b2
           try clear c48
           try clear c48b0
           try clear c48b1
           try clear c48b2
           try clear c49
           try clear c49b0
           try clear c49b1
           try clear c49b2
           try clear c50
           try clear c54
           try clear c54b0
           try clear c54b1
           try clear c54b2
           try clear c55
           try clear c55b0
           try clear c55b1
           try clear c55b2
           try clear c56
           try clear c56b0
           try clear c56b1
           try clear c56b2
           try clear c61
           try clear c63
           try clear p64
           try clear c65
           try clear c65b0
           try clear c66
           try clear c66b0
           try clear c67
           try clear c67b0
           try clear c69
           try clear c69b0
           try clear c69b1
           try clear c70
           try clear c70b0
           try clear c70b1
           try clear c71
           try clear c71b0
           try clear c73
           try clear c73b0
           try clear c74
           try clear c74b0
           try clear c75
           try clear c75b0
           try clear c77
           try clear c77b0
           try clear c78
           try clear c78b0
           try clear c79
           try clear c80
           try clear c80b0
           try clear c81
           try clear c81b0
           try clear c81b1
           try clear c83
           try clear c83b0
           try clear c83b1
           try clear c84
           try clear c84b0
           try clear c84b1
           try clear c84b2
           try clear c85
           try clear c85b0
           try clear c85b1
           try clear c86
           try clear c86b0
           try clear c86b1
           try clear c87
           try clear c87b0
           try clear c87b1
           try clear c89
           try clear c89b0
           try clear c90
           try clear c90b0
           try clear c91
           try clear c91b0
           try clear c92
           try clear c92b0
           try clear c93
           try clear c93b0
           try clear c94
           try clear c94b0
           try clear c95
           try clear c95b0
           try clear c95b1
           try clear p96
           try clear q96
           try clear hx96
           try clear qi96
           try clear c97
           try clear c100
           try clear c101
           try clear c103
           try clear c109
           try clear c110
           try clear c110b0
           try clear c110b1
           try clear c114
           try clear hx963_0
           try clear hx964_0
           try clear hx965_0
           try clear hx967_0
           try clear hx968_0
           try clear hx969_0
           try clear p2
           try clear p6
           try clear p64
           try clear p9
           try clear p96
           try clear p963
           try clear p964
           try clear p965
           try clear p967
           try clear p968
           try clear p969
           try clear q9
           try clear q96
           try clear q963
           try clear q964
           try clear q965
           try clear q967
           try clear q968
           try clear q969
           obtain ⟨kq, x361_111, rfl, HA, HJ111, HO_6, HO_40, HB⟩ := hcut
           cases kq with
           | zero => exact absurd HA.out (by simp [laws_FnCirclesDiffer.j6])
           | succ kj111 =>
            have H := HA.out
            clear HA
            simp only [laws_FnCirclesDiffer.j6] at H
            have HC116 := Aside0.mk H
            clear H
            go_upto_if 361 with (fail)
            go_cut [] (fun wc => ∃ (kq : Nat), Aside0 (laws_FnCirclesDiffer.j7 kq l1 t926 t927 t930 = some r) ∧ Aside0 (kq ≤ kj111) ∧ Aside0 (Kd.R (Kd.int .i64) 3 wc w.heap.size (fun _ => True) (.slice Ao18 t927.length co18) t927) ∧ Aside0 (Below w.heap.size w wc))
            case first => as_aux_lemma =>
             have H := HC116.out
             clear HC116
             by_cases c117 : x361_111 = true
             ·subst c117
              rw [if_pos rfl] at H
              replace H := Option.bind_eq_some_iff.mp H
              obtain ⟨⟨t984, t985⟩, A1180, H⟩ := H
              (try dsimp only at H)
              have A118 := Aside0.mk A1180
              clear A1180
              by_cases c119 : (wrap64 ((wrap64 (t926 - (wrap64 (2 * (t927.length : Int))))) + t930)) > 0
              ·rw [if_pos c119] at H
               have c119b0 : decide (0 < (wrap64 ((wrap64 (t926 - (wrap64 (2 * (t927.length : Int))))) + t930))) = true := decide_eq_true c119
               clear c119
               (first | rw [c119b0] | (simp only [i64_w, i32_w]; rw [c119b0]) | skip)
               by_cases c120 : t985 = true
               ·subst c120
                rw [if_pos rfl] at H
                by_cases c121 : t984 = (wrap64 ((wrap64 (t926 - (wrap64 (2 * (t927.length : Int))))) + t930))
                ·rw [if_pos c121] at H
                 have c121b0 : (t984 == (wrap64 ((wrap64 (t926 - (wrap64 (2 * (t927.length : Int))))) + t930))) = true := beq_iff_eq.mpr c121
                 have c121b1 : (t984 != (wrap64 ((wrap64 (t926 - (wrap64 (2 * (t927.length : Int))))) + t930))) = false := bne_eq_false_iff_eq.mpr c121
                 clear c121
                 have H' := Aside0.mk H
                 clear H
                 obtain ⟨Ao122, co122, eo122⟩ := Kd.R_slice HO_40.out
                 subst eo122
                 as_aux_lemma =>
                  go_wp2_with (first | ((with_reducible refine gate_callee (f := 34) rfl ?_); refine goesA (some 365) Try.func34 #[.int .i64 t926, .slice Ao122 t980.length co122] ?_; (with_reducible refine (impl_LambdaOf.calls kj111 t926 _ _ t980 t984 true _ ?side1 ?side2 A118.out).mono ?_); (case side1 => exact atRC HO_40); (case side2 => exact (Kd.R_reads' HO_40.out).2.1); rintro e w123 ⟨rfl, hb⟩; refine ⟨_, rfl, ?_⟩; replace HO_6 := upR HO_6 hb; replace HO_40 := upR HO_40 hb; replace HB := upB HB hb; (try clear hb); (try clear hb2); (try clear hk); (try clear hi)))
                  go_meet
                  case rel => exact ⟨_, H', ⟨by have := HJ15.out; have := HJ61.out; have := HJ111.out; first | omega | exact Nat.le_refl _⟩, ⟨atR HO_6⟩, ⟨atB HB⟩⟩
                ·rw [if_neg c121] at H
                 have c121b0 : (t984 == (wrap64 ((wrap64 (t926 - (wrap64 (2 * (t927.length : Int))))) + t930))) = false := beq_eq_false_iff_ne.mpr c121
                 have c121b1 : (t984 != (wrap64 ((wrap64 (t926 - (wrap64 (2 * (t927.length : Int))))) + t930))) = true := bne_iff_ne.mpr c121
                 exact absurd ((Option.some.inj H).trans HT.out) (by decide)
               ·replace c120 := Bool.eq_false_iff.mpr c120
                subst c120
                rw [if_neg (show ¬ (false = true) by decide)] at H
                exact absurd ((Option.some.inj H).trans HT.out) (by decide)
              ·rw [if_neg c119] at H
               have c119b0 : decide (0 < (wrap64 ((wrap64 (t926 - (wrap64 (2 * (t927.length : Int))))) + t930))) = false := decide_eq_false c119
               clear c119
               (first | rw [c119b0] | (simp only [i64_w, i32_w]; rw [c119b0]) | skip)
               have H' := Aside0.mk H
               clear H
               obtain ⟨Ao124, co124, eo124⟩ := Kd.R_slice HO_40.out
               subst eo124
               as_aux_lemma =>
                go_wp2_with (first | ((with_reducible refine gate_callee (f := 34) rfl ?_); refine goesA (some 365) Try.func34 #[.int .i64 t926, .slice Ao124 t980.length co124] ?_; (with_reducible refine (impl_LambdaOf.calls kj111 t926 _ _ t980 t984 t985 _ ?side1 ?side2 A118.out).mono ?_); (case side1 => exact atRC HO_40); (case side2 => exact (Kd.R_reads' HO_40.out).2.1); rintro e w125 ⟨rfl, hb⟩; refine ⟨_, rfl, ?_⟩; replace HO_6 := upR HO_6 hb; replace HO_40 := upR HO_40 hb; replace HB := upB HB hb; (try clear hb); (try clear hb2); (try clear hk); (try clear hi)))
                go_meet
                case rel => exact ⟨_, H', ⟨by have := HJ15.out; have := HJ61.out; have := HJ111.out; first | omega | exact Nat.le_refl _⟩, ⟨atR HO_6⟩, ⟨atB HB⟩⟩
             ·replace c117 := Bool.eq_false_iff.mpr c117
              subst c117
              rw [if_neg (show ¬ (false = true) by decide)] at H
              have H' := Aside0.mk H
              clear H
              as_aux_lemma =>
               go_wp2
               go_meet
               case rel => exact ⟨_, H', ⟨by have := HJ15.out; have := HJ61.out; have := HJ111.out; first | omega | exact Nat.le_refl _⟩, ⟨atR HO_6⟩, ⟨atB HB⟩⟩
            case rest => as_aux_lemma =>
             clear HC116
             try clear c1
             try clear c2
             try clear p2
             try clear c3
             try clear c4
             try clear c5
             try clear c6
             try clear p6
             try clear c7
             try clear c8
             try clear c9
             try clear p9
             try clear q9
             try clear hx9
             try clear qi9
             try clear c10
             try clear c11
             try clear c12
             try clear c29
             try clear c29b0
             try clear c29b1
             try clear c29b2
             try clear c30
             try clear c30b0
             try clear c30b1
             try clear c31
             try clear c31b0
             try clear c31b1
             try clear c31b2
             try clear c32
             try clear c32b0
             try clear c32b1
             try clear c32b2
             try clear c33
             try clear c33b0
             try clear c33b1
             try clear c33b2
             try clear c34
             try clear c35
             try clear c36
             try clear c36b0
             try clear c36b1
             try clear c36b2
             try clear c37
             try clear c38
             try clear c39
             try clear c39b0
             try clear c39b1
             try clear c39b2
             try clear c40
             try clear c40b0
             try clear c40b1
             try clear c40b2
             try clear c41
             try clear c42
             try clear c42b0
             try clear c42b1
             try clear c42b2
             try clear c43
             try clear c45
             try clear c45b0
             try clear c45b1
             try clear c45b2
             try clear c46
             try clear c47
             try clear c47b0
             try clear c47b1
             try clear c47b2
             try clear c48
             try clear c48b0
             try clear c48b1
             try clear c48b2
             try clear c49
             try clear c49b0
             try clear c49b1
             try clear c49b2
             try clear c50
             try clear c54
             try clear c54b0
             try clear c54b1
             try clear c54b2
             try clear c55
             try clear c55b0
             try clear c55b1
             try clear c55b2
             try clear c56
             try clear c56b0
             try clear c56b1
             try clear c56b2
             try clear c61
             try clear c63
             try clear p64
             try clear c65
             try clear c65b0
             try clear c66
             try clear c66b0
             try clear c67
             try clear c67b0
             try clear c69
             try clear c69b0
             try clear c69b1
             try clear c70
             try clear c70b0
             try clear c70b1
             try clear c71
             try clear c71b0
             try clear c73
             try clear c73b0
             try clear c74
             try clear c74b0
             try clear c75
             try clear c75b0
             try clear c77
             try clear c77b0
             try clear c78
             try clear c78b0
             try clear c79
             try clear c80
             try clear c80b0
             try clear c81
             try clear c81b0
             try clear c81b1
             try clear c83
             try clear c83b0
             try clear c83b1
             try clear c84
             try clear c84b0
             try clear c84b1
             try clear c84b2
             try clear c85
             try clear c85b0
             try clear c85b1
             try clear c86
             try clear c86b0
             try clear c86b1
             try clear c87
             try clear c87b0
             try clear c87b1
             try clear c89
             try clear c89b0
             try clear c90
             try clear c90b0
             try clear c91
             try clear c91b0
             try clear c92
             try clear c92b0
             try clear c93
             try clear c93b0
             try clear c94
             try clear c94b0
             try clear c95
             try clear c95b0
             try clear c95b1
             try clear p96
             try clear q96
             try clear hx96
             try clear qi96
             try clear c97
             try clear c100
             try clear c101
             try clear c103
             try clear c109
             try clear c110
             try clear c110b0
             try clear c110b1
             try clear c114
             try clear c117
             try clear c119
             try clear c119b0
             try clear c120
             try clear c121
             try clear c121b0
             try clear c121b1
             try clear hx963_0
             try clear hx964_0
             try clear hx965_0
             try clear hx967_0
             try clear hx968_0
             try clear hx969_0
             try clear p2
             try clear p6
             try clear p64
             try clear p9
             try clear p96
             try clear p963
             try clear p964
             try clear p965
             try clear p967
             try clear p968
             try clear p969
             try clear q9
             try clear q96
             try clear q963
             try clear q964
             try clear q965
             try clear q967
             try clear q968
             try clear q969
             obtain ⟨kq, HA, HJ115, HO_6, HB⟩ := hcut
             cases kq with
             | zero => exact absurd HA.out (by simp [laws_FnCirclesDiffer.j7])
             | succ kj115 =>
              have H := HA.out
              clear HA
              simp only [laws_FnCirclesDiffer.j7] at H
              have H' := Aside0.mk H
              clear H
              as_aux_lemma =>
               go_wp2
               go_loopg [44] kj115 (fun kq v44 w' => ∃ (x44_5 : Int), v44 = .int .i64 x44_5 ∧ Aside0 (laws_FnCirclesDiffer.l3 kq l1 t926 t927 t930 x44_5 = some r) ∧ Aside0 (kq ≤ kj115) ∧ Aside0 (Kd.R (Kd.int .i64) 3 w' w.heap.size (fun _ => True) (.slice Ao18 t927.length co18) t927) ∧ Aside0 (Below w.heap.size w w'))
               case atStart => exact ⟨(1), eqd, H', ⟨Nat.le_refl _⟩, ⟨atR HO_6⟩, ⟨atB HB⟩⟩
               case round => as_aux_lemma =>
                clear H'
                try clear c1
                try clear c2
                try clear p2
                try clear c3
                try clear c4
                try clear c5
                try clear c6
                try clear p6
                try clear c7
                try clear c8
                try clear c9
                try clear p9
                try clear q9
                try clear hx9
                try clear qi9
                try clear c10
                try clear c11
                try clear c12
                try clear c29
                try clear c29b0
                try clear c29b1
                try clear c29b2
                try clear c30
                try clear c30b0
                try clear c30b1
                try clear c31
                try clear c31b0
                try clear c31b1
                try clear c31b2
                try clear c32
                try clear c32b0
                try clear c32b1
                try clear c32b2
                try clear c33
                try clear c33b0
                try clear c33b1
                try clear c33b2
                try clear c34
                try clear c35
                try clear c36
                try clear c36b0
                try clear c36b1
                try clear c36b2
                try clear c37
                try clear c38
                try clear c39
                try clear c39b0
                try clear c39b1
                try clear c39b2
                try clear c40
                try clear c40b0
                try clear c40b1
                try clear c40b2
                try clear c41
                try clear c42
                try clear c42b0
                try clear c42b1
                try clear c42b2
                try clear c43
                try clear c45
                try clear c45b0
                try clear c45b1
                try clear c45b2
                try clear c46
                try clear c47
                try clear c47b0
                try clear c47b1
                try clear c47b2
                try clear c48
                try clear c48b0
                try clear c48b1
                try clear c48b2
                try clear c49
                try clear c49b0
                try clear c49b1
                try clear c49b2
                try clear c50
                try clear c54
                try clear c54b0
                try clear c54b1
                try clear c54b2
                try clear c55
                try clear c55b0
                try clear c55b1
                try clear c55b2
                try clear c56
                try clear c56b0
                try clear c56b1
                try clear c56b2
                try clear c61
                try clear c63
                try clear p64
                try clear c65
                try clear c65b0
                try clear c66
                try clear c66b0
                try clear c67
                try clear c67b0
                try clear c69
                try clear c69b0
                try clear c69b1
                try clear c70
                try clear c70b0
                try clear c70b1
                try clear c71
                try clear c71b0
                try clear c73
                try clear c73b0
                try clear c74
                try clear c74b0
                try clear c75
                try clear c75b0
                try clear c77
                try clear c77b0
                try clear c78
                try clear c78b0
                try clear c79
                try clear c80
                try clear c80b0
                try clear c81
                try clear c81b0
                try clear c81b1
                try clear c83
                try clear c83b0
                try clear c83b1
                try clear c84
                try clear c84b0
                try clear c84b1
                try clear c84b2
                try clear c85
                try clear c85b0
                try clear c85b1
                try clear c86
                try clear c86b0
                try clear c86b1
                try clear c87
                try clear c87b0
                try clear c87b1
                try clear c89
                try clear c89b0
                try clear c90
                try clear c90b0
                try clear c91
                try clear c91b0
                try clear c92
                try clear c92b0
                try clear c93
                try clear c93b0
                try clear c94
                try clear c94b0
                try clear c95
                try clear c95b0
                try clear c95b1
                try clear p96
                try clear q96
                try clear hx96
                try clear qi96
                try clear c97
                try clear c100
                try clear c101
                try clear c103
                try clear c109
                try clear c110
                try clear c110b0
                try clear c110b1
                try clear c114
                try clear c117
                try clear c119
                try clear c119b0
                try clear c120
                try clear c121
                try clear c121b0
                try clear c121b1
                try clear hx963_0
                try clear hx964_0
                try clear hx965_0
                try clear hx967_0
                try clear hx968_0
                try clear hx969_0
                try clear p2
                try clear p6
                try clear p64
                try clear p9
                try clear p96
                try clear p963
                try clear p964
                try clear p965
                try clear p967
                try clear p968
                try clear p969
                try clear q9
                try clear q96
                try clear q963
                try clear q964
                try clear q965
                try clear q967
                try clear q968
                try clear q969
                obtain ⟨x44_5, rfl, HA, HK5, HO_6, HB⟩ := hrel
                cases gk with
                | zero => exact absurd HA.out (by simp [laws_FnCirclesDiffer.l3])
                | succ k5 =>
                 have H := HA.out
                 clear HA
                 simp only [laws_FnCirclesDiffer.l3] at H
                 have HC126 := Aside0.mk H
                 clear H
                 go_upto_region 53 with (fail)
                 go_cut [395] (fun v395 wc => ∃ (kq : Nat) (x395_125 : Bool), v395 = .bool x395_125 ∧ Aside0 (laws_FnCirclesDiffer.j9 kq l1 t926 t927 t930 x44_5 x395_125 = some r) ∧ Aside0 (kq ≤ k5) ∧ Aside0 (Kd.R (Kd.int .i64) 3 wc w.heap.size (fun _ => True) (.slice Ao18 t927.length co18) t927) ∧ Aside0 (Below w.heap.size w wc))
                 case first => as_aux_lemma =>
                  have H := HC126.out
                  clear HC126
                  by_cases c127 : x44_5 < t926
                  ·rw [if_pos c127] at H
                   have c127b0 : decide (x44_5 < t926) = true := decide_eq_true c127
                   clear c127
                   (first | rw [c127b0] | (simp only [i64_w, i32_w]; rw [c127b0]) | skip)
                   have H' := Aside0.mk H
                   clear H
                   as_aux_lemma =>
                    go_wp2
                    go_meet
                    case rel => exact ⟨_, (decide (x44_5 < 6)), eqd, H', ⟨by have := HJ15.out; have := HJ61.out; have := HJ111.out; have := HJ115.out; have := HK5.out; first | omega | exact Nat.le_refl _⟩, ⟨atR HO_6⟩, ⟨atB HB⟩⟩
                  ·rw [if_neg c127] at H
                   have c127b0 : decide (x44_5 < t926) = false := decide_eq_false c127
                   clear c127
                   (first | rw [c127b0] | (simp only [i64_w, i32_w]; rw [c127b0]) | skip)
                   have H' := Aside0.mk H
                   clear H
                   as_aux_lemma =>
                    go_wp2
                    go_meet
                    case rel => exact ⟨_, (false), eqd, H', ⟨by have := HJ15.out; have := HJ61.out; have := HJ111.out; have := HJ115.out; have := HK5.out; first | omega | exact Nat.le_refl _⟩, ⟨atR HO_6⟩, ⟨atB HB⟩⟩
                 case rest => as_aux_lemma =>
                  clear HC126
                  try clear c1
                  try clear c2
                  try clear p2
                  try clear c3
                  try clear c4
                  try clear c5
                  try clear c6
                  try clear p6
                  try clear c7
                  try clear c8
                  try clear c9
                  try clear p9
                  try clear q9
                  try clear hx9
                  try clear qi9
                  try clear c10
                  try clear c11
                  try clear c12
                  try clear c29
                  try clear c29b0
                  try clear c29b1
                  try clear c29b2
                  try clear c30
                  try clear c30b0
                  try clear c30b1
                  try clear c31
                  try clear c31b0
                  try clear c31b1
                  try clear c31b2
                  try clear c32
                  try clear c32b0
                  try clear c32b1
                  try clear c32b2
                  try clear c33
                  try clear c33b0
                  try clear c33b1
                  try clear c33b2
                  try clear c34
                  try clear c35
                  try clear c36
                  try clear c36b0
                  try clear c36b1
                  try clear c36b2
                  try clear c37
                  try clear c38
                  try clear c39
                  try clear c39b0
                  try clear c39b1
                  try clear c39b2
                  try clear c40
                  try clear c40b0
                  try clear c40b1
                  try clear c40b2
                  try clear c41
                  try clear c42
                  try clear c42b0
                  try clear c42b1
                  try clear c42b2
                  try clear c43
                  try clear c45
                  try clear c45b0
                  try clear c45b1
                  try clear c45b2
                  try clear c46
                  try clear c47
                  try clear c47b0
                  try clear c47b1
                  try clear c47b2
                  try clear c48
                  try clear c48b0
                  try clear c48b1
                  try clear c48b2
                  try clear c49
                  try clear c49b0
                  try clear c49b1
                  try clear c49b2
                  try clear c50
                  try clear c54
                  try clear c54b0
                  try clear c54b1
                  try clear c54b2
                  try clear c55
                  try clear c55b0
                  try clear c55b1
                  try clear c55b2
                  try clear c56
                  try clear c56b0
                  try clear c56b1
                  try clear c56b2
                  try clear c61
                  try clear c63
                  try clear p64
                  try clear c65
                  try clear c65b0
                  try clear c66
                  try clear c66b0
                  try clear c67
                  try clear c67b0
                  try clear c69
                  try clear c69b0
                  try clear c69b1
                  try clear c70
                  try clear c70b0
                  try clear c70b1
                  try clear c71
                  try clear c71b0
                  try clear c73
                  try clear c73b0
                  try clear c74
                  try clear c74b0
                  try clear c75
                  try clear c75b0
                  try clear c77
                  try clear c77b0
                  try clear c78
                  try clear c78b0
                  try clear c79
                  try clear c80
                  try clear c80b0
                  try clear c81
                  try clear c81b0
                  try clear c81b1
                  try clear c83
                  try clear c83b0
                  try clear c83b1
                  try clear c84
                  try clear c84b0
                  try clear c84b1
                  try clear c84b2
                  try clear c85
                  try clear c85b0
                  try clear c85b1
                  try clear c86
                  try clear c86b0
                  try clear c86b1
                  try clear c87
                  try clear c87b0
                  try clear c87b1
                  try clear c89
                  try clear c89b0
                  try clear c90
                  try clear c90b0
                  try clear c91
                  try clear c91b0
                  try clear c92
                  try clear c92b0
                  try clear c93
                  try clear c93b0
                  try clear c94
                  try clear c94b0
                  try clear c95
                  try clear c95b0
                  try clear c95b1
                  try clear p96
                  try clear q96
                  try clear hx96
                  try clear qi96
                  try clear c97
                  try clear c100
                  try clear c101
                  try clear c103
                  try clear c109
                  try clear c110
                  try clear c110b0
                  try clear c110b1
                  try clear c114
                  try clear c117
                  try clear c119
                  try clear c119b0
                  try clear c120
                  try clear c121
                  try clear c121b0
                  try clear c121b1
                  try clear c127
                  try clear c127b0
                  try clear hx963_0
                  try clear hx964_0
                  try clear hx965_0
                  try clear hx967_0
                  try clear hx968_0
                  try clear hx969_0
                  try clear p2
                  try clear p6
                  try clear p64
                  try clear p9
                  try clear p96
                  try clear p963
                  try clear p964
                  try clear p965
                  try clear p967
                  try clear p968
                  try clear p969
                  try clear q9
                  try clear q96
                  try clear q963
                  try clear q964
                  try clear q965
                  try clear q967
                  try clear q968
                  try clear q969
                  obtain ⟨kq, x395_125, rfl, HA, HJ125, HO_6, HB⟩ := hcut
                  cases kq with
                  | zero => exact absurd HA.out (by simp [laws_FnCirclesDiffer.j9])
                  | succ kj125 =>
                   have H := HA.out
                   clear HA
                   simp only [laws_FnCirclesDiffer.j9] at H
                   by_cases c128 : x395_125 = true
                   ·subst c128
                    rw [if_pos rfl] at H
                    replace H := Option.bind_eq_some_iff.mp H
                    obtain ⟨⟨t986, t987⟩, A1290, H⟩ := H
                    (try dsimp only at H)
                    have A129 := Aside0.mk A1290
                    clear A1290
                    replace H := Option.bind_eq_some_iff.mp H
                    obtain ⟨t990, A1300, H⟩ := H
                    (try dsimp only at H)
                    have A130 := Aside0.mk A1300
                    clear A1300
                    by_cases c131 : t990 = 1
                    ·rw [if_pos c131] at H
                     have c131b0 : (t990 == 1) = true := beq_iff_eq.mpr c131
                     have c131b1 : (t990 != 1) = false := bne_eq_false_iff_eq.mpr c131
                     clear c131
                     replace H := Option.bind_eq_some_iff.mp H
                     obtain ⟨⟨t991, t992⟩, A1320, H⟩ := H
                     (try dsimp only at H)
                     have A132 := Aside0.mk A1320
                     clear A1320
                     by_cases c133 : t987 = true
                     ·subst c133
                      rw [if_pos rfl] at H
                      by_cases c134 : t992 = true
                      ·subst c134
                       rw [if_pos rfl] at H
                       by_cases c135 : t991 = t930
                       ·rw [if_pos c135] at H
                        have c135b0 : (t991 == t930) = true := beq_iff_eq.mpr c135
                        have c135b1 : (t991 != t930) = false := bne_eq_false_iff_eq.mpr c135
                        clear c135
                        have H' := Aside0.mk H
                        clear H
                        as_aux_lemma =>
                         go_wp2_with (first | ((with_reducible refine gate_callee (f := 51) rfl ?_); refine goesA (some 402) Try.func51 #[.int .i64 t926, .slice Ao18 t927.length co18, .int .i64 x44_5] ?_; (with_reducible refine (impl_TimesSet.calls kj125 t926 _ _ t927 x44_5 t986 true _ ?side1 ?side2 A129.out).mono ?_); (case side1 => exact atRC HO_6); (case side2 => exact (Kd.R_reads' HO_6.out).2.1); rintro e w136 ⟨v988, rfl, ho0, hb⟩; refine ⟨_, rfl, ?_⟩; have HO989 := lowR ho0 HB; replace HO_6 := upR HO_6 hb; replace HB := upB HB hb; (try clear hb); (try clear hb2); (try clear hk); (try clear hi); (try clear ho0)) | ((with_reducible refine gate_callee (f := 52) rfl ?_); refine goesA (some 407) Try.func52 #[.int .i64 x44_5, .int .i64 t926] ?_; (with_reducible refine (laws_zCommon.calls kj125 x44_5 t926 t990 _ A130.out).mono ?_); rintro e w' ⟨rfl, ⟨nd, rfl⟩⟩; refine ⟨_, rfl, ?_⟩; (try (rw [drewN_self w136]; generalize hq_ : World.drewN w136 _ = w136; have n0_ : Aside0 (Kd.R (Kd.int .i64) 3 w136 w.heap.size (fun _ => True) v988 t986) := ⟨by rw [← hq_]; exact (atR HO989)⟩; have n1_ : Aside0 (Kd.R (Kd.int .i64) 3 w136 w.heap.size (fun _ => True) (.slice Ao18 t927.length co18) t927) := ⟨by rw [← hq_]; exact (atR HO_6)⟩; have n2_ : Aside0 (Below w.heap.size w w136) := ⟨by rw [← hq_]; exact (atB HB)⟩; clear HO989 HO_6 HB hq_; have HO989 := n0_; have HO_6 := n1_; have HB := n2_; clear n0_ n1_ n2_)); obtain ⟨Ao137, co137, eo137⟩ := Kd.R_slice HO989.out; subst eo137) | ((with_reducible refine gate_callee (f := 34) rfl ?_); refine goesA (some 412) Try.func34 #[.int .i64 t926, .slice Ao137 t986.length co137] ?_; (with_reducible refine (impl_LambdaOf.calls kj125 t926 _ _ t986 t991 true _ ?side1 ?side2 A132.out).mono ?_); (case side1 => exact atRC HO989); (case side2 => exact (Kd.R_reads' HO989.out).2.1); rintro e w138 ⟨rfl, hb⟩; refine ⟨_, rfl, ?_⟩; replace HO_6 := upR HO_6 hb; replace HO989 := upR HO989 hb; replace HB := upB HB hb; (try clear hb); (try clear hb2); (try clear hk); (try clear hi)))
                         go_roundg kj125
                         case measure => have := HJ15.out; have := HJ61.out; have := HJ111.out; have := HJ115.out; have := HK5.out; have := HJ125.out; omega
                         case rel => exact ⟨(wrap64 (x44_5 + 1)), eqd, H', ⟨by have := HJ15.out; have := HJ61.out; have := HJ111.out; have := HJ115.out; have := HK5.out; have := HJ125.out; omega⟩, ⟨atR HO_6⟩, ⟨atB HB⟩⟩
                       ·rw [if_neg c135] at H
                        have c135b0 : (t991 == t930) = false := beq_eq_false_iff_ne.mpr c135
                        have c135b1 : (t991 != t930) = true := bne_iff_ne.mpr c135
                        exact absurd ((Option.some.inj H).trans HT.out) (by decide)
                      ·replace c134 := Bool.eq_false_iff.mpr c134
                       subst c134
                       rw [if_neg (show ¬ (false = true) by decide)] at H
                       exact absurd ((Option.some.inj H).trans HT.out) (by decide)
                     ·replace c133 := Bool.eq_false_iff.mpr c133
                      subst c133
                      rw [if_neg (show ¬ (false = true) by decide)] at H
                      exact absurd ((Option.some.inj H).trans HT.out) (by decide)
                    ·rw [if_neg c131] at H
                     have c131b0 : (t990 == 1) = false := beq_eq_false_iff_ne.mpr c131
                     have c131b1 : (t990 != 1) = true := bne_iff_ne.mpr c131
                     have H' := Aside0.mk H
                     clear H
                     as_aux_lemma =>
                      go_wp2_with (first | ((with_reducible refine gate_callee (f := 51) rfl ?_); refine goesA (some 402) Try.func51 #[.int .i64 t926, .slice Ao18 t927.length co18, .int .i64 x44_5] ?_; (with_reducible refine (impl_TimesSet.calls kj125 t926 _ _ t927 x44_5 t986 t987 _ ?side1 ?side2 A129.out).mono ?_); (case side1 => exact atRC HO_6); (case side2 => exact (Kd.R_reads' HO_6.out).2.1); rintro e w139 ⟨v988, rfl, ho0, hb⟩; refine ⟨_, rfl, ?_⟩; have HO989 := lowR ho0 HB; replace HO_6 := upR HO_6 hb; replace HB := upB HB hb; (try clear hb); (try clear hb2); (try clear hk); (try clear hi); (try clear ho0)) | ((with_reducible refine gate_callee (f := 52) rfl ?_); refine goesA (some 407) Try.func52 #[.int .i64 x44_5, .int .i64 t926] ?_; (with_reducible refine (laws_zCommon.calls kj125 x44_5 t926 t990 _ A130.out).mono ?_); rintro e w' ⟨rfl, ⟨nd, rfl⟩⟩; refine ⟨_, rfl, ?_⟩))
                      go_roundg kj125
                      case measure => have := HJ15.out; have := HJ61.out; have := HJ111.out; have := HJ115.out; have := HK5.out; have := HJ125.out; omega
                      case rel => exact ⟨(wrap64 (x44_5 + 1)), eqd, H', ⟨by have := HJ15.out; have := HJ61.out; have := HJ111.out; have := HJ115.out; have := HK5.out; have := HJ125.out; omega⟩, ⟨atR HO_6⟩, ⟨atB HB⟩⟩
                   ·replace c128 := Bool.eq_false_iff.mpr c128
                    subst c128
                    rw [if_neg (show ¬ (false = true) by decide)] at H
                    have H' := Aside0.mk H
                    clear H
                    as_aux_lemma =>
                     go_wp2
                     go_meet
                     case rel => exact ⟨_, H', ⟨by have := HJ15.out; have := HJ61.out; have := HJ111.out; have := HJ115.out; have := HK5.out; have := HJ125.out; first | omega | exact Nat.le_refl _⟩, ⟨atB HB⟩⟩
         ·rw [if_neg c110] at H
          have c110b0 : ((wrap64 (t930 * (wrap64 (t926 - 1)))) == (wrap64 ((t927.length : Int) * (wrap64 ((t927.length : Int) - 1))))) = false := beq_eq_false_iff_ne.mpr c110
          have c110b1 : ((wrap64 (t930 * (wrap64 (t926 - 1)))) != (wrap64 ((t927.length : Int) * (wrap64 ((t927.length : Int) - 1))))) = true := bne_iff_ne.mpr c110
          (first | rw [c110b0] | (simp only [i64_w, i32_w]; rw [c110b0]) | skip)
          exact absurd ((Option.some.inj H).trans HT.out) (by decide)
        ·replace c109 := Bool.eq_false_iff.mpr c109
         subst c109
         rw [if_neg (show ¬ (false = true) by decide)] at H
         have H' := Aside0.mk H
         clear H
         as_aux_lemma =>
          go_wp2
          go_meet
          case rel => exact ⟨_, H', ⟨by have := HJ15.out; have := HJ61.out; first | omega | exact Nat.le_refl _⟩, ⟨atB HB⟩⟩
       case rest => as_aux_lemma =>
        clear HC108
        try clear c1
        try clear c2
        try clear p2
        try clear c3
        try clear c4
        try clear c5
        try clear c6
        try clear p6
        try clear c7
        try clear c8
        try clear c9
        try clear p9
        try clear q9
        try clear hx9
        try clear qi9
        try clear c10
        try clear c11
        try clear c12
        try clear c13
        try clear c29
        try clear c29b0
        try clear c29b1
        try clear c29b2
        try clear c30
        try clear c30b0
        try clear c30b1
        try clear c31
        try clear c31b0
        try clear c31b1
        try clear c31b2
        try clear c32
        try clear c32b0
        try clear c32b1
        try clear c32b2
        try clear c33
        try clear c33b0
        try clear c33b1
        try clear c33b2
        try clear c34
        try clear c35
        try clear c36
        try clear c36b0
        try clear c36b1
        try clear c36b2
        try clear c37
        try clear c38
        try clear c39
        try clear c39b0
        try clear c39b1
        try clear c39b2
        try clear c40
        try clear c40b0
        try clear c40b1
        try clear c40b2
        try clear c41
        try clear c42
        try clear c42b0
        try clear c42b1
        try clear c42b2
        try clear c43
        try clear c45
        try clear c45b0
        try clear c45b1
        try clear c45b2
        try clear c46
        try clear c47
        try clear c47b0
        try clear c47b1
        try clear c47b2
        try clear c48
        try clear c48b0
        try clear c48b1
        try clear c48b2
        try clear c49
        try clear c49b0
        try clear c49b1
        try clear c49b2
        try clear c50
        try clear c51
        try clear c52
        try clear c54
        try clear c54b0
        try clear c54b1
        try clear c54b2
        try clear c55
        try clear c55b0
        try clear c55b1
        try clear c55b2
        try clear c56
        try clear c56b0
        try clear c56b1
        try clear c56b2
        try clear c61
        try clear c63
        try clear p64
        try clear c65
        try clear c65b0
        try clear c66
        try clear c66b0
        try clear c67
        try clear c67b0
        try clear c69
        try clear c69b0
        try clear c69b1
        try clear c70
        try clear c70b0
        try clear c70b1
        try clear c71
        try clear c71b0
        try clear c73
        try clear c73b0
        try clear c74
        try clear c74b0
        try clear c75
        try clear c75b0
        try clear c77
        try clear c77b0
        try clear c78
        try clear c78b0
        try clear c79
        try clear c80
        try clear c80b0
        try clear c81
        try clear c81b0
        try clear c81b1
        try clear c83
        try clear c83b0
        try clear c83b1
        try clear c84
        try clear c84b0
        try clear c84b1
        try clear c84b2
        try clear c85
        try clear c85b0
        try clear c85b1
        try clear c86
        try clear c86b0
        try clear c86b1
        try clear c87
        try clear c87b0
        try clear c87b1
        try clear c89
        try clear c89b0
        try clear c90
        try clear c90b0
        try clear c91
        try clear c91b0
        try clear c92
        try clear c92b0
        try clear c93
        try clear c93b0
        try clear c94
        try clear c94b0
        try clear c95
        try clear c95b0
        try clear c95b1
        try clear p96
        try clear q96
        try clear hx96
        try clear qi96
        try clear c97
        try clear c100
        try clear c101
        try clear c103
        try clear c109
        try clear c110
        try clear c110b0
        try clear c110b1
        try clear c114
        try clear c117
        try clear c119
        try clear c119b0
        try clear c120
        try clear c121
        try clear c121b0
        try clear c121b1
        try clear c127
        try clear c127b0
        try clear c128
        try clear c131
        try clear c131b0
        try clear c131b1
        try clear c133
        try clear c134
        try clear c135
        try clear c135b0
        try clear c135b1
        try clear hx963_0
        try clear hx964_0
        try clear hx965_0
        try clear hx967_0
        try clear hx968_0
        try clear hx969_0
        try clear p2
        try clear p6
        try clear p64
        try clear p9
        try clear p96
        try clear p963
        try clear p964
        try clear p965
        try clear p967
        try clear p968
        try clear p969
        try clear q9
        try clear q96
        try clear q963
        try clear q964
        try clear q965
        try clear q967
        try clear q968
        try clear q969
        obtain ⟨kq, HA, HJ107, HB⟩ := hcut
        cases kq with
        | zero => exact absurd HA.out (by simp [laws_FnCirclesDiffer.j10])
        | succ kj107 =>
         have H := HA.out
         clear HA
         simp only [laws_FnCirclesDiffer.j10] at H
         replace H := Option.bind_eq_some_iff.mp H
         obtain ⟨⟨t993, t994, t995⟩, A1400, H⟩ := H
         (try dsimp only at H)
         have A140 := Aside0.mk A1400
         clear A1400
         replace H := Option.bind_eq_some_iff.mp H
         obtain ⟨⟨t998, t999⟩, A1410, H⟩ := H
         (try dsimp only at H)
         have A141 := Aside0.mk A1410
         clear A1410
         replace H := Option.bind_eq_some_iff.mp H
         obtain ⟨⟨t1002, t1003⟩, A1420, H⟩ := H
         (try dsimp only at H)
         have A142 := Aside0.mk A1420
         clear A1420
         replace H := Option.bind_eq_some_iff.mp H
         obtain ⟨⟨t1006, t1007⟩, A1430, H⟩ := H
         (try dsimp only at H)
         have A143 := Aside0.mk A1430
         clear A1430
         replace H := Option.bind_eq_some_iff.mp H
         obtain ⟨⟨t1010, t1011⟩, A1440, H⟩ := H
         (try dsimp only at H)
         have A144 := Aside0.mk A1440
         clear A1440
         replace H := Option.bind_eq_some_iff.mp H
         obtain ⟨⟨t1014, t1015⟩, A1450, H⟩ := H
         (try dsimp only at H)
         have A145 := Aside0.mk A1450
         clear A1450
         replace H := Option.bind_eq_some_iff.mp H
         obtain ⟨⟨t1018, t1019⟩, A1460, H⟩ := H
         (try dsimp only at H)
         have A146 := Aside0.mk A1460
         clear A1460
         replace H := Option.bind_eq_some_iff.mp H
         obtain ⟨⟨t1022, t1023⟩, A1470, H⟩ := H
         (try dsimp only at H)
         have A147 := Aside0.mk A1470
         clear A1470
         by_cases c148 : (t999 != t1003) = true
         ·rw [if_pos c148] at H
          have c148b0 : (t999 != t1003) = true := c148
          (try (have c148b1 : decide (t999 = t1003) = false := by simpa using c148))
          (try (have c148b2 : (t999 == t1003) = false := by simpa using c148))
          (try (have c148b3 : ¬ (t999 = t1003) := by simpa using c148))
          clear c148
          exact absurd ((Option.some.inj H).trans HT.out) (by decide)
         ·rw [if_neg c148] at H
          have c148b0 : (t999 != t1003) = false := by simpa using c148
          (try (have c148b1 : decide (t999 = t1003) = true := by simpa using c148))
          (try (have c148b2 : (t999 == t1003) = true := by simpa using c148))
          clear c148
          replace H := Option.bind_eq_some_iff.mp H
          obtain ⟨t1026, A1490, H⟩ := H
          (try dsimp only at H)
          have A149 := Aside0.mk A1490
          clear A1490
          by_cases c150 : t1026 = true
          ·subst c150
           rw [if_pos rfl] at H
           by_cases c151 : (t1007 != t1011) = true
           ·rw [if_pos c151] at H
            have c151b0 : (t1007 != t1011) = true := c151
            (try (have c151b1 : decide (t1007 = t1011) = false := by simpa using c151))
            (try (have c151b2 : (t1007 == t1011) = false := by simpa using c151))
            (try (have c151b3 : ¬ (t1007 = t1011) := by simpa using c151))
            clear c151
            exact absurd ((Option.some.inj H).trans HT.out) (by decide)
           ·rw [if_neg c151] at H
            have c151b0 : (t1007 != t1011) = false := by simpa using c151
            (try (have c151b1 : decide (t1007 = t1011) = true := by simpa using c151))
            (try (have c151b2 : (t1007 == t1011) = true := by simpa using c151))
            clear c151
            replace H := Option.bind_eq_some_iff.mp H
            obtain ⟨t1027, A1520, H⟩ := H
            (try dsimp only at H)
            have A152 := Aside0.mk A1520
            clear A1520
            by_cases c153 : t1027 = true
            ·subst c153
             rw [if_pos rfl] at H
             by_cases c154 : (t1019 != t1023) = true
             ·rw [if_pos c154] at H
              have c154b0 : (t1019 != t1023) = true := c154
              (try (have c154b1 : decide (t1019 = t1023) = false := by simpa using c154))
              (try (have c154b2 : (t1019 == t1023) = false := by simpa using c154))
              (try (have c154b3 : ¬ (t1019 = t1023) := by simpa using c154))
              clear c154
              exact absurd ((Option.some.inj H).trans HT.out) (by decide)
             ·rw [if_neg c154] at H
              have c154b0 : (t1019 != t1023) = false := by simpa using c154
              (try (have c154b1 : decide (t1019 = t1023) = true := by simpa using c154))
              (try (have c154b2 : (t1019 == t1023) = true := by simpa using c154))
              clear c154
              replace H := Option.bind_eq_some_iff.mp H
              obtain ⟨t1028, A1550, H⟩ := H
              (try dsimp only at H)
              have A155 := Aside0.mk A1550
              clear A1550
              by_cases c156 : t1028 = true
              ·subst c156
               rw [if_pos rfl] at H
               by_cases c157 : t1019 = true
               ·subst c157
                obtain rfl : t1023 = true := (by simpa using c154b0)
                rw [if_pos rfl] at H
                replace H := Option.bind_eq_some_iff.mp H
                obtain ⟨⟨t1029, t1030⟩, A1580, H⟩ := H
                (try dsimp only at H)
                have A158 := Aside0.mk A1580
                clear A1580
                by_cases c159 : t1030 = true
                ·subst c159
                 rw [if_pos rfl] at H
                 replace H := Option.bind_eq_some_iff.mp H
                 obtain ⟨t1033, A1600, H⟩ := H
                 (try dsimp only at H)
                 have A160 := Aside0.mk A1600
                 clear A1600
                 by_cases c161 : t1033 = true
                 ·subst c161
                  rw [if_pos rfl] at H
                  obtain rfl := Option.some.inj H
                  as_aux_lemma =>
                   go_wp2_with (first | ((with_reducible refine gate_callee (f := 53) rfl ?_); refine goesA (some 428) Try.func53 #[.slice A1 l1.length c1] ?_; (with_reducible refine (spec_DrawMoveSet.calls kj107 _ _ l1 t993 t994 t995 _ ?side1 ?side2 A140.out).mono ?_); (case side1 => repeat (first | exact (Kd.C_below HR1.out HB.out) | (with_reducible refine Kd.C_alloc ?_ _) | (with_reducible refine Kd.C_drewN ?_ _) | (with_reducible refine Kd.C_drew ?_))); (case side2 => exact HC1.out); rintro e w162 ⟨v996, rfl, ho0, hb⟩; refine ⟨_, rfl, ?_⟩; have HO997 := lowR ho0 HB; replace HB := upB HB hb; (try clear hb); (try clear hb2); (try clear hk); (try clear hi); (try clear ho0); obtain ⟨Ao163, co163, eo163⟩ := Kd.R_slice HO997.out; subst eo163) | ((with_reducible refine gate_callee (f := 49) rfl ?_); refine goesA (some 436) Try.func49 #[.int .i64 t993, .slice Ao163 t994.length co163, .int .i64 t995] ?_; (with_reducible refine (impl_MoveSet.calls kj107 t993 _ _ t994 t995 t998 t999 _ ?side1 ?side2 A141.out).mono ?_); (case side1 => exact atRC HO997); (case side2 => exact (Kd.R_reads' HO997.out).2.1); rintro e w164 ⟨v1000, rfl, ho0, hb⟩; refine ⟨_, rfl, ?_⟩; have HO1001 := lowR ho0 HB; replace HO997 := upR HO997 hb; replace HB := upB HB hb; (try clear hb); (try clear hb2); (try clear hk); (try clear hi); (try clear ho0)) | ((with_reducible refine gate_callee (f := 54) rfl ?_); refine goesA (some 443) Try.func54 #[.int .i64 t993, .slice Ao163 t994.length co163, .int .i64 t995] ?_; (with_reducible refine (spec_MoveSet.calls kj107 t993 _ _ t994 t995 t1002 t1003 _ ?side1 ?side2 A142.out).mono ?_); (case side1 => exact atRC HO997); (case side2 => exact (Kd.R_reads' HO997.out).2.1); rintro e w165 ⟨v1004, rfl, ho0, hb⟩; refine ⟨_, rfl, ?_⟩; have HO1005 := lowR ho0 HB; replace HO997 := upR HO997 hb; replace HO1001 := upR HO1001 hb; replace HB := upB HB hb; (try clear hb); (try clear hb2); (try clear hk); (try clear hi); (try clear ho0)) | ((with_reducible refine gate_callee (f := 51) rfl ?_); refine goesA (some 450) Try.func51 #[.int .i64 t993, .slice Ao163 t994.length co163, .int .i64 t995] ?_; (with_reducible refine (impl_TimesSet.calls kj107 t993 _ _ t994 t995 t1006 t1007 _ ?side1 ?side2 A143.out).mono ?_); (case side1 => exact atRC HO997); (case side2 => exact (Kd.R_reads' HO997.out).2.1); rintro e w166 ⟨v1008, rfl, ho0, hb⟩; refine ⟨_, rfl, ?_⟩; have HO1009 := lowR ho0 HB; replace HO997 := upR HO997 hb; replace HO1001 := upR HO1001 hb; replace HO1005 := upR HO1005 hb; replace HB := upB HB hb; (try clear hb); (try clear hb2); (try clear hk); (try clear hi); (try clear ho0)) | ((with_reducible refine gate_callee (f := 55) rfl ?_); refine goesA (some 457) Try.func55 #[.int .i64 t993, .slice Ao163 t994.length co163, .int .i64 t995] ?_; (with_reducible refine (spec_TimesSet.calls kj107 t993 _ _ t994 t995 t1010 t1011 _ ?side1 ?side2 A144.out).mono ?_); (case side1 => exact atRC HO997); (case side2 => exact (Kd.R_reads' HO997.out).2.1); rintro e w167 ⟨v1012, rfl, ho0, hb⟩; refine ⟨_, rfl, ?_⟩; have HO1013 := lowR ho0 HB; replace HO997 := upR HO997 hb; replace HO1001 := upR HO1001 hb; replace HO1005 := upR HO1005 hb; replace HO1009 := upR HO1009 hb; replace HB := upB HB hb; (try clear hb); (try clear hb2); (try clear hk); (try clear hi); (try clear ho0)) | ((with_reducible refine gate_callee (f := 56) rfl ?_); refine goesA (some 462) Try.func56 #[.slice A1 l1.length c1] ?_; (with_reducible refine (spec_DrawComplementSet.calls kj107 _ _ l1 t1014 t1015 _ ?side1 ?side2 A145.out).mono ?_); (case side1 => repeat (first | exact (Kd.C_below HR1.out HB.out) | (with_reducible refine Kd.C_alloc ?_ _) | (with_reducible refine Kd.C_drewN ?_ _) | (with_reducible refine Kd.C_drew ?_))); (case side2 => exact HC1.out); rintro e w168 ⟨v1016, rfl, ho0, hb⟩; refine ⟨_, rfl, ?_⟩; have HO1017 := lowR ho0 HB; replace HO997 := upR HO997 hb; replace HO1001 := upR HO1001 hb; replace HO1005 := upR HO1005 hb; replace HO1009 := upR HO1009 hb; replace HO1013 := upR HO1013 hb; replace HB := upB HB hb; (try clear hb); (try clear hb2); (try clear hk); (try clear hi); (try clear ho0); obtain ⟨Ao169, co169, eo169⟩ := Kd.R_slice HO1017.out; subst eo169) | ((with_reducible refine gate_callee (f := 50) rfl ?_); refine goesA (some 468) Try.func50 #[.int .i64 t1014, .slice Ao169 t1015.length co169] ?_; (with_reducible refine (impl_ComplementSet.calls kj107 t1014 _ _ t1015 t1018 true _ ?side1 ?side2 A146.out).mono ?_); (case side1 => exact atRC HO1017); (case side2 => exact (Kd.R_reads' HO1017.out).2.1); rintro e w170 ⟨v1020, rfl, ho0, hb⟩; refine ⟨_, rfl, ?_⟩; have HO1021 := lowR ho0 HB; replace HO997 := upR HO997 hb; replace HO1001 := upR HO1001 hb; replace HO1005 := upR HO1005 hb; replace HO1009 := upR HO1009 hb; replace HO1013 := upR HO1013 hb; replace HO1017 := upR HO1017 hb; replace HB := upB HB hb; (try clear hb); (try clear hb2); (try clear hk); (try clear hi); (try clear ho0)) | ((with_reducible refine gate_callee (f := 57) rfl ?_); refine goesA (some 474) Try.func57 #[.int .i64 t1014, .slice Ao169 t1015.length co169] ?_; (with_reducible refine (spec_ComplementSet.calls kj107 t1014 _ _ t1015 t1022 true _ ?side1 ?side2 A147.out).mono ?_); (case side1 => exact atRC HO1017); (case side2 => exact (Kd.R_reads' HO1017.out).2.1); rintro e w171 ⟨v1024, rfl, ho0, hb⟩; refine ⟨_, rfl, ?_⟩; have HO1025 := lowR ho0 HB; replace HO997 := upR HO997 hb; replace HO1001 := upR HO1001 hb; replace HO1005 := upR HO1005 hb; replace HO1009 := upR HO1009 hb; replace HO1013 := upR HO1013 hb; replace HO1017 := upR HO1017 hb; replace HO1021 := upR HO1021 hb; replace HB := upB HB hb; (try clear hb); (try clear hb2); (try clear hk); (try clear hi); (try clear ho0); obtain ⟨Ao172, co172, eo172⟩ := Kd.R_slice HO1001.out; subst eo172; obtain ⟨Ao173, co173, eo173⟩ := Kd.R_slice HO1005.out; subst eo173) | (go_at_call 44; (with_reducible refine (laws_zSame.calls kj107 _ _ t998 _ _ t1002 true _ ?side1 ?side2 ?side3 ?side4 A149.out).mono ?_); (case side1 => exact atRC HO1001); (case side2 => exact (Kd.R_reads' HO1001.out).2.1); (case side3 => exact atRC HO1005); (case side4 => exact (Kd.R_reads' HO1005.out).2.1); rintro e w' ⟨rfl, ⟨nd, rfl⟩⟩; (try (rw [drewN_self w171]; generalize hq_ : World.drewN w171 _ = w171; have n0_ : Aside0 (Kd.R (Kd.int .i64) 3 w171 w.heap.size (fun _ => True) (.slice Ao172 t998.length co172) t998) := ⟨by rw [← hq_]; exact (atR HO1001)⟩; have n1_ : Aside0 (Kd.R (Kd.int .i64) 3 w171 w.heap.size (fun _ => True) (.slice Ao173 t1002.length co173) t1002) := ⟨by rw [← hq_]; exact (atR HO1005)⟩; have n2_ : Aside0 (Kd.R (Kd.int .i64) 3 w171 w.heap.size (fun _ => True) v1008 t1006) := ⟨by rw [← hq_]; exact (atR HO1009)⟩; have n3_ : Aside0 (Kd.R (Kd.int .i64) 3 w171 w.heap.size (fun _ => True) v1012 t1010) := ⟨by rw [← hq_]; exact (atR HO1013)⟩; have n4_ : Aside0 (Kd.R (Kd.int .i64) 3 w171 w.heap.size (fun _ => True) (.slice Ao169 t1015.length co169) t1015) := ⟨by rw [← hq_]; exact (atR HO1017)⟩; have n5_ : Aside0 (Kd.R (Kd.int .i64) 3 w171 w.heap.size (fun _ => True) v1020 t1018) := ⟨by rw [← hq_]; exact (atR HO1021)⟩; have n6_ : Aside0 (Kd.R (Kd.int .i64) 3 w171 w.heap.size (fun _ => True) v1024 t1022) := ⟨by rw [← hq_]; exact (atR HO1025)⟩; have n7_ : Aside0 (Kd.R (Kd.int .i64) 3 w171 w.heap.size (fun _ => True) (.slice Ao163 t994.length co163) t994) := ⟨by rw [← hq_]; exact (atR HO997)⟩; have n8_ : Aside0 (Below w.heap.size w w171) := ⟨by rw [← hq_]; exact (atB HB)⟩; clear HO1001 HO1005 HO1009 HO1013 HO1017 HO1021 HO1025 HO997 HB hq_; have HO1001 := n0_; have HO1005 := n1_; have HO1009 := n2_; have HO1013 := n3_; have HO1017 := n4_; have HO1021 := n5_; have HO1025 := n6_; have HO997 := n7_; have HB := n8_; clear n0_ n1_ n2_ n3_ n4_ n5_ n6_ n7_ n8_)); obtain ⟨Ao174, co174, eo174⟩ := Kd.R_slice HO1009.out; subst eo174; obtain ⟨Ao175, co175, eo175⟩ := Kd.R_slice HO1013.out; subst eo175) | (go_at_call 44; (with_reducible refine (laws_zSame.calls kj107 _ _ t1006 _ _ t1010 true _ ?side1 ?side2 ?side3 ?side4 A152.out).mono ?_); (case side1 => exact atRC HO1009); (case side2 => exact (Kd.R_reads' HO1009.out).2.1); (case side3 => exact atRC HO1013); (case side4 => exact (Kd.R_reads' HO1013.out).2.1); rintro e w' ⟨rfl, ⟨nd, rfl⟩⟩; (try (rw [drewN_self w171]; generalize hq_ : World.drewN w171 _ = w171; have n0_ : Aside0 (Kd.R (Kd.int .i64) 3 w171 w.heap.size (fun _ => True) (.slice Ao172 t998.length co172) t998) := ⟨by rw [← hq_]; exact (atR HO1001)⟩; have n1_ : Aside0 (Kd.R (Kd.int .i64) 3 w171 w.heap.size (fun _ => True) (.slice Ao173 t1002.length co173) t1002) := ⟨by rw [← hq_]; exact (atR HO1005)⟩; have n2_ : Aside0 (Kd.R (Kd.int .i64) 3 w171 w.heap.size (fun _ => True) (.slice Ao174 t1006.length co174) t1006) := ⟨by rw [← hq_]; exact (atR HO1009)⟩; have n3_ : Aside0 (Kd.R (Kd.int .i64) 3 w171 w.heap.size (fun _ => True) (.slice Ao175 t1010.length co175) t1010) := ⟨by rw [← hq_]; exact (atR HO1013)⟩; have n4_ : Aside0 (Kd.R (Kd.int .i64) 3 w171 w.heap.size (fun _ => True) (.slice Ao169 t1015.length co169) t1015) := ⟨by rw [← hq_]; exact (atR HO1017)⟩; have n5_ : Aside0 (Kd.R (Kd.int .i64) 3 w171 w.heap.size (fun _ => True) v1020 t1018) := ⟨by rw [← hq_]; exact (atR HO1021)⟩; have n6_ : Aside0 (Kd.R (Kd.int .i64) 3 w171 w.heap.size (fun _ => True) v1024 t1022) := ⟨by rw [← hq_]; exact (atR HO1025)⟩; have n7_ : Aside0 (Kd.R (Kd.int .i64) 3 w171 w.heap.size (fun _ => True) (.slice Ao163 t994.length co163) t994) := ⟨by rw [← hq_]; exact (atR HO997)⟩; have n8_ : Aside0 (Below w.heap.size w w171) := ⟨by rw [← hq_]; exact (atB HB)⟩; clear HO1001 HO1005 HO1009 HO1013 HO1017 HO1021 HO1025 HO997 HB hq_; have HO1001 := n0_; have HO1005 := n1_; have HO1009 := n2_; have HO1013 := n3_; have HO1017 := n4_; have HO1021 := n5_; have HO1025 := n6_; have HO997 := n7_; have HB := n8_; clear n0_ n1_ n2_ n3_ n4_ n5_ n6_ n7_ n8_)); obtain ⟨Ao176, co176, eo176⟩ := Kd.R_slice HO1021.out; subst eo176; obtain ⟨Ao177, co177, eo177⟩ := Kd.R_slice HO1025.out; subst eo177) | (go_at_call 44; (with_reducible refine (laws_zSame.calls kj107 _ _ t1018 _ _ t1022 true _ ?side1 ?side2 ?side3 ?side4 A155.out).mono ?_); (case side1 => exact atRC HO1021); (case side2 => exact (Kd.R_reads' HO1021.out).2.1); (case side3 => exact atRC HO1025); (case side4 => exact (Kd.R_reads' HO1025.out).2.1); rintro e w' ⟨rfl, ⟨nd, rfl⟩⟩; (try (rw [drewN_self w171]; generalize hq_ : World.drewN w171 _ = w171; have n0_ : Aside0 (Kd.R (Kd.int .i64) 3 w171 w.heap.size (fun _ => True) (.slice Ao172 t998.length co172) t998) := ⟨by rw [← hq_]; exact (atR HO1001)⟩; have n1_ : Aside0 (Kd.R (Kd.int .i64) 3 w171 w.heap.size (fun _ => True) (.slice Ao173 t1002.length co173) t1002) := ⟨by rw [← hq_]; exact (atR HO1005)⟩; have n2_ : Aside0 (Kd.R (Kd.int .i64) 3 w171 w.heap.size (fun _ => True) (.slice Ao174 t1006.length co174) t1006) := ⟨by rw [← hq_]; exact (atR HO1009)⟩; have n3_ : Aside0 (Kd.R (Kd.int .i64) 3 w171 w.heap.size (fun _ => True) (.slice Ao175 t1010.length co175) t1010) := ⟨by rw [← hq_]; exact (atR HO1013)⟩; have n4_ : Aside0 (Kd.R (Kd.int .i64) 3 w171 w.heap.size (fun _ => True) (.slice Ao169 t1015.length co169) t1015) := ⟨by rw [← hq_]; exact (atR HO1017)⟩; have n5_ : Aside0 (Kd.R (Kd.int .i64) 3 w171 w.heap.size (fun _ => True) (.slice Ao176 t1018.length co176) t1018) := ⟨by rw [← hq_]; exact (atR HO1021)⟩; have n6_ : Aside0 (Kd.R (Kd.int .i64) 3 w171 w.heap.size (fun _ => True) (.slice Ao177 t1022.length co177) t1022) := ⟨by rw [← hq_]; exact (atR HO1025)⟩; have n7_ : Aside0 (Kd.R (Kd.int .i64) 3 w171 w.heap.size (fun _ => True) (.slice Ao163 t994.length co163) t994) := ⟨by rw [← hq_]; exact (atR HO997)⟩; have n8_ : Aside0 (Below w.heap.size w w171) := ⟨by rw [← hq_]; exact (atB HB)⟩; clear HO1001 HO1005 HO1009 HO1013 HO1017 HO1021 HO1025 HO997 HB hq_; have HO1001 := n0_; have HO1005 := n1_; have HO1009 := n2_; have HO1013 := n3_; have HO1017 := n4_; have HO1021 := n5_; have HO1025 := n6_; have HO997 := n7_; have HB := n8_; clear n0_ n1_ n2_ n3_ n4_ n5_ n6_ n7_ n8_))) | ((with_reducible refine gate_callee (f := 50) rfl ?_); refine goesA (some 512) Try.func50 #[.int .i64 t1014, .slice Ao176 t1018.length co176] ?_; (with_reducible refine (impl_ComplementSet.calls kj107 t1014 _ _ t1018 t1029 true _ ?side1 ?side2 A158.out).mono ?_); (case side1 => exact atRC HO1021); (case side2 => exact (Kd.R_reads' HO1021.out).2.1); rintro e w178 ⟨v1031, rfl, ho0, hb⟩; refine ⟨_, rfl, ?_⟩; have HO1032 := lowR ho0 HB; replace HO997 := upR HO997 hb; replace HO1001 := upR HO1001 hb; replace HO1005 := upR HO1005 hb; replace HO1009 := upR HO1009 hb; replace HO1013 := upR HO1013 hb; replace HO1017 := upR HO1017 hb; replace HO1021 := upR HO1021 hb; replace HO1025 := upR HO1025 hb; replace HB := upB HB hb; (try clear hb); (try clear hb2); (try clear hk); (try clear hi); (try clear ho0); obtain ⟨Ao179, co179, eo179⟩ := Kd.R_slice HO1032.out; subst eo179) | (go_at_call 44; (with_reducible refine (laws_zSame.calls kj107 _ _ t1029 _ _ t1015 true _ ?side1 ?side2 ?side3 ?side4 A160.out).mono ?_); (case side1 => exact atRC HO1032); (case side2 => exact (Kd.R_reads' HO1032.out).2.1); (case side3 => exact atRC HO1017); (case side4 => exact (Kd.R_reads' HO1017.out).2.1); rintro e w' ⟨rfl, ⟨nd, rfl⟩⟩))
                   go_ret
                   exact ⟨eqr, atB HB⟩
                 ·replace c161 := Bool.eq_false_iff.mpr c161
                  subst c161
                  rw [if_neg (show ¬ (false = true) by decide)] at H
                  exact absurd ((Option.some.inj H).trans HT.out) (by decide)
                ·replace c159 := Bool.eq_false_iff.mpr c159
                 subst c159
                 rw [if_neg (show ¬ (false = true) by decide)] at H
                 exact absurd ((Option.some.inj H).trans HT.out) (by decide)
               ·replace c157 := Bool.eq_false_iff.mpr c157
                subst c157
                obtain rfl : t1023 = false := (by simpa using c154b0)
                rw [if_neg (show ¬ (false = true) by decide)] at H
                obtain rfl := Option.some.inj H
                as_aux_lemma =>
                 go_wp2_with (first | ((with_reducible refine gate_callee (f := 53) rfl ?_); refine goesA (some 428) Try.func53 #[.slice A1 l1.length c1] ?_; (with_reducible refine (spec_DrawMoveSet.calls kj107 _ _ l1 t993 t994 t995 _ ?side1 ?side2 A140.out).mono ?_); (case side1 => repeat (first | exact (Kd.C_below HR1.out HB.out) | (with_reducible refine Kd.C_alloc ?_ _) | (with_reducible refine Kd.C_drewN ?_ _) | (with_reducible refine Kd.C_drew ?_))); (case side2 => exact HC1.out); rintro e w180 ⟨v996, rfl, ho0, hb⟩; refine ⟨_, rfl, ?_⟩; have HO997 := lowR ho0 HB; replace HB := upB HB hb; (try clear hb); (try clear hb2); (try clear hk); (try clear hi); (try clear ho0); obtain ⟨Ao181, co181, eo181⟩ := Kd.R_slice HO997.out; subst eo181) | ((with_reducible refine gate_callee (f := 49) rfl ?_); refine goesA (some 436) Try.func49 #[.int .i64 t993, .slice Ao181 t994.length co181, .int .i64 t995] ?_; (with_reducible refine (impl_MoveSet.calls kj107 t993 _ _ t994 t995 t998 t999 _ ?side1 ?side2 A141.out).mono ?_); (case side1 => exact atRC HO997); (case side2 => exact (Kd.R_reads' HO997.out).2.1); rintro e w182 ⟨v1000, rfl, ho0, hb⟩; refine ⟨_, rfl, ?_⟩; have HO1001 := lowR ho0 HB; replace HO997 := upR HO997 hb; replace HB := upB HB hb; (try clear hb); (try clear hb2); (try clear hk); (try clear hi); (try clear ho0)) | ((with_reducible refine gate_callee (f := 54) rfl ?_); refine goesA (some 443) Try.func54 #[.int .i64 t993, .slice Ao181 t994.length co181, .int .i64 t995] ?_; (with_reducible refine (spec_MoveSet.calls kj107 t993 _ _ t994 t995 t1002 t1003 _ ?side1 ?side2 A142.out).mono ?_); (case side1 => exact atRC HO997); (case side2 => exact (Kd.R_reads' HO997.out).2.1); rintro e w183 ⟨v1004, rfl, ho0, hb⟩; refine ⟨_, rfl, ?_⟩; have HO1005 := lowR ho0 HB; replace HO997 := upR HO997 hb; replace HO1001 := upR HO1001 hb; replace HB := upB HB hb; (try clear hb); (try clear hb2); (try clear hk); (try clear hi); (try clear ho0)) | ((with_reducible refine gate_callee (f := 51) rfl ?_); refine goesA (some 450) Try.func51 #[.int .i64 t993, .slice Ao181 t994.length co181, .int .i64 t995] ?_; (with_reducible refine (impl_TimesSet.calls kj107 t993 _ _ t994 t995 t1006 t1007 _ ?side1 ?side2 A143.out).mono ?_); (case side1 => exact atRC HO997); (case side2 => exact (Kd.R_reads' HO997.out).2.1); rintro e w184 ⟨v1008, rfl, ho0, hb⟩; refine ⟨_, rfl, ?_⟩; have HO1009 := lowR ho0 HB; replace HO997 := upR HO997 hb; replace HO1001 := upR HO1001 hb; replace HO1005 := upR HO1005 hb; replace HB := upB HB hb; (try clear hb); (try clear hb2); (try clear hk); (try clear hi); (try clear ho0)) | ((with_reducible refine gate_callee (f := 55) rfl ?_); refine goesA (some 457) Try.func55 #[.int .i64 t993, .slice Ao181 t994.length co181, .int .i64 t995] ?_; (with_reducible refine (spec_TimesSet.calls kj107 t993 _ _ t994 t995 t1010 t1011 _ ?side1 ?side2 A144.out).mono ?_); (case side1 => exact atRC HO997); (case side2 => exact (Kd.R_reads' HO997.out).2.1); rintro e w185 ⟨v1012, rfl, ho0, hb⟩; refine ⟨_, rfl, ?_⟩; have HO1013 := lowR ho0 HB; replace HO997 := upR HO997 hb; replace HO1001 := upR HO1001 hb; replace HO1005 := upR HO1005 hb; replace HO1009 := upR HO1009 hb; replace HB := upB HB hb; (try clear hb); (try clear hb2); (try clear hk); (try clear hi); (try clear ho0)) | ((with_reducible refine gate_callee (f := 56) rfl ?_); refine goesA (some 462) Try.func56 #[.slice A1 l1.length c1] ?_; (with_reducible refine (spec_DrawComplementSet.calls kj107 _ _ l1 t1014 t1015 _ ?side1 ?side2 A145.out).mono ?_); (case side1 => repeat (first | exact (Kd.C_below HR1.out HB.out) | (with_reducible refine Kd.C_alloc ?_ _) | (with_reducible refine Kd.C_drewN ?_ _) | (with_reducible refine Kd.C_drew ?_))); (case side2 => exact HC1.out); rintro e w186 ⟨v1016, rfl, ho0, hb⟩; refine ⟨_, rfl, ?_⟩; have HO1017 := lowR ho0 HB; replace HO997 := upR HO997 hb; replace HO1001 := upR HO1001 hb; replace HO1005 := upR HO1005 hb; replace HO1009 := upR HO1009 hb; replace HO1013 := upR HO1013 hb; replace HB := upB HB hb; (try clear hb); (try clear hb2); (try clear hk); (try clear hi); (try clear ho0); obtain ⟨Ao187, co187, eo187⟩ := Kd.R_slice HO1017.out; subst eo187) | ((with_reducible refine gate_callee (f := 50) rfl ?_); refine goesA (some 468) Try.func50 #[.int .i64 t1014, .slice Ao187 t1015.length co187] ?_; (with_reducible refine (impl_ComplementSet.calls kj107 t1014 _ _ t1015 t1018 false _ ?side1 ?side2 A146.out).mono ?_); (case side1 => exact atRC HO1017); (case side2 => exact (Kd.R_reads' HO1017.out).2.1); rintro e w188 ⟨v1020, rfl, ho0, hb⟩; refine ⟨_, rfl, ?_⟩; have HO1021 := lowR ho0 HB; replace HO997 := upR HO997 hb; replace HO1001 := upR HO1001 hb; replace HO1005 := upR HO1005 hb; replace HO1009 := upR HO1009 hb; replace HO1013 := upR HO1013 hb; replace HO1017 := upR HO1017 hb; replace HB := upB HB hb; (try clear hb); (try clear hb2); (try clear hk); (try clear hi); (try clear ho0)) | ((with_reducible refine gate_callee (f := 57) rfl ?_); refine goesA (some 474) Try.func57 #[.int .i64 t1014, .slice Ao187 t1015.length co187] ?_; (with_reducible refine (spec_ComplementSet.calls kj107 t1014 _ _ t1015 t1022 false _ ?side1 ?side2 A147.out).mono ?_); (case side1 => exact atRC HO1017); (case side2 => exact (Kd.R_reads' HO1017.out).2.1); rintro e w189 ⟨v1024, rfl, ho0, hb⟩; refine ⟨_, rfl, ?_⟩; have HO1025 := lowR ho0 HB; replace HO997 := upR HO997 hb; replace HO1001 := upR HO1001 hb; replace HO1005 := upR HO1005 hb; replace HO1009 := upR HO1009 hb; replace HO1013 := upR HO1013 hb; replace HO1017 := upR HO1017 hb; replace HO1021 := upR HO1021 hb; replace HB := upB HB hb; (try clear hb); (try clear hb2); (try clear hk); (try clear hi); (try clear ho0); obtain ⟨Ao190, co190, eo190⟩ := Kd.R_slice HO1001.out; subst eo190; obtain ⟨Ao191, co191, eo191⟩ := Kd.R_slice HO1005.out; subst eo191) | (go_at_call 44; (with_reducible refine (laws_zSame.calls kj107 _ _ t998 _ _ t1002 true _ ?side1 ?side2 ?side3 ?side4 A149.out).mono ?_); (case side1 => exact atRC HO1001); (case side2 => exact (Kd.R_reads' HO1001.out).2.1); (case side3 => exact atRC HO1005); (case side4 => exact (Kd.R_reads' HO1005.out).2.1); rintro e w' ⟨rfl, ⟨nd, rfl⟩⟩; obtain ⟨Ao192, co192, eo192⟩ := Kd.R_slice HO1009.out; subst eo192; obtain ⟨Ao193, co193, eo193⟩ := Kd.R_slice HO1013.out; subst eo193) | (go_at_call 44; (with_reducible refine (laws_zSame.calls kj107 _ _ t1006 _ _ t1010 true _ ?side1 ?side2 ?side3 ?side4 A152.out).mono ?_); (case side1 => exact atRC HO1009); (case side2 => exact (Kd.R_reads' HO1009.out).2.1); (case side3 => exact atRC HO1013); (case side4 => exact (Kd.R_reads' HO1013.out).2.1); rintro e w' ⟨rfl, ⟨nd, rfl⟩⟩; obtain ⟨Ao194, co194, eo194⟩ := Kd.R_slice HO1021.out; subst eo194; obtain ⟨Ao195, co195, eo195⟩ := Kd.R_slice HO1025.out; subst eo195) | (go_at_call 44; (with_reducible refine (laws_zSame.calls kj107 _ _ t1018 _ _ t1022 true _ ?side1 ?side2 ?side3 ?side4 A155.out).mono ?_); (case side1 => exact atRC HO1021); (case side2 => exact (Kd.R_reads' HO1021.out).2.1); (case side3 => exact atRC HO1025); (case side4 => exact (Kd.R_reads' HO1025.out).2.1); rintro e w' ⟨rfl, ⟨nd, rfl⟩⟩))
                 go_ret
                 exact ⟨eqr, atB HB⟩
              ·replace c156 := Bool.eq_false_iff.mpr c156
               subst c156
               rw [if_neg (show ¬ (false = true) by decide)] at H
               exact absurd ((Option.some.inj H).trans HT.out) (by decide)
            ·replace c153 := Bool.eq_false_iff.mpr c153
             subst c153
             rw [if_neg (show ¬ (false = true) by decide)] at H
             exact absurd ((Option.some.inj H).trans HT.out) (by decide)
          ·replace c150 := Bool.eq_false_iff.mpr c150
           subst c150
           rw [if_neg (show ¬ (false = true) by decide)] at H
           exact absurd ((Option.some.inj H).trans HT.out) (by decide)

theorem laws_FnCirclesDiffer.walk (P : laws_FnCirclesDiffer.Pure) (a0 : Option Addr) (len0 cap0 : Nat) (z0 : List Int) (a1 : Option Addr) (len1 cap1 : Nat) (z1 : List Int) (w : World) (w0 : (a0 = none ∧ len0 = 0 ∧ cap0 = 0 ∧ z0 = []) ∨ ∃ x, a0 = some x ∧ len0 ≤ cap0 ∧ cap0 ≤ maxLen ∧ z0.length = cap0 ∧ (∀ i, i < z0.length → w.cell? (x.add i) = some (.int .u8 (z0.getD i 0))) ∧ ∀ n ∈ z0, (Lit.int .u8 n).wf = true) (y0 : len0 * 1 ≤ 140737488351232) (w1 : (a1 = none ∧ len1 = 0 ∧ cap1 = 0 ∧ z1 = []) ∨ ∃ x, a1 = some x ∧ len1 ≤ cap1 ∧ cap1 ≤ maxLen ∧ z1.length = cap1 ∧ (∀ i, i < z1.length → w.cell? (x.add i) = some (.int .u8 (z1.getD i 0))) ∧ ∀ n ∈ z1, (Lit.int .u8 n).wf = true) (y1 : len1 * 1 ≤ 140737488351232) :
  Calls Try.prog 4 #[.slice a0 len0 cap0, .slice a1 len1 cap1] w fun e w' => e = .returned (.bool true) ∧ Below w.heap.size w w' := by
 obtain ⟨l0, rfl, hr0, hm0, hw0, hc0⟩ := ReadsInt.ofRowC w0
 obtain ⟨l1, rfl, hr1, hm1, hw1, hc1⟩ := ReadsInt.ofRowC w1
 obtain ⟨k, h⟩ := P l0 l1 hm0 y0 hw0 hm1 y1 hw1
 refine (laws_FnCirclesDiffer.calls k _ _ l0 _ _ l1 true w (Kd.C_of_reads (d := (0 : Int)) (h1 := fun _ => rfl) hr0) hc0 (Kd.C_of_reads (d := (0 : Int)) (h1 := fun _ => rfl) hr1) hc1 rfl h).mono ?_
 rintro e w' ⟨rfl, hd⟩
 exact ⟨rfl, hd⟩

end Go.Proofs.Ytofjndbpndpjjaa.Fn
