/- The machine's side and plain lemmas for FnDotsCostas: texts of this session, merged by its program (part 8). -/
import Derived.Test.YtnhnpplccfojeaaMFnDotsCostas0
import Derived.Test.YtnhnpplccfojeaaMFnDotsCostas1
import Derived.Test.YtnhnpplccfojeaaMFnDotsCostas2
import Derived.Test.YtnhnpplccfojeaaMFnDotsCostas3
import Derived.Test.YtnhnpplccfojeaaMFnDotsCostas4
import Derived.Test.YtnhnpplccfojeaaMFnDotsCostas5
import Derived.Test.YtnhnpplccfojeaaMFnDotsCostas6
import Derived.Test.YtnhnpplccfojeaaMFnDotsCostas7
namespace Go.Proofs.Ytnhnpplccfojeaa.Fn
open Go.RowKit Go.Proofs.YtnhnpplccfojeaaW.PrintWords Go.Proofs.YtnhnpplccfojeaaW.PrintLast Go.Proofs.YtnhnpplccfojeaaW.PrintMore
attribute [local go_sem] max2_int min2_int max_two min_two max_three min_three max_four min_four   -- for this text's walks alone
set_option linter.unusedVariables false
set_option linter.unusedSimpArgs false
set_option maxHeartbeats 80000000 in
set_option maxRecDepth 100000 in
theorem laws_FnDotsCostas.calls (k : Nat) (A0 : Option Addr) (c0 : Nat) (l0 : List Int) (A1 : Option Addr) (c1 : Nat) (l1 : List Int) (r : Bool) (w : World) (hr0 : Kd.C (Kd.int .u8) w A0 l0.length l0) (hc0 : l0.length ≤ c0) (hr1 : Kd.C (Kd.int .u8) w A1 l1.length l1) (hc1 : l1.length ≤ c1) (ht_ : r = true) (h : laws_FnDotsCostas.f k l0 l1 = some r) :
  Calls Try.prog 5 #[.slice A0 l0.length c0, .slice A1 l1.length c1] w fun e w' => e = .returned (.bool r) ∧ Below w.heap.size w w' := by
 have HR0 := Aside0.mk hr0
 have HC0 := Aside0.mk hc0
 clear hr0 hc0
 have HR1 := Aside0.mk hr1
 have HC1 := Aside0.mk hc1
 clear hr1 hc1
 have HB := Aside0.mk (Below.refl w.heap.size w)
 have H := h
 unfold laws_FnDotsCostas.f at H
 clear h
 have HT := Aside0.mk ht_
 clear ht_
 replace H := Option.bind_eq_some_iff.mp H
 obtain ⟨t1044, A30, H⟩ := H
 (try dsimp only at H)
 have A3 := Aside0.mk A30
 clear A30
 by_cases c4 : t1044 = true
 ·subst c4
  rw [if_pos rfl] at H
  obtain rfl := Option.some.inj H
  go_enter Try.func5, Try.ntmps5
  go_wp2_with (first | (go_at_call 6; (with_reducible refine (laws_big.calls _ _ l0 _ _ l1 true _ ?side1 ?side2 ?side3 ?side4 A3.out).mono ?_); (case side1 => repeat (first | exact HR0.out | (with_reducible refine Kd.C_alloc ?_ _) | (with_reducible refine Kd.C_drewN ?_ _) | (with_reducible refine Kd.C_drew ?_))); (case side2 => exact HC0.out); (case side3 => repeat (first | exact HR1.out | (with_reducible refine Kd.C_alloc ?_ _) | (with_reducible refine Kd.C_drewN ?_ _) | (with_reducible refine Kd.C_drew ?_))); (case side4 => exact HC1.out); rintro e w' ⟨rfl, ⟨nd, rfl⟩⟩; (try first | exact ⟨rfl, _, World.drewN_drewN _ _ _⟩ | exact ⟨rfl, _, Eq.trans (World.drewN_drewN _ _ _) (congrArg (World.drewN _) (Nat.add_assoc _ _ _))⟩)))
  repeat (go_quiet (first | (go_at_call 6; (with_reducible refine (laws_big.calls _ _ l0 _ _ l1 true _ ?side1 ?side2 ?side3 ?side4 A3.out).mono ?_); (case side1 => repeat (first | exact HR0.out | (with_reducible refine Kd.C_alloc ?_ _) | (with_reducible refine Kd.C_drewN ?_ _) | (with_reducible refine Kd.C_drew ?_))); (case side2 => exact HC0.out); (case side3 => repeat (first | exact HR1.out | (with_reducible refine Kd.C_alloc ?_ _) | (with_reducible refine Kd.C_drewN ?_ _) | (with_reducible refine Kd.C_drew ?_))); (case side4 => exact HC1.out); rintro e w' ⟨rfl, ⟨nd, rfl⟩⟩; (try first | exact ⟨rfl, _, World.drewN_drewN _ _ _⟩ | exact ⟨rfl, _, Eq.trans (World.drewN_drewN _ _ _) (congrArg (World.drewN _) (Nat.add_assoc _ _ _))⟩))); try go_wp2_with (first | (go_at_call 6; (with_reducible refine (laws_big.calls _ _ l0 _ _ l1 true _ ?side1 ?side2 ?side3 ?side4 A3.out).mono ?_); (case side1 => repeat (first | exact HR0.out | (with_reducible refine Kd.C_alloc ?_ _) | (with_reducible refine Kd.C_drewN ?_ _) | (with_reducible refine Kd.C_drew ?_))); (case side2 => exact HC0.out); (case side3 => repeat (first | exact HR1.out | (with_reducible refine Kd.C_alloc ?_ _) | (with_reducible refine Kd.C_drewN ?_ _) | (with_reducible refine Kd.C_drew ?_))); (case side4 => exact HC1.out); rintro e w' ⟨rfl, ⟨nd, rfl⟩⟩; (try first | exact ⟨rfl, _, World.drewN_drewN _ _ _⟩ | exact ⟨rfl, _, Eq.trans (World.drewN_drewN _ _ _) (congrArg (World.drewN _) (Nat.add_assoc _ _ _))⟩))))
  go_ret
  exact ⟨eqr, atB HB⟩
 ·replace c4 := Bool.eq_false_iff.mpr c4
  subst c4
  rw [if_neg (show ¬ (false = true) by decide)] at H
  replace H := Option.bind_eq_some_iff.mp H
  obtain ⟨t1045, A50, H⟩ := H
  (try dsimp only at H)
  have A5 := Aside0.mk A50
  clear A50
  replace H := Option.bind_eq_some_iff.mp H
  obtain ⟨⟨t1048, t1049⟩, A60, H⟩ := H
  (try dsimp only at H)
  have A6 := Aside0.mk A60
  clear A60
  replace H := Option.bind_eq_some_iff.mp H
  obtain ⟨⟨t1050, t1051⟩, A70, H⟩ := H
  (try dsimp only at H)
  have A7 := Aside0.mk A70
  clear A70
  replace H := Option.bind_eq_some_iff.mp H
  obtain ⟨⟨t1052, t1053, t1054, t1055⟩, A80, H⟩ := H
  (try dsimp only at H)
  have A8 := Aside0.mk A80
  clear A80
  replace H := Option.bind_eq_some_iff.mp H
  obtain ⟨⟨t1056, t1057, t1058, t1059⟩, A90, H⟩ := H
  (try dsimp only at H)
  have A9 := Aside0.mk A90
  clear A90
  have HC10 := Aside0.mk H
  clear H
  go_enter Try.func5, Try.ntmps5
  go_upto_region 8 with (first | (go_at_call 6; (with_reducible refine (laws_big.calls _ _ l0 _ _ l1 false _ ?side1 ?side2 ?side3 ?side4 A3.out).mono ?_); (case side1 => repeat (first | exact HR0.out | (with_reducible refine Kd.C_alloc ?_ _) | (with_reducible refine Kd.C_drewN ?_ _) | (with_reducible refine Kd.C_drew ?_))); (case side2 => exact HC0.out); (case side3 => repeat (first | exact HR1.out | (with_reducible refine Kd.C_alloc ?_ _) | (with_reducible refine Kd.C_drewN ?_ _) | (with_reducible refine Kd.C_drew ?_))); (case side4 => exact HC1.out); rintro e w' ⟨rfl, ⟨nd, rfl⟩⟩; (try first | exact ⟨rfl, _, World.drewN_drewN _ _ _⟩ | exact ⟨rfl, _, Eq.trans (World.drewN_drewN _ _ _) (congrArg (World.drewN _) (Nat.add_assoc _ _ _))⟩)) | (go_at_call 53; (with_reducible refine (spec_DrawIsCostas.calls k _ _ l0 t1045 _ ?side1 ?side2 A5.out).mono ?_); (case side1 => repeat (first | exact HR0.out | (with_reducible refine Kd.C_alloc ?_ _) | (with_reducible refine Kd.C_drewN ?_ _) | (with_reducible refine Kd.C_drew ?_))); (case side2 => exact HC0.out); rintro e w11 ⟨v1046, rfl, ho0, hb⟩; have HO1047 := lowR ho0 HB; replace HB := upB HB hb; (try clear hb); (try clear hb2); (try clear hk); (try clear hi); (try clear ho0); obtain ⟨Ao12, co12, eo12⟩ := Kd.R_slice HO1047.out; subst eo12) | (go_at_call 54; (with_reducible refine (impl_IsCostas.calls k _ _ t1045 t1048 t1049 _ ?side1 ?side2 A6.out).mono ?_); (case side1 => exact atRC HO1047); (case side2 => exact (Kd.R_reads' HO1047.out).2.1); rintro e w13 ⟨rfl, hb⟩; replace HO1047 := upR HO1047 hb; replace HB := upB HB hb; (try clear hb); (try clear hb2); (try clear hk); (try clear hi)) | (go_at_call 55; (with_reducible refine (spec_IsCostas.calls k _ _ t1045 t1050 t1051 _ ?side1 ?side2 A7.out).mono ?_); (case side1 => exact atRC HO1047); (case side2 => exact (Kd.R_reads' HO1047.out).2.1); rintro e w14 ⟨rfl, hb⟩; replace HO1047 := upR HO1047 hb; replace HB := upB HB hb; (try clear hb); (try clear hb2); (try clear hk); (try clear hi)) | (go_at_call 56; (with_reducible refine (impl_FirstRepeat.calls k _ _ t1045 t1052 t1053 t1054 t1055 _ ?side1 ?side2 A8.out).mono ?_); (case side1 => exact atRC HO1047); (case side2 => exact (Kd.R_reads' HO1047.out).2.1); rintro e w15 ⟨rfl, hb⟩; replace HO1047 := upR HO1047 hb; replace HB := upB HB hb; (try clear hb); (try clear hb2); (try clear hk); (try clear hi)) | (go_at_call 57; (with_reducible refine (spec_FirstRepeat.calls k _ _ t1045 t1056 t1057 t1058 t1059 _ ?side1 ?side2 A9.out).mono ?_); (case side1 => exact atRC HO1047); (case side2 => exact (Kd.R_reads' HO1047.out).2.1); rintro e w16 ⟨rfl, hb⟩; replace HO1047 := upR HO1047 hb; replace HB := upB HB hb; (try clear hb); (try clear hb2); (try clear hk); (try clear hi)))
  repeat (go_quiet (first | (go_at_call 6; (with_reducible refine (laws_big.calls _ _ l0 _ _ l1 false _ ?side1 ?side2 ?side3 ?side4 A3.out).mono ?_); (case side1 => repeat (first | exact HR0.out | (with_reducible refine Kd.C_alloc ?_ _) | (with_reducible refine Kd.C_drewN ?_ _) | (with_reducible refine Kd.C_drew ?_))); (case side2 => exact HC0.out); (case side3 => repeat (first | exact HR1.out | (with_reducible refine Kd.C_alloc ?_ _) | (with_reducible refine Kd.C_drewN ?_ _) | (with_reducible refine Kd.C_drew ?_))); (case side4 => exact HC1.out); rintro e w' ⟨rfl, ⟨nd, rfl⟩⟩; (try first | exact ⟨rfl, _, World.drewN_drewN _ _ _⟩ | exact ⟨rfl, _, Eq.trans (World.drewN_drewN _ _ _) (congrArg (World.drewN _) (Nat.add_assoc _ _ _))⟩)) | (go_at_call 53; (with_reducible refine (spec_DrawIsCostas.calls k _ _ l0 t1045 _ ?side1 ?side2 A5.out).mono ?_); (case side1 => repeat (first | exact HR0.out | (with_reducible refine Kd.C_alloc ?_ _) | (with_reducible refine Kd.C_drewN ?_ _) | (with_reducible refine Kd.C_drew ?_))); (case side2 => exact HC0.out); rintro e w11 ⟨v1046, rfl, ho0, hb⟩; have HO1047 := lowR ho0 HB; replace HB := upB HB hb; (try clear hb); (try clear hb2); (try clear hk); (try clear hi); (try clear ho0); obtain ⟨Ao12, co12, eo12⟩ := Kd.R_slice HO1047.out; subst eo12) | (go_at_call 54; (with_reducible refine (impl_IsCostas.calls k _ _ t1045 t1048 t1049 _ ?side1 ?side2 A6.out).mono ?_); (case side1 => exact atRC HO1047); (case side2 => exact (Kd.R_reads' HO1047.out).2.1); rintro e w13 ⟨rfl, hb⟩; replace HO1047 := upR HO1047 hb; replace HB := upB HB hb; (try clear hb); (try clear hb2); (try clear hk); (try clear hi)) | (go_at_call 55; (with_reducible refine (spec_IsCostas.calls k _ _ t1045 t1050 t1051 _ ?side1 ?side2 A7.out).mono ?_); (case side1 => exact atRC HO1047); (case side2 => exact (Kd.R_reads' HO1047.out).2.1); rintro e w14 ⟨rfl, hb⟩; replace HO1047 := upR HO1047 hb; replace HB := upB HB hb; (try clear hb); (try clear hb2); (try clear hk); (try clear hi)) | (go_at_call 56; (with_reducible refine (impl_FirstRepeat.calls k _ _ t1045 t1052 t1053 t1054 t1055 _ ?side1 ?side2 A8.out).mono ?_); (case side1 => exact atRC HO1047); (case side2 => exact (Kd.R_reads' HO1047.out).2.1); rintro e w15 ⟨rfl, hb⟩; replace HO1047 := upR HO1047 hb; replace HB := upB HB hb; (try clear hb); (try clear hb2); (try clear hk); (try clear hi)) | (go_at_call 57; (with_reducible refine (spec_FirstRepeat.calls k _ _ t1045 t1056 t1057 t1058 t1059 _ ?side1 ?side2 A9.out).mono ?_); (case side1 => exact atRC HO1047); (case side2 => exact (Kd.R_reads' HO1047.out).2.1); rintro e w16 ⟨rfl, hb⟩; replace HO1047 := upR HO1047 hb; replace HB := upB HB hb; (try clear hb); (try clear hb2); (try clear hk); (try clear hi))); go_upto_region 8 with (first | (go_at_call 6; (with_reducible refine (laws_big.calls _ _ l0 _ _ l1 false _ ?side1 ?side2 ?side3 ?side4 A3.out).mono ?_); (case side1 => repeat (first | exact HR0.out | (with_reducible refine Kd.C_alloc ?_ _) | (with_reducible refine Kd.C_drewN ?_ _) | (with_reducible refine Kd.C_drew ?_))); (case side2 => exact HC0.out); (case side3 => repeat (first | exact HR1.out | (with_reducible refine Kd.C_alloc ?_ _) | (with_reducible refine Kd.C_drewN ?_ _) | (with_reducible refine Kd.C_drew ?_))); (case side4 => exact HC1.out); rintro e w' ⟨rfl, ⟨nd, rfl⟩⟩; (try first | exact ⟨rfl, _, World.drewN_drewN _ _ _⟩ | exact ⟨rfl, _, Eq.trans (World.drewN_drewN _ _ _) (congrArg (World.drewN _) (Nat.add_assoc _ _ _))⟩)) | (go_at_call 53; (with_reducible refine (spec_DrawIsCostas.calls k _ _ l0 t1045 _ ?side1 ?side2 A5.out).mono ?_); (case side1 => repeat (first | exact HR0.out | (with_reducible refine Kd.C_alloc ?_ _) | (with_reducible refine Kd.C_drewN ?_ _) | (with_reducible refine Kd.C_drew ?_))); (case side2 => exact HC0.out); rintro e w11 ⟨v1046, rfl, ho0, hb⟩; have HO1047 := lowR ho0 HB; replace HB := upB HB hb; (try clear hb); (try clear hb2); (try clear hk); (try clear hi); (try clear ho0); obtain ⟨Ao12, co12, eo12⟩ := Kd.R_slice HO1047.out; subst eo12) | (go_at_call 54; (with_reducible refine (impl_IsCostas.calls k _ _ t1045 t1048 t1049 _ ?side1 ?side2 A6.out).mono ?_); (case side1 => exact atRC HO1047); (case side2 => exact (Kd.R_reads' HO1047.out).2.1); rintro e w13 ⟨rfl, hb⟩; replace HO1047 := upR HO1047 hb; replace HB := upB HB hb; (try clear hb); (try clear hb2); (try clear hk); (try clear hi)) | (go_at_call 55; (with_reducible refine (spec_IsCostas.calls k _ _ t1045 t1050 t1051 _ ?side1 ?side2 A7.out).mono ?_); (case side1 => exact atRC HO1047); (case side2 => exact (Kd.R_reads' HO1047.out).2.1); rintro e w14 ⟨rfl, hb⟩; replace HO1047 := upR HO1047 hb; replace HB := upB HB hb; (try clear hb); (try clear hb2); (try clear hk); (try clear hi)) | (go_at_call 56; (with_reducible refine (impl_FirstRepeat.calls k _ _ t1045 t1052 t1053 t1054 t1055 _ ?side1 ?side2 A8.out).mono ?_); (case side1 => exact atRC HO1047); (case side2 => exact (Kd.R_reads' HO1047.out).2.1); rintro e w15 ⟨rfl, hb⟩; replace HO1047 := upR HO1047 hb; replace HB := upB HB hb; (try clear hb); (try clear hb2); (try clear hk); (try clear hi)) | (go_at_call 57; (with_reducible refine (spec_FirstRepeat.calls k _ _ t1045 t1056 t1057 t1058 t1059 _ ?side1 ?side2 A9.out).mono ?_); (case side1 => exact atRC HO1047); (case side2 => exact (Kd.R_reads' HO1047.out).2.1); rintro e w16 ⟨rfl, hb⟩; replace HO1047 := upR HO1047 hb; replace HB := upB HB hb; (try clear hb); (try clear hb2); (try clear hk); (try clear hi))))
  (try simp only [Act.put, List.setIfInBounds_toArray, List.set_cons_zero, List.set_cons_succ])
  go_cut [150] (fun v150 wc => ∃ (kq : Nat) (x150_9 : Bool), v150 = .bool x150_9 ∧ Aside0 (laws_FnDotsCostas.j0 kq l1 t1045 t1048 t1049 t1052 t1053 t1054 t1055 x150_9 = some r) ∧ Aside0 (kq ≤ k) ∧ Aside0 (Kd.R (Kd.int .i64) 3 wc w.heap.size (fun _ => True) (.slice Ao12 t1045.length co12) t1045) ∧ Aside0 (Below w.heap.size w wc))
  case first => as_aux_lemma =>
   have H := HC10.out
   clear HC10
   by_cases c17 : (t1049 != t1051) = true
   ·rw [if_pos c17] at H
    have c17b0 : (t1049 != t1051) = true := c17
    (try (have c17b1 : decide (t1049 = t1051) = false := by simpa using c17))
    (try (have c17b2 : (t1049 == t1051) = false := by simpa using c17))
    (try (have c17b3 : ¬ (t1049 = t1051) := by simpa using c17))
    clear c17
    (first | rw [c17b0] | (simp only [i64_w, i32_w]; rw [c17b0]) | skip)
    exact absurd (H.trans (congrArg some HT.out)) (laws_FnDotsCostas.j0_no k l1 t1045 t1048 t1049 t1052 t1053 t1054 t1055)
   ·rw [if_neg c17] at H
    have c17b0 : (t1049 != t1051) = false := by simpa using c17
    (try (have c17b1 : decide (t1049 = t1051) = true := by simpa using c17))
    (try (have c17b2 : (t1049 == t1051) = true := by simpa using c17))
    clear c17
    (first | rw [c17b0] | (simp only [i64_w, i32_w]; rw [c17b0]) | skip)
    by_cases c18 : (t1048 != t1050) = true
    ·rw [if_pos c18] at H
     have c18b0 : (t1048 != t1050) = true := c18
     (try (have c18b1 : decide (t1048 = t1050) = false := by simpa using c18))
     (try (have c18b2 : (t1048 == t1050) = false := by simpa using c18))
     (try (have c18b3 : ¬ (t1048 = t1050) := by simpa using c18))
     clear c18
     exact absurd (H.trans (congrArg some HT.out)) (laws_FnDotsCostas.j0_no k l1 t1045 t1048 t1049 t1052 t1053 t1054 t1055)
    ·rw [if_neg c18] at H
     have c18b0 : (t1048 != t1050) = false := by simpa using c18
     (try (have c18b1 : decide (t1048 = t1050) = true := by simpa using c18))
     (try (have c18b2 : (t1048 == t1050) = true := by simpa using c18))
     clear c18
     by_cases c19 : (t1055 != t1059) = true
     ·rw [if_pos c19] at H
      have c19b0 : (t1055 != t1059) = true := c19
      (try (have c19b1 : decide (t1055 = t1059) = false := by simpa using c19))
      (try (have c19b2 : (t1055 == t1059) = false := by simpa using c19))
      (try (have c19b3 : ¬ (t1055 = t1059) := by simpa using c19))
      clear c19
      exact absurd (H.trans (congrArg some HT.out)) (laws_FnDotsCostas.j0_no k l1 t1045 t1048 t1049 t1052 t1053 t1054 t1055)
     ·rw [if_neg c19] at H
      have c19b0 : (t1055 != t1059) = false := by simpa using c19
      (try (have c19b1 : decide (t1055 = t1059) = true := by simpa using c19))
      (try (have c19b2 : (t1055 == t1059) = true := by simpa using c19))
      clear c19
      by_cases c20 : t1052 = t1056
      ·rw [if_pos c20] at H
       have c20b0 : (t1052 == t1056) = true := beq_iff_eq.mpr c20
       have c20b1 : (t1052 != t1056) = false := bne_eq_false_iff_eq.mpr c20
       clear c20
       by_cases c21 : t1053 = t1057
       ·rw [if_pos c21] at H
        have c21b0 : (t1053 == t1057) = true := beq_iff_eq.mpr c21
        have c21b1 : (t1053 != t1057) = false := bne_eq_false_iff_eq.mpr c21
        clear c21
        by_cases c22 : t1054 = t1058
        ·rw [if_pos c22] at H
         have c22b0 : (t1054 == t1058) = true := beq_iff_eq.mpr c22
         have c22b1 : (t1054 != t1058) = false := bne_eq_false_iff_eq.mpr c22
         clear c22
         replace H := Option.bind_eq_some_iff.mp H
         obtain ⟨t1060, A230, H⟩ := H
         (try dsimp only at H)
         have A23 := Aside0.mk A230
         clear A230
         by_cases c24 : (t1049 != t1060) = true
         ·rw [if_pos c24] at H
          have c24b0 : (t1049 != t1060) = true := c24
          (try (have c24b1 : decide (t1049 = t1060) = false := by simpa using c24))
          (try (have c24b2 : (t1049 == t1060) = false := by simpa using c24))
          (try (have c24b3 : ¬ (t1049 = t1060) := by simpa using c24))
          clear c24
          exact absurd (H.trans (congrArg some HT.out)) (laws_FnDotsCostas.j0_no k l1 t1045 t1048 t1049 t1052 t1053 t1054 t1055)
         ·rw [if_neg c24] at H
          have c24b0 : (t1049 != t1060) = false := by simpa using c24
          (try (have c24b1 : decide (t1049 = t1060) = true := by simpa using c24))
          (try (have c24b2 : (t1049 == t1060) = true := by simpa using c24))
          clear c24
          replace H := Option.bind_eq_some_iff.mp H
          obtain ⟨t1061, A250, H⟩ := H
          (try dsimp only at H)
          have A25 := Aside0.mk A250
          have e_ : t1060 = t1061 := Option.some.inj (A23.out.symm.trans A25.out)
          subst e_
          clear A250
          replace H := Option.bind_eq_some_iff.mp H
          obtain ⟨t1062, A260, H⟩ := H
          (try dsimp only at H)
          have A26 := Aside0.mk A260
          clear A260
          by_cases c27 : (t1060 != t1062) = true
          ·rw [if_pos c27] at H
           have c27b0 : (t1060 != t1062) = true := c27
           (try (have c27b1 : decide (t1060 = t1062) = false := by simpa using c27))
           (try (have c27b2 : (t1060 == t1062) = false := by simpa using c27))
           (try (have c27b3 : ¬ (t1060 = t1062) := by simpa using c27))
           clear c27
           exact absurd (H.trans (congrArg some HT.out)) (laws_FnDotsCostas.j0_no k l1 t1045 t1048 t1049 t1052 t1053 t1054 t1055)
          ·rw [if_neg c27] at H
           have c27b0 : (t1060 != t1062) = false := by simpa using c27
           (try (have c27b1 : decide (t1060 = t1062) = true := by simpa using c27))
           (try (have c27b2 : (t1060 == t1062) = true := by simpa using c27))
           clear c27
           by_cases c28 : t1049 = true
           ·subst c28
            obtain rfl : t1051 = true := (by simpa using c17b0)
            obtain rfl : t1060 = true := (by simpa using c24b0)
            obtain rfl : t1062 = true := (by simpa using c27b0)
            rw [if_pos rfl] at H
            have H' := Aside0.mk H
            clear H
            as_aux_lemma =>
             go_wp2_with (first | (go_at_call 58; (with_reducible refine (impl_IsDots.calls k _ _ t1045 true _ ?side1 ?side2 A23.out).mono ?_); (case side1 => exact atRC HO1047); (case side2 => exact (Kd.R_reads' HO1047.out).2.1); rintro e w' ⟨rfl, ⟨nd, rfl⟩⟩; (try first | exact ⟨rfl, _, World.drewN_drewN _ _ _⟩ | exact ⟨rfl, _, Eq.trans (World.drewN_drewN _ _ _) (congrArg (World.drewN _) (Nat.add_assoc _ _ _))⟩)) | (go_at_call 58; (with_reducible refine (impl_IsDots.calls k _ _ t1045 true _ ?side1 ?side2 A25.out).mono ?_); (case side1 => exact atRC HO1047); (case side2 => exact (Kd.R_reads' HO1047.out).2.1); rintro e w' ⟨rfl, ⟨nd, rfl⟩⟩; (try first | exact ⟨rfl, _, World.drewN_drewN _ _ _⟩ | exact ⟨rfl, _, Eq.trans (World.drewN_drewN _ _ _) (congrArg (World.drewN _) (Nat.add_assoc _ _ _))⟩)) | (go_at_call 59; (with_reducible refine (spec_IsDots.calls k _ _ t1045 true _ ?side1 ?side2 A26.out).mono ?_); (case side1 => exact atRC HO1047); (case side2 => exact (Kd.R_reads' HO1047.out).2.1); rintro e w' ⟨rfl, ⟨nd, rfl⟩⟩; (try first | exact ⟨rfl, _, World.drewN_drewN _ _ _⟩ | exact ⟨rfl, _, Eq.trans (World.drewN_drewN _ _ _) (congrArg (World.drewN _) (Nat.add_assoc _ _ _))⟩)))
             repeat (go_quiet (first | (go_at_call 58; (with_reducible refine (impl_IsDots.calls k _ _ t1045 true _ ?side1 ?side2 A23.out).mono ?_); (case side1 => exact atRC HO1047); (case side2 => exact (Kd.R_reads' HO1047.out).2.1); rintro e w' ⟨rfl, ⟨nd, rfl⟩⟩; (try first | exact ⟨rfl, _, World.drewN_drewN _ _ _⟩ | exact ⟨rfl, _, Eq.trans (World.drewN_drewN _ _ _) (congrArg (World.drewN _) (Nat.add_assoc _ _ _))⟩)) | (go_at_call 58; (with_reducible refine (impl_IsDots.calls k _ _ t1045 true _ ?side1 ?side2 A25.out).mono ?_); (case side1 => exact atRC HO1047); (case side2 => exact (Kd.R_reads' HO1047.out).2.1); rintro e w' ⟨rfl, ⟨nd, rfl⟩⟩; (try first | exact ⟨rfl, _, World.drewN_drewN _ _ _⟩ | exact ⟨rfl, _, Eq.trans (World.drewN_drewN _ _ _) (congrArg (World.drewN _) (Nat.add_assoc _ _ _))⟩)) | (go_at_call 59; (with_reducible refine (spec_IsDots.calls k _ _ t1045 true _ ?side1 ?side2 A26.out).mono ?_); (case side1 => exact atRC HO1047); (case side2 => exact (Kd.R_reads' HO1047.out).2.1); rintro e w' ⟨rfl, ⟨nd, rfl⟩⟩; (try first | exact ⟨rfl, _, World.drewN_drewN _ _ _⟩ | exact ⟨rfl, _, Eq.trans (World.drewN_drewN _ _ _) (congrArg (World.drewN _) (Nat.add_assoc _ _ _))⟩))); try go_wp2_with (first | (go_at_call 58; (with_reducible refine (impl_IsDots.calls k _ _ t1045 true _ ?side1 ?side2 A23.out).mono ?_); (case side1 => exact atRC HO1047); (case side2 => exact (Kd.R_reads' HO1047.out).2.1); rintro e w' ⟨rfl, ⟨nd, rfl⟩⟩; (try first | exact ⟨rfl, _, World.drewN_drewN _ _ _⟩ | exact ⟨rfl, _, Eq.trans (World.drewN_drewN _ _ _) (congrArg (World.drewN _) (Nat.add_assoc _ _ _))⟩)) | (go_at_call 58; (with_reducible refine (impl_IsDots.calls k _ _ t1045 true _ ?side1 ?side2 A25.out).mono ?_); (case side1 => exact atRC HO1047); (case side2 => exact (Kd.R_reads' HO1047.out).2.1); rintro e w' ⟨rfl, ⟨nd, rfl⟩⟩; (try first | exact ⟨rfl, _, World.drewN_drewN _ _ _⟩ | exact ⟨rfl, _, Eq.trans (World.drewN_drewN _ _ _) (congrArg (World.drewN _) (Nat.add_assoc _ _ _))⟩)) | (go_at_call 59; (with_reducible refine (spec_IsDots.calls k _ _ t1045 true _ ?side1 ?side2 A26.out).mono ?_); (case side1 => exact atRC HO1047); (case side2 => exact (Kd.R_reads' HO1047.out).2.1); rintro e w' ⟨rfl, ⟨nd, rfl⟩⟩; (try first | exact ⟨rfl, _, World.drewN_drewN _ _ _⟩ | exact ⟨rfl, _, Eq.trans (World.drewN_drewN _ _ _) (congrArg (World.drewN _) (Nat.add_assoc _ _ _))⟩))))
             go_meet
             case rel => exact ⟨_, ((t1055 != (!t1048))), eqd, H', ⟨leD⟩, ⟨atR HO1047⟩, ⟨atB HB⟩⟩
           ·replace c28 := Bool.eq_false_iff.mpr c28
            subst c28
            obtain rfl : t1051 = false := (by simpa using c17b0)
            obtain rfl : t1060 = false := (by simpa using c24b0)
            obtain rfl : t1062 = false := (by simpa using c27b0)
            rw [if_neg (show ¬ (false = true) by decide)] at H
            have H' := Aside0.mk H
            clear H
            as_aux_lemma =>
             go_wp2_with (first | (go_at_call 58; (with_reducible refine (impl_IsDots.calls k _ _ t1045 false _ ?side1 ?side2 A23.out).mono ?_); (case side1 => exact atRC HO1047); (case side2 => exact (Kd.R_reads' HO1047.out).2.1); rintro e w' ⟨rfl, ⟨nd, rfl⟩⟩; (try first | exact ⟨rfl, _, World.drewN_drewN _ _ _⟩ | exact ⟨rfl, _, Eq.trans (World.drewN_drewN _ _ _) (congrArg (World.drewN _) (Nat.add_assoc _ _ _))⟩)) | (go_at_call 58; (with_reducible refine (impl_IsDots.calls k _ _ t1045 false _ ?side1 ?side2 A25.out).mono ?_); (case side1 => exact atRC HO1047); (case side2 => exact (Kd.R_reads' HO1047.out).2.1); rintro e w' ⟨rfl, ⟨nd, rfl⟩⟩; (try first | exact ⟨rfl, _, World.drewN_drewN _ _ _⟩ | exact ⟨rfl, _, Eq.trans (World.drewN_drewN _ _ _) (congrArg (World.drewN _) (Nat.add_assoc _ _ _))⟩)) | (go_at_call 59; (with_reducible refine (spec_IsDots.calls k _ _ t1045 false _ ?side1 ?side2 A26.out).mono ?_); (case side1 => exact atRC HO1047); (case side2 => exact (Kd.R_reads' HO1047.out).2.1); rintro e w' ⟨rfl, ⟨nd, rfl⟩⟩; (try first | exact ⟨rfl, _, World.drewN_drewN _ _ _⟩ | exact ⟨rfl, _, Eq.trans (World.drewN_drewN _ _ _) (congrArg (World.drewN _) (Nat.add_assoc _ _ _))⟩)))
             repeat (go_quiet (first | (go_at_call 58; (with_reducible refine (impl_IsDots.calls k _ _ t1045 false _ ?side1 ?side2 A23.out).mono ?_); (case side1 => exact atRC HO1047); (case side2 => exact (Kd.R_reads' HO1047.out).2.1); rintro e w' ⟨rfl, ⟨nd, rfl⟩⟩; (try first | exact ⟨rfl, _, World.drewN_drewN _ _ _⟩ | exact ⟨rfl, _, Eq.trans (World.drewN_drewN _ _ _) (congrArg (World.drewN _) (Nat.add_assoc _ _ _))⟩)) | (go_at_call 58; (with_reducible refine (impl_IsDots.calls k _ _ t1045 false _ ?side1 ?side2 A25.out).mono ?_); (case side1 => exact atRC HO1047); (case side2 => exact (Kd.R_reads' HO1047.out).2.1); rintro e w' ⟨rfl, ⟨nd, rfl⟩⟩; (try first | exact ⟨rfl, _, World.drewN_drewN _ _ _⟩ | exact ⟨rfl, _, Eq.trans (World.drewN_drewN _ _ _) (congrArg (World.drewN _) (Nat.add_assoc _ _ _))⟩)) | (go_at_call 59; (with_reducible refine (spec_IsDots.calls k _ _ t1045 false _ ?side1 ?side2 A26.out).mono ?_); (case side1 => exact atRC HO1047); (case side2 => exact (Kd.R_reads' HO1047.out).2.1); rintro e w' ⟨rfl, ⟨nd, rfl⟩⟩; (try first | exact ⟨rfl, _, World.drewN_drewN _ _ _⟩ | exact ⟨rfl, _, Eq.trans (World.drewN_drewN _ _ _) (congrArg (World.drewN _) (Nat.add_assoc _ _ _))⟩))); try go_wp2_with (first | (go_at_call 58; (with_reducible refine (impl_IsDots.calls k _ _ t1045 false _ ?side1 ?side2 A23.out).mono ?_); (case side1 => exact atRC HO1047); (case side2 => exact (Kd.R_reads' HO1047.out).2.1); rintro e w' ⟨rfl, ⟨nd, rfl⟩⟩; (try first | exact ⟨rfl, _, World.drewN_drewN _ _ _⟩ | exact ⟨rfl, _, Eq.trans (World.drewN_drewN _ _ _) (congrArg (World.drewN _) (Nat.add_assoc _ _ _))⟩)) | (go_at_call 58; (with_reducible refine (impl_IsDots.calls k _ _ t1045 false _ ?side1 ?side2 A25.out).mono ?_); (case side1 => exact atRC HO1047); (case side2 => exact (Kd.R_reads' HO1047.out).2.1); rintro e w' ⟨rfl, ⟨nd, rfl⟩⟩; (try first | exact ⟨rfl, _, World.drewN_drewN _ _ _⟩ | exact ⟨rfl, _, Eq.trans (World.drewN_drewN _ _ _) (congrArg (World.drewN _) (Nat.add_assoc _ _ _))⟩)) | (go_at_call 59; (with_reducible refine (spec_IsDots.calls k _ _ t1045 false _ ?side1 ?side2 A26.out).mono ?_); (case side1 => exact atRC HO1047); (case side2 => exact (Kd.R_reads' HO1047.out).2.1); rintro e w' ⟨rfl, ⟨nd, rfl⟩⟩; (try first | exact ⟨rfl, _, World.drewN_drewN _ _ _⟩ | exact ⟨rfl, _, Eq.trans (World.drewN_drewN _ _ _) (congrArg (World.drewN _) (Nat.add_assoc _ _ _))⟩))))
             go_meet
             case rel => exact ⟨_, ((t1055 != false)), eqd, H', ⟨leD⟩, ⟨atR HO1047⟩, ⟨atB HB⟩⟩
        ·rw [if_neg c22] at H
         have c22b0 : (t1054 == t1058) = false := beq_eq_false_iff_ne.mpr c22
         have c22b1 : (t1054 != t1058) = true := bne_iff_ne.mpr c22
         exact absurd (H.trans (congrArg some HT.out)) (laws_FnDotsCostas.j0_no k l1 t1045 t1048 t1049 t1052 t1053 t1054 t1055)
       ·rw [if_neg c21] at H
        have c21b0 : (t1053 == t1057) = false := beq_eq_false_iff_ne.mpr c21
        have c21b1 : (t1053 != t1057) = true := bne_iff_ne.mpr c21
        exact absurd (H.trans (congrArg some HT.out)) (laws_FnDotsCostas.j0_no k l1 t1045 t1048 t1049 t1052 t1053 t1054 t1055)
      ·rw [if_neg c20] at H
       have c20b0 : (t1052 == t1056) = false := beq_eq_false_iff_ne.mpr c20
       have c20b1 : (t1052 != t1056) = true := bne_iff_ne.mpr c20
       exact absurd (H.trans (congrArg some HT.out)) (laws_FnDotsCostas.j0_no k l1 t1045 t1048 t1049 t1052 t1053 t1054 t1055)
  case rest =>
   rename_i z1_0 z1_1 z1_2 z1_3 z1_4
   exact laws_FnDotsCostas.rest1 k A0 c0 l0 A1 c1 l1 r w HR1 HC1 HT t1045 t1048 t1049 t1050 t1051 t1052 t1053 t1054 t1055 t1056 t1057 t1058 t1059 HC10 Ao12 co12 w16 HB z1_1 (by rfl) z1_2 z1_3 (by rfl) z1_4 wc u72 u73 u74 u75 u76 u77 u78 u79 u80 u81 u82 u83 u84 u85 u86 u87 u88 u89 u90 u91 u92 u93 u94 u95 u96 u97 u98 u99 u100 u101 u102 u103 u104 u105 u106 u107 u108 u109 u110 u111 u112 u113 u114 u115 u116 u117 u118 u119 u120 u121 u122 u123 u124 u125 u126 u127 u128 u129 u130 u131 u132 u133 u134 u135 u136 u137 u138 u139 u140 u141 u142 u143 u144 u145 u146 u147 u148 u149 u150 u151 u152 u153 u154 u155 u156 u157 u158 u159 u160 u161 u162 u163 u164 u165 u166 u167 u168 u169 u170 u171 u172 u173 u174 u175 u176 u177 u178 u179 u180 u181 u182 u183 u184 u185 u186 u187 u188 u189 u190 u191 u192 u193 u194 u195 u196 u197 u198 u199 u200 u201 u202 u203 u204 u205 u206 u207 u208 u209 u210 u211 u212 u213 u214 u215 u216 u217 u218 u219 u220 u221 u222 u223 u224 u225 u226 u227 u228 u229 u230 u231 u232 u233 u234 u235 u236 u237 u238 u239 u240 u241 u242 u243 u244 u245 u246 u247 u251 u252 u253 u254 u255 u256 u257 u258 u259 u260 u261 u262 u263 u264 u265 u266 u267 u268 u269 u270 u271 u272 u273 u274 u275 u276 u277 u278 u279 u280 u281 u282 u283 u284 u285 u286 u287 u288 u289 u290 u291 u292 u293 u294 u295 u296 u297 u298 u299 u300 u301 u302 u303 u304 u305 u306 u307 u308 u309 u310 u311 u312 u313 u314 u315 u316 u317 u318 u319 u320 u321 u322 u323 u324 u325 u326 u327 u328 u329 u330 u331 u332 u333 u334 u335 u336 u337 u338 u339 u340 u341 u342 u343 u344 u345 u346 u347 u348 u349 u350 u351 u352 u353 u354 u355 u356 u357 u358 u359 u360 u361 u362 u363 u364 u365 u366 u367 u368 u369 u370 u371 u372 u373 u374 u375 u376 u377 u378 u379 u380 u381 u382 u383 u384 u385 u386 u387 u391 u392 u393 u394 u395 u396 u397 u398 u399 u400 u401 u402 u403 u404 u405 u406 u407 u408 u409 u410 u411 u412 u413 u414 u415 u416 u417 u418 u419 u420 u421 u422 u423 u424 u425 u426 u427 u428 u429 u430 u431 u432 u433 u434 u435 u436 u437 u438 u439 u440 u441 u442 u443 u444 u445 u446 u447 u448 u449 u450 u451 u452 u453 u454 u455 u456 u457 u458 u459 u460 u461 u462 u463 u464 u465 u466 u467 u468 u469 u470 u471 u472 u473 u474 u475 u476 u477 u478 u479 u480 u481 u482 u483 u484 u485 u486 u487 u488 u489 u490 u491 u492 u493 u494 u495 u496 u497 u498 u499 u500 u501 u502 u503 u504 u505 u506 u507 u508 u509 u510 u511 u512 u513 u514 hcut
theorem laws_FnDotsCostas.walk (P : laws_FnDotsCostas.Pure) (a0 : Option Addr) (len0 cap0 : Nat) (z0 : List Int) (a1 : Option Addr) (len1 cap1 : Nat) (z1 : List Int) (w : World) (w0 : (a0 = none ∧ len0 = 0 ∧ cap0 = 0 ∧ z0 = []) ∨ ∃ x, a0 = some x ∧ len0 ≤ cap0 ∧ cap0 ≤ maxLen ∧ z0.length = cap0 ∧ (∀ i, i < z0.length → w.cell? (x.add i) = some (.int .u8 (z0.getD i 0))) ∧ ∀ n ∈ z0, (Lit.int .u8 n).wf = true) (y0 : len0 * 1 ≤ 140737488351232) (w1 : (a1 = none ∧ len1 = 0 ∧ cap1 = 0 ∧ z1 = []) ∨ ∃ x, a1 = some x ∧ len1 ≤ cap1 ∧ cap1 ≤ maxLen ∧ z1.length = cap1 ∧ (∀ i, i < z1.length → w.cell? (x.add i) = some (.int .u8 (z1.getD i 0))) ∧ ∀ n ∈ z1, (Lit.int .u8 n).wf = true) (y1 : len1 * 1 ≤ 140737488351232) :
  Calls Try.prog 5 #[.slice a0 len0 cap0, .slice a1 len1 cap1] w fun e w' => e = .returned (.bool true) ∧ Below w.heap.size w w' := by
 obtain ⟨l0, rfl, hr0, hm0, hw0, hc0⟩ := ReadsInt.ofRowC w0
 obtain ⟨l1, rfl, hr1, hm1, hw1, hc1⟩ := ReadsInt.ofRowC w1
 obtain ⟨k, h⟩ := P l0 l1 hm0 y0 hw0 hm1 y1 hw1
 refine (laws_FnDotsCostas.calls k _ _ l0 _ _ l1 true w (Kd.C_of_reads (d := (0 : Int)) (h1 := fun _ => rfl) hr0) hc0 (Kd.C_of_reads (d := (0 : Int)) (h1 := fun _ => rfl) hr1) hc1 rfl h).mono ?_
 rintro e w' ⟨rfl, hd⟩
 exact ⟨rfl, hd⟩
end Go.Proofs.Ytnhnpplccfojeaa.Fn
