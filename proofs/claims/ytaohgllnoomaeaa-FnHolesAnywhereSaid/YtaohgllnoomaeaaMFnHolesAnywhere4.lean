/- The machine's side and plain lemmas for FnHolesAnywhere: texts of this session, merged by its program (part 4). -/
import Derived.Test.YtaohgllnoomaeaaMFnHolesAnywhere0
import Derived.Test.YtaohgllnoomaeaaMFnHolesAnywhere1
import Derived.Test.YtaohgllnoomaeaaMFnHolesAnywhere2
import Derived.Test.YtaohgllnoomaeaaMFnHolesAnywhere3
namespace Go.Proofs.Ytaohgllnoomaeaa.Fn
open Go.RowKit Go.Proofs.YtaohgllnoomaeaaW.PrintWords Go.Proofs.YtaohgllnoomaeaaW.PrintLast Go.Proofs.YtaohgllnoomaeaaW.PrintMore
attribute [local go_sem] max2_int min2_int max_two min_two max_three min_three max_four min_four   -- for this text's walks alone
set_option linter.unusedVariables false
set_option linter.unusedSimpArgs false


set_option maxHeartbeats 8000000 in
set_option maxRecDepth 100000 in
theorem laws_FnHolesAnywhere.calls (k : Nat) (A0 : Option Addr) (c0 : Nat) (l0 : List Int) (A1 : Option Addr) (c1 : Nat) (l1 : List Int) (r : Bool) (w : World) (hr0 : Kd.C (Kd.int .u8) w A0 l0.length l0) (hc0 : l0.length ≤ c0) (hr1 : Kd.C (Kd.int .u8) w A1 l1.length l1) (hc1 : l1.length ≤ c1) (ht_ : r = true) (h : laws_FnHolesAnywhere.f k l0 l1 = some r) :
  Calls Try.prog 8 #[.slice A0 l0.length c0, .slice A1 l1.length c1] w fun e w' => e = .returned (.bool r) ∧ Below w.heap.size w w' := by
 have HR0 := Aside0.mk hr0
 have HC0 := Aside0.mk hc0
 clear hr0 hc0
 have HR1 := Aside0.mk hr1
 have HC1 := Aside0.mk hc1
 clear hr1 hc1
 have HB := Aside0.mk (Below.refl w.heap.size w)
 have H := h
 unfold laws_FnHolesAnywhere.f at H
 clear h
 have HT := Aside0.mk ht_
 clear ht_
 replace H := Option.bind_eq_some_iff.mp H
 obtain ⟨t1254, A30, H⟩ := H
 (try dsimp only at H)
 have A3 := Aside0.mk A30
 clear A30
 by_cases c4 : t1254 = true
 ·subst c4
  rw [if_pos rfl] at H
  obtain rfl := Option.some.inj H
  go_enter Try.func8, Try.ntmps8
  go_wp2_with (first | ((with_reducible refine gate_callee (f := 10) rfl ?_); refine goesA (some 61) Try.func10 #[.slice A0 l0.length c0, .slice A1 l1.length c1] ?_; (with_reducible refine (laws_big.calls _ _ l0 _ _ l1 true _ ?side1 ?side2 ?side3 ?side4 A3.out).mono ?_); (case side1 => repeat (first | exact HR0.out | (with_reducible refine Kd.C_alloc ?_ _) | (with_reducible refine Kd.C_drewN ?_ _) | (with_reducible refine Kd.C_drew ?_))); (case side2 => exact HC0.out); (case side3 => repeat (first | exact HR1.out | (with_reducible refine Kd.C_alloc ?_ _) | (with_reducible refine Kd.C_drewN ?_ _) | (with_reducible refine Kd.C_drew ?_))); (case side4 => exact HC1.out); rintro e w' ⟨rfl, ⟨nd, rfl⟩⟩; refine ⟨_, rfl, ?_⟩))
  go_ret
  exact ⟨eqr, atB HB⟩
 ·replace c4 := Bool.eq_false_iff.mpr c4
  subst c4
  rw [if_neg (show ¬ (false = true) by decide)] at H
  replace H := Option.bind_eq_some_iff.mp H
  obtain ⟨⟨t1255, t1256⟩, A50, H⟩ := H
  (try dsimp only at H)
  have A5 := Aside0.mk A50
  clear A50
  replace H := Option.bind_eq_some_iff.mp H
  obtain ⟨⟨t1257, t1258⟩, A60, H⟩ := H
  (try dsimp only at H)
  have A6 := Aside0.mk A60
  clear A60
  replace H := Option.bind_eq_some_iff.mp H
  obtain ⟨⟨t1261, t1262⟩, A70, H⟩ := H
  (try dsimp only at H)
  have A7 := Aside0.mk A70
  clear A70
  replace H := Option.bind_eq_some_iff.mp H
  obtain ⟨⟨t1265, t1266⟩, A80, H⟩ := H
  (try dsimp only at H)
  have A8 := Aside0.mk A80
  clear A80
  replace H := Option.bind_eq_some_iff.mp H
  obtain ⟨⟨t1267, t1268⟩, A90, H⟩ := H
  (try dsimp only at H)
  have A9 := Aside0.mk A90
  clear A90
  replace H := Option.bind_eq_some_iff.mp H
  obtain ⟨⟨t1269, t1270⟩, A100, H⟩ := H
  (try dsimp only at H)
  have A10 := Aside0.mk A100
  clear A100
  replace H := Option.bind_eq_some_iff.mp H
  obtain ⟨⟨t1273, t1274⟩, A110, H⟩ := H
  (try dsimp only at H)
  have A11 := Aside0.mk A110
  clear A110
  replace H := Option.bind_eq_some_iff.mp H
  obtain ⟨⟨t1277, t1278⟩, A120, H⟩ := H
  (try dsimp only at H)
  have A12 := Aside0.mk A120
  clear A120
  have HC13 := Aside0.mk H
  clear H
  go_enter Try.func8, Try.ntmps8
  go_upto_region 11 with (first | ((with_reducible refine gate_callee (f := 10) rfl ?_); refine goesA (some 61) Try.func10 #[.slice A0 l0.length c0, .slice A1 l1.length c1] ?_; (with_reducible refine (laws_big.calls _ _ l0 _ _ l1 false _ ?side1 ?side2 ?side3 ?side4 A3.out).mono ?_); (case side1 => repeat (first | exact HR0.out | (with_reducible refine Kd.C_alloc ?_ _) | (with_reducible refine Kd.C_drewN ?_ _) | (with_reducible refine Kd.C_drew ?_))); (case side2 => exact HC0.out); (case side3 => repeat (first | exact HR1.out | (with_reducible refine Kd.C_alloc ?_ _) | (with_reducible refine Kd.C_drewN ?_ _) | (with_reducible refine Kd.C_drew ?_))); (case side4 => exact HC1.out); rintro e w' ⟨rfl, ⟨nd, rfl⟩⟩; refine ⟨_, rfl, ?_⟩) | ((with_reducible refine gate_callee (f := 106) rfl ?_); refine goesA (some 64) Try.func106 #[.slice A0 l0.length c0] ?_; (with_reducible refine (spec_DrawAllExtended.calls _ _ l0 t1255 t1256 _ ?side1 ?side2 A5.out).mono ?_); (case side1 => repeat (first | exact HR0.out | (with_reducible refine Kd.C_alloc ?_ _) | (with_reducible refine Kd.C_drewN ?_ _) | (with_reducible refine Kd.C_drew ?_))); (case side2 => exact HC0.out); rintro e w14 ⟨rfl, hb⟩; refine ⟨_, rfl, ?_⟩; replace HB := upB HB hb; (try clear hb); (try clear hb2); (try clear hk); (try clear hi)) | ((with_reducible refine gate_callee (f := 107) rfl ?_); refine goesA (some 70) Try.func107 #[.int .i64 t1255, .int .i64 t1256] ?_; (with_reducible refine (impl_AllExtended.calls t1255 t1256 t1257 t1258 _ A6.out).mono ?_); rintro e w15 ⟨v1259, rfl, ho0, hb⟩; refine ⟨_, rfl, ?_⟩; have HO1260 := lowS ho0 HB; replace HB := upB HB hb; (try clear hb); (try clear hb2); (try clear hk); (try clear hi); (try clear ho0)) | ((with_reducible refine gate_callee (f := 108) rfl ?_); refine goesA (some 76) Try.func108 #[.int .i64 t1255, .int .i64 t1256] ?_; (with_reducible refine (spec_AllExtended.calls t1255 t1256 t1261 t1262 _ A7.out).mono ?_); rintro e w16 ⟨v1263, rfl, ho0, hb⟩; refine ⟨_, rfl, ?_⟩; have HO1264 := lowS ho0 HB; replace HO1260 := upS HO1260 hb; replace HB := upB HB hb; (try clear hb); (try clear hb2); (try clear hk); (try clear hi); (try clear ho0)) | ((with_reducible refine gate_callee (f := 109) rfl ?_); refine goesA (some 82) Try.func109 #[.int .i64 t1255, .int .i64 t1256] ?_; (with_reducible refine (impl_CountExtended.calls t1255 t1256 t1265 t1266 _ A8.out).mono ?_); rintro e w17 ⟨rfl, hb⟩; refine ⟨_, rfl, ?_⟩; replace HO1260 := upS HO1260 hb; replace HO1264 := upS HO1264 hb; replace HB := upB HB hb; (try clear hb); (try clear hb2); (try clear hk); (try clear hi)) | ((with_reducible refine gate_callee (f := 110) rfl ?_); refine goesA (some 88) Try.func110 #[.int .i64 t1255, .int .i64 t1256] ?_; (with_reducible refine (spec_CountExtended.calls t1255 t1256 t1267 t1268 _ A9.out).mono ?_); rintro e w18 ⟨rfl, hb⟩; refine ⟨_, rfl, ?_⟩; replace HO1260 := upS HO1260 hb; replace HO1264 := upS HO1264 hb; replace HB := upB HB hb; (try clear hb); (try clear hb2); (try clear hk); (try clear hi)) | ((with_reducible refine gate_callee (f := 111) rfl ?_); refine goesA (some 94) Try.func111 #[.int .i64 t1255, .int .i64 t1256] ?_; (with_reducible refine (impl_FirstExtended.calls t1255 t1256 t1269 t1270 _ A10.out).mono ?_); rintro e w19 ⟨v1271, rfl, ho0, hb⟩; refine ⟨_, rfl, ?_⟩; have HO1272 := lowR ho0 HB; replace HO1260 := upS HO1260 hb; replace HO1264 := upS HO1264 hb; replace HB := upB HB hb; (try clear hb); (try clear hb2); (try clear hk); (try clear hi); (try clear ho0)) | ((with_reducible refine gate_callee (f := 112) rfl ?_); refine goesA (some 100) Try.func112 #[.int .i64 t1255, .int .i64 t1256] ?_; (with_reducible refine (spec_FirstExtended.calls t1255 t1256 t1273 t1274 _ A11.out).mono ?_); rintro e w20 ⟨v1275, rfl, ho0, hb⟩; refine ⟨_, rfl, ?_⟩; have HO1276 := lowR ho0 HB; replace HO1260 := upS HO1260 hb; replace HO1264 := upS HO1264 hb; replace HO1272 := upR HO1272 hb; replace HB := upB HB hb; (try clear hb); (try clear hb2); (try clear hk); (try clear hi); (try clear ho0)) | ((with_reducible refine gate_callee (f := 113) rfl ?_); refine goesA (some 106) Try.func113 #[.int .i64 t1255, .int .i64 t1256] ?_; (with_reducible refine (impl_IsExtendedThere.calls t1255 t1256 t1277 t1278 _ A12.out).mono ?_); rintro e w' ⟨rfl, ⟨nd, rfl⟩⟩; refine ⟨_, rfl, ?_⟩))
  (try simp only [Act.put, List.setIfInBounds_toArray, List.set_cons_zero, List.set_cons_succ])
  go_cut [165] (fun v165 wc => ∃ (kq : Nat) (x165_12 : Bool), v165 = .bool x165_12 ∧ Aside0 (laws_FnHolesAnywhere.j0 kq l1 t1255 t1256 t1257 t1258 t1265 t1269 x165_12 = some r) ∧ Aside0 (kq ≤ k) ∧ Aside0 (Kd.S (Kd.slice 3 (Kd.int .i64)) 31 wc w.heap.size (fun _ => True) v1259 t1257) ∧ Aside0 (Kd.R (Kd.int .i64) 3 wc w.heap.size (fun _ => True) v1271 t1269) ∧ Aside0 (Below w.heap.size w wc))
  case first => as_aux_lemma =>
   have H := HC13.out
   clear HC13
   by_cases c21 : (t1258 != t1262) = true
   ·rw [if_pos c21] at H
    have c21b0 : (t1258 != t1262) = true := c21
    (try (have c21b1 : decide (t1258 = t1262) = false := by simpa using c21))
    (try (have c21b2 : (t1258 == t1262) = false := by simpa using c21))
    (try (have c21b3 : ¬ (t1258 = t1262) := by simpa using c21))
    clear c21
    (first | rw [c21b0] | (simp only [i64_w, i32_w]; rw [c21b0]) | skip)
    exact absurd (H.trans (congrArg some HT.out)) (laws_FnHolesAnywhere.j0_no k l1 t1255 t1256 t1257 t1258 t1265 t1269)
   ·rw [if_neg c21] at H
    have c21b0 : (t1258 != t1262) = false := by simpa using c21
    (try (have c21b1 : decide (t1258 = t1262) = true := by simpa using c21))
    (try (have c21b2 : (t1258 == t1262) = true := by simpa using c21))
    clear c21
    (first | rw [c21b0] | (simp only [i64_w, i32_w]; rw [c21b0]) | skip)
    replace H := Option.bind_eq_some_iff.mp H
    obtain ⟨t1279, A220, H⟩ := H
    (try dsimp only at H)
    have A22 := Aside0.mk A220
    clear A220
    by_cases c23 : t1279 = true
    ·subst c23
     rw [if_pos rfl] at H
     by_cases c24 : (t1266 != t1268) = true
     ·rw [if_pos c24] at H
      have c24b0 : (t1266 != t1268) = true := c24
      (try (have c24b1 : decide (t1266 = t1268) = false := by simpa using c24))
      (try (have c24b2 : (t1266 == t1268) = false := by simpa using c24))
      (try (have c24b3 : ¬ (t1266 = t1268) := by simpa using c24))
      clear c24
      exact absurd (H.trans (congrArg some HT.out)) (laws_FnHolesAnywhere.j0_no k l1 t1255 t1256 t1257 t1258 t1265 t1269)
     ·rw [if_neg c24] at H
      have c24b0 : (t1266 != t1268) = false := by simpa using c24
      (try (have c24b1 : decide (t1266 = t1268) = true := by simpa using c24))
      (try (have c24b2 : (t1266 == t1268) = true := by simpa using c24))
      clear c24
      by_cases c25 : t1265 = t1267
      ·rw [if_pos c25] at H
       have c25b0 : (t1265 == t1267) = true := beq_iff_eq.mpr c25
       have c25b1 : (t1265 != t1267) = false := bne_eq_false_iff_eq.mpr c25
       clear c25
       by_cases c26 : (t1270 != t1274) = true
       ·rw [if_pos c26] at H
        have c26b0 : (t1270 != t1274) = true := c26
        (try (have c26b1 : decide (t1270 = t1274) = false := by simpa using c26))
        (try (have c26b2 : (t1270 == t1274) = false := by simpa using c26))
        (try (have c26b3 : ¬ (t1270 = t1274) := by simpa using c26))
        clear c26
        exact absurd (H.trans (congrArg some HT.out)) (laws_FnHolesAnywhere.j0_no k l1 t1255 t1256 t1257 t1258 t1265 t1269)
       ·rw [if_neg c26] at H
        have c26b0 : (t1270 != t1274) = false := by simpa using c26
        (try (have c26b1 : decide (t1270 = t1274) = true := by simpa using c26))
        (try (have c26b2 : (t1270 == t1274) = true := by simpa using c26))
        clear c26
        replace H := Option.bind_eq_some_iff.mp H
        obtain ⟨t1280, A270, H⟩ := H
        (try dsimp only at H)
        have A27 := Aside0.mk A270
        clear A270
        by_cases c28 : t1280 = true
        ·subst c28
         rw [if_pos rfl] at H
         by_cases c29 : (t1266 != t1258) = true
         ·rw [if_pos c29] at H
          have c29b0 : (t1266 != t1258) = true := c29
          (try (have c29b1 : decide (t1266 = t1258) = false := by simpa using c29))
          (try (have c29b2 : (t1266 == t1258) = false := by simpa using c29))
          (try (have c29b3 : ¬ (t1266 = t1258) := by simpa using c29))
          clear c29
          exact absurd (H.trans (congrArg some HT.out)) (laws_FnHolesAnywhere.j0_no k l1 t1255 t1256 t1257 t1258 t1265 t1269)
         ·rw [if_neg c29] at H
          have c29b0 : (t1266 != t1258) = false := by simpa using c29
          (try (have c29b1 : decide (t1266 = t1258) = true := by simpa using c29))
          (try (have c29b2 : (t1266 == t1258) = true := by simpa using c29))
          clear c29
          by_cases c30 : t1258 = true
          ·subst c30
           rw [if_pos rfl] at H
           by_cases c31 : (t1270 != (decide (t1265 > 0))) = true
           ·rw [if_pos c31] at H
            have c31b0 : (t1270 != (decide (t1265 > 0))) = true := c31
            (try (have c31b1 : decide (t1270 = (decide (t1265 > 0))) = false := by simpa using c31))
            (try (have c31b2 : (t1270 == (decide (t1265 > 0))) = false := by simpa using c31))
            (try (have c31b3 : ¬ (t1270 = (decide (t1265 > 0))) := by simpa using c31))
            clear c31
            exact absurd (H.trans (congrArg some HT.out)) (laws_FnHolesAnywhere.j0_no k l1 t1255 t1256 t1257 true t1265 t1269)
           ·rw [if_neg c31] at H
            have c31b0 : (t1270 != (decide (t1265 > 0))) = false := by simpa using c31
            (try (have c31b1 : decide (t1270 = (decide (t1265 > 0))) = true := by simpa using c31))
            (try (have c31b2 : (t1270 == (decide (t1265 > 0))) = true := by simpa using c31))
            clear c31
            by_cases c32 : t1278 = true
            ·subst c32
             rw [if_pos rfl] at H
             have H' := Aside0.mk H
             clear H
             obtain ⟨Ao33, co33, eo33⟩ := Kd.S_slice HO1260.out
             subst eo33
             obtain ⟨Ao34, co34, eo34⟩ := Kd.S_slice HO1264.out
             subst eo34
             go_wp2_with (first | (go_at_call 19; (with_reducible refine (laws_jRows.calls k _ _ t1257 _ _ t1261 true _ ?side1 ?side2 ?side3 ?side4 A22.out).mono ?_); (case side1 => exact atSC HO1260); (case side2 => exact (Kd.S_reads' HO1260.out).2.1); (case side3 => exact atSC HO1264); (case side4 => exact (Kd.S_reads' HO1264.out).2.1); rintro e w' ⟨rfl, ⟨nd, rfl⟩⟩; obtain ⟨Ao35, co35, eo35⟩ := Kd.R_slice HO1272.out; subst eo35; obtain ⟨Ao36, co36, eo36⟩ := Kd.R_slice HO1276.out; subst eo36) | (go_at_call 20; (with_reducible refine (laws_jSame.calls k _ _ t1269 _ _ t1273 true _ ?side1 ?side2 ?side3 ?side4 A27.out).mono ?_); (case side1 => exact atRC HO1272); (case side2 => exact (Kd.R_reads' HO1272.out).2.1); (case side3 => exact atRC HO1276); (case side4 => exact (Kd.R_reads' HO1276.out).2.1); rintro e w' ⟨rfl, ⟨nd, rfl⟩⟩))
             go_meet
             case rel => exact ⟨_, ((t1277 != (decide (t1265 > 0)))), eqd, H', ⟨leD⟩, ⟨atS HO1260⟩, ⟨atR HO1272⟩, ⟨atB HB⟩⟩
            ·replace c32 := Bool.eq_false_iff.mpr c32
             subst c32
             rw [if_neg (show ¬ (false = true) by decide)] at H
             exact absurd (H.trans (congrArg some HT.out)) (laws_FnHolesAnywhere.j0_no k l1 t1255 t1256 t1257 true t1265 t1269)
          ·replace c30 := Bool.eq_false_iff.mpr c30
           subst c30
           rw [if_neg (show ¬ (false = true) by decide)] at H
           by_cases c37 : (t1270 != false) = true
           ·rw [if_pos c37] at H
            have c37b0 : (t1270 != false) = true := c37
            (try (have c37b1 : decide (t1270 = false) = false := by simpa using c37))
            (try (have c37b2 : (t1270 == false) = false := by simpa using c37))
            (try (have c37b3 : ¬ (t1270 = false) := by simpa using c37))
            clear c37
            exact absurd (H.trans (congrArg some HT.out)) (laws_FnHolesAnywhere.j0_no k l1 t1255 t1256 t1257 false t1265 t1269)
           ·rw [if_neg c37] at H
            have c37b0 : (t1270 != false) = false := by simpa using c37
            (try (have c37b1 : decide (t1270 = false) = true := by simpa using c37))
            (try (have c37b2 : (t1270 == false) = true := by simpa using c37))
            clear c37
            have H' := Aside0.mk H
            clear H
            obtain ⟨Ao38, co38, eo38⟩ := Kd.S_slice HO1260.out
            subst eo38
            obtain ⟨Ao39, co39, eo39⟩ := Kd.S_slice HO1264.out
            subst eo39
            go_wp2_with (first | (go_at_call 19; (with_reducible refine (laws_jRows.calls k _ _ t1257 _ _ t1261 true _ ?side1 ?side2 ?side3 ?side4 A22.out).mono ?_); (case side1 => exact atSC HO1260); (case side2 => exact (Kd.S_reads' HO1260.out).2.1); (case side3 => exact atSC HO1264); (case side4 => exact (Kd.S_reads' HO1264.out).2.1); rintro e w' ⟨rfl, ⟨nd, rfl⟩⟩; obtain ⟨Ao40, co40, eo40⟩ := Kd.R_slice HO1272.out; subst eo40; obtain ⟨Ao41, co41, eo41⟩ := Kd.R_slice HO1276.out; subst eo41) | (go_at_call 20; (with_reducible refine (laws_jSame.calls k _ _ t1269 _ _ t1273 true _ ?side1 ?side2 ?side3 ?side4 A27.out).mono ?_); (case side1 => exact atRC HO1272); (case side2 => exact (Kd.R_reads' HO1272.out).2.1); (case side3 => exact atRC HO1276); (case side4 => exact (Kd.R_reads' HO1276.out).2.1); rintro e w' ⟨rfl, ⟨nd, rfl⟩⟩))
            go_meet
            case rel => exact ⟨_, (false), eqd, H', ⟨leD⟩, ⟨atS HO1260⟩, ⟨atR HO1272⟩, ⟨atB HB⟩⟩
        ·replace c28 := Bool.eq_false_iff.mpr c28
         subst c28
         rw [if_neg (show ¬ (false = true) by decide)] at H
         exact absurd (H.trans (congrArg some HT.out)) (laws_FnHolesAnywhere.j0_no k l1 t1255 t1256 t1257 t1258 t1265 t1269)
      ·rw [if_neg c25] at H
       have c25b0 : (t1265 == t1267) = false := beq_eq_false_iff_ne.mpr c25
       have c25b1 : (t1265 != t1267) = true := bne_iff_ne.mpr c25
       exact absurd (H.trans (congrArg some HT.out)) (laws_FnHolesAnywhere.j0_no k l1 t1255 t1256 t1257 t1258 t1265 t1269)
    ·replace c23 := Bool.eq_false_iff.mpr c23
     subst c23
     rw [if_neg (show ¬ (false = true) by decide)] at H
     exact absurd (H.trans (congrArg some HT.out)) (laws_FnHolesAnywhere.j0_no k l1 t1255 t1256 t1257 t1258 t1265 t1269)
  case rest => as_aux_lemma =>
   clear HC13
   try clear c1
   try clear c2
   try clear p2
   try clear c3
   try clear c4
   try clear c8
   try clear c10
   try clear c11
   try clear c21
   try clear c21b0
   try clear c21b1
   try clear c21b2
   try clear c23
   try clear c24
   try clear c24b0
   try clear c24b1
   try clear c24b2
   try clear c25
   try clear c25b0
   try clear c25b1
   try clear c26
   try clear c26b0
   try clear c26b1
   try clear c26b2
   try clear c28
   try clear c29
   try clear c29b0
   try clear c29b1
   try clear c29b2
   try clear c30
   try clear c31
   try clear c31b0
   try clear c31b1
   try clear c31b2
   try clear c32
   try clear c37
   try clear c37b0
   try clear c37b1
   try clear c37b2
   obtain ⟨kq, x165_12, rfl, HA, HJ12, HO_7, HO_15, HB⟩ := hcut
   cases kq with
   | zero => exact absurd HA.out (by simp [laws_FnHolesAnywhere.j0])
   | succ kj12 =>
    have H := HA.out
    clear HA
    simp only [laws_FnHolesAnywhere.j0] at H
    by_cases c42 : x165_12 = true
    ·subst c42
     rw [if_pos rfl] at H
     exact absurd ((Option.some.inj H).trans HT.out) (by decide)
    ·replace c42 := Bool.eq_false_iff.mpr c42
     subst c42
     rw [if_neg (show ¬ (false = true) by decide)] at H
     have HC43 := Aside0.mk H
     clear H
     go_upto_if 166 with (fail)
     go_cut [] (fun wc => ∃ (kq : Nat), Aside0 (laws_FnHolesAnywhere.j5 kq l1 = some r) ∧ Aside0 (kq ≤ kj12) ∧ Aside0 (Below w.heap.size w wc))
     case first => as_aux_lemma =>
      have H := HC43.out
      clear HC43
      by_cases c44 : t1258 = true
      ·subst c44
       rw [if_pos rfl] at H
       replace H := Option.bind_eq_some_iff.mp H
       obtain ⟨⟨t1281, t1282⟩, A450, H⟩ := H
       (try dsimp only at H)
       have A45 := Aside0.mk A450
       clear A450
       have HC46 := Aside0.mk H
       clear H
       go_upto_region 15 with (first | ((with_reducible refine gate_callee (f := 109) rfl ?_); refine goesA (some 173) Try.func109 #[.int .i64 t1255, .int .i64 (wrap64 ((wrap64 (2 * t1255)) - t1256))] ?_; (with_reducible refine (impl_CountExtended.calls t1255 (wrap64 ((wrap64 (2 * t1255)) - t1256)) t1281 t1282 _ A45.out).mono ?_); rintro e w47 ⟨rfl, hb⟩; refine ⟨_, rfl, ?_⟩; replace HO_7 := upS HO_7 hb; replace HO_15 := upR HO_15 hb; replace HB := upB HB hb; (try clear hb); (try clear hb2); (try clear hk); (try clear hi)))
       (try simp only [Act.put, List.setIfInBounds_toArray, List.set_cons_zero, List.set_cons_succ])
       go_cut [200] (fun v200 wc => ∃ (kq : Nat) (x200_45 : Bool), v200 = .bool x200_45 ∧ Aside0 (laws_FnHolesAnywhere.j1 kq l1 t1255 t1256 t1257 t1265 x200_45 = some r) ∧ Aside0 (kq ≤ kj12) ∧ Aside0 (Kd.S (Kd.slice 3 (Kd.int .i64)) 31 wc w.heap.size (fun _ => True) v1259 t1257) ∧ Aside0 (Below w.heap.size w wc))
       case first => as_aux_lemma =>
        have H := HC46.out
        clear HC46
        by_cases c48 : (t1257.length : Int) = t1265
        ·rw [if_pos c48] at H
         have c48b0 : ((t1257.length : Int) == t1265) = true := beq_iff_eq.mpr c48
         have c48b1 : ((t1257.length : Int) != t1265) = false := bne_eq_false_iff_eq.mpr c48
         clear c48
         (first | rw [c48b0] | (simp only [i64_w, i32_w]; rw [c48b0]) | skip)
         by_cases c49 : t1265 > 0
         ·rw [if_pos c49] at H
          have c49b0 : decide (0 < t1265) = true := decide_eq_true c49
          clear c49
          by_cases c50 : 0 < (t1257.length : Int)
          ·rw [if_pos c50] at H
           have c50b0 : decide (0 < (t1257.length : Int)) = true := decide_eq_true c50
           have c50b1 : decide (0 < t1257.length) = true := decide_eq_true (by omega)
           clear c50
           replace H := Option.bind_eq_some_iff.mp H
           obtain ⟨t1284, A510, H⟩ := H
           (try dsimp only at H)
           have A51 := Aside0.mk A510
           clear A510
           by_cases c52 : t1284 = true
           ·subst c52
            rw [if_pos rfl] at H
            by_cases c53 : t1282 = true
            ·subst c53
             rw [if_pos rfl] at H
             have H' := Aside0.mk H
             clear H
             obtain ⟨Ao54, co54, eo54⟩ := Kd.S_slice HO_7.out
             subst eo54
             have p1283 : 0 ≤ (0 : Int) := (by omega)
             have q1283 : 0 < (t1257.length : Int) := ofd
             obtain ⟨ad1283, A1283_0, c1283_0, e1283, hx1283_0, hl1283_0, hi1283_0⟩ := at_L2 (Kd.S_reads' HO_7.out).2.2 0 p1283 q1283
             cases e1283
             obtain ⟨ce1283, hce1283, hMe1283, hcc1283⟩ := Kd.S_get HO_7.out [] 0 p1283 (by first | exact q1283 | exact of_decide_eq_true (by first | (with_reducible assumption) | assumption) | (have e_ := (Kd.S_reads' HO_7.out).1; omega))
             obtain ⟨ve1283_0, rfl, ge1283_0⟩ := hMe1283
             have hv1283_0 := hcc1283 0 _ rfl
             rw [Nat.add_zero, show ((Kd.slice 3 (Kd.int .i64))).sz = 1 from rfl, Nat.mul_one] at hv1283_0
             replace hv1283_0 := Option.some.inj (hv1283_0.symm.trans hx1283_0)
             rw [hv1283_0] at ge1283_0
             have HL1283_0 := Aside0.mk (show Kd.R (Kd.int .i64) 3 _ _ _ _ (rd_L2 t1257 0) from ge1283_0)
             clear hv1283_0 ge1283_0
             clear hcc1283 hce1283
             have qi1283 : (0 < t1257.length) = True := eq_true (by omega)
             (try rw [show ((0 : Int)).toNat = 0 from rfl] at hx1283_0)
             (try rw [Addr.add_zero'] at hx1283_0)
             have HR1283_0 := Aside0.mk hi1283_0
             have HC1283_0 := Aside0.mk hl1283_0
             clear hi1283_0 hl1283_0
             replace p1283 := eq_true p1283
             replace q1283 := eq_true q1283
             obtain ⟨Ao55, co55, eo55⟩ := Kd.R_slice HO_15.out
             subst eo55
             go_wp2_with (first | (go_at_call 20; (with_reducible refine (laws_jSame.calls kj12 _ _ (rd_L2 t1257 0) _ _ t1269 true _ ?side1 ?side2 ?side3 ?side4 A51.out).mono ?_); (case side1 => exact atC HR1283_0); (case side2 => exact HC1283_0.out); (case side3 => exact atRC HO_15); (case side4 => exact (Kd.R_reads' HO_15.out).2.1); rintro e w' ⟨rfl, ⟨nd, rfl⟩⟩))
             go_meet
             case rel => exact ⟨_, ((t1281 != t1265)), eqd, H', ⟨by have := HJ12.out; first | omega | exact Nat.le_refl _⟩, ⟨atS HO_7⟩, ⟨atB HB⟩⟩
            ·replace c53 := Bool.eq_false_iff.mpr c53
             subst c53
             rw [if_neg (show ¬ (false = true) by decide)] at H
             exact absurd (H.trans (congrArg some HT.out)) (laws_FnHolesAnywhere.j1_no kj12 l1 t1255 t1256 t1257 t1265)
           ·replace c52 := Bool.eq_false_iff.mpr c52
            subst c52
            rw [if_neg (show ¬ (false = true) by decide)] at H
            exact absurd (H.trans (congrArg some HT.out)) (laws_FnHolesAnywhere.j1_no kj12 l1 t1255 t1256 t1257 t1265)
          ·rw [if_neg c50] at H
           exact absurd H (by simp)
         ·rw [if_neg c49] at H
          have c49b0 : decide (0 < t1265) = false := decide_eq_false c49
          clear c49
          by_cases c56 : t1282 = true
          ·subst c56
           rw [if_pos rfl] at H
           have H' := Aside0.mk H
           clear H
           obtain ⟨Ao57, co57, eo57⟩ := Kd.S_slice HO_7.out
           subst eo57
           go_wp2
           go_meet
           case rel => exact ⟨_, ((t1281 != t1265)), eqd, H', ⟨by have := HJ12.out; first | omega | exact Nat.le_refl _⟩, ⟨atS HO_7⟩, ⟨atB HB⟩⟩
          ·replace c56 := Bool.eq_false_iff.mpr c56
           subst c56
           rw [if_neg (show ¬ (false = true) by decide)] at H
           exact absurd (H.trans (congrArg some HT.out)) (laws_FnHolesAnywhere.j1_no kj12 l1 t1255 t1256 t1257 t1265)
        ·rw [if_neg c48] at H
         have c48b0 : ((t1257.length : Int) == t1265) = false := beq_eq_false_iff_ne.mpr c48
         have c48b1 : ((t1257.length : Int) != t1265) = true := bne_iff_ne.mpr c48
         (first | rw [c48b0] | (simp only [i64_w, i32_w]; rw [c48b0]) | skip)
         exact absurd (H.trans (congrArg some HT.out)) (laws_FnHolesAnywhere.j1_no kj12 l1 t1255 t1256 t1257 t1265)
       case rest => as_aux_lemma =>
        clear HC46
        try clear c1
        try clear p1
        try clear q1
        try clear hx1
        try clear qi1
        try clear c2
        try clear p2
        try clear c3
        try clear c4
        try clear c5
        try clear p6
        try clear c8
        try clear c10
        try clear c11
        try clear c12
        try clear p12
        try clear q12
        try clear hx12
        try clear qi12
        try clear c21
        try clear c21b0
        try clear c21b1
        try clear c21b2
        try clear c23
        try clear c24
        try clear c24b0
        try clear c24b1
        try clear c24b2
        try clear c25
        try clear c25b0
        try clear c25b1
        try clear c26
        try clear c26b0
        try clear c26b1
        try clear c26b2
        try clear c28
        try clear c29
        try clear c29b0
        try clear c29b1
        try clear c29b2
        try clear c30
        try clear c31
        try clear c31b0
        try clear c31b1
        try clear c31b2
        try clear c32
        try clear c37
        try clear c37b0
        try clear c37b1
        try clear c37b2
        try clear c42
        try clear c44
        try clear c48
        try clear c48b0
        try clear c48b1
        try clear c49
        try clear c49b0
        try clear c50
        try clear c50b0
        try clear c50b1
        try clear c52
        try clear c53
        try clear c56
        try clear hx1283_0
        try clear p1283
        try clear p2
        try clear q1283
        obtain ⟨kq, x200_45, rfl, HA, HJ45, HO_7, HB⟩ := hcut
        cases kq with
        | zero => exact absurd HA.out (by simp [laws_FnHolesAnywhere.j1])
        | succ kj45 =>
         have H := HA.out
         clear HA
         simp only [laws_FnHolesAnywhere.j1] at H
         by_cases c58 : x200_45 = true
         ·subst c58
          rw [if_pos rfl] at H
          exact absurd ((Option.some.inj H).trans HT.out) (by decide)
         ·replace c58 := Bool.eq_false_iff.mpr c58
          subst c58
          rw [if_neg (show ¬ (false = true) by decide)] at H
          have H' := Aside0.mk H
          clear H
          obtain ⟨Ao59, co59, eo59⟩ := Kd.S_slice HO_7.out
          subst eo59
          go_wp2
          go_loopg [203] kj45 (fun kq v203 w' => ∃ (x203_3 : Int), v203 = .int .i64 x203_3 ∧ Aside0 (laws_FnHolesAnywhere.l0 kq l1 t1255 t1256 t1257 t1265 t1257 (t1257.length : Int) x203_3 = some r) ∧ Aside0 (kq ≤ kj45) ∧ Aside0 (Kd.S (Kd.slice 3 (Kd.int .i64)) 31 w' w.heap.size (fun _ => True) (.slice Ao59 t1257.length co59) t1257) ∧ Aside0 (Kd.S (Kd.slice 3 (Kd.int .i64)) 31 w' w.heap.size (fun _ => True) (.slice Ao59 t1257.length co59) t1257) ∧ Aside0 (Below w.heap.size w w'))
          case atStart => exact ⟨(0), eqd, H', ⟨Nat.le_refl _⟩, ⟨atS HO_7⟩, ⟨atS HO_7⟩, ⟨atB HB⟩⟩
          case round => as_aux_lemma =>
           clear H'
           try clear c1
           try clear p1
           try clear q1
           try clear hx1
           try clear qi1
           try clear c2
           try clear p2
           try clear c3
           try clear c4
           try clear c5
           try clear p6
           try clear c8
           try clear c10
           try clear c11
           try clear c12
           try clear p12
           try clear q12
           try clear hx12
           try clear qi12
           try clear c21
           try clear c21b0
           try clear c21b1
           try clear c21b2
           try clear c23
           try clear c24
           try clear c24b0
           try clear c24b1
           try clear c24b2
           try clear c25
           try clear c25b0
           try clear c25b1
           try clear c26
           try clear c26b0
           try clear c26b1
           try clear c26b2
           try clear c28
           try clear c29
           try clear c29b0
           try clear c29b1
           try clear c29b2
           try clear c30
           try clear c31
           try clear c31b0
           try clear c31b1
           try clear c31b2
           try clear c32
           try clear c37
           try clear c37b0
           try clear c37b1
           try clear c37b2
           try clear c42
           try clear c44
           try clear c48
           try clear c48b0
           try clear c48b1
           try clear c49
           try clear c49b0
           try clear c50
           try clear c50b0
           try clear c50b1
           try clear c52
           try clear c53
           try clear c56
           try clear c58
           try clear hx1283_0
           try clear p1
           try clear p12
           try clear p1283
           try clear p2
           try clear p6
           try clear q1
           try clear q12
           try clear q1283
           obtain ⟨x203_3, rfl, HA, HK3, HO_7, HO_201, HB⟩ := hrel
           cases gk with
           | zero => exact absurd HA.out (by simp [laws_FnHolesAnywhere.l0])
           | succ k3 =>
            have H := HA.out
            clear HA
            simp only [laws_FnHolesAnywhere.l0] at H
            by_cases c60 : x203_3 < (t1257.length : Int)
            ·rw [if_pos c60] at H
             have c60b0 : decide (x203_3 < (t1257.length : Int)) = true := decide_eq_true c60
             clear c60
             by_cases c61 : 0 ≤ x203_3
             ·rw [if_pos c61] at H
              have c61b0 : decide (0 ≤ x203_3) = true := decide_eq_true c61
              clear c61
              by_cases c62 : x203_3 < (t1257.length : Int)
              ·rw [if_pos c62] at H
               have c62b0 : decide (x203_3 < (t1257.length : Int)) = true := decide_eq_true c62
               clear c62
               replace H := Option.bind_eq_some_iff.mp H
               obtain ⟨⟨t1286, t1287⟩, A630, H⟩ := H
               (try dsimp only at H)
               have A63 := Aside0.mk A630
               clear A630
               replace H := Option.bind_eq_some_iff.mp H
               obtain ⟨⟨t1288, t1289⟩, A640, H⟩ := H
               (try dsimp only at H)
               have A64 := Aside0.mk A640
               clear A640
               replace H := Option.bind_eq_some_iff.mp H
               obtain ⟨⟨t1290, t1291⟩, A650, H⟩ := H
               (try dsimp only at H)
               have A65 := Aside0.mk A650
               clear A650
               replace H := Option.bind_eq_some_iff.mp H
               obtain ⟨⟨t1294, t1295⟩, A660, H⟩ := H
               (try dsimp only at H)
               have A66 := Aside0.mk A660
               clear A660
               by_cases c67 : t1287 = true
               ·subst c67
                rw [if_pos rfl] at H
                by_cases c68 : t1286 = true
                ·subst c68
                 rw [if_pos rfl] at H
                 by_cases c69 : t1289 = true
                 ·subst c69
                  rw [if_pos rfl] at H
                  by_cases c70 : t1288 = t1256
                  ·rw [if_pos c70] at H
                   have c70b0 : (t1288 == t1256) = true := beq_iff_eq.mpr c70
                   have c70b1 : (t1288 != t1256) = false := bne_eq_false_iff_eq.mpr c70
                   clear c70
                   by_cases c71 : t1291 = true
                   ·subst c71
                    rw [if_pos rfl] at H
                    by_cases c72 : t1295 = true
                    ·subst c72
                     rw [if_pos rfl] at H
                     by_cases c73 : t1294 = (wrap64 ((wrap64 (2 * t1255)) - t1256))
                     ·rw [if_pos c73] at H
                      have c73b0 : (t1294 == (wrap64 ((wrap64 (2 * t1255)) - t1256))) = true := beq_iff_eq.mpr c73
                      have c73b1 : (t1294 != (wrap64 ((wrap64 (2 * t1255)) - t1256))) = false := bne_eq_false_iff_eq.mpr c73
                      clear c73
                      by_cases c74 : x203_3 > 0
                      ·rw [if_pos c74] at H
                       have c74b0 : decide (0 < x203_3) = true := decide_eq_true c74
                       clear c74
                       obtain ⟨ji75, hji75⟩ : ∃ j_ : Int, (wrap64 (x203_3 - 1)) = j_ := ⟨_, rfl⟩
                       replace H : (if 0 ≤ (ji75) then (if (ji75) < (t1257.length : Int) then ((laws_jLess.f k3 (rd_L2 t1257 (ji75)) (rd_L2 t1257 x203_3)).bind fun t1297 => (if t1297 = true then (laws_FnHolesAnywhere.l0 k3 l1 t1255 t1256 t1257 t1265 t1257 (t1257.length : Int) (wrap64 (x203_3 + 1))) else (some false))) else (none)) else (none)) = some r := by first | (rw [hji75] at H; exact H) | (simp only [hji75] at H ⊢; exact H)
                       (try rw [hji75] at A63)
                       (try rw [hji75] at A64)
                       (try rw [hji75] at A65)
                       (try rw [hji75] at A66)
                       have hji75w : (IntKind.i64.wrap (x203_3 - 1)) = ji75 := (i64_w _).trans hji75
                       by_cases c76 : 0 ≤ (ji75)
                       ·rw [if_pos c76] at H
                        have c76b0 : decide (0 ≤ (ji75)) = true := decide_eq_true c76
                        clear c76
                        by_cases c77 : (ji75) < (t1257.length : Int)
                        ·rw [if_pos c77] at H
                         have c77b0 : decide ((ji75) < (t1257.length : Int)) = true := decide_eq_true c77
                         clear c77
                         replace H := Option.bind_eq_some_iff.mp H
                         obtain ⟨t1297, A780, H⟩ := H
                         (try dsimp only at H)
                         have A78 := Aside0.mk A780
                         clear A780
                         by_cases c79 : t1297 = true
                         ·subst c79
                          rw [if_pos rfl] at H
                          have H' := Aside0.mk H
                          clear H
                          have p1285 : 0 ≤ (x203_3 : Int) := ofd
                          have q1285 : x203_3 < (t1257.length : Int) := ofd
                          obtain ⟨ad1285, A1285_0, c1285_0, e1285, hx1285_0, hl1285_0, hi1285_0⟩ := at_L2 (Kd.S_reads' HO_201.out).2.2 x203_3 p1285 q1285
                          cases e1285
                          obtain ⟨ce1285, hce1285, hMe1285, hcc1285⟩ := Kd.S_get HO_201.out [] x203_3 p1285 (by first | exact q1285 | exact of_decide_eq_true (by first | (with_reducible assumption) | assumption) | (have e_ := (Kd.S_reads' HO_201.out).1; omega))
                          obtain ⟨ve1285_0, rfl, ge1285_0⟩ := hMe1285
                          have hv1285_0 := hcc1285 0 _ rfl
                          rw [Nat.add_zero, show ((Kd.slice 3 (Kd.int .i64))).sz = 1 from rfl, Nat.mul_one] at hv1285_0
                          replace hv1285_0 := Option.some.inj (hv1285_0.symm.trans hx1285_0)
                          rw [hv1285_0] at ge1285_0
                          have HL1285_0 := Aside0.mk (show Kd.R (Kd.int .i64) 3 _ _ _ _ (rd_L2 t1257 x203_3) from ge1285_0)
                          clear hv1285_0 ge1285_0
                          clear hcc1285 hce1285
                          have HR1285_0 := Aside0.mk hi1285_0
                          have HC1285_0 := Aside0.mk hl1285_0
                          clear hi1285_0 hl1285_0
                          replace p1285 := eq_true p1285
                          replace q1285 := eq_true q1285
                          go_wp2_with (first | ((with_reducible refine gate_callee (f := 114) rfl ?_); refine goesA (some 210) Try.func114 #[.slice A1285_0 (rd_L2 t1257 x203_3).length c1285_0] ?_; (with_reducible refine (impl_IsExtended.calls k3 _ _ (rd_L2 t1257 x203_3) true true _ ?side1 ?side2 A63.out).mono ?_); (case side1 => exact atC HR1285_0); (case side2 => exact HC1285_0.out); rintro e w80 ⟨rfl, hb⟩; refine ⟨_, rfl, ?_⟩; replace HO_7 := upS HO_7 hb; replace HO_201 := upS HO_201 hb; replace HL1285_0 := upR HL1285_0 hb; replace HR1285_0 := upC HR1285_0 hb; replace HB := upB HB hb; (try clear hb); (try clear hb2); (try clear hk); (try clear hi)) | ((with_reducible refine gate_callee (f := 115) rfl ?_); refine goesA (some 215) Try.func115 #[.slice A1285_0 (rd_L2 t1257 x203_3).length c1285_0] ?_; (with_reducible refine (impl_HoleOf.calls k3 _ _ (rd_L2 t1257 x203_3) t1288 true _ ?side1 ?side2 A64.out).mono ?_); (case side1 => exact atC HR1285_0); (case side2 => exact HC1285_0.out); rintro e w81 ⟨rfl, hb⟩; refine ⟨_, rfl, ?_⟩; replace HO_7 := upS HO_7 hb; replace HO_201 := upS HO_201 hb; replace HL1285_0 := upR HL1285_0 hb; replace HR1285_0 := upC HR1285_0 hb; replace HB := upB HB hb; (try clear hb); (try clear hb2); (try clear hk); (try clear hi)) | ((with_reducible refine gate_callee (f := 69) rfl ?_); refine goesA (some 220) Try.func69 #[.slice A1285_0 (rd_L2 t1257 x203_3).length c1285_0] ?_; (with_reducible refine (impl_BackRow.calls k3 _ _ (rd_L2 t1257 x203_3) t1290 true _ ?side1 ?side2 A65.out).mono ?_); (case side1 => exact atC HR1285_0); (case side2 => exact HC1285_0.out); rintro e w82 ⟨v1292, rfl, ho0, hb⟩; refine ⟨_, rfl, ?_⟩; have HO1293 := lowR ho0 HB; replace HO_7 := upS HO_7 hb; replace HO_201 := upS HO_201 hb; replace HL1285_0 := upR HL1285_0 hb; replace HR1285_0 := upC HR1285_0 hb; replace HB := upB HB hb; (try clear hb); (try clear hb2); (try clear hk); (try clear hi); (try clear ho0); obtain ⟨Ao83, co83, eo83⟩ := Kd.R_slice HO1293.out; subst eo83) | ((with_reducible refine gate_callee (f := 115) rfl ?_); refine goesA (some 225) Try.func115 #[.slice Ao83 t1290.length co83] ?_; (with_reducible refine (impl_HoleOf.calls k3 _ _ t1290 t1294 true _ ?side1 ?side2 A66.out).mono ?_); (case side1 => exact atRC HO1293); (case side2 => exact (Kd.R_reads' HO1293.out).2.1); rintro e w84 ⟨rfl, hb⟩; refine ⟨_, rfl, ?_⟩; replace HO_7 := upS HO_7 hb; replace HO_201 := upS HO_201 hb; replace HL1285_0 := upR HL1285_0 hb; replace HO1293 := upR HO1293 hb; replace HR1285_0 := upC HR1285_0 hb; replace HB := upB HB hb; (try clear hb); (try clear hb2); (try clear hk); (try clear hi); have p1296 : 0 ≤ ((ji75) : Int) := ofd; have q1296 : (ji75) < (t1257.length : Int) := ofd; obtain ⟨ad1296, A1296_0, c1296_0, e1296, hx1296_0, hl1296_0, hi1296_0⟩ := at_L2 (Kd.S_reads' HO_7.out).2.2 (ji75) p1296 q1296; obtain rfl : ad1285 = ad1296 := (by injection e1296); obtain ⟨ce1296, hce1296, hMe1296, hcc1296⟩ := Kd.S_get HO_7.out [] (ji75) p1296 (by first | exact q1296 | exact of_decide_eq_true (by first | (with_reducible assumption) | assumption) | (have e_ := (Kd.S_reads' HO_7.out).1; omega)); obtain ⟨ve1296_0, rfl, ge1296_0⟩ := hMe1296; have hv1296_0 := hcc1296 0 _ rfl; rw [Nat.add_zero, show ((Kd.slice 3 (Kd.int .i64))).sz = 1 from rfl, Nat.mul_one] at hv1296_0; replace hv1296_0 := Option.some.inj (hv1296_0.symm.trans hx1296_0); rw [hv1296_0] at ge1296_0; have HL1296_0 := Aside0.mk (show Kd.R (Kd.int .i64) 3 _ _ _ _ (rd_L2 t1257 (ji75)) from ge1296_0); clear hv1296_0 ge1296_0; clear hcc1296 hce1296; have HR1296_0 := Aside0.mk hi1296_0; have HC1296_0 := Aside0.mk hl1296_0; clear hi1296_0 hl1296_0; replace p1296 := eq_true p1296; replace q1296 := eq_true q1296) | (go_at_call 23; (with_reducible refine (laws_jLess.calls k3 _ _ (rd_L2 t1257 (ji75)) _ _ (rd_L2 t1257 x203_3) true _ ?side1 ?side2 ?side3 ?side4 A78.out).mono ?_); (case side1 => exact atC HR1296_0); (case side2 => exact HC1296_0.out); (case side3 => exact atC HR1285_0); (case side4 => exact HC1285_0.out); rintro e w' ⟨rfl, ⟨nd, rfl⟩⟩))
                          go_roundg k3
                          case measure => have := HJ12.out; have := HJ45.out; have := HK3.out; omega
                          case rel => exact ⟨(wrap64 (x203_3 + 1)), eqd, H', ⟨by have := HJ12.out; have := HJ45.out; have := HK3.out; omega⟩, ⟨atS HO_7⟩, ⟨atS HO_201⟩, ⟨atB HB⟩⟩
                         ·replace c79 := Bool.eq_false_iff.mpr c79
                          subst c79
                          rw [if_neg (show ¬ (false = true) by decide)] at H
                          exact absurd ((Option.some.inj H).trans HT.out) (by decide)
                        ·rw [if_neg c77] at H
                         exact absurd H (by simp)
                       ·rw [if_neg c76] at H
                        exact absurd H (by simp)
                      ·rw [if_neg c74] at H
                       have c74b0 : decide (0 < x203_3) = false := decide_eq_false c74
                       clear c74
                       have H' := Aside0.mk H
                       clear H
                       have p1285 : 0 ≤ (x203_3 : Int) := ofd
                       have q1285 : x203_3 < (t1257.length : Int) := ofd
                       obtain ⟨ad1285, A1285_0, c1285_0, e1285, hx1285_0, hl1285_0, hi1285_0⟩ := at_L2 (Kd.S_reads' HO_201.out).2.2 x203_3 p1285 q1285
                       cases e1285
                       obtain ⟨ce1285, hce1285, hMe1285, hcc1285⟩ := Kd.S_get HO_201.out [] x203_3 p1285 (by first | exact q1285 | exact of_decide_eq_true (by first | (with_reducible assumption) | assumption) | (have e_ := (Kd.S_reads' HO_201.out).1; omega))
                       obtain ⟨ve1285_0, rfl, ge1285_0⟩ := hMe1285
                       have hv1285_0 := hcc1285 0 _ rfl
                       rw [Nat.add_zero, show ((Kd.slice 3 (Kd.int .i64))).sz = 1 from rfl, Nat.mul_one] at hv1285_0
                       replace hv1285_0 := Option.some.inj (hv1285_0.symm.trans hx1285_0)
                       rw [hv1285_0] at ge1285_0
                       have HL1285_0 := Aside0.mk (show Kd.R (Kd.int .i64) 3 _ _ _ _ (rd_L2 t1257 x203_3) from ge1285_0)
                       clear hv1285_0 ge1285_0
                       clear hcc1285 hce1285
                       have HR1285_0 := Aside0.mk hi1285_0
                       have HC1285_0 := Aside0.mk hl1285_0
                       clear hi1285_0 hl1285_0
                       replace p1285 := eq_true p1285
                       replace q1285 := eq_true q1285
                       go_wp2_with (first | ((with_reducible refine gate_callee (f := 114) rfl ?_); refine goesA (some 210) Try.func114 #[.slice A1285_0 (rd_L2 t1257 x203_3).length c1285_0] ?_; (with_reducible refine (impl_IsExtended.calls k3 _ _ (rd_L2 t1257 x203_3) true true _ ?side1 ?side2 A63.out).mono ?_); (case side1 => exact atC HR1285_0); (case side2 => exact HC1285_0.out); rintro e w85 ⟨rfl, hb⟩; refine ⟨_, rfl, ?_⟩; replace HO_7 := upS HO_7 hb; replace HO_201 := upS HO_201 hb; replace HL1285_0 := upR HL1285_0 hb; replace HR1285_0 := upC HR1285_0 hb; replace HB := upB HB hb; (try clear hb); (try clear hb2); (try clear hk); (try clear hi)) | ((with_reducible refine gate_callee (f := 115) rfl ?_); refine goesA (some 215) Try.func115 #[.slice A1285_0 (rd_L2 t1257 x203_3).length c1285_0] ?_; (with_reducible refine (impl_HoleOf.calls k3 _ _ (rd_L2 t1257 x203_3) t1288 true _ ?side1 ?side2 A64.out).mono ?_); (case side1 => exact atC HR1285_0); (case side2 => exact HC1285_0.out); rintro e w86 ⟨rfl, hb⟩; refine ⟨_, rfl, ?_⟩; replace HO_7 := upS HO_7 hb; replace HO_201 := upS HO_201 hb; replace HL1285_0 := upR HL1285_0 hb; replace HR1285_0 := upC HR1285_0 hb; replace HB := upB HB hb; (try clear hb); (try clear hb2); (try clear hk); (try clear hi)) | ((with_reducible refine gate_callee (f := 69) rfl ?_); refine goesA (some 220) Try.func69 #[.slice A1285_0 (rd_L2 t1257 x203_3).length c1285_0] ?_; (with_reducible refine (impl_BackRow.calls k3 _ _ (rd_L2 t1257 x203_3) t1290 true _ ?side1 ?side2 A65.out).mono ?_); (case side1 => exact atC HR1285_0); (case side2 => exact HC1285_0.out); rintro e w87 ⟨v1292, rfl, ho0, hb⟩; refine ⟨_, rfl, ?_⟩; have HO1293 := lowR ho0 HB; replace HO_7 := upS HO_7 hb; replace HO_201 := upS HO_201 hb; replace HL1285_0 := upR HL1285_0 hb; replace HR1285_0 := upC HR1285_0 hb; replace HB := upB HB hb; (try clear hb); (try clear hb2); (try clear hk); (try clear hi); (try clear ho0); obtain ⟨Ao88, co88, eo88⟩ := Kd.R_slice HO1293.out; subst eo88) | ((with_reducible refine gate_callee (f := 115) rfl ?_); refine goesA (some 225) Try.func115 #[.slice Ao88 t1290.length co88] ?_; (with_reducible refine (impl_HoleOf.calls k3 _ _ t1290 t1294 true _ ?side1 ?side2 A66.out).mono ?_); (case side1 => exact atRC HO1293); (case side2 => exact (Kd.R_reads' HO1293.out).2.1); rintro e w89 ⟨rfl, hb⟩; refine ⟨_, rfl, ?_⟩; replace HO_7 := upS HO_7 hb; replace HO_201 := upS HO_201 hb; replace HL1285_0 := upR HL1285_0 hb; replace HO1293 := upR HO1293 hb; replace HR1285_0 := upC HR1285_0 hb; replace HB := upB HB hb; (try clear hb); (try clear hb2); (try clear hk); (try clear hi)))
                       go_roundg k3
                       case measure => have := HJ12.out; have := HJ45.out; have := HK3.out; omega
                       case rel => exact ⟨(wrap64 (x203_3 + 1)), eqd, H', ⟨by have := HJ12.out; have := HJ45.out; have := HK3.out; omega⟩, ⟨atS HO_7⟩, ⟨atS HO_201⟩, ⟨atB HB⟩⟩
                     ·rw [if_neg c73] at H
                      have c73b0 : (t1294 == (wrap64 ((wrap64 (2 * t1255)) - t1256))) = false := beq_eq_false_iff_ne.mpr c73
                      have c73b1 : (t1294 != (wrap64 ((wrap64 (2 * t1255)) - t1256))) = true := bne_iff_ne.mpr c73
                      exact absurd ((Option.some.inj H).trans HT.out) (by decide)
                    ·replace c72 := Bool.eq_false_iff.mpr c72
                     subst c72
                     rw [if_neg (show ¬ (false = true) by decide)] at H
                     exact absurd ((Option.some.inj H).trans HT.out) (by decide)
                   ·replace c71 := Bool.eq_false_iff.mpr c71
                    subst c71
                    rw [if_neg (show ¬ (false = true) by decide)] at H
                    exact absurd ((Option.some.inj H).trans HT.out) (by decide)
                  ·rw [if_neg c70] at H
                   have c70b0 : (t1288 == t1256) = false := beq_eq_false_iff_ne.mpr c70
                   have c70b1 : (t1288 != t1256) = true := bne_iff_ne.mpr c70
                   exact absurd ((Option.some.inj H).trans HT.out) (by decide)
                 ·replace c69 := Bool.eq_false_iff.mpr c69
                  subst c69
                  rw [if_neg (show ¬ (false = true) by decide)] at H
                  exact absurd ((Option.some.inj H).trans HT.out) (by decide)
                ·replace c68 := Bool.eq_false_iff.mpr c68
                 subst c68
                 rw [if_neg (show ¬ (false = true) by decide)] at H
                 exact absurd ((Option.some.inj H).trans HT.out) (by decide)
               ·replace c67 := Bool.eq_false_iff.mpr c67
                subst c67
                rw [if_neg (show ¬ (false = true) by decide)] at H
                exact absurd ((Option.some.inj H).trans HT.out) (by decide)
              ·rw [if_neg c62] at H
               exact absurd H (by simp)
             ·rw [if_neg c61] at H
              exact absurd H (by simp)
            ·rw [if_neg c60] at H
             have c60b0 : decide (x203_3 < (t1257.length : Int)) = false := decide_eq_false c60
             clear c60
             have HC90 := Aside0.mk H
             clear H
             go_upto_region 27 with (fail)
             go_cut [281] (fun v281 wc => ∃ (kq : Nat) (x281_89 : Bool), v281 = .bool x281_89 ∧ Aside0 (laws_FnHolesAnywhere.j3 kq l1 t1255 t1256 t1265 x281_89 = some r) ∧ Aside0 (kq ≤ k3) ∧ Aside0 (Below w.heap.size w wc))
             case first => as_aux_lemma =>
              have H := HC90.out
              clear HC90
              by_cases c91 : t1256 = (wrap64 (2 * t1255))
              ·rw [if_pos c91] at H
               have c91b0 : (t1256 == (wrap64 (2 * t1255))) = true := beq_iff_eq.mpr c91
               have c91b1 : (t1256 != (wrap64 (2 * t1255))) = false := bne_eq_false_iff_eq.mpr c91
               clear c91
               (first | rw [c91b0] | (simp only [i64_w, i32_w]; rw [c91b0]) | skip)
               have H' := Aside0.mk H
               clear H
               go_wp2
               go_meet
               case rel => exact ⟨_, (true), eqd, H', ⟨by have := HJ12.out; have := HJ45.out; have := HK3.out; first | omega | exact Nat.le_refl _⟩, ⟨atB HB⟩⟩
              ·rw [if_neg c91] at H
               have c91b0 : (t1256 == (wrap64 (2 * t1255))) = false := beq_eq_false_iff_ne.mpr c91
               have c91b1 : (t1256 != (wrap64 (2 * t1255))) = true := bne_iff_ne.mpr c91
               (first | rw [c91b0] | (simp only [i64_w, i32_w]; rw [c91b0]) | skip)
               have H' := Aside0.mk H
               clear H
               go_wp2
               go_meet
               case rel => exact ⟨_, ((t1256 == 0)), eqd, H', ⟨by have := HJ12.out; have := HJ45.out; have := HK3.out; first | omega | exact Nat.le_refl _⟩, ⟨atB HB⟩⟩
             case rest => as_aux_lemma =>
              clear HC90
              try clear c1
              try clear p1
              try clear q1
              try clear hx1
              try clear qi1
              try clear c2
              try clear p2
              try clear c3
              try clear c4
              try clear c5
              try clear c6
              try clear p6
              try clear c7
              try clear c8
              try clear c9
              try clear c10
              try clear c11
              try clear c12
              try clear p12
              try clear q12
              try clear hx12
              try clear qi12
              try clear c21
              try clear c21b0
              try clear c21b1
              try clear c21b2
              try clear c23
              try clear c24
              try clear c24b0
              try clear c24b1
              try clear c24b2
              try clear c25
              try clear c25b0
              try clear c25b1
              try clear c26
              try clear c26b0
              try clear c26b1
              try clear c26b2
              try clear c28
              try clear c29
              try clear c29b0
              try clear c29b1
              try clear c29b2
              try clear c30
              try clear c31
              try clear c31b0
              try clear c31b1
              try clear c31b2
              try clear c32
              try clear c37
              try clear c37b0
              try clear c37b1
              try clear c37b2
              try clear c42
              try clear c44
              try clear c48
              try clear c48b0
              try clear c48b1
              try clear c49
              try clear c49b0
              try clear c50
              try clear c50b0
              try clear c50b1
              try clear c52
              try clear c53
              try clear c56
              try clear c58
              try clear c60
              try clear c60b0
              try clear c61
              try clear c61b0
              try clear c62
              try clear c62b0
              try clear p64
              try clear c67
              try clear c68
              try clear c69
              try clear c70
              try clear c70b0
              try clear c70b1
              try clear c71
              try clear c72
              try clear c73
              try clear c73b0
              try clear c73b1
              try clear c74
              try clear c74b0
              try clear c76
              try clear c76b0
              try clear c77
              try clear c77b0
              try clear c79
              try clear c91
              try clear c91b0
              try clear c91b1
              try clear hx1283_0
              try clear hx1285_0
              try clear hx1296_0
              try clear p1
              try clear p12
              try clear p1283
              try clear p1285
              try clear p1296
              try clear p2
              try clear p6
              try clear q1
              try clear q12
              try clear q1283
              try clear q1285
              try clear q1296
              obtain ⟨kq, x281_89, rfl, HA, HJ89, HB⟩ := hcut
              cases kq with
              | zero => exact absurd HA.out (by simp [laws_FnHolesAnywhere.j3])
              | succ kj89 =>
               have H := HA.out
               clear HA
               simp only [laws_FnHolesAnywhere.j3] at H
               have HC92 := Aside0.mk H
               clear H
               go_upto_if 281 with (fail)
               go_cut [] (fun wc => ∃ (kq : Nat), Aside0 (laws_FnHolesAnywhere.j4 kq l1 t1255 t1256 t1265 = some r) ∧ Aside0 (kq ≤ kj89) ∧ Aside0 (Below w.heap.size w wc))
               case first => as_aux_lemma =>
                have H := HC92.out
                clear HC92
                by_cases c93 : x281_89 = true
                ·subst c93
                 rw [if_pos rfl] at H
                 replace H := Option.bind_eq_some_iff.mp H
                 obtain ⟨⟨t1304, t1305⟩, A940, H⟩ := H
                 (try dsimp only at H)
                 have A94 := Aside0.mk A940
                 clear A940
                 by_cases c95 : t1305 = true
                 ·subst c95
                  rw [if_pos rfl] at H
                  by_cases c96 : t1304 = t1265
                  ·rw [if_pos c96] at H
                   have c96b0 : (t1304 == t1265) = true := beq_iff_eq.mpr c96
                   have c96b1 : (t1304 != t1265) = false := bne_eq_false_iff_eq.mpr c96
                   clear c96
                   (first | rw [c96b0] | (simp only [i64_w, i32_w]; rw [c96b0]) | skip)
                   have H' := Aside0.mk H
                   clear H
                   go_wp2_with (first | ((with_reducible refine gate_callee (f := 30) rfl ?_); refine goesA (some 284) Try.func30 #[.int .i64 t1255] ?_; (with_reducible refine (impl_CountSkolem.calls t1255 t1304 true _ A94.out).mono ?_); rintro e w97 ⟨rfl, hb⟩; refine ⟨_, rfl, ?_⟩; replace HB := upB HB hb; (try clear hb); (try clear hb2); (try clear hk); (try clear hi)))
                   go_meet
                   case rel => exact ⟨_, H', ⟨by have := HJ12.out; have := HJ45.out; have := HK3.out; have := HJ89.out; first | omega | exact Nat.le_refl _⟩, ⟨atB HB⟩⟩
                  ·rw [if_neg c96] at H
                   have c96b0 : (t1304 == t1265) = false := beq_eq_false_iff_ne.mpr c96
                   have c96b1 : (t1304 != t1265) = true := bne_iff_ne.mpr c96
                   (first | rw [c96b0] | (simp only [i64_w, i32_w]; rw [c96b0]) | skip)
                   exact absurd ((Option.some.inj H).trans HT.out) (by decide)
                 ·replace c95 := Bool.eq_false_iff.mpr c95
                  subst c95
                  rw [if_neg (show ¬ (false = true) by decide)] at H
                  exact absurd ((Option.some.inj H).trans HT.out) (by decide)
                ·replace c93 := Bool.eq_false_iff.mpr c93
                 subst c93
                 rw [if_neg (show ¬ (false = true) by decide)] at H
                 have H' := Aside0.mk H
                 clear H
                 go_wp2
                 go_meet
                 case rel => exact ⟨_, H', ⟨by have := HJ12.out; have := HJ45.out; have := HK3.out; have := HJ89.out; first | omega | exact Nat.le_refl _⟩, ⟨atB HB⟩⟩
               case rest => as_aux_lemma =>
                clear HC92
                try clear c1
                try clear p1
                try clear q1
                try clear hx1
                try clear qi1
                try clear c2
                try clear p2
                try clear c3
                try clear c4
                try clear c5
                try clear c6
                try clear p6
                try clear c7
                try clear c8
                try clear c9
                try clear c10
                try clear c11
                try clear c12
                try clear p12
                try clear q12
                try clear hx12
                try clear qi12
                try clear c21
                try clear c21b0
                try clear c21b1
                try clear c21b2
                try clear c23
                try clear c24
                try clear c24b0
                try clear c24b1
                try clear c24b2
                try clear c25
                try clear c25b0
                try clear c25b1
                try clear c26
                try clear c26b0
                try clear c26b1
                try clear c26b2
                try clear c28
                try clear c29
                try clear c29b0
                try clear c29b1
                try clear c29b2
                try clear c30
                try clear c31
                try clear c31b0
                try clear c31b1
                try clear c31b2
                try clear c32
                try clear c37
                try clear c37b0
                try clear c37b1
                try clear c37b2
                try clear c42
                try clear c44
                try clear c48
                try clear c48b0
                try clear c48b1
                try clear c49
                try clear c49b0
                try clear c50
                try clear c50b0
                try clear c50b1
                try clear c52
                try clear c53
                try clear c56
                try clear c58
                try clear c60
                try clear c60b0
                try clear c61
                try clear c61b0
                try clear c62
                try clear c62b0
                try clear p64
                try clear c67
                try clear c68
                try clear c69
                try clear c70
                try clear c70b0
                try clear c70b1
                try clear c71
                try clear c72
                try clear c73
                try clear c73b0
                try clear c73b1
                try clear c74
                try clear c74b0
                try clear c76
                try clear c76b0
                try clear c77
                try clear c77b0
                try clear c79
                try clear c91
                try clear c91b0
                try clear c91b1
                try clear c93
                try clear c95
                try clear c96
                try clear c96b0
                try clear c96b1
                try clear hx1283_0
                try clear hx1285_0
                try clear hx1296_0
                try clear p1
                try clear p12
                try clear p1283
                try clear p1285
                try clear p1296
                try clear p2
                try clear p6
                try clear p64
                try clear q1
                try clear q12
                try clear q1283
                try clear q1285
                try clear q1296
                obtain ⟨kq, HA, HJ91, HB⟩ := hcut
                cases kq with
                | zero => exact absurd HA.out (by simp [laws_FnHolesAnywhere.j4])
                | succ kj91 =>
                 have H := HA.out
                 clear HA
                 simp only [laws_FnHolesAnywhere.j4] at H
                 by_cases c98 : t1256 = (wrap64 ((wrap64 (2 * t1255)) - 1))
                 ·rw [if_pos c98] at H
                  have c98b0 : (t1256 == (wrap64 ((wrap64 (2 * t1255)) - 1))) = true := beq_iff_eq.mpr c98
                  have c98b1 : (t1256 != (wrap64 ((wrap64 (2 * t1255)) - 1))) = false := bne_eq_false_iff_eq.mpr c98
                  clear c98
                  replace H := Option.bind_eq_some_iff.mp H
                  obtain ⟨⟨t1306, t1307⟩, A990, H⟩ := H
                  (try dsimp only at H)
                  have A99 := Aside0.mk A990
                  clear A990
                  by_cases c100 : t1307 = true
                  ·subst c100
                   rw [if_pos rfl] at H
                   by_cases c101 : t1306 = t1265
                   ·rw [if_pos c101] at H
                    have c101b0 : (t1306 == t1265) = true := beq_iff_eq.mpr c101
                    have c101b1 : (t1306 != t1265) = false := bne_eq_false_iff_eq.mpr c101
                    clear c101
                    have H' := Aside0.mk H
                    clear H
                    go_wp2_with (first | ((with_reducible refine gate_callee (f := 39) rfl ?_); refine goesA (some 301) Try.func39 #[.int .i64 t1255] ?_; (with_reducible refine (impl_CountHooked.calls t1255 t1306 true _ A99.out).mono ?_); rintro e w102 ⟨rfl, hb⟩; refine ⟨_, rfl, ?_⟩; replace HB := upB HB hb; (try clear hb); (try clear hb2); (try clear hk); (try clear hi)))
                    go_meet
                    case rel => exact ⟨_, H', ⟨by have := HJ12.out; have := HJ45.out; have := HK3.out; have := HJ89.out; have := HJ91.out; first | omega | exact Nat.le_refl _⟩, ⟨atB HB⟩⟩
                   ·rw [if_neg c101] at H
                    have c101b0 : (t1306 == t1265) = false := beq_eq_false_iff_ne.mpr c101
                    have c101b1 : (t1306 != t1265) = true := bne_iff_ne.mpr c101
                    exact absurd ((Option.some.inj H).trans HT.out) (by decide)
                  ·replace c100 := Bool.eq_false_iff.mpr c100
                   subst c100
                   rw [if_neg (show ¬ (false = true) by decide)] at H
                   exact absurd ((Option.some.inj H).trans HT.out) (by decide)
                 ·rw [if_neg c98] at H
                  have c98b0 : (t1256 == (wrap64 ((wrap64 (2 * t1255)) - 1))) = false := beq_eq_false_iff_ne.mpr c98
                  have c98b1 : (t1256 != (wrap64 ((wrap64 (2 * t1255)) - 1))) = true := bne_iff_ne.mpr c98
                  have H' := Aside0.mk H
                  clear H
                  go_wp2
                  go_meet
                  case rel => exact ⟨_, H', ⟨by have := HJ12.out; have := HJ45.out; have := HK3.out; have := HJ89.out; have := HJ91.out; first | omega | exact Nat.le_refl _⟩, ⟨atB HB⟩⟩
      ·replace c44 := Bool.eq_false_iff.mpr c44
       subst c44
       rw [if_neg (show ¬ (false = true) by decide)] at H
       have H' := Aside0.mk H
       clear H
       go_wp2
       go_meet
       case rel => exact ⟨_, H', ⟨by have := HJ12.out; first | omega | exact Nat.le_refl _⟩, ⟨atB HB⟩⟩
     case rest => as_aux_lemma =>
      clear HC43
      try clear c1
      try clear p1
      try clear q1
      try clear hx1
      try clear qi1
      try clear c2
      try clear p2
      try clear c3
      try clear c4
      try clear c5
      try clear c6
      try clear p6
      try clear c7
      try clear c8
      try clear c9
      try clear c10
      try clear c11
      try clear c12
      try clear p12
      try clear q12
      try clear hx12
      try clear qi12
      try clear c21
      try clear c21b0
      try clear c21b1
      try clear c21b2
      try clear c23
      try clear c24
      try clear c24b0
      try clear c24b1
      try clear c24b2
      try clear c25
      try clear c25b0
      try clear c25b1
      try clear c26
      try clear c26b0
      try clear c26b1
      try clear c26b2
      try clear c28
      try clear c29
      try clear c29b0
      try clear c29b1
      try clear c29b2
      try clear c30
      try clear c31
      try clear c31b0
      try clear c31b1
      try clear c31b2
      try clear c32
      try clear c37
      try clear c37b0
      try clear c37b1
      try clear c37b2
      try clear c39
      try clear c42
      try clear c44
      try clear c48
      try clear c48b0
      try clear c48b1
      try clear c49
      try clear c49b0
      try clear c50
      try clear c50b0
      try clear c50b1
      try clear c52
      try clear c53
      try clear c56
      try clear c58
      try clear c60
      try clear c60b0
      try clear c61
      try clear c61b0
      try clear c62
      try clear c62b0
      try clear p64
      try clear c67
      try clear c68
      try clear c69
      try clear c70
      try clear c70b0
      try clear c70b1
      try clear c71
      try clear c72
      try clear c73
      try clear c73b0
      try clear c73b1
      try clear c74
      try clear c74b0
      try clear c76
      try clear c76b0
      try clear c77
      try clear c77b0
      try clear c79
      try clear c91
      try clear c91b0
      try clear c91b1
      try clear c93
      try clear c95
      try clear c96
      try clear c96b0
      try clear c96b1
      try clear c98
      try clear c98b0
      try clear c98b1
      try clear c100
      try clear c101
      try clear c101b0
      try clear c101b1
      try clear hx1283_0
      try clear hx1285_0
      try clear hx1296_0
      try clear p1
      try clear p12
      try clear p1283
      try clear p1285
      try clear p1296
      try clear p2
      try clear p6
      try clear p64
      try clear q1
      try clear q12
      try clear q1283
      try clear q1285
      try clear q1296
      obtain ⟨kq, HA, HJ42, HB⟩ := hcut
      cases kq with
      | zero => exact absurd HA.out (by simp [laws_FnHolesAnywhere.j5])
      | succ kj42 =>
       have H := HA.out
       clear HA
       simp only [laws_FnHolesAnywhere.j5] at H
       replace H := Option.bind_eq_some_iff.mp H
       obtain ⟨t1552, A1030, H⟩ := H
       (try dsimp only at H)
       have A103 := Aside0.mk A1030
       clear A1030
       replace H := Option.bind_eq_some_iff.mp H
       obtain ⟨⟨t1555, t1556⟩, A1040, H⟩ := H
       (try dsimp only at H)
       have A104 := Aside0.mk A1040
       clear A1040
       replace H := Option.bind_eq_some_iff.mp H
       obtain ⟨⟨t1559, t1560⟩, A1050, H⟩ := H
       (try dsimp only at H)
       have A105 := Aside0.mk A1050
       clear A1050
       replace H := Option.bind_eq_some_iff.mp H
       obtain ⟨⟨t1563, t1564⟩, A1060, H⟩ := H
       (try dsimp only at H)
       have A106 := Aside0.mk A1060
       clear A1060
       replace H := Option.bind_eq_some_iff.mp H
       obtain ⟨⟨t1565, t1566⟩, A1070, H⟩ := H
       (try dsimp only at H)
       have A107 := Aside0.mk A1070
       clear A1070
       replace H := Option.bind_eq_some_iff.mp H
       obtain ⟨⟨t1567, t1568⟩, A1080, H⟩ := H
       (try dsimp only at H)
       have A108 := Aside0.mk A1080
       clear A1080
       replace H := Option.bind_eq_some_iff.mp H
       obtain ⟨⟨t1569, t1570⟩, A1090, H⟩ := H
       (try dsimp only at H)
       have A109 := Aside0.mk A1090
       clear A1090
       replace H := Option.bind_eq_some_iff.mp H
       obtain ⟨⟨t1571, t1572⟩, A1100, H⟩ := H
       (try dsimp only at H)
       have A110 := Aside0.mk A1100
       clear A1100
       replace H := Option.bind_eq_some_iff.mp H
       obtain ⟨⟨t1573, t1574⟩, A1110, H⟩ := H
       (try dsimp only at H)
       have A111 := Aside0.mk A1110
       clear A1110
       replace H := Option.bind_eq_some_iff.mp H
       obtain ⟨⟨t1575, t1576⟩, A1120, H⟩ := H
       (try dsimp only at H)
       have A112 := Aside0.mk A1120
       clear A1120
       have HC113 := Aside0.mk H
       clear H
       go_upto_region 45 with (first | ((with_reducible refine gate_callee (f := 116) rfl ?_); refine goesA (some 312) Try.func116 #[.slice A1 l1.length c1] ?_; (with_reducible refine (spec_DrawSkolemOfExtended.calls kj42 _ _ l1 t1552 _ ?side1 ?side2 A103.out).mono ?_); (case side1 => repeat (first | exact (Kd.C_below HR1.out HB.out) | (with_reducible refine Kd.C_alloc ?_ _) | (with_reducible refine Kd.C_drewN ?_ _) | (with_reducible refine Kd.C_drew ?_))); (case side2 => exact HC1.out); rintro e w114 ⟨v1553, rfl, ho0, hb⟩; refine ⟨_, rfl, ?_⟩; have HO1554 := lowR ho0 HB; replace HB := upB HB hb; (try clear hb); (try clear hb2); (try clear hk); (try clear hi); (try clear ho0); obtain ⟨Ao115, co115, eo115⟩ := Kd.R_slice HO1554.out; subst eo115) | ((with_reducible refine gate_callee (f := 117) rfl ?_); refine goesA (some 315) Try.func117 #[.slice Ao115 t1552.length co115] ?_; (with_reducible refine (impl_SkolemOfExtended.calls kj42 _ _ t1552 t1555 t1556 _ ?side1 ?side2 A104.out).mono ?_); (case side1 => exact atRC HO1554); (case side2 => exact (Kd.R_reads' HO1554.out).2.1); rintro e w116 ⟨v1557, rfl, ho0, hb⟩; refine ⟨_, rfl, ?_⟩; have HO1558 := lowR ho0 HB; replace HO1554 := upR HO1554 hb; replace HB := upB HB hb; (try clear hb); (try clear hb2); (try clear hk); (try clear hi); (try clear ho0)) | ((with_reducible refine gate_callee (f := 118) rfl ?_); refine goesA (some 320) Try.func118 #[.slice Ao115 t1552.length co115] ?_; (with_reducible refine (spec_SkolemOfExtended.calls kj42 _ _ t1552 t1559 t1560 _ ?side1 ?side2 A105.out).mono ?_); (case side1 => exact atRC HO1554); (case side2 => exact (Kd.R_reads' HO1554.out).2.1); rintro e w117 ⟨v1561, rfl, ho0, hb⟩; refine ⟨_, rfl, ?_⟩; have HO1562 := lowR ho0 HB; replace HO1554 := upR HO1554 hb; replace HO1558 := upR HO1558 hb; replace HB := upB HB hb; (try clear hb); (try clear hb2); (try clear hk); (try clear hi); (try clear ho0)) | ((with_reducible refine gate_callee (f := 114) rfl ?_); refine goesA (some 325) Try.func114 #[.slice Ao115 t1552.length co115] ?_; (with_reducible refine (impl_IsExtended.calls kj42 _ _ t1552 t1563 t1564 _ ?side1 ?side2 A106.out).mono ?_); (case side1 => exact atRC HO1554); (case side2 => exact (Kd.R_reads' HO1554.out).2.1); rintro e w118 ⟨rfl, hb⟩; refine ⟨_, rfl, ?_⟩; replace HO1554 := upR HO1554 hb; replace HO1558 := upR HO1558 hb; replace HO1562 := upR HO1562 hb; replace HB := upB HB hb; (try clear hb); (try clear hb2); (try clear hk); (try clear hi)) | ((with_reducible refine gate_callee (f := 119) rfl ?_); refine goesA (some 330) Try.func119 #[.slice Ao115 t1552.length co115] ?_; (with_reducible refine (spec_IsExtended.calls kj42 _ _ t1552 t1565 t1566 _ ?side1 ?side2 A107.out).mono ?_); (case side1 => exact atRC HO1554); (case side2 => exact (Kd.R_reads' HO1554.out).2.1); rintro e w119 ⟨rfl, hb⟩; refine ⟨_, rfl, ?_⟩; replace HO1554 := upR HO1554 hb; replace HO1558 := upR HO1558 hb; replace HO1562 := upR HO1562 hb; replace HB := upB HB hb; (try clear hb); (try clear hb2); (try clear hk); (try clear hi)) | ((with_reducible refine gate_callee (f := 115) rfl ?_); refine goesA (some 335) Try.func115 #[.slice Ao115 t1552.length co115] ?_; (with_reducible refine (impl_HoleOf.calls kj42 _ _ t1552 t1567 t1568 _ ?side1 ?side2 A108.out).mono ?_); (case side1 => exact atRC HO1554); (case side2 => exact (Kd.R_reads' HO1554.out).2.1); rintro e w120 ⟨rfl, hb⟩; refine ⟨_, rfl, ?_⟩; replace HO1554 := upR HO1554 hb; replace HO1558 := upR HO1558 hb; replace HO1562 := upR HO1562 hb; replace HB := upB HB hb; (try clear hb); (try clear hb2); (try clear hk); (try clear hi)) | ((with_reducible refine gate_callee (f := 120) rfl ?_); refine goesA (some 340) Try.func120 #[.slice Ao115 t1552.length co115] ?_; (with_reducible refine (spec_HoleOf.calls kj42 _ _ t1552 t1569 t1570 _ ?side1 ?side2 A109.out).mono ?_); (case side1 => exact atRC HO1554); (case side2 => exact (Kd.R_reads' HO1554.out).2.1); rintro e w121 ⟨rfl, hb⟩; refine ⟨_, rfl, ?_⟩; replace HO1554 := upR HO1554 hb; replace HO1558 := upR HO1558 hb; replace HO1562 := upR HO1562 hb; replace HB := upB HB hb; (try clear hb); (try clear hb2); (try clear hk); (try clear hi)) | ((with_reducible refine gate_callee (f := 121) rfl ?_); refine goesA (some 345) Try.func121 #[.slice A1 l1.length c1] ?_; (with_reducible refine (spec_DrawIsExtendedThere.calls _ _ l1 t1571 t1572 _ ?side1 ?side2 A110.out).mono ?_); (case side1 => repeat (first | exact (Kd.C_below HR1.out HB.out) | (with_reducible refine Kd.C_alloc ?_ _) | (with_reducible refine Kd.C_drewN ?_ _) | (with_reducible refine Kd.C_drew ?_))); (case side2 => exact HC1.out); rintro e w122 ⟨rfl, hb⟩; refine ⟨_, rfl, ?_⟩; replace HO1554 := upR HO1554 hb; replace HO1558 := upR HO1558 hb; replace HO1562 := upR HO1562 hb; replace HB := upB HB hb; (try clear hb); (try clear hb2); (try clear hk); (try clear hi)) | ((with_reducible refine gate_callee (f := 113) rfl ?_); refine goesA (some 351) Try.func113 #[.int .i64 t1571, .int .i64 t1572] ?_; (with_reducible refine (impl_IsExtendedThere.calls t1571 t1572 t1573 t1574 _ A111.out).mono ?_); rintro e w' ⟨rfl, ⟨nd, rfl⟩⟩; refine ⟨_, rfl, ?_⟩) | ((with_reducible refine gate_callee (f := 122) rfl ?_); refine goesA (some 357) Try.func122 #[.int .i64 t1571, .int .i64 t1572] ?_; (with_reducible refine (spec_IsExtendedThere.calls t1571 t1572 t1575 t1576 _ A112.out).mono ?_); rintro e w' ⟨rfl, ⟨nd, rfl⟩⟩; refine ⟨_, rfl, ?_⟩))
       (try simp only [Act.put, List.setIfInBounds_toArray, List.set_cons_zero, List.set_cons_succ])
       go_cut [406] (fun v406 wc => ∃ (kq : Nat) (x406_112 : Bool), v406 = .bool x406_112 ∧ Aside0 (laws_FnHolesAnywhere.j6 kq t1552 t1555 t1556 x406_112 = some r) ∧ Aside0 (kq ≤ kj42) ∧ Aside0 (Kd.R (Kd.int .i64) 3 wc w.heap.size (fun _ => True) (.slice Ao115 t1552.length co115) t1552) ∧ Aside0 (Kd.R (Kd.int .i64) 3 wc w.heap.size (fun _ => True) v1557 t1555) ∧ Aside0 (Below w.heap.size w wc))
       case first => as_aux_lemma =>
        have H := HC113.out
        clear HC113
        by_cases c123 : (t1556 != t1560) = true
        ·rw [if_pos c123] at H
         have c123b0 : (t1556 != t1560) = true := c123
         (try (have c123b1 : decide (t1556 = t1560) = false := by simpa using c123))
         (try (have c123b2 : (t1556 == t1560) = false := by simpa using c123))
         (try (have c123b3 : ¬ (t1556 = t1560) := by simpa using c123))
         clear c123
         (first | rw [c123b0] | (simp only [i64_w, i32_w]; rw [c123b0]) | skip)
         exact absurd (H.trans (congrArg some HT.out)) (laws_FnHolesAnywhere.j6_no kj42 t1552 t1555 t1556)
        ·rw [if_neg c123] at H
         have c123b0 : (t1556 != t1560) = false := by simpa using c123
         (try (have c123b1 : decide (t1556 = t1560) = true := by simpa using c123))
         (try (have c123b2 : (t1556 == t1560) = true := by simpa using c123))
         clear c123
         (first | rw [c123b0] | (simp only [i64_w, i32_w]; rw [c123b0]) | skip)
         replace H := Option.bind_eq_some_iff.mp H
         obtain ⟨t1577, A1240, H⟩ := H
         (try dsimp only at H)
         have A124 := Aside0.mk A1240
         clear A1240
         by_cases c125 : t1577 = true
         ·subst c125
          rw [if_pos rfl] at H
          by_cases c126 : (t1564 != t1566) = true
          ·rw [if_pos c126] at H
           have c126b0 : (t1564 != t1566) = true := c126
           (try (have c126b1 : decide (t1564 = t1566) = false := by simpa using c126))
           (try (have c126b2 : (t1564 == t1566) = false := by simpa using c126))
           (try (have c126b3 : ¬ (t1564 = t1566) := by simpa using c126))
           clear c126
           exact absurd (H.trans (congrArg some HT.out)) (laws_FnHolesAnywhere.j6_no kj42 t1552 t1555 t1556)
          ·rw [if_neg c126] at H
           have c126b0 : (t1564 != t1566) = false := by simpa using c126
           (try (have c126b1 : decide (t1564 = t1566) = true := by simpa using c126))
           (try (have c126b2 : (t1564 == t1566) = true := by simpa using c126))
           clear c126
           by_cases c127 : (t1563 != t1565) = true
           ·rw [if_pos c127] at H
            have c127b0 : (t1563 != t1565) = true := c127
            (try (have c127b1 : decide (t1563 = t1565) = false := by simpa using c127))
            (try (have c127b2 : (t1563 == t1565) = false := by simpa using c127))
            (try (have c127b3 : ¬ (t1563 = t1565) := by simpa using c127))
            clear c127
            exact absurd (H.trans (congrArg some HT.out)) (laws_FnHolesAnywhere.j6_no kj42 t1552 t1555 t1556)
           ·rw [if_neg c127] at H
            have c127b0 : (t1563 != t1565) = false := by simpa using c127
            (try (have c127b1 : decide (t1563 = t1565) = true := by simpa using c127))
            (try (have c127b2 : (t1563 == t1565) = true := by simpa using c127))
            clear c127
            by_cases c128 : (t1568 != t1570) = true
            ·rw [if_pos c128] at H
             have c128b0 : (t1568 != t1570) = true := c128
             (try (have c128b1 : decide (t1568 = t1570) = false := by simpa using c128))
             (try (have c128b2 : (t1568 == t1570) = false := by simpa using c128))
             (try (have c128b3 : ¬ (t1568 = t1570) := by simpa using c128))
             clear c128
             exact absurd (H.trans (congrArg some HT.out)) (laws_FnHolesAnywhere.j6_no kj42 t1552 t1555 t1556)
            ·rw [if_neg c128] at H
             have c128b0 : (t1568 != t1570) = false := by simpa using c128
             (try (have c128b1 : decide (t1568 = t1570) = true := by simpa using c128))
             (try (have c128b2 : (t1568 == t1570) = true := by simpa using c128))
             clear c128
             by_cases c129 : t1567 = t1569
             ·rw [if_pos c129] at H
              have c129b0 : (t1567 == t1569) = true := beq_iff_eq.mpr c129
              have c129b1 : (t1567 != t1569) = false := bne_eq_false_iff_eq.mpr c129
              clear c129
              by_cases c130 : (t1574 != t1576) = true
              ·rw [if_pos c130] at H
               have c130b0 : (t1574 != t1576) = true := c130
               (try (have c130b1 : decide (t1574 = t1576) = false := by simpa using c130))
               (try (have c130b2 : (t1574 == t1576) = false := by simpa using c130))
               (try (have c130b3 : ¬ (t1574 = t1576) := by simpa using c130))
               clear c130
               exact absurd (H.trans (congrArg some HT.out)) (laws_FnHolesAnywhere.j6_no kj42 t1552 t1555 t1556)
              ·rw [if_neg c130] at H
               have c130b0 : (t1574 != t1576) = false := by simpa using c130
               (try (have c130b1 : decide (t1574 = t1576) = true := by simpa using c130))
               (try (have c130b2 : (t1574 == t1576) = true := by simpa using c130))
               clear c130
               by_cases c131 : (t1573 != t1575) = true
               ·rw [if_pos c131] at H
                have c131b0 : (t1573 != t1575) = true := c131
                (try (have c131b1 : decide (t1573 = t1575) = false := by simpa using c131))
                (try (have c131b2 : (t1573 == t1575) = false := by simpa using c131))
                (try (have c131b3 : ¬ (t1573 = t1575) := by simpa using c131))
                clear c131
                exact absurd (H.trans (congrArg some HT.out)) (laws_FnHolesAnywhere.j6_no kj42 t1552 t1555 t1556)
               ·rw [if_neg c131] at H
                have c131b0 : (t1573 != t1575) = false := by simpa using c131
                (try (have c131b1 : decide (t1573 = t1575) = true := by simpa using c131))
                (try (have c131b2 : (t1573 == t1575) = true := by simpa using c131))
                clear c131
                by_cases c132 : t1564 = true
                ·subst c132
                 rw [if_pos rfl] at H
                 have H' := Aside0.mk H
                 clear H
                 obtain ⟨Ao133, co133, eo133⟩ := Kd.R_slice HO1558.out
                 subst eo133
                 obtain ⟨Ao134, co134, eo134⟩ := Kd.R_slice HO1562.out
                 subst eo134
                 go_wp2_with (first | (go_at_call 20; (with_reducible refine (laws_jSame.calls kj42 _ _ t1555 _ _ t1559 true _ ?side1 ?side2 ?side3 ?side4 A124.out).mono ?_); (case side1 => exact atRC HO1558); (case side2 => exact (Kd.R_reads' HO1558.out).2.1); (case side3 => exact atRC HO1562); (case side4 => exact (Kd.R_reads' HO1562.out).2.1); rintro e w' ⟨rfl, ⟨nd, rfl⟩⟩))
                 go_meet
                 case rel => exact ⟨_, ((t1568 != t1563)), eqd, H', ⟨by have := HJ12.out; have := HJ42.out; first | omega | exact Nat.le_refl _⟩, ⟨atR HO1554⟩, ⟨atR HO1558⟩, ⟨atB HB⟩⟩
                ·replace c132 := Bool.eq_false_iff.mpr c132
                 subst c132
                 rw [if_neg (show ¬ (false = true) by decide)] at H
                 have H' := Aside0.mk H
                 clear H
                 obtain ⟨Ao135, co135, eo135⟩ := Kd.R_slice HO1558.out
                 subst eo135
                 obtain ⟨Ao136, co136, eo136⟩ := Kd.R_slice HO1562.out
                 subst eo136
                 go_wp2_with (first | (go_at_call 20; (with_reducible refine (laws_jSame.calls kj42 _ _ t1555 _ _ t1559 true _ ?side1 ?side2 ?side3 ?side4 A124.out).mono ?_); (case side1 => exact atRC HO1558); (case side2 => exact (Kd.R_reads' HO1558.out).2.1); (case side3 => exact atRC HO1562); (case side4 => exact (Kd.R_reads' HO1562.out).2.1); rintro e w' ⟨rfl, ⟨nd, rfl⟩⟩))
                 go_meet
                 case rel => exact ⟨_, ((t1568 != false)), eqd, H', ⟨by have := HJ12.out; have := HJ42.out; first | omega | exact Nat.le_refl _⟩, ⟨atR HO1554⟩, ⟨atR HO1558⟩, ⟨atB HB⟩⟩
             ·rw [if_neg c129] at H
              have c129b0 : (t1567 == t1569) = false := beq_eq_false_iff_ne.mpr c129
              have c129b1 : (t1567 != t1569) = true := bne_iff_ne.mpr c129
              exact absurd (H.trans (congrArg some HT.out)) (laws_FnHolesAnywhere.j6_no kj42 t1552 t1555 t1556)
         ·replace c125 := Bool.eq_false_iff.mpr c125
          subst c125
          rw [if_neg (show ¬ (false = true) by decide)] at H
          exact absurd (H.trans (congrArg some HT.out)) (laws_FnHolesAnywhere.j6_no kj42 t1552 t1555 t1556)
       case rest => as_aux_lemma =>
        clear HC113
        try clear c1
        try clear p1
        try clear q1
        try clear hx1
        try clear qi1
        try clear c2
        try clear p2
        try clear c3
        try clear c4
        try clear c5
        try clear c6
        try clear p6
        try clear c7
        try clear c8
        try clear c9
        try clear c10
        try clear c11
        try clear c12
        try clear p12
        try clear q12
        try clear hx12
        try clear qi12
        try clear c13
        try clear c21
        try clear c21b0
        try clear c21b1
        try clear c21b2
        try clear c23
        try clear c24
        try clear c24b0
        try clear c24b1
        try clear c24b2
        try clear c25
        try clear c25b0
        try clear c25b1
        try clear c26
        try clear c26b0
        try clear c26b1
        try clear c26b2
        try clear c28
        try clear c29
        try clear c29b0
        try clear c29b1
        try clear c29b2
        try clear c30
        try clear c31
        try clear c31b0
        try clear c31b1
        try clear c31b2
        try clear c32
        try clear c37
        try clear c37b0
        try clear c37b1
        try clear c37b2
        try clear c39
        try clear c42
        try clear c44
        try clear c48
        try clear c48b0
        try clear c48b1
        try clear c49
        try clear c49b0
        try clear c50
        try clear c50b0
        try clear c50b1
        try clear c52
        try clear c53
        try clear c56
        try clear c58
        try clear c60
        try clear c60b0
        try clear c61
        try clear c61b0
        try clear c62
        try clear c62b0
        try clear p64
        try clear c67
        try clear c68
        try clear c69
        try clear c70
        try clear c70b0
        try clear c70b1
        try clear c71
        try clear c72
        try clear c73
        try clear c73b0
        try clear c73b1
        try clear c74
        try clear c74b0
        try clear c76
        try clear c76b0
        try clear c77
        try clear c77b0
        try clear c79
        try clear c91
        try clear c91b0
        try clear c91b1
        try clear c93
        try clear c95
        try clear c96
        try clear c96b0
        try clear c96b1
        try clear c98
        try clear c98b0
        try clear c98b1
        try clear c100
        try clear c101
        try clear c101b0
        try clear c101b1
        try clear c113
        try clear c114
        try clear c115
        try clear c116
        try clear c117
        try clear c118
        try clear c119
        try clear c120
        try clear c121
        try clear c122
        try clear c123
        try clear c123b0
        try clear c123b1
        try clear c123b2
        try clear c125
        try clear c126
        try clear c126b0
        try clear c126b1
        try clear c126b2
        try clear c127
        try clear c127b0
        try clear c127b1
        try clear c127b2
        try clear c128
        try clear c128b0
        try clear c128b1
        try clear c128b2
        try clear p128
        try clear q128
        try clear hx128
        try clear c129
        try clear c129b0
        try clear c129b1
        try clear p129
        try clear q129
        try clear hx129
        try clear c130
        try clear c130b0
        try clear c130b1
        try clear c130b2
        try clear c131
        try clear c131b0
        try clear c131b1
        try clear c131b2
        try clear c132
        try clear hx1283_0
        try clear hx1285_0
        try clear hx1296_0
        try clear p1
        try clear p12
        try clear p1283
        try clear p1285
        try clear p1296
        try clear p2
        try clear p6
        try clear p64
        try clear q1
        try clear q12
        try clear q1283
        try clear q1285
        try clear q1296
        obtain ⟨kq, x406_112, rfl, HA, HJ112, HO_37, HO_38, HB⟩ := hcut
        cases kq with
        | zero => exact absurd HA.out (by simp [laws_FnHolesAnywhere.j6])
        | succ kj112 =>
         have H := HA.out
         clear HA
         simp only [laws_FnHolesAnywhere.j6] at H
         by_cases c137 : x406_112 = true
         ·subst c137
          rw [if_pos rfl] at H
          exact absurd ((Option.some.inj H).trans HT.out) (by decide)
         ·replace c137 := Bool.eq_false_iff.mpr c137
          subst c137
          rw [if_neg (show ¬ (false = true) by decide)] at H
          by_cases c138 : t1556 = true
          ·subst c138
           rw [if_pos rfl] at H
           replace H := Option.bind_eq_some_iff.mp H
           obtain ⟨⟨t1578, t1579⟩, A1390, H⟩ := H
           (try dsimp only at H)
           have A139 := Aside0.mk A1390
           clear A1390
           replace H := Option.bind_eq_some_iff.mp H
           obtain ⟨⟨t1580, t1581⟩, A1400, H⟩ := H
           (try dsimp only at H)
           have A140 := Aside0.mk A1400
           clear A1400
           by_cases c141 : t1579 = true
           ·subst c141
            rw [if_pos rfl] at H
            by_cases c142 : t1578 = true
            ·subst c142
             rw [if_pos rfl] at H
             by_cases c143 : t1581 = true
             ·subst c143
              rw [if_pos rfl] at H
              replace H := Option.bind_eq_some_iff.mp H
              obtain ⟨t1584, A1440, H⟩ := H
              (try dsimp only at H)
              have A144 := Aside0.mk A1440
              clear A1440
              obtain rfl := Option.some.inj H
              obtain ⟨Ao145, co145, eo145⟩ := Kd.R_slice HO_38.out
              subst eo145
              go_wp2_with (first | ((with_reducible refine gate_callee (f := 36) rfl ?_); refine goesA (some 410) Try.func36 #[.slice Ao145 t1555.length co145] ?_; (with_reducible refine (impl_IsSkolem.calls kj112 _ _ t1555 true true _ ?side1 ?side2 A139.out).mono ?_); (case side1 => exact atRC HO_38); (case side2 => exact (Kd.R_reads' HO_38.out).2.1); rintro e w146 ⟨rfl, hb⟩; refine ⟨_, rfl, ?_⟩; replace HO_37 := upR HO_37 hb; replace HO_38 := upR HO_38 hb; replace HB := upB HB hb; (try clear hb); (try clear hb2); (try clear hk); (try clear hi)) | ((with_reducible refine gate_callee (f := 123) rfl ?_); refine goesA (some 415) Try.func123 #[.slice Ao115 t1552.length co115] ?_; (with_reducible refine (impl_TrimRow.calls kj112 _ _ t1552 t1580 true _ ?side1 ?side2 A140.out).mono ?_); (case side1 => exact atRC HO_37); (case side2 => exact (Kd.R_reads' HO_37.out).2.1); rintro e w147 ⟨v1582, rfl, ho0, hb⟩; refine ⟨_, rfl, ?_⟩; have HO1583 := lowR ho0 HB; replace HO_37 := upR HO_37 hb; replace HO_38 := upR HO_38 hb; replace HB := upB HB hb; (try clear hb); (try clear hb2); (try clear hk); (try clear hi); (try clear ho0); obtain ⟨Ao148, co148, eo148⟩ := Kd.R_slice HO1583.out; subst eo148) | (go_at_call 20; (with_reducible refine (laws_jSame.calls kj112 _ _ t1580 _ _ t1555 t1584 _ ?side1 ?side2 ?side3 ?side4 A144.out).mono ?_); (case side1 => exact atRC HO1583); (case side2 => exact (Kd.R_reads' HO1583.out).2.1); (case side3 => exact atRC HO_38); (case side4 => exact (Kd.R_reads' HO_38.out).2.1); rintro e w' ⟨rfl, ⟨nd, rfl⟩⟩))
              go_ret
              exact ⟨eqr, atB HB⟩
             ·replace c143 := Bool.eq_false_iff.mpr c143
              subst c143
              rw [if_neg (show ¬ (false = true) by decide)] at H
              exact absurd ((Option.some.inj H).trans HT.out) (by decide)
            ·replace c142 := Bool.eq_false_iff.mpr c142
             subst c142
             rw [if_neg (show ¬ (false = true) by decide)] at H
             exact absurd ((Option.some.inj H).trans HT.out) (by decide)
           ·replace c141 := Bool.eq_false_iff.mpr c141
            subst c141
            rw [if_neg (show ¬ (false = true) by decide)] at H
            exact absurd ((Option.some.inj H).trans HT.out) (by decide)
          ·replace c138 := Bool.eq_false_iff.mpr c138
           subst c138
           rw [if_neg (show ¬ (false = true) by decide)] at H
           obtain rfl := Option.some.inj H
           go_wp2
           go_ret
           exact ⟨eqr, atB HB⟩

theorem laws_FnHolesAnywhere.walk (P : laws_FnHolesAnywhere.Pure) (a0 : Option Addr) (len0 cap0 : Nat) (z0 : List Int) (a1 : Option Addr) (len1 cap1 : Nat) (z1 : List Int) (w : World) (w0 : (a0 = none ∧ len0 = 0 ∧ cap0 = 0 ∧ z0 = []) ∨ ∃ x, a0 = some x ∧ len0 ≤ cap0 ∧ cap0 ≤ maxLen ∧ z0.length = cap0 ∧ (∀ i, i < z0.length → w.cell? (x.add i) = some (.int .u8 (z0.getD i 0))) ∧ ∀ n ∈ z0, (Lit.int .u8 n).wf = true) (y0 : len0 * 1 ≤ 140737488351232) (w1 : (a1 = none ∧ len1 = 0 ∧ cap1 = 0 ∧ z1 = []) ∨ ∃ x, a1 = some x ∧ len1 ≤ cap1 ∧ cap1 ≤ maxLen ∧ z1.length = cap1 ∧ (∀ i, i < z1.length → w.cell? (x.add i) = some (.int .u8 (z1.getD i 0))) ∧ ∀ n ∈ z1, (Lit.int .u8 n).wf = true) (y1 : len1 * 1 ≤ 140737488351232) :
  Calls Try.prog 8 #[.slice a0 len0 cap0, .slice a1 len1 cap1] w fun e w' => e = .returned (.bool true) ∧ Below w.heap.size w w' := by
 obtain ⟨l0, rfl, hr0, hm0, hw0, hc0⟩ := ReadsInt.ofRowC w0
 obtain ⟨l1, rfl, hr1, hm1, hw1, hc1⟩ := ReadsInt.ofRowC w1
 obtain ⟨k, h⟩ := P l0 l1 hm0 y0 hw0 hm1 y1 hw1
 refine (laws_FnHolesAnywhere.calls k _ _ l0 _ _ l1 true w (Kd.C_of_reads (d := (0 : Int)) (h1 := fun _ => rfl) hr0) hc0 (Kd.C_of_reads (d := (0 : Int)) (h1 := fun _ => rfl) hr1) hc1 rfl h).mono ?_
 rintro e w' ⟨rfl, hd⟩
 exact ⟨rfl, hd⟩

end Go.Proofs.Ytaohgllnoomaeaa.Fn
namespace Go.Proofs.Ytaohgllnoomaeaa.Fn
open Go.RowKit Go.Proofs.YtaohgllnoomaeaaW.PrintWords Go.Proofs.YtaohgllnoomaeaaW.PrintLast Go.Proofs.YtaohgllnoomaeaaW.PrintMore
set_option linter.unusedVariables false
set_option linter.unusedSimpArgs false
/-- A list of at most 40 numbers in 0..20. -/
def isRow (l : List Int) : Bool := decide (l.length ≤ 40) && l.all (fun x => decide (0 ≤ x) && decide (x ≤ 20))
theorem isRow_len {l : List Int} (h : isRow l = true) : l.length ≤ 40 := by
  unfold isRow at h
  simp only [Bool.and_eq_true, decide_eq_true_eq] at h
  exact h.1
theorem isRow_mem {l : List Int} (h : isRow l = true) {x : Int} (hx : x ∈ l) : 0 ≤ x ∧ x ≤ 20 := by
  unfold isRow at h
  simp only [Bool.and_eq_true, decide_eq_true_eq, List.all_eq_true] at h
  exact h.2 x hx
theorem slices_Clone_int_int.f_val (l : List Int) (h : l.length < 17592186044416) : slices_Clone_int_int.f l = some l := by
  unfold slices_Clone_int_int.f
  rw [if_pos h]
theorem spec_l1Own.f_val (l : List Int) (h : l.length < 17592186044416) : spec_l1Own.f l = some l := by
  unfold spec_l1Own.f
  simp [h]
theorem spec_l1In.f_val (a b c : Int) : spec_l1In.f a b c = some (decide (b ≤ a) && decide (a ≤ c)) := by
  unfold spec_l1In.f
  by_cases h : a ≥ b
  · rw [if_pos h]
    simp [show b ≤ a from h]
  · rw [if_neg h]
    simp [show ¬ b ≤ a from h]
theorem impl_IsRow.L0_val (l : List Int) : ∀ (suf pre : List Int), (pre ++ suf).length < 4611686018427387904 → impl_IsRow.L0 l (pre ++ suf) ((pre ++ suf).length : Int) (pre.length : Int) = some (suf.all (fun x => decide (0 ≤ x) && decide (x ≤ 20)) && decide (l.length ≤ 40))
  | [], pre, h => by
    rw [impl_IsRow.L0_eq, range_end]
    simp
    omega
  | x :: suf, pre, h => by
    rw [impl_IsRow.L0_eq, range_step, rd_mid, wrap_mid h]
    by_cases h1 : x < 0
    · have : ¬ 0 ≤ x := by omega
      rw [if_pos h1]
      simp [this]
    · have h1' : 0 ≤ x := by omega
      rw [if_neg h1]
      by_cases h2 : x > 20
      · have : ¬ x ≤ 20 := by omega
        rw [if_pos h2]
        simp [this]
      · have h2' : x ≤ 20 := by omega
        rw [if_neg h2, app_mid, impl_IsRow.L0_val l suf (pre ++ [x]) (by simpa using h)]
        simp [h1', h2']
theorem impl_IsRow.F_val (l : List Int) (h : l.length < 4611686018427387904) : impl_IsRow.F l = some (isRow l) := by
  rw [impl_IsRow.F_eq]
  have := impl_IsRow.L0_val l l [] (by simpa using h)
  simp only [List.nil_append, List.length_nil] at this
  rw [isRow, Bool.and_comm]
  exact this
theorem spec_l1All.L0_val (a b : Int) : ∀ (suf pre : List Int), (pre ++ suf).length < 4611686018427387904 → spec_l1All.L0 a b (pre ++ suf) ((pre ++ suf).length : Int) (pre.length : Int) = some (suf.all (fun x => decide (a ≤ x) && decide (x ≤ b)))
  | [], pre, h => by
    rw [spec_l1All.L0_eq, range_end]
    simp
  | x :: suf, pre, h => by
    rw [spec_l1All.L0_eq, range_step, rd_mid, wrap_mid h, spec_l1In.f_val]
    simp only [Option.bind_some]
    by_cases h1 : (decide (a ≤ x) && decide (x ≤ b)) = true
    · rw [if_pos h1, app_mid, spec_l1All.L0_val a b suf (pre ++ [x]) (by simpa using h)]
      simp only [List.all_cons, h1, Bool.true_and]
    · rw [if_neg h1]
      simp only [List.all_cons, Bool.not_eq_true] at h1 ⊢
      rw [h1, Bool.false_and]
theorem spec_l1All.F_val (l : List Int) (a b : Int) (h : l.length < 4611686018427387904) : spec_l1All.F l a b = some (l.all (fun x => decide (a ≤ x) && decide (x ≤ b))) := by
  rw [spec_l1All.F_eq]
  have := spec_l1All.L0_val a b l [] (by simpa using h)
  simpa using this
theorem spec_roGood.F_val (l : List Int) (h : l.length < 4611686018427387904) : spec_roGood.F l = some (isRow l) := by
  rw [spec_roGood.F_eq]
  unfold isRow
  by_cases h1 : (l.length : Int) ≤ 40
  · rw [if_pos h1, spec_l1All.F_val l 0 20 h]
    have : l.length ≤ 40 := by omega
    simp [this]
  · rw [if_neg h1]
    have : ¬ l.length ≤ 40 := by omega
    simp [this]
/-- From the place i on: where the holes at the end begin. -/
def backTo (l : List Int) (i : Nat) : Nat → Nat
  | 0 => 0
  | j + 1 => if i < j + 1 ∧ rd l j = 0 then backTo l i j else j + 1
theorem backTo_le (l : List Int) (i : Nat) : ∀ j, backTo l i j ≤ j
  | 0 => Nat.le_refl _
  | j + 1 => by
    unfold backTo
    split
    · exact Nat.le_succ_of_le (backTo_le l i j)
    · exact Nat.le_refl _
theorem le_backTo (l : List Int) (i : Nat) : ∀ j, i ≤ j → i ≤ backTo l i j
  | 0, h => by simpa [backTo] using h
  | j + 1, h => by
    unfold backTo
    split
    · rename_i h1
      exact le_backTo l i j (by omega)
    · exact h
/-- Where the holes at the beginning end; n places are left to look at. -/
def frontTo (l : List Int) : Nat → Nat → Nat
  | i, 0 => i
  | i, n + 1 => if rd l i = 0 then frontTo l (i + 1) n else i
theorem frontTo_le (l : List Int) : ∀ n i, frontTo l i n ≤ i + n
  | 0, i => Nat.le_refl _
  | n + 1, i => by
    unfold frontTo
    split
    · have := frontTo_le l n (i + 1)
      omega
    · omega
/-- A row without the holes at its beginning and at its end. -/
def trimmed (l : List Int) : List Int := (l.take (backTo l (frontTo l 0 l.length) l.length)).drop (frontTo l 0 l.length)
def trimRow (l : List Int) : List Int × Bool := if isRow l = true then (trimmed l, true) else ([], false)
theorem trimRow_len (l : List Int) (h : l.length ≤ 4611686018427387904) : (trimRow l).1.length ≤ l.length := by
  unfold trimRow trimmed
  split
  · simp only [List.length_drop, List.length_take]
    omega
  · simp
theorem impl_TrimRow.L1_val (l : List Int) (hl : l.length ≤ 40) (i : Nat) : ∀ j, i ≤ j → j ≤ l.length → impl_TrimRow.L1 l (i : Int) (j : Int) = some ((l.take (backTo l i j)).drop i, true)
  | 0, h, hj => by
    obtain rfl : i = 0 := by omega
    rw [impl_TrimRow.L1_eq, if_neg (by omega), if_pos (by omega), if_pos (by omega), if_pos (by omega), slices_Clone_int_int.f_val _ (by simp)]
    simp [backTo]
  | j + 1, h, hj => by
    have e : wrap64 (((j + 1 : Nat) : Int) - 1) = (j : Int) := by rw [wrap_in (by omega) (by omega)]; omega
    rw [impl_TrimRow.L1_eq]
    by_cases h1 : i < j + 1
    · rw [if_pos (by omega), e, if_pos (by omega), if_pos (by omega)]
      by_cases h2 : rd l j = 0
      · rw [if_pos h2, impl_TrimRow.L1_val l hl i j (by omega) (by omega)]
        simp [backTo, h1, h2]
      · rw [if_neg h2, if_pos (by omega), if_pos (by omega), if_pos (by omega), slices_Clone_int_int.f_val _ (by simp; omega)]
        (simp [backTo, h2] <;> omega)
    · rw [if_neg (by omega), if_pos (by omega), if_pos (by omega), if_pos (by omega), slices_Clone_int_int.f_val _ (by simp; omega)]
      (simp [backTo, h1] <;> omega)
theorem impl_TrimRow.L0_val (l : List Int) (hl : l.length ≤ 40) : ∀ n i, i + n = l.length → impl_TrimRow.L0 l (i : Int) (l.length : Int) = some ((l.take (backTo l (frontTo l i n) l.length)).drop (frontTo l i n), true)
  | 0, i, h => by
    rw [impl_TrimRow.L0_eq, if_neg (by omega), impl_TrimRow.J1_eq, impl_TrimRow.L1_val l hl i l.length (by omega) (by omega)]
    simp [frontTo]
  | n + 1, i, h => by
    have e : wrap64 ((i : Int) + 1) = ((i + 1 : Nat) : Int) := by rw [wrap_in (by omega) (by omega)]; omega
    rw [impl_TrimRow.L0_eq, if_pos (by omega), if_pos (by omega), if_pos (by omega)]
    by_cases h2 : rd l i = 0
    · rw [if_pos h2, e, impl_TrimRow.L0_val l hl n (i + 1) (by omega)]
      simp [frontTo, h2]
    · rw [if_neg h2, impl_TrimRow.J1_eq, impl_TrimRow.L1_val l hl i l.length (by omega) (by omega)]
      simp [frontTo, h2]
theorem impl_TrimRow.F_val (l : List Int) (h : l.length < 4611686018427387904) : impl_TrimRow.F l = some (trimRow l) := by
  rw [impl_TrimRow.F_eq, impl_IsRow.F_val l h]
  simp only [Option.bind_some]
  unfold trimRow
  split
  · rename_i h1
    exact impl_TrimRow.L0_val l (isRow_len h1) l.length 0 (by omega)
  · rfl
end Go.Proofs.Ytaohgllnoomaeaa.Fn
namespace Go.Proofs.Ytaohgllnoomaeaa.Fn
open Go.RowKit Go.Proofs.YtaohgllnoomaeaaW.PrintWords Go.Proofs.YtaohgllnoomaeaaW.PrintLast Go.Proofs.YtaohgllnoomaeaaW.PrintMore
set_option linter.unusedVariables false
set_option linter.unusedSimpArgs false
theorem placesFrom_count (n : Int) : ∀ (l : List Int) (i : Nat), (placesFrom n i l).length = l.count n
  | [], i => by simp [placesFrom]
  | x :: l, i => by
    have ih := placesFrom_count n l (i + 1)
    by_cases h : x = n
    · subst h
      simp [placesFrom, ih]
    · simp [placesFrom, h, ih]
theorem placesOf_count (l : List Int) (n : Int) : (placesOf l n).length = l.count n := placesFrom_count n l 0
theorem pairsOk_eq (l : List Int) : pairsOk l = (List.range' 1 20).all fun k => (placesOf l (k : Nat)).length == 0 || (placesOf l (k : Nat)).length == 2 := by
  unfold pairsOk
  rw [show List.range 21 = 0 :: List.range' 1 20 from rfl, List.all_cons]
  simp only [atOf, if_true, List.length_nil, beq_self_eq_true, Bool.true_or, Bool.true_and]
  rw [Bool.eq_iff_iff, List.all_eq_true, List.all_eq_true]
  have hk : ∀ k, k ∈ List.range' 1 20 → ¬ k = 0 := fun k hk => by have := List.mem_range'_1.1 hk; omega
  exact ⟨fun H k h => by have := H k h; rw [if_neg (hk k h)] at this; exact this, fun H k h => by rw [if_neg (hk k h)]; exact H k h⟩
theorem pairsOk_count {l : List Int} (h : pairsOk l = true) (k : Nat) (h1 : 1 ≤ k) (h2 : k ≤ 20) : l.count (k : Int) = 0 ∨ l.count (k : Int) = 2 := by
  rw [pairsOk_eq, List.all_eq_true] at h
  have := h k (List.mem_range'_1.2 (by omega))
  rw [placesOf_count] at this
  simpa using this
/-- The numbers of a row, from n on, m of them looked at. -/
def numbersFrom (l : List Int) (n m : Nat) : List Int := ((List.range' n m).filter (fun k : Nat => decide ((k : Int) ∈ l))).map (fun k : Nat => (k : Int))
def numbersOf (l : List Int) : List Int := numbersFrom l 1 20
theorem numbersFrom_length (l : List Int) (n m : Nat) : (numbersFrom l n m).length ≤ m := by
  unfold numbersFrom
  have := List.length_filter_le (fun k : Nat => decide ((k : Int) ∈ l)) (List.range' n m)
  simp at this ⊢
  exact this
theorem mem_numbersOf (l : List Int) (v : Int) : v ∈ numbersOf l ↔ v ∈ l ∧ 1 ≤ v ∧ v ≤ 20 := by
  simp only [numbersOf, numbersFrom, List.mem_map, List.mem_filter, List.mem_range'_1, decide_eq_true_eq]
  constructor
  · rintro ⟨k, ⟨hi, hk⟩, rfl⟩
    exact ⟨hk, by omega, by omega⟩
  · rintro ⟨h, h1, h2⟩
    refine ⟨v.toNat, ⟨by omega, ?_⟩, by omega⟩
    rwa [Int.toNat_of_nonneg (by omega)]
theorem fitsAt_eq (l : List Int) (s : Int) (h : pairsOk l = true) : fitsAt l s = (numbersOf l).all fun v => wrap64 (rd (placesOf l v) 1 - rd (placesOf l v) 0) == wrap64 (v + s) := by
  unfold fitsAt
  rw [Bool.eq_iff_iff, List.all_eq_true, List.all_eq_true]
  constructor
  · intro H v hv
    obtain ⟨h1, h2, h3⟩ := (mem_numbersOf l v).1 hv
    obtain ⟨k, rfl⟩ : ∃ k : Nat, v = (k : Int) := ⟨v.toNat, by omega⟩
    have hk := H k (by simp; omega)
    have hz : ¬ k = 0 := by omega
    rw [atOf, if_neg hz, placesOf_count] at hk
    have h5 : 0 < l.count (k : Int) := List.count_pos_iff.2 h1
    rcases pairsOk_count h k (by omega) (by omega) with h4 | h4
    · omega
    · rw [h4] at hk
      simpa using hk
  · intro H k hk
    by_cases hz : k = 0
    · subst hz
      rfl
    · rw [atOf, if_neg hz, placesOf_count]
      by_cases h4 : l.count (k : Int) = 2
      · have h5 : (k : Int) ∈ l := List.count_pos_iff.1 (by omega)
        have := H k ((mem_numbersOf l k).2 ⟨h5, by omega, by simp at hk; omega⟩)
        rw [h4]
        simpa using this
      · rw [beq_false_of_ne h4]
        rfl
/-- A row in which each number stands twice or not at all. -/
def isPairs (l : List Int) : Bool := isRow l && pairsOk l
theorem isPairs_row {l : List Int} (h : isPairs l = true) : isRow l = true := by
  unfold isPairs at h
  exact (Bool.and_eq_true_iff.1 h).1
theorem isPairs_ok {l : List Int} (h : isPairs l = true) : pairsOk l = true := by
  unfold isPairs at h
  exact (Bool.and_eq_true_iff.1 h).2
theorem spec_roPlaces.L0_val (n : Int) : ∀ (suf pre acc : List Int), (pre ++ suf).length < 4611686018427387904 → acc.length + suf.length < 17592186044416 → spec_roPlaces.L0 n acc (pre ++ suf) ((pre ++ suf).length : Int) (pre.length : Int) = some (acc ++ placesFrom n pre.length suf)
  | [], pre, acc, h, ha => by
    rw [spec_roPlaces.L0_eq, range_end]
    simp [placesFrom]
  | x :: suf, pre, acc, h, ha => by
    have ha' : acc.length + (suf.length + 1) < 17592186044416 := by simpa using ha
    have e : (pre ++ [x]).length = pre.length + 1 := by simp
    rw [spec_roPlaces.L0_eq, range_step, rd_mid, wrap_mid h, app_mid pre x suf]
    by_cases h1 : x = n
    · rw [if_pos h1, if_pos (by omega), spec_roPlaces.L0_val n suf (pre ++ [x]) _ (by simpa using h) (by simp; omega), e]
      simp [placesFrom, h1]
    · rw [if_neg h1, spec_roPlaces.L0_val n suf (pre ++ [x]) _ (by simpa using h) (by omega), e]
      simp [placesFrom, h1]
theorem spec_roPlaces.F_val (l : List Int) (n : Int) (h : l.length < 17592186044416) : spec_roPlaces.F l n = some (placesOf l n) := by
  rw [spec_roPlaces.F_eq]
  have := spec_roPlaces.L0_val n l [] [] (by simp; omega) (by simpa using h)
  simpa [placesOf] using this
theorem spec_roPairs.L0_val (l : List Int) (hl : l.length < 17592186044416) : ∀ (m n : Nat), n + m = 21 → spec_roPairs.L0 l (n : Int) = some ((List.range' n m).all fun k => (placesOf l (k : Nat)).length == 0 || (placesOf l (k : Nat)).length == 2)
  | 0, n, h => by
    rw [spec_roPairs.L0_eq, if_neg (by omega)]
    rfl
  | m + 1, n, h => by
    have e : wrap64 ((n : Int) + 1) = ((n + 1 : Nat) : Int) := by rw [wrap_in (by omega) (by omega)]; omega
    rw [spec_roPairs.L0_eq, if_pos (by omega), spec_roPlaces.F_val l n hl]
    simp only [Option.bind_some]
    rw [e, spec_roPairs.L0_val l hl m (n + 1) (by omega), List.range'_succ, List.all_cons]
    by_cases h0 : (placesOf l n).length = 0
    · rw [if_pos (by omega), beq_iff_eq.2 h0]
      rfl
    · rw [if_neg (by omega), beq_false_of_ne h0]
      by_cases h2 : (placesOf l n).length = 2
      · rw [if_pos (by omega), beq_iff_eq.2 h2]
        rfl
      · rw [if_neg (by omega), beq_false_of_ne h2]
        rfl
theorem spec_roPairs.F_val (l : List Int) (hl : l.length < 17592186044416) : spec_roPairs.F l = some (pairsOk l) := by
  rw [spec_roPairs.F_eq, pairsOk_eq]
  exact spec_roPairs.L0_val l hl 20 1 (by omega)
theorem spec_roIs.F_val (l : List Int) (h : l.length < 17592186044416) : spec_roIs.F l = some (isPairs l) := by
  rw [spec_roIs.F_eq, spec_roGood.F_val l (by omega)]
  simp only [Option.bind_some]
  unfold isPairs
  by_cases h1 : isRow l = true
  · rw [if_pos h1, spec_roPairs.F_val l h, h1]
    rfl
  · rw [if_neg h1, Bool.eq_false_iff.2 h1]
    rfl
theorem impl_isPairs.F_val (l : List Int) (h : l.length < 4611686018427387904) : impl_isPairs.F l = some (isPairs l) := by
  rw [impl_isPairs.F_eq, impl_IsRow.F_val l h]
  simp only [Option.bind_some]
  unfold isPairs
  by_cases h1 : isRow l = true
  · rw [if_pos h1, h1]
    rfl
  · rw [if_neg h1, Bool.eq_false_iff.2 h1]
    rfl
theorem impl_fits.F_val (l : List Int) (s : Int) (h : l.length < 4611686018427387904) : impl_fits.F l s = some (isPairs l && fitsAt l s) := by
  rw [impl_fits.F_eq, impl_isPairs.F_val l h]
  simp only [Option.bind_some]
  by_cases h1 : isPairs l = true
  · rw [if_pos h1, h1]
    rfl
  · rw [if_neg h1, Bool.eq_false_iff.2 h1]
    rfl
theorem spec_l1Has.L0_val (n : Int) : ∀ (suf pre : List Int), (pre ++ suf).length < 4611686018427387904 → spec_l1Has.L0 n (pre ++ suf) ((pre ++ suf).length : Int) (pre.length : Int) = some (decide (n ∈ suf))
  | [], pre, h => by
    rw [spec_l1Has.L0_eq, range_end]
    simp
  | x :: suf, pre, h => by
    rw [spec_l1Has.L0_eq, range_step, rd_mid, wrap_mid h, app_mid pre x suf, spec_l1Has.L0_val n suf (pre ++ [x]) (by simpa using h)]
    by_cases h1 : x = n
    · rw [if_pos h1]
      simp [h1]
    · rw [if_neg h1]
      have : ¬ n = x := fun h => h1 h.symm
      simp [this]
theorem spec_l1Has.F_val (l : List Int) (n : Int) (h : l.length < 4611686018427387904) : spec_l1Has.F l n = some (decide (n ∈ l)) := by
  rw [spec_l1Has.F_eq]
  have := spec_l1Has.L0_val n l [] (by simpa using h)
  simpa using this
/-- The first place of a number, the first one counted as i; -1 where it does not stand. -/
def indexFrom (n : Int) : Nat → List Int → Int
  | _, [] => -1
  | i, x :: l => if n = x then (i : Int) else indexFrom n (i + 1) l
theorem indexFrom_mem (n : Int) : ∀ (l : List Int) (i : Nat), 0 ≤ indexFrom n i l ↔ n ∈ l
  | [], i => by simp [indexFrom]
  | x :: l, i => by
    have ih := indexFrom_mem n l (i + 1)
    by_cases h : n = x
    · simp [indexFrom, h]
    · simp [indexFrom, h, ih]
theorem slices_Index_int_int.L0_val (n : Int) : ∀ (suf pre : List Int), (pre ++ suf).length < 4611686018427387904 → slices_Index_int_int.L0 (pre ++ suf) n ((pre ++ suf).length : Int) (pre.length : Int) = some (indexFrom n pre.length suf)
  | [], pre, h => by
    rw [slices_Index_int_int.L0_eq, range_end]
    rfl
  | x :: suf, pre, h => by
    have e : (pre ++ [x]).length = pre.length + 1 := by simp
    rw [slices_Index_int_int.L0_eq, range_step, rd_mid, wrap_mid h, app_mid pre x suf, slices_Index_int_int.L0_val n suf (pre ++ [x]) (by simpa using h), e, indexFrom]
    split <;> rfl
theorem slices_Index_int_int.F_val (l : List Int) (n : Int) (h : l.length < 4611686018427387904) : slices_Index_int_int.F l n = some (indexFrom n 0 l) := by
  rw [slices_Index_int_int.F_eq]
  have := slices_Index_int_int.L0_val n l [] (by simpa using h)
  simpa using this
theorem slices_Contains_int_int.F_val (l : List Int) (n : Int) (h : l.length < 4611686018427387904) : slices_Contains_int_int.F l n = some (decide (n ∈ l)) := by
  rw [slices_Contains_int_int.F_eq, slices_Index_int_int.F_val l n h]
  simp only [Option.bind_some]
  have := indexFrom_mem n l 0
  congr 1
  rw [decide_eq_decide]
  exact this
theorem spec_roNumbers.L0_val (l : List Int) (hl : l.length < 4611686018427387904) : ∀ (m n : Nat) (acc : List Int), n + m = 21 → acc.length + m < 100 → spec_roNumbers.L0 l acc (n : Int) = some (acc ++ numbersFrom l n m)
  | 0, n, acc, h, ha => by
    rw [spec_roNumbers.L0_eq, if_neg (by omega)]
    simp [numbersFrom]
  | m + 1, n, acc, h, ha => by
    have e : wrap64 ((n : Int) + 1) = ((n + 1 : Nat) : Int) := by rw [wrap_in (by omega) (by omega)]; omega
    rw [spec_roNumbers.L0_eq, if_pos (by omega), spec_l1Has.F_val l n hl]
    simp only [Option.bind_some]
    by_cases h1 : (n : Int) ∈ l
    · rw [if_pos (by simpa using h1), if_pos (by omega), e, spec_roNumbers.L0_val l hl m (n + 1) _ (by omega) (by simp; omega)]
      simp [numbersFrom, List.range'_succ, h1]
    · rw [if_neg (by simpa using h1), e, spec_roNumbers.L0_val l hl m (n + 1) _ (by omega) (by omega)]
      simp [numbersFrom, List.range'_succ, h1]
theorem spec_roNumbers.F_val (l : List Int) (hl : l.length < 4611686018427387904) : spec_roNumbers.F l = some (numbersOf l) := by
  rw [spec_roNumbers.F_eq]
  exact spec_roNumbers.L0_val l hl 20 1 [] (by omega) (by simp)
theorem impl_numbers.L0_val (l : List Int) (hl : l.length < 4611686018427387904) : ∀ (m n : Nat) (acc : List Int), n + m = 21 → acc.length + m < 100 → impl_numbers.L0 l acc (n : Int) = some (acc ++ numbersFrom l n m)
  | 0, n, acc, h, ha => by
    rw [impl_numbers.L0_eq, if_neg (by omega)]
    simp [numbersFrom]
  | m + 1, n, acc, h, ha => by
    have e : wrap64 ((n : Int) + 1) = ((n + 1 : Nat) : Int) := by rw [wrap_in (by omega) (by omega)]; omega
    rw [impl_numbers.L0_eq, if_pos (by omega), slices_Contains_int_int.F_val l n hl]
    simp only [Option.bind_some]
    by_cases h1 : (n : Int) ∈ l
    · rw [if_pos (by simpa using h1), if_pos (by omega), e, impl_numbers.L0_val l hl m (n + 1) _ (by omega) (by simp; omega)]
      simp [numbersFrom, List.range'_succ, h1]
    · rw [if_neg (by simpa using h1), e, impl_numbers.L0_val l hl m (n + 1) _ (by omega) (by omega)]
      simp [numbersFrom, List.range'_succ, h1]
theorem impl_numbers.F_val (l : List Int) (hl : l.length < 4611686018427387904) : impl_numbers.F l = some (numbersOf l) := by
  rw [impl_numbers.F_eq]
  exact impl_numbers.L0_val l hl 20 1 [] (by omega) (by simp)
theorem spec_roFits.L0_val (l : List Int) (s : Int) (hl : l.length < 17592186044416) : ∀ (suf pre : List Int), (pre ++ suf).length < 4611686018427387904 → (∀ v ∈ suf, (placesOf l v).length = 2) → spec_roFits.L0 l s (pre ++ suf) ((pre ++ suf).length : Int) (pre.length : Int) = some (suf.all fun v => wrap64 (rd (placesOf l v) 1 - rd (placesOf l v) 0) == wrap64 (v + s))
  | [], pre, h, hv => by
    rw [spec_roFits.L0_eq, range_end]
    simp
  | x :: suf, pre, h, hv => by
    have h2 := hv x (by simp)
    rw [spec_roFits.L0_eq, range_step, rd_mid, wrap_mid h, app_mid pre x suf, spec_roPlaces.F_val l x hl]
    simp only [Option.bind_some]
    rw [if_pos (by omega), if_pos (by omega), spec_roFits.L0_val l s hl suf (pre ++ [x]) (by simpa using h) (fun v h => hv v (by simp [h])), List.all_cons]
    by_cases h1 : wrap64 (rd (placesOf l x) 1 - rd (placesOf l x) 0) = wrap64 (x + s)
    · rw [if_pos h1, beq_iff_eq.2 h1]
      rfl
    · rw [if_neg h1, beq_false_of_ne h1]
      rfl
theorem numbersOf_two {l : List Int} (h : pairsOk l = true) {v : Int} (hv : v ∈ numbersOf l) : (placesOf l v).length = 2 := by
  obtain ⟨h1, h2, h3⟩ := (mem_numbersOf l v).1 hv
  obtain ⟨k, rfl⟩ : ∃ k : Nat, v = (k : Int) := ⟨v.toNat, by omega⟩
  have h5 : 0 < l.count (k : Int) := List.count_pos_iff.2 h1
  rw [placesOf_count]
  rcases pairsOk_count h k (by omega) (by omega) with h4 | h4 <;> omega
theorem spec_roFits.F_val (l : List Int) (s : Int) (hl : l.length < 17592186044416) (h : pairsOk l = true) : spec_roFits.F l s = some (fitsAt l s) := by
  rw [spec_roFits.F_eq, spec_roNumbers.F_val l (by omega)]
  simp only [Option.bind_some]
  rw [fitsAt_eq l s h]
  have hn := numbersFrom_length l 1 20
  have := spec_roFits.L0_val l s hl (numbersOf l) [] (by simp only [List.nil_append, numbersOf]; omega) (fun v hv => numbersOf_two h hv)
  simpa using this
end Go.Proofs.Ytaohgllnoomaeaa.Fn
namespace Go.Proofs.Ytaohgllnoomaeaa.Fn
open Go.RowKit Go.Proofs.YtaohgllnoomaeaaW.PrintWords Go.Proofs.YtaohgllnoomaeaaW.PrintLast Go.Proofs.YtaohgllnoomaeaaW.PrintMore
set_option linter.unusedVariables false
set_option linter.unusedSimpArgs false
/-- Each number m of a list is as great as its place and k together. -/
def fromOf (k : Int) : Nat → List Int → Bool
  | _, [] => true
  | i, x :: l => decide (x = k + (i : Int)) && fromOf k (i + 1) l
/-- The first hole's place; -1 where there is none. -/
def holeFrom : Nat → List Int → Int
  | _, [] => -1
  | i, x :: l => if x = 0 then (i : Int) else holeFrom (i + 1) l
theorem holeFrom_places : ∀ (l : List Int) (i : Nat), 0 < (placesFrom 0 i l).length → holeFrom i l = rd (placesFrom 0 i l) 0
  | [], i, h => by simp [placesFrom] at h
  | x :: l, i, h => by
    by_cases hx : x = 0
    · simp [placesFrom, holeFrom, hx, rd]
    · simp only [placesFrom, holeFrom, hx, if_false] at h ⊢
      exact holeFrom_places l (i + 1) h
/-- The row's order, if its numbers are those from 1 on. -/
def orderOf (l : List Int) : Int := if fromOf 1 0 (numbersOf l) = true then ((numbersOf l).length : Int) else 0
/-- A row with one hole whose pairs fit. -/
def oneHole (l : List Int) : Bool := isPairs l && fitsAt l 0 && decide ((placesOf l 0).length = 1)
def extendedOf (l : List Int) : Int × Int := if oneHole l = true then (orderOf l, rd (placesOf l 0) 0) else (0, 0)
theorem fromOf_mem (k : Int) : ∀ (l : List Int) (i : Nat) (x : Int), fromOf k i l = true → x ∈ l → x < k + (i : Int) + l.length
  | [], i, x, h, hx => by cases hx
  | y :: l, i, x, h, hx => by
    simp only [fromOf, Bool.and_eq_true, decide_eq_true_eq] at h
    rcases List.mem_cons.1 hx with rfl | hx
    · rw [List.length_cons]
      omega
    · have := fromOf_mem k l (i + 1) x h.2 hx
      rw [List.length_cons]
      omega
/-- Numbers that grow, from k + i on, and none of them behind the last place: each is as great as its place. -/
theorem fromOf_of (k : Int) : ∀ (l : List Int) (i : Nat), (l.Pairwise (· < ·)) → (∀ x ∈ l, k + (i : Int) ≤ x ∧ x < k + (i : Int) + l.length) → fromOf k i l = true
  | [], i, hp, hx => rfl
  | y :: l, i, hp, hx => by
    obtain ⟨h1, h2⟩ := List.pairwise_cons.1 hp
    have hy := hx y (by simp)
    have hall : ∀ x ∈ l, k + ((i + 1 : Nat) : Int) ≤ x ∧ x < k + ((i + 1 : Nat) : Int) + l.length := fun x hxl => by
      have a := h1 x hxl
      have b := hx x (by simp [hxl])
      rw [List.length_cons] at b
      omega
    have hrec := fromOf_of k l (i + 1) h2 hall
    simp only [fromOf, hrec, Bool.and_true, decide_eq_true_eq]
    -- the first one: were it greater, the others had no room
    have room : ∀ (l : List Int) (b : Int), l.Pairwise (· < ·) → (∀ x ∈ l, b < x) → ∀ x ∈ l, ∀ c, (∀ x ∈ l, x < c) → b + l.length < c := by
      intro l
      induction l with
      | nil => intro b _ _ x hx; cases hx
      | cons z t ih =>
        intro b hp hb x _ c hc
        obtain ⟨g1, g2⟩ := List.pairwise_cons.1 hp
        have hz := hb z (by simp)
        cases t with
        | nil => have := hc z (by simp); simp; omega
        | cons u v =>
          have := ih z g2 g1 u (by simp) c (fun x hx => hc x (by simp [hx]))
          simp at this ⊢
          omega
    cases l with
    | nil => simp at hy; omega
    | cons u v =>
      have := room (u :: v) y h2 h1 u (by simp) (k + (i : Int) + ((y :: u :: v).length : Nat)) (fun x hxl => (hx x (by simp [hxl])).2)
      simp at this
      omega
theorem numbersOf_sorted (l : List Int) : (numbersOf l).Pairwise (· < ·) := by
  unfold numbersOf numbersFrom
  rw [List.pairwise_map]
  exact (List.Pairwise.filter _ (List.pairwise_lt_range' (s := 1) (n := 20))).imp (fun h => by omega)
theorem numbersFrom_count (l : List Int) : ∀ (m n : Nat), (∀ k, n ≤ k → k < n + m → l.count (k : Int) = 0 ∨ l.count (k : Int) = 2) → ((List.range' n m).map fun k : Nat => l.count (k : Int)).sum = 2 * (numbersFrom l n m).length
  | 0, n, h => rfl
  | m + 1, n, h => by
    have ih := numbersFrom_count l m (n + 1) (fun k h1 h2 => h k (by omega) (by omega))
    rw [List.range'_succ, List.map_cons, List.sum_cons, ih]
    have e : numbersFrom l n (m + 1) = (if (n : Int) ∈ l then [(n : Int)] else []) ++ numbersFrom l (n + 1) m := by
      unfold numbersFrom
      rw [List.range'_succ]
      by_cases hn : (n : Int) ∈ l <;> simp [hn]
    rw [e, List.length_append]
    by_cases hn : (n : Int) ∈ l
    · have h5 : 0 < l.count (n : Int) := List.count_pos_iff.2 hn
      rcases h n (by omega) (by omega) with h4 | h4
      · omega
      · rw [if_pos hn, h4]
        simp
        omega
    · have h5 : l.count (n : Int) = 0 := List.count_eq_zero.2 hn
      rw [if_neg hn, h5]
      simp
theorem count_sum : ∀ (l : List Int) (m n : Nat), (∀ x ∈ l, (n : Int) ≤ x ∧ x < (n : Int) + m) → ((List.range' n m).map fun k : Nat => l.count (k : Int)).sum = l.length
  | [], m, n, h => by
    have : ∀ ks : List Nat, (ks.map fun k : Nat => ([] : List Int).count (k : Int)).sum = 0 := fun ks => by induction ks with | nil => rfl | cons a t ih => rw [List.map_cons, List.sum_cons, ih]; rfl
    exact this _
  | x :: l, m, n, h => by
    have ih := count_sum l m n (fun y hy => h y (by simp [hy]))
    have hx := h x (by simp)
    have key : ∀ (m n : Nat), ((n : Int) ≤ x ∧ x < (n : Int) + m → ((List.range' n m).map fun k : Nat => (x :: l).count (k : Int)).sum = ((List.range' n m).map fun k : Nat => l.count (k : Int)).sum + 1) ∧ (¬ ((n : Int) ≤ x ∧ x < (n : Int) + m) → ((List.range' n m).map fun k : Nat => (x :: l).count (k : Int)).sum = ((List.range' n m).map fun k : Nat => l.count (k : Int)).sum) := by
      intro m
      induction m with
      | zero => intro n; exact ⟨fun h => by omega, fun _ => rfl⟩
      | succ m ih =>
        intro n
        obtain ⟨i1, i2⟩ := ih (n + 1)
        rw [List.range'_succ, List.map_cons, List.sum_cons, List.map_cons, List.sum_cons, List.count_cons]
        by_cases hn : x = (n : Int)
        · have := i2 (by omega)
          have hb : (x == (n : Int)) = true := by simpa using hn
          rw [this, hb]
          exact ⟨fun _ => by rw [if_pos rfl]; omega, fun hh => absurd ⟨by omega, by omega⟩ hh⟩
        · have hb : (x == (n : Int)) = false := by simpa using hn
          rw [hb]
          constructor
          · intro hh
            rw [i1 (by omega)]
            simp
            omega
          · intro hh
            rw [i2 (by omega)]
            simp
    rw [(key m n).1 hx, ih, List.length_cons]
/-- A row's length: its holes and twice its numbers. -/
theorem row_length {l : List Int} (h : isPairs l = true) : l.length = l.count 0 + 2 * (numbersOf l).length := by
  have h1 := count_sum l 21 0 (fun x hx => by have := isRow_mem (isPairs_row h) hx; omega)
  have h2 := numbersFrom_count l 20 1 (fun k h3 h4 => pairsOk_count (isPairs_ok h) k h3 (by omega))
  rw [show List.range' 0 21 = 0 :: List.range' 1 20 from rfl, List.map_cons, List.sum_cons, h2] at h1
  unfold numbersOf
  simp at h1
  omega
/-- What the law's own form of an extended row asks: an odd length of three or more, one hole, no number above half of it. -/
def extendedSpec (l : List Int) : Bool := decide (3 ≤ l.length) && decide (l.length % 2 = 1) && fitsAt l 0 && decide (l.count 0 = 1) && l.all (fun x => decide (x ≤ (l.length : Int) / 2))
theorem extended_same {l : List Int} (h : isPairs l = true) : extendedSpec l = decide ((extendedOf l).1 > 0) := by
  have hlen := row_length h
  have hc : (placesOf l 0).length = l.count 0 := placesOf_count l 0
  unfold extendedSpec extendedOf oneHole
  rw [h, Bool.true_and, hc]
  by_cases hf : fitsAt l 0 = true
  · by_cases h1 : l.count 0 = 1
    · have e1 : (fitsAt l 0 && decide (l.count 0 = 1)) = true := by simp [hf, h1]
      rw [if_pos e1, hf]
      simp only [h1, decide_true, Bool.and_true]
      have hsort := numbersOf_sorted l
      by_cases hn : (numbersOf l).length = 0
      · have hl3 : ¬ 3 ≤ l.length := by omega
        have ho : orderOf l = 0 := by unfold orderOf; rw [hn]; split <;> rfl
        rw [ho]
        simp [hl3]
      · have hl3 : 3 ≤ l.length := by omega
        have hodd : l.length % 2 = 1 := by omega
        have hhalf : (l.length : Int) / 2 = ((numbersOf l).length : Int) := by omega
        simp only [hl3, hodd, decide_true, Bool.true_and, hhalf]
        rw [Bool.eq_iff_iff, List.all_eq_true, decide_eq_true_eq]
        constructor
        · intro H
          have hfr : fromOf 1 0 (numbersOf l) = true := fromOf_of 1 _ 0 hsort (fun x hx => by
            obtain ⟨g1, g2, g3⟩ := (mem_numbersOf l x).1 hx
            have := H x g1
            simp only [decide_eq_true_eq] at this
            omega)
          unfold orderOf
          rw [if_pos hfr]
          omega
        · intro H x hx
          by_cases hfr : fromOf 1 0 (numbersOf l) = true
          · have hr := isRow_mem (isPairs_row h) hx
            simp only [decide_eq_true_eq]
            by_cases hx0 : x = 0
            · omega
            · have := fromOf_mem 1 _ 0 x hfr ((mem_numbersOf l x).2 ⟨hx, by omega, by omega⟩)
              omega
          · unfold orderOf at H
            rw [if_neg hfr] at H
            exact absurd H (by decide)
    · have e1 : ¬ (fitsAt l 0 && decide (l.count 0 = 1)) = true := by simp [h1]
      rw [if_neg e1]
      simp [h1]
  · have e1 : ¬ (fitsAt l 0 && decide (l.count 0 = 1)) = true := by simp [hf]
    rw [if_neg e1]
    simp [hf]
theorem extendedOf_pos {l : List Int} (h : ¬ (extendedOf l).1 = 0) : oneHole l = true ∧ (extendedOf l).1 > 0 ∧ (extendedOf l).2 = rd (placesOf l 0) 0 := by
  unfold extendedOf at h ⊢
  by_cases h1 : oneHole l = true
  · rw [if_pos h1] at h ⊢
    refine ⟨h1, ?_, rfl⟩
    simp only [orderOf] at h ⊢
    split at h
    · rename_i h2
      rw [if_pos h2]
      omega
    · exact absurd rfl h
  · rw [if_neg h1] at h
    exact absurd rfl h
theorem oneHole_pairs {l : List Int} (h : oneHole l = true) : isPairs l = true ∧ fitsAt l 0 = true ∧ (placesOf l 0).length = 1 := by
  unfold oneHole at h
  simpa [and_assoc] using h
theorem impl_holes.L0_val : ∀ (suf pre acc : List Int), (pre ++ suf).length < 4611686018427387904 → acc.length + suf.length < 17592186044416 → impl_holes.L0 acc (pre ++ suf) ((pre ++ suf).length : Int) (pre.length : Int) = some (acc ++ placesFrom 0 pre.length suf)
  | [], pre, acc, h, ha => by
    rw [impl_holes.L0_eq, range_end]
    simp [placesFrom]
  | x :: suf, pre, acc, h, ha => by
    have ha' : acc.length + (suf.length + 1) < 17592186044416 := by simpa using ha
    have e : (pre ++ [x]).length = pre.length + 1 := by simp
    rw [impl_holes.L0_eq, range_step, rd_mid, wrap_mid h, app_mid pre x suf]
    by_cases h1 : x = 0
    · rw [if_pos h1, if_pos (by omega), impl_holes.L0_val suf (pre ++ [x]) _ (by simpa using h) (by simp; omega), e]
      simp [placesFrom, h1]
    · rw [if_neg h1, impl_holes.L0_val suf (pre ++ [x]) _ (by simpa using h) (by omega), e]
      simp [placesFrom, h1]
theorem impl_holes.F_val (l : List Int) (h : l.length < 17592186044416) : impl_holes.F l = some (placesOf l 0) := by
  rw [impl_holes.F_eq]
  have := impl_holes.L0_val l [] [] (by simp; omega) (by simpa using h)
  simpa [placesOf] using this
theorem impl_isFrom.L0_val (k : Int) (hk : -1000 ≤ k ∧ k ≤ 1000) (ns : List Int) : ∀ (suf pre : List Int), (pre ++ suf).length ≤ 1000 → impl_isFrom.L0 k ns (pre ++ suf) ((pre ++ suf).length : Int) (pre.length : Int) = some (if fromOf k pre.length suf = true then ((ns.length : Int), decide ((ns.length : Int) > 0)) else (0, false))
  | [], pre, h => by
    rw [impl_isFrom.L0_eq, range_end]
    rfl
  | x :: suf, pre, h => by
    have h' : pre.length + (suf.length + 1) ≤ 1000 := by simpa using h
    have e : (pre ++ [x]).length = pre.length + 1 := by simp
    rw [impl_isFrom.L0_eq, range_step, rd_mid, wrap_mid (pre := pre) (x := x) (suf := suf) (by omega), app_mid pre x suf, wrap_in (n := k + (pre.length : Int)) (by omega) (by omega), impl_isFrom.L0_val k hk ns suf (pre ++ [x]) (by simpa using h), e, fromOf]
    by_cases h1 : x = k + (pre.length : Int)
    · rw [if_pos h1]
      simp [h1]
    · rw [if_neg h1]
      simp [h1]
theorem impl_isFrom.F_val (l : List Int) (k : Int) (hk : -1000 ≤ k ∧ k ≤ 1000) (h : l.length < 4611686018427387904) : impl_isFrom.F l k = some (if fromOf k 0 (numbersOf l) = true then (((numbersOf l).length : Int), decide (((numbersOf l).length : Int) > 0)) else (0, false)) := by
  rw [impl_isFrom.F_eq, impl_numbers.F_val l h]
  simp only [Option.bind_some]
  have hn := numbersFrom_length l 1 20
  have := impl_isFrom.L0_val k hk (numbersOf l) (numbersOf l) [] (by simp only [List.nil_append, numbersOf]; omega)
  simpa using this
theorem impl_extended.F_val (l : List Int) (h : l.length < 17592186044416) : impl_extended.F l = some (extendedOf l) := by
  rw [impl_extended.F_eq, impl_fits.F_val l 0 (by omega), impl_holes.F_val l h]
  simp only [Option.bind_some, impl_extended.J0_eq]
  unfold extendedOf oneHole orderOf
  rw [impl_isFrom.F_val l 1 (by omega) (by omega), impl_holes.F_val l h]
  simp only [Option.bind_some]
  by_cases h1 : (isPairs l && fitsAt l 0) = true
  · rw [if_pos h1, h1]
    by_cases h2 : (placesOf l 0).length = 1
    · have h3 : (((placesOf l 0).length : Int) != 1) = false := by rw [h2]; rfl
      have h4 : (0 : Int) < ((placesOf l 0).length : Int) := by omega
      have h6 : decide ((placesOf l 0).length = 1) = true := decide_eq_true h2
      by_cases h5 : fromOf 1 0 (numbersOf l) = true
      · simp only [h3, h4, h5, h6, if_true, Bool.and_self, Bool.false_eq_true, if_false]
      · simp only [h3, h4, h5, h6, if_true, Bool.and_self, Bool.false_eq_true, if_false]
    · have h3 : (((placesOf l 0).length : Int) != 1) = true := by simp; omega
      simp only [h3, if_true, h2, decide_false, Bool.and_false, Bool.false_eq_true, if_false]
  · rw [if_neg h1, Bool.eq_false_iff.2 h1]
    simp only [if_true, Bool.false_and, Bool.false_eq_true, if_false]
def isExtended (l : List Int) : Bool × Bool := if isPairs l = true then (decide ((extendedOf l).1 > 0), true) else (false, false)
theorem impl_IsExtended.F_val (l : List Int) (h : l.length < 17592186044416) : impl_IsExtended.F l = some (isExtended l) := by
  rw [impl_IsExtended.F_eq, impl_isPairs.F_val l (by omega), impl_extended.F_val l h]
  simp only [Option.bind_some]
  unfold isExtended
  split <;> rfl
theorem spec_hoExtended.L0_val (l : List Int) (hl : l.length ≤ 1000) : ∀ (suf pre : List Int) (n : Int), (pre ++ suf).length ≤ 1000 → 0 ≤ n → n + suf.length ≤ 1000 → spec_hoExtended.L0 l n (pre ++ suf) ((pre ++ suf).length : Int) (pre.length : Int) = some (decide (n + suf.count 0 = 1) && suf.all (fun x => decide (x ≤ (l.length : Int) / 2)))
  | [], pre, n, h, h0, hn => by
    rw [spec_hoExtended.L0_eq, range_end]
    simp
    rfl
  | x :: suf, pre, n, h, h0, hn => by
    have h' : pre.length + (suf.length + 1) ≤ 1000 := by simpa using h
    have hn' : n + (suf.length + 1 : Nat) ≤ 1000 := by simpa using hn
    have w : wrap64 ((l.length : Int) / 2) = (l.length : Int) / 2 := wrap_in (by omega) (by omega)
    rw [spec_hoExtended.L0_eq, range_step, rd_mid, w, wrap_mid (pre := pre) (x := x) (suf := suf) (by omega), app_mid pre x suf]
    by_cases h1 : x > (l.length : Int) / 2
    · have h2 : ¬ x ≤ (l.length : Int) / 2 := by omega
      simp only [h1, if_true, ite_self, List.all_cons, h2, decide_false, Bool.false_and, Bool.and_false]
    · have h2 : x ≤ (l.length : Int) / 2 := by omega
      by_cases h3 : x = 0
      · subst h3
        rw [if_pos rfl, if_neg h1, wrap_in (n := n + 1) (by omega) (by omega), spec_hoExtended.L0_val l hl suf (pre ++ [0]) (n + 1) (by simpa using h) (by omega) (by omega)]
        simp only [List.all_cons, h2, decide_true, Bool.true_and, List.count_cons_self]
        congr 2
        rw [decide_eq_decide]
        omega
      · rw [if_neg h3, if_neg h1, spec_hoExtended.L0_val l hl suf (pre ++ [x]) n (by simpa using h) h0 (by omega)]
        simp only [List.all_cons, h2, decide_true, Bool.true_and, List.count_cons_of_ne h3]
theorem spec_hoExtended.F_val (l : List Int) (h : isPairs l = true) : spec_hoExtended.F l = some (decide ((extendedOf l).1 > 0)) := by
  have hl := isRow_len (isPairs_row h)
  rw [← extended_same h, spec_hoExtended.F_eq]
  unfold extendedSpec
  by_cases h1 : 3 ≤ l.length
  · by_cases h2 : l.length % 2 = 1
    · rw [if_neg (by omega), if_neg (by omega), spec_roFits.F_val l 0 (by omega) (isPairs_ok h)]
      simp only [Option.bind_some]
      rw [spec_hoExtended.J0_eq]
      by_cases h3 : fitsAt l 0 = true
      · have := spec_hoExtended.L0_val l (by omega) l [] 0 (by simp; omega) (by omega) (by omega)
        rw [if_neg (by simp [h3])]
        refine Eq.trans this ?_
        simp only [h1, h2, h3, decide_true, Bool.true_and]
        congr 2
        rw [decide_eq_decide]
        omega
      · rw [if_pos (by simp [h3])]
        simp [h3]
    · rw [if_neg (by omega), if_pos (by omega), spec_hoExtended.J0_eq, if_pos rfl]
      simp [h2]
  · rw [if_pos (by omega), spec_hoExtended.J0_eq, if_pos rfl]
    simp [h1]
theorem spec_IsExtended.F_val (l : List Int) (h : l.length < 17592186044416) : spec_IsExtended.F l = some (isExtended l) := by
  rw [spec_IsExtended.F_eq, spec_roIs.F_val l h]
  simp only [Option.bind_some]
  unfold isExtended
  by_cases h1 : isPairs l = true
  · rw [if_pos h1, spec_hoExtended.F_val l h1, if_pos h1]
    rfl
  · rw [if_neg h1, if_neg h1]
theorem spec_hoHole.L0_val : ∀ (suf pre : List Int), (pre ++ suf).length < 4611686018427387904 → spec_hoHole.L0 (pre ++ suf) ((pre ++ suf).length : Int) (pre.length : Int) = some (holeFrom pre.length suf)
  | [], pre, h => by
    rw [spec_hoHole.L0_eq, range_end]
    rfl
  | x :: suf, pre, h => by
    have e : (pre ++ [x]).length = pre.length + 1 := by simp
    rw [spec_hoHole.L0_eq, range_step, rd_mid, wrap_mid h, app_mid pre x suf, spec_hoHole.L0_val suf (pre ++ [x]) (by simpa using h), e, holeFrom]
    split <;> rfl
theorem spec_hoHole.F_val (l : List Int) (h : l.length < 4611686018427387904) : spec_hoHole.F l = some (holeFrom 0 l) := by
  rw [spec_hoHole.F_eq]
  have := spec_hoHole.L0_val l [] (by simpa using h)
  simpa using this
def holeOf (l : List Int) : Int × Bool := if (extendedOf l).1 = 0 then (0, false) else ((extendedOf l).2, true)
theorem impl_HoleOf.F_val (l : List Int) (h : l.length < 17592186044416) : impl_HoleOf.F l = some (holeOf l) := by
  rw [impl_HoleOf.F_eq, impl_extended.F_val l h]
  simp only [Option.bind_some]
  unfold holeOf
  split <;> rfl
theorem spec_HoleOf.F_val (l : List Int) (h : l.length < 17592186044416) : spec_HoleOf.F l = some (holeOf l) := by
  rw [spec_HoleOf.F_eq, spec_roIs.F_val l h]
  simp only [Option.bind_some]
  unfold holeOf
  by_cases h1 : isPairs l = true
  · rw [if_pos h1, spec_hoExtended.F_val l h1]
    simp only [Option.bind_some]
    by_cases h2 : (extendedOf l).1 = 0
    · rw [if_neg (by simp [h2]), if_pos h2]
    · obtain ⟨g1, g2, g3⟩ := extendedOf_pos h2
      have g4 := (oneHole_pairs g1).2.2
      rw [if_pos (by simpa using g2), if_neg h2, spec_hoHole.F_val l (by omega), g3, holeFrom_places l 0 (by rw [show placesFrom 0 0 l = placesOf l 0 from rfl]; omega)]
      rfl
  · have h2 : (extendedOf l).1 = 0 := by
      refine Classical.byContradiction fun h2 => h1 (oneHole_pairs (extendedOf_pos h2).1).1
    rw [if_neg h1, if_pos h2]
def hookedOf (l : List Int) : Int := if (extendedOf l).2 = (l.length : Int) - 2 then (extendedOf l).1 else 0
theorem hookedOf_pairs {l : List Int} (h : ¬ hookedOf l = 0) : isPairs l = true := by
  refine (oneHole_pairs (extendedOf_pos (l := l) fun h2 => h ?_).1).1
  unfold hookedOf
  rw [h2]
  split <;> rfl
theorem impl_hooked.F_val (l : List Int) (h : l.length < 17592186044416) : impl_hooked.F l = some (hookedOf l) := by
  rw [impl_hooked.F_eq, impl_extended.F_val l h]
  simp only [Option.bind_some]
  rw [wrap_in (by omega) (by omega)]
  unfold hookedOf
  split <;> rfl
theorem spec_roBack.L0_val (l : List Int) (hl : l.length < 4611686018427387904) : ∀ (n : Nat) (acc : List Int), n ≤ l.length → acc.length + n < 17592186044416 → spec_roBack.L0 l acc ((n : Int) - 1) = some (acc ++ (l.take n).reverse)
  | 0, acc, h, ha => by
    rw [spec_roBack.L0_eq, if_neg (by omega)]
    simp
  | n + 1, acc, h, ha => by
    have e : ((n + 1 : Nat) : Int) - 1 = (n : Int) := by omega
    rw [e, spec_roBack.L0_eq, if_pos (by omega), if_pos (by omega), if_pos (by omega), if_pos (by omega), wrap_in (n := (n : Int) - 1) (by omega) (by omega), spec_roBack.L0_val l hl n _ (by omega) (by simp; omega), rd_nat l n (by omega), List.take_succ_eq_append_getElem (by omega), List.reverse_append]
    simp
theorem spec_roBack.F_val (l : List Int) (h : l.length < 17592186044416) : spec_roBack.F l = some l.reverse := by
  rw [spec_roBack.F_eq, wrap_in (by omega) (by omega)]
  have := spec_roBack.L0_val l (by omega) l.length [] (Nat.le_refl _) (by simpa using h)
  simpa using this
theorem slices_Reverse_int_int.L0_val : ∀ (n : Nat) (mid pre suf : List Int), mid.length = n → (pre ++ mid ++ suf).length < 4611686018427387904 → slices_Reverse_int_int.L0 (pre ++ mid ++ suf) (pre.length : Int) ((pre.length : Int) + mid.length - 1) = some (pre ++ mid.reverse ++ suf)
  | 0, mid, pre, suf, hn, h => by
    obtain rfl : mid = [] := List.eq_nil_of_length_eq_zero hn
    rw [slices_Reverse_int_int.L0_eq, if_neg (by simp; omega)]
    simp
  | 1, mid, pre, suf, hn, h => by
    obtain ⟨x, rfl⟩ := List.length_eq_one_iff.1 hn
    rw [slices_Reverse_int_int.L0_eq, if_neg (by simp)]
    simp
  | n + 2, mid, pre, suf, hn, h => by
    obtain ⟨x, m, rfl⟩ : ∃ x m, mid = x :: m := by cases mid with | nil => simp at hn | cons x m => exact ⟨x, m, rfl⟩
    obtain ⟨m, y, rfl⟩ : ∃ m' y, m = m' ++ [y] := by
      rcases List.eq_nil_or_concat m with rfl | ⟨m', y, rfl⟩
      · simp at hn
      · exact ⟨m', y, by simp⟩
    have hm : m.length = n := by simp at hn; omega
    have hl : pre.length + (m.length + 2) + suf.length < 4611686018427387904 := by simp at h; omega
    have e1 : pre ++ x :: (m ++ [y]) ++ suf = pre ++ x :: (m ++ y :: suf) := by simp
    have e2 : pre ++ x :: (m ++ [y]) ++ suf = (pre ++ x :: m) ++ y :: suf := by simp
    have e3 : (pre.length : Int) + ((x :: (m ++ [y])).length : Int) - 1 = ((pre ++ x :: m).length : Int) := by simp; omega
    have r1 : rd (pre ++ x :: (m ++ [y]) ++ suf) (pre.length : Int) = x := by rw [e1]; exact rd_mid pre x _
    have r2 : rd (pre ++ x :: (m ++ [y]) ++ suf) ((pre ++ x :: m).length : Int) = y := by rw [e2]; exact rd_mid _ y suf
    have l1 : ((pre ++ x :: m).length : Int) = (pre.length : Int) + m.length + 1 := by simp; omega
    have ll : ((pre ++ x :: (m ++ [y]) ++ suf).length : Int) = (pre.length : Int) + m.length + 2 + suf.length := by simp; omega
    rw [e3, slices_Reverse_int_int.L0_eq, if_pos (by omega), if_pos (by omega), if_pos (by omega), if_pos (by omega), if_pos (by omega), r1, r2, Int.toNat_natCast, Int.toNat_natCast]
    have es : ((pre ++ x :: (m ++ [y]) ++ suf).set pre.length y).set (pre ++ x :: m).length x = (pre ++ [y]) ++ m ++ ([x] ++ suf) := by
      rw [e1, List.set_append_right _ _ (Nat.le_refl _), Nat.sub_self, List.set_cons_zero]
      rw [show pre ++ y :: (m ++ y :: suf) = (pre ++ y :: m) ++ y :: suf by simp, List.set_append_right _ _ (by simp), show (pre ++ x :: m).length - (pre ++ y :: m).length = 0 by simp, List.set_cons_zero]
      simp
    have w1 : wrap64 ((pre.length : Int) + 1) = ((pre ++ [y]).length : Int) := by rw [wrap_in (by omega) (by omega)]; simp
    have w2 : wrap64 (((pre ++ x :: m).length : Int) - 1) = ((pre ++ [y]).length : Int) + m.length - 1 := by rw [wrap_in (by omega) (by omega), l1]; simp; omega
    rw [es, w1, w2, slices_Reverse_int_int.L0_val n m (pre ++ [y]) ([x] ++ suf) hm (by simp; omega)]
    simp
theorem slices_Reverse_int_int.F_val (l : List Int) (h : l.length < 4611686018427387904) : slices_Reverse_int_int.F l = some l.reverse := by
  rw [slices_Reverse_int_int.F_eq, wrap_in (by omega) (by omega)]
  have := slices_Reverse_int_int.L0_val l.length l [] [] rfl (by simpa using h)
  simpa using this
theorem impl_back.F_val (l : List Int) (h : l.length < 17592186044416) : impl_back.F l = some l.reverse := by
  rw [impl_back.F_eq, slices_Clone_int_int.f_val l h]
  simp only [Option.bind_some]
  rw [slices_Reverse_int_int.F_val l (by omega)]
  rfl
end Go.Proofs.Ytaohgllnoomaeaa.Fn
namespace Go.Proofs.Ytaohgllnoomaeaa.Fn
open Go.RowKit Go.Proofs.YtaohgllnoomaeaaW.PrintWords Go.Proofs.YtaohgllnoomaeaaW.PrintLast Go.Proofs.YtaohgllnoomaeaaW.PrintMore
set_option linter.unusedVariables false
set_option linter.unusedSimpArgs false
/-- A row with no hole whose pairs fit, and the order of its numbers from 1 on; 0 where it is none. -/
def skolemOf (l : List Int) : Int := if isPairs l = true ∧ fitsAt l 0 = true ∧ l.count 0 = 0 then (if fromOf 1 0 (numbersOf l) = true then ((numbersOf l).length : Int) else 0) else 0
theorem skolemOf_no {l : List Int} (h : ¬ (isPairs l = true ∧ fitsAt l 0 = true ∧ l.count 0 = 0)) : skolemOf l = 0 := if_neg h
theorem skolemOf_yes {l : List Int} (h1 : isPairs l = true) (h2 : fitsAt l 0 = true) (h3 : l.count 0 = 0) : skolemOf l = if fromOf 1 0 (numbersOf l) = true then ((numbersOf l).length : Int) else 0 := if_pos ⟨h1, h2, h3⟩
theorem skolemOf_pos {l : List Int} (h : ¬ skolemOf l = 0) : isPairs l = true ∧ fitsAt l 0 = true ∧ l.count 0 = 0 ∧ fromOf 1 0 (numbersOf l) = true ∧ ¬ (numbersOf l).length = 0 ∧ skolemOf l = ((l.length / 2 : Nat) : Int) := by
  unfold skolemOf at h ⊢
  by_cases h1 : isPairs l = true ∧ fitsAt l 0 = true ∧ l.count 0 = 0
  · rw [if_pos h1] at h ⊢
    by_cases h2 : fromOf 1 0 (numbersOf l) = true
    · rw [if_pos h2] at h ⊢
      have := row_length h1.1
      exact ⟨h1.1, h1.2.1, h1.2.2, h2, by omega, by omega⟩
    · rw [if_neg h2] at h
      exact absurd rfl h
  · rw [if_neg h1] at h
    exact absurd rfl h
/-- A row with no hole whose pairs lie one further apart, and its first number; 0 where it is none. -/
def langfordOf (l : List Int) : Int := if isPairs l = true ∧ fitsAt l 1 = true ∧ l.count 0 = 0 ∧ fromOf (rd (numbersOf l) 0) 0 (numbersOf l) = true ∧ ¬ (numbersOf l).length = 0 then rd (numbersOf l) 0 else 0
theorem rd_mem (l : List Int) (h : ¬ l.length = 0) : rd l 0 ∈ l := by
  cases l with
  | nil => exact absurd rfl h
  | cons x t => simp [rd]
theorem langfordOf_pos {l : List Int} (h : ¬ langfordOf l = 0) : isPairs l = true ∧ fitsAt l 1 = true ∧ l.count 0 = 0 ∧ fromOf (rd (numbersOf l) 0) 0 (numbersOf l) = true ∧ ¬ (numbersOf l).length = 0 ∧ langfordOf l = rd (numbersOf l) 0 := by
  unfold langfordOf at h ⊢
  by_cases h1 : isPairs l = true ∧ fitsAt l 1 = true ∧ l.count 0 = 0 ∧ fromOf (rd (numbersOf l) 0) 0 (numbersOf l) = true ∧ ¬ (numbersOf l).length = 0
  · rw [if_pos h1]
    exact ⟨h1.1, h1.2.1, h1.2.2.1, h1.2.2.2.1, h1.2.2.2.2, rfl⟩
  · rw [if_neg h1] at h
    exact absurd rfl h
theorem first_number {l : List Int} (h : ¬ (numbersOf l).length = 0) : 1 ≤ rd (numbersOf l) 0 ∧ rd (numbersOf l) 0 ≤ 20 := ((mem_numbersOf l _).1 (rd_mem _ h)).2
/-- What a Langford row asks, on a list of pairs. -/
def isLangford (l : List Int) : Prop := fitsAt l 1 = true ∧ l.count 0 = 0 ∧ fromOf (rd (numbersOf l) 0) 0 (numbersOf l) = true ∧ ¬ (numbersOf l).length = 0
theorem langfordOf_eq {l : List Int} (h : isPairs l = true) : (isLangford l → langfordOf l = rd (numbersOf l) 0 ∧ ¬ langfordOf l = 0) ∧ (¬ isLangford l → langfordOf l = 0) := by
  refine ⟨fun h1 => ?_, fun h1 => ?_⟩
  · have e : langfordOf l = rd (numbersOf l) 0 := if_pos ⟨h, h1⟩
    have := first_number h1.2.2.2
    exact ⟨e, by omega⟩
  · exact if_neg (fun h2 => h1 h2.2)
theorem impl_skolem.F_val (l : List Int) (h : l.length < 17592186044416) : impl_skolem.F l = some (skolemOf l) := by
  rw [impl_skolem.F_eq, impl_fits.F_val l 0 (by omega), impl_holes.F_val l h, impl_isFrom.F_val l 1 (by omega) (by omega)]
  simp only [Option.bind_some, placesOf_count]
  by_cases h1 : isPairs l = true
  · by_cases h2 : fitsAt l 0 = true
    · rw [if_pos (by simp [h1, h2])]
      by_cases h3 : l.count 0 = 0
      · rw [if_neg (by omega), skolemOf_yes h1 h2 h3]
        by_cases h4 : fromOf 1 0 (numbersOf l) = true
        · simp only [h4, if_true]
        · simp only [h4, if_false]
          rfl
      · rw [skolemOf_no (fun h => h3 h.2.2), if_pos (by omega)]
    · rw [if_neg (by simp [h2]), skolemOf_no (fun h => h2 h.2.1)]
  · rw [if_neg (by simp [h1]), skolemOf_no (fun h => h1 h.1)]
end Go.Proofs.Ytaohgllnoomaeaa.Fn
namespace Go.Proofs.Ytaohgllnoomaeaa.Fn
open Go.RowKit Go.Proofs.YtaohgllnoomaeaaW.PrintWords Go.Proofs.YtaohgllnoomaeaaW.PrintLast Go.Proofs.YtaohgllnoomaeaaW.PrintMore
set_option linter.unusedVariables false
set_option linter.unusedSimpArgs false
/-- A row without its hole, if the hole is the first or the last place. -/
def skolemOfExtended (l : List Int) : List Int × Bool := if (extendedOf l).1 = 0 then ([], false) else if (extendedOf l).2 = 0 then (l.drop 1, true) else if (extendedOf l).2 = (l.length : Int) - 1 then (l.take (l.length - 1), true) else ([], false)
theorem skolemOfExtended_len (l : List Int) : (skolemOfExtended l).1.length ≤ l.length := by
  unfold skolemOfExtended
  repeat' split
  all_goals simp
theorem extendedOf_some {l : List Int} (h : ¬ (extendedOf l).1 = 0) : 1 ≤ l.length := by
  have h1 := (oneHole_pairs (extendedOf_pos h).1).2.2
  cases l with
  | nil => simp [placesOf, placesFrom] at h1
  | cons x t => simp
theorem slices_Delete_int_int.f_val (l : List Int) (i : Nat) (h : i + 1 ≤ l.length) (a b : Int) (ha : a = i) (hb : b = ((i + 1 : Nat) : Int)) : slices_Delete_int_int.f l a b = some (l.take i ++ l.drop (i + 1)) := by
  subst ha
  subst hb
  unfold slices_Delete_int_int.f
  rw [if_pos (by omega)]
  rfl
theorem impl_SkolemOfExtended.F_val (l : List Int) (h : l.length < 17592186044416) : impl_SkolemOfExtended.F l = some (skolemOfExtended l) := by
  rw [impl_SkolemOfExtended.F_eq, impl_extended.F_val l h]
  have hc : slices_Clone_int_int.f l = some l := if_pos h
  simp only [Option.bind_some, impl_SkolemOfExtended.J0_eq, hc]
  unfold skolemOfExtended
  rw [wrap_in (n := (l.length : Int) - 1) (by omega) (by omega)]
  by_cases h1 : (extendedOf l).1 = 0
  · simp only [h1, if_true]
  · have hl := extendedOf_some h1
    rw [if_neg h1, if_neg h1]
    by_cases h2 : (extendedOf l).2 = 0
    · rw [if_pos h2, if_pos h2, h2, if_neg (by decide), slices_Delete_int_int.f_val l 0 (by omega) 0 (wrap64 (0 + 1)) rfl (by rw [wrap_in (by omega) (by omega)]; rfl)]
      rfl
    · rw [if_neg h2, if_neg h2]
      by_cases h3 : (extendedOf l).2 = (l.length : Int) - 1
      · have h4 : ((extendedOf l).2 != (l.length : Int) - 1) = false := bne_eq_false_iff_eq.2 h3
        rw [h4, if_neg (by decide), if_pos h3, slices_Delete_int_int.f_val l (l.length - 1) (by omega) (extendedOf l).2 (wrap64 ((extendedOf l).2 + 1)) (by omega) (by rw [h3, wrap_in (by omega) (by omega)]; omega), show l.length - 1 + 1 = l.length from by omega, List.drop_length, List.append_nil]
        rfl
      · have h4 : ((extendedOf l).2 != (l.length : Int) - 1) = true := bne_iff_ne.2 h3
        rw [h4, if_pos rfl, if_neg h3]
theorem spec_SkolemOfExtended.F_val (l : List Int) (h : l.length < 17592186044416) : spec_SkolemOfExtended.F l = some (skolemOfExtended l) := by
  rw [spec_SkolemOfExtended.F_eq, spec_roIs.F_val l h]
  simp only [Option.bind_some, spec_SkolemOfExtended.J0_eq, spec_hoHole.F_val l (show l.length < 4611686018427387904 by omega)]
  unfold skolemOfExtended
  rw [wrap_in (n := (l.length : Int) - 1) (by omega) (by omega)]
  by_cases h1 : isPairs l = true
  · rw [if_pos h1, spec_hoExtended.F_val l h1]
    simp only [Option.bind_some]
    by_cases h2 : (extendedOf l).1 = 0
    · rw [if_pos h2, h2]
      rfl
    · obtain ⟨e1, e2, e3⟩ := extendedOf_pos h2
      have hl := extendedOf_some h2
      have hh : holeFrom 0 l = (extendedOf l).2 := by
        rw [e3]
        exact holeFrom_places l 0 (by have := (oneHole_pairs e1).2.2; unfold placesOf at this; omega)
      have e4 : (!decide ((extendedOf l).1 > 0)) = false := by simp; omega
      rw [if_neg h2, e4, if_neg (by decide), hh]
      by_cases h3 : (extendedOf l).2 = 0
      · rw [if_pos h3, if_pos h3, if_pos (by omega), spec_l1Own.f_val _ (by simp; omega)]
        rfl
      · rw [if_neg h3, if_neg h3]
        by_cases h4 : (extendedOf l).2 = (l.length : Int) - 1
        · rw [if_pos h4, if_pos h4, if_pos (by omega), if_pos (by omega), spec_l1Own.f_val _ (by simp; omega), show ((l.length : Int) - 1).toNat = l.length - 1 from by omega]
          rfl
        · rw [if_neg h4, if_neg h4]
  · have h2 : (extendedOf l).1 = 0 := by
      by_cases h3 : (extendedOf l).1 = 0
      · exact h3
      · exact absurd (oneHole_pairs (extendedOf_pos h3).1).1 h1
    rw [if_neg h1, if_pos h2]
    rfl
end Go.Proofs.Ytaohgllnoomaeaa.Fn
namespace Go.Proofs.Ytaohgllnoomaeaa.Fn
open Go.RowKit Go.Proofs.YtaohgllnoomaeaaW.PrintWords Go.Proofs.YtaohgllnoomaeaaW.PrintLast Go.Proofs.YtaohgllnoomaeaaW.PrintMore
set_option linter.unusedVariables false
set_option linter.unusedSimpArgs false
/-- All rows, in order. -/
def extsLoop (rec : List Int → Nat → List (List Int)) (hole shift : Int) (row : List Int) (used a : Nat) : Nat → Int → List (List Int)
  | 0, _ => []
  | m + 1, n => (if sePassed hole row used n ((a : Int) + n + shift) then [] else rec ((row.set a n).set ((a : Int) + n + shift).toNat n) (used ||| 2 ^ n.toNat)) ++ extsLoop rec hole shift row used a m (n + 1)
def exts (from_ : Int) (N : Nat) (shift hole : Int) : Nat → List Int → Nat → List (List Int)
  | 0, _, _ => []
  | k + 1, row, used => if seAt hole row = row.length then [row] else extsLoop (exts from_ N shift hole k) hole shift row used (seAt hole row) N from_
/-- A function called for rows, one after the other, until it ends. -/
def foldE {σ : Type} (each : σ → List Int → Option (σ × Bool)) : σ → List (List Int) → Option (σ × Bool)
  | s, [] => some (s, false)
  | s, x :: l => (each s x).bind fun p => if p.2 = true then some (p.1, true) else foldE each p.1 l
theorem foldE_append {σ : Type} (each : σ → List Int → Option (σ × Bool)) : ∀ (a b : List (List Int)) (s : σ), foldE each s (a ++ b) = (foldE each s a).bind fun p => if p.2 = true then some (p.1, true) else foldE each p.1 b
  | [], b, s => by simp [foldE]
  | x :: a, b, s => by
    simp only [List.cons_append, foldE]
    cases each s x with
    | none => rfl
    | some p =>
      simp only [Option.bind_some]
      by_cases h : p.2 = true
      · simp [h]
      · simp only [if_neg h]
        exact foldE_append each a b p.1
/-- The row as the program's search has it. -/
def freeH (hole : Int) (row : List Int) : List Int := (List.range row.length).map fun j : Nat => if rd row j = 0 ∧ (j : Int) ≠ hole then -1 else rd row j
theorem freeH_len (hole : Int) (row : List Int) : (freeH hole row).length = row.length := by simp [freeH]
theorem freeH_rd {hole : Int} {row : List Int} (j : Nat) (h : j < row.length) : rd (freeH hole row) j = if rd row j = 0 ∧ (j : Int) ≠ hole then -1 else rd row j := by
  rw [rd_nat _ j (by rw [freeH_len]; exact h)]
  simp [freeH]
theorem ext_rd {a b : List Int} (hl : a.length = b.length) (h : ∀ j : Nat, j < a.length → rd a j = rd b j) : a = b := by
  apply List.ext_getElem hl
  intro j h1 h2
  have := h j h1
  rwa [rd_nat a j h1, rd_nat b j h2] at this
theorem rd_set (l : List Int) (a : Nat) (v : Int) (j : Nat) (hj : j < l.length) : rd (l.set a v) j = if a = j then v else rd l j := by
  rw [rd_nat _ j (by rw [List.length_set]; exact hj), rd_nat l j hj, List.getElem_set]
theorem freeH_set {hole : Int} {row : List Int} {a : Nat} {n : Int} (hn : n ≠ 0) : (freeH hole row).set a n = freeH hole (row.set a n) := by
  apply ext_rd (by simp [freeH_len])
  intro j hj
  have hj' : j < row.length := by simpa [freeH_len] using hj
  rw [rd_set (freeH hole row) a n j (by rw [freeH_len]; exact hj'), freeH_rd (row := row) j hj', freeH_rd (row := row.set a n) j (by rw [List.length_set]; exact hj'), rd_set row a n j hj']
  by_cases e : a = j
  · simp [e, hn]
  · simp [e]
theorem freeAt_is : ∀ (l : List Int) (a : Nat), a ≤ l.length → (∀ j : Nat, j < a → rd l j ≠ -1) → (a < l.length → rd l a = -1) → freeAt l = a
  | [], a, h, _, _ => by
    simp at h
    simp [freeAt, h]
  | x :: l, 0, _, _, h => by
    have := h (by simp)
    simp [rd] at this
    simp [freeAt, this]
  | x :: l, a + 1, h, h1, h2 => by
    have hx := h1 0 (by omega)
    simp [rd] at hx
    have ih := freeAt_is l a (by simpa using h) (fun j hj => by
      have := h1 (j + 1) (by omega)
      simpa [rd] using this) (fun ha => by
      have := h2 (by simpa using ha)
      simpa [rd] using this)
    simp [freeAt, hx, ih]
theorem seAtFrom_spec (hole : Int) : ∀ (l : List Int) (i : Nat), ∃ a, seAtFrom hole l i = i + a ∧ a ≤ l.length ∧ (∀ j : Nat, j < a → rd l j ≠ 0 ∨ ((i + j : Nat) : Int) = hole) ∧ (a < l.length → rd l a = 0 ∧ ((i + a : Nat) : Int) ≠ hole)
  | [], i => ⟨0, rfl, Nat.le_refl _, fun j hj => by omega, fun h => by simp at h⟩
  | x :: l, i => by
    by_cases h : x = 0 ∧ (i : Int) ≠ hole
    · exact ⟨0, by rw [seAtFrom, if_pos h]; rfl, Nat.zero_le _, fun j hj => by omega, fun _ => ⟨by simpa [rd] using h.1, by simpa using h.2⟩⟩
    · obtain ⟨a, h1, h2, h3, h4⟩ := seAtFrom_spec hole l (i + 1)
      refine ⟨a + 1, by rw [seAtFrom, if_neg h, h1]; omega, by simpa using h2, fun j hj => ?_, fun ha => ?_⟩
      · cases j with
        | zero =>
          by_cases hx : x = 0
          · exact .inr (by simpa using Classical.byContradiction fun e => h ⟨hx, e⟩)
          · exact .inl (by simpa [rd] using hx)
        | succ j =>
          have := h3 j (by omega)
          rw [show i + (j + 1) = i + 1 + j by omega]
          simpa [rd] using this
      · have := h4 (by simpa using ha)
        rw [show i + (a + 1) = i + 1 + a by omega]
        simpa [rd] using this
theorem seAt_spec (hole : Int) (l : List Int) : seAt hole l ≤ l.length ∧ (∀ j : Nat, j < seAt hole l → rd l j ≠ 0 ∨ (j : Int) = hole) ∧ (seAt hole l < l.length → rd l (seAt hole l) = 0 ∧ ((seAt hole l : Nat) : Int) ≠ hole) := by
  obtain ⟨a, h1, h2, h3, h4⟩ := seAtFrom_spec hole l 0
  have e : seAt hole l = a := by rw [seAt, h1, Nat.zero_add]
  rw [e]
  exact ⟨h2, fun j hj => by simpa using h3 j hj, fun ha => by simpa using h4 ha⟩
theorem freeH_free {hole : Int} {row : List Int} (hp : ∀ j : Nat, j < row.length → 0 ≤ rd row j) : freeAt (freeH hole row) = seAt hole row := by
  obtain ⟨h1, h2, h3⟩ := seAt_spec hole row
  refine freeAt_is _ _ (by rw [freeH_len]; exact h1) (fun j hj => ?_) (fun ha => ?_)
  · rw [freeH_rd j (by omega)]
    have := hp j (by omega)
    split
    · rename_i h
      rcases h2 j hj with h4 | h4
      · exact absurd h.1 h4
      · exact absurd h4 h.2
    · omega
  · rw [freeH_len] at ha
    rw [freeH_rd _ ha, if_pos (h3 ha)]
theorem freeH_full {hole : Int} {row : List Int} (h : seAt hole row = row.length) : freeH hole row = row := by
  refine ext_rd (freeH_len _ _) (fun j hj => ?_)
  rw [freeH_len] at hj
  have := (seAt_spec hole row).2.1 j (by omega)
  rw [freeH_rd j hj, if_neg (fun e => this.elim (fun h => h e.1) (fun h => e.2 h))]
/-- What is left of the numbers from_, .., N of them. -/
def leftH (from_ : Int) (N used : Nat) : List Int := (List.range N).map fun i => if used.testBit (from_.toNat + i) = true then 0 else from_ + (i : Int)
theorem leftH_len (from_ : Int) (N used : Nat) : (leftH from_ N used).length = N := by simp [leftH]
theorem leftH_rd {from_ : Int} {N used i : Nat} (h : i < N) : rd (leftH from_ N used) i = if used.testBit (from_.toNat + i) = true then 0 else from_ + (i : Int) := by
  rw [rd_nat _ i (by rw [leftH_len]; exact h)]
  simp [leftH]
theorem leftH_set {from_ : Int} {N used i : Nat} (h : i < N) : (leftH from_ N used).set i 0 = leftH from_ N (used ||| 2 ^ (from_.toNat + i)) := by
  apply List.ext_getElem?
  intro j
  rw [List.getElem?_set, leftH_len]
  by_cases hj : i = j
  · subst hj
    rw [if_pos rfl, if_pos h]
    simp [leftH, h, Nat.testBit_or, Nat.testBit_two_pow]
  · rw [if_neg hj]
    rcases Nat.lt_or_ge j N with h2 | h2
    · simp [leftH, h2, Nat.testBit_or, Nat.testBit_two_pow, hj]
    · rw [List.getElem?_eq_none (by rw [leftH_len]; exact h2), List.getElem?_eq_none (by rw [leftH_len]; exact h2)]
theorem count_free {r : List Int} {a : Nat} {n : Int} (t : Nat) (ha : a < r.length) (h0 : rd r a = -1) (hn : n ≠ -1) : ((r.set a n).set t n).count (-1) < r.count (-1) := by
  have hmem : (-1 : Int) ∈ r := by
    rw [rd_nat r a ha] at h0
    rw [← h0]
    exact List.getElem_mem ha
  have hpos := List.count_pos_iff.2 hmem
  have h1 : (r.set a n).count (-1) = r.count (-1) - 1 := by
    rw [List.count_set ha]
    rw [rd_nat r a ha] at h0
    simp [h0, hn]
  rcases Nat.lt_or_ge t (r.set a n).length with h | h
  · rw [List.count_set h, h1]
    simp only [beq_iff_eq, hn, if_false, Nat.add_zero]
    omega
  · rw [List.set_eq_of_length_le h, h1]
    omega
theorem fillLoop_exts {σ : Type} {each : σ → List Int → Option (σ × Bool)} {row told : List Int} {from_ shift hole : Int} {N used k : Nat} {rec : σ → List Int → List Int → Option (σ × Bool)} {recE : List Int → Nat → List (List Int)} (hz : ∀ j : Int, rd told j = 0) (hf : 1 ≤ from_) (hs : 0 ≤ shift) (hpos : ∀ j : Nat, j < row.length → 0 ≤ rd row j)
    (hrec : ∀ s row' used', row'.length = row.length → (freeH hole row').count (-1) < k → (∀ j : Nat, j < row'.length → 0 ≤ rd row' j) → rec s (freeH hole row') (leftH from_ N used') = foldE each s (recE row' used')) (hk : (freeH hole row).count (-1) < k + 1) (ha : seAt hole row < row.length) :
    ∀ (m i : Nat) (s : σ), i + m = N → fillLoop rec (freeH hole row) told (leftH from_ N used) shift m i s = foldE each s (extsLoop recE hole shift row used (seAt hole row) m (from_ + (i : Int)))
  | 0, i, s, hi => rfl
  | m + 1, i, s, hi => by
    have hfa := freeH_free (hole := hole) hpos
    have hn := leftH_rd (from_ := from_) (N := N) (used := used) (i := i) (by omega)
    have hnx : from_ + (i : Int) + 1 = from_ + ((i + 1 : Nat) : Int) := by omega
    have hb : (from_ + (i : Int)).toNat = from_.toNat + i := by omega
    by_cases hbit : used.testBit (from_.toNat + i) = true
    · rw [if_pos hbit] at hn
      have hp : sePassed hole row used (from_ + (i : Int)) ((seAt hole row : Int) + (from_ + (i : Int)) + shift) := .inl (by rw [hb]; exact hbit)
      rw [fillLoop_pass hfa hn rfl (.inl rfl), fillLoop_exts hz hf hs hpos hrec hk ha m (i + 1) s (by omega), extsLoop, if_pos hp, List.nil_append, hnx]
    · rw [if_neg hbit] at hn
      obtain ⟨n, hne⟩ : ∃ n, from_ + (i : Int) = n := ⟨_, rfl⟩
      rw [hne] at hn hnx hb ⊢
      obtain ⟨t, ht⟩ : ∃ t, (seAt hole row : Int) + n + shift = t := ⟨_, rfl⟩
      have hn1 : 1 ≤ n := by omega
      obtain ⟨tn, htn⟩ : ∃ tn : Nat, t = (tn : Int) := ⟨t.toNat, by omega⟩
      have hcond : passed (freeH hole row) told (seAt hole row) n t ↔ sePassed hole row used n t := by
        have hb2 : ¬ used.testBit n.toNat = true := by rw [hb]; exact hbit
        have hrd : tn < row.length → (rd (freeH hole row) t ≠ -1 ↔ (t = hole ∨ rd row t ≠ 0)) := fun h => by
          rw [htn, freeH_rd tn h]
          have h6 := hpos tn h
          by_cases h3 : rd row (tn : Int) = 0 ∧ (tn : Int) ≠ hole
          · rw [if_pos h3]
            simp [h3]
          · rw [if_neg h3]
            constructor
            · intro _
              by_cases h7 : rd row (tn : Int) = 0
              · exact .inl (Classical.byContradiction fun e => h3 ⟨h7, e⟩)
              · exact .inr h7
            · intro _; omega
        unfold passed
        rw [freeH_len, hz, hz]
        constructor
        · rintro (h | h | h | h | h)
          · omega
          · exact .inr (.inl h)
          · by_cases h5 : (row.length : Int) ≤ t
            · exact .inr (.inl h5)
            · exact .inr (.inr ((hrd (by omega)).1 h))
          · exact absurd rfl h.1
          · exact absurd rfl h.1
        · rintro (h | h | h)
          · exact absurd h hb2
          · exact .inr (.inl h)
          · by_cases h5 : (row.length : Int) ≤ t
            · exact .inr (.inl h5)
            · exact .inr (.inr (.inl ((hrd (by omega)).2 h)))
      by_cases hp : sePassed hole row used n t
      · rw [fillLoop_pass hfa hn ht (hcond.2 hp), fillLoop_exts hz hf hs hpos hrec hk ha m (i + 1) s (by omega), extsLoop, ht, if_pos hp, List.nil_append, hnx]
      · have hat := (seAt_spec hole row).2.2 ha
        have hfr : rd (freeH hole row) (seAt hole row) = -1 := by rw [freeH_rd _ ha, if_pos hat]
        have hc := count_free (n := n) t.toNat (by rw [freeH_len]; exact ha) hfr (by omega)
        rw [fillLoop_put hfa hn ht (fun h => hp (hcond.1 h)), freeH_set (show n ≠ 0 by omega), freeH_set (show n ≠ 0 by omega), leftH_set (show i < N by omega), hrec s _ _ (by simp) (by rw [freeH_set (show n ≠ 0 by omega), freeH_set (show n ≠ 0 by omega)] at hc; omega) (fun j hj => by
          have hj' : j < row.length := by simpa using hj
          rw [rd_set _ _ _ _ (by simpa using hj'), rd_set _ _ _ _ hj']
          have := hpos j hj'
          split
          · omega
          · split
            · omega
            · exact this), extsLoop, ht, if_neg hp, foldE_append, ← hb]
        cases foldE each s (recE ((row.set (seAt hole row) n).set t.toNat n) (used ||| 2 ^ n.toNat)) with
        | none => rfl
        | some p =>
          simp only [Option.bind_some]
          by_cases h8 : p.2 = true
          · rw [if_pos h8, if_pos h8]
          · rw [if_neg h8, if_neg h8, fillLoop_exts hz hf hs hpos hrec hk ha m (i + 1) p.1 (by omega), hnx]
theorem fillF_exts {σ : Type} (each : σ → List Int → Option (σ × Bool)) (told : List Int) (from_ shift hole : Int) (N : Nat) (hz : ∀ j : Int, rd told j = 0) (hf : 1 ≤ from_) (hs : 0 ≤ shift) : ∀ (k : Nat) (s : σ) (row : List Int) (used : Nat), (freeH hole row).count (-1) < k → (∀ j : Nat, j < row.length → 0 ≤ rd row j) → fillF each told shift k s (freeH hole row) (leftH from_ N used) = foldE each s (exts from_ N shift hole k row used)
  | 0, s, row, used, h, hp => by omega
  | k + 1, s, row, used, h, hp => by
    have hfa := freeH_free (hole := hole) hp
    unfold fillF exts
    rw [hfa, freeH_len]
    by_cases h2 : seAt hole row = row.length
    · rw [if_pos h2, if_pos h2, freeH_full h2]
      simp only [foldE]
      cases each s row with
      | none => rfl
      | some p =>
        simp only [Option.bind_some]
        by_cases h8 : p.2 = true
        · rw [if_pos h8, ← h8]
        · rw [if_neg h8]
          rw [Bool.not_eq_true] at h8
          rw [← h8]
    · have := (seAt_spec hole row).1
      rw [if_neg h2, if_neg h2, leftH_len, fillLoop_exts hz hf hs hp (fun s row' used' h1 h2 h3 => fillF_exts each told from_ shift hole N hz hf hs k s row' used' h2 h3) h (by omega) N 0 s (by omega)]
      simp
theorem take_more' {α : Type} (a b : List α) (n : Nat) : (a.take n ++ b).take n = (a ++ b).take n := by
  rcases Nat.le_total n a.length with h | h
  · rw [List.take_append_of_le_length (by rw [List.length_take]; omega), List.take_append_of_le_length h, List.take_take, Nat.min_self]
  · rw [List.take_of_length_le h]
theorem seLoop_exts {row : List Int} {from_ shift hole : Int} {used k most : Nat} {rec : SeSt → List Int → Nat → Option SeSt} {recE : List Int → Nat → List (List Int)} (hf : 1 ≤ from_) (hs : 0 ≤ shift) (hpos : ∀ j : Nat, j < row.length → 0 ≤ rd row j)
    (hrec : ∀ c xs row' used', (freeH hole row').count (-1) < k → (∀ j : Nat, j < row'.length → 0 ≤ rd row' j) → xs.length ≤ most → c + (recE row' used').length ≤ 1000000000000 → rec (c, xs) row' used' = some (c + (recE row' used').length, (xs ++ recE row' used').take most)) (hk : (freeH hole row).count (-1) < k + 1) (ha : seAt hole row < row.length) :
    ∀ (m : Nat) (n : Int) (c : Nat) (xs : List (List Int)), 1 ≤ n → xs.length ≤ most → c + (extsLoop recE hole shift row used (seAt hole row) m n).length ≤ 1000000000000 → seLoop rec hole shift row used (seAt hole row) m n (c, xs) = some (c + (extsLoop recE hole shift row used (seAt hole row) m n).length, (xs ++ extsLoop recE hole shift row used (seAt hole row) m n).take most)
  | 0, n, c, xs, hn, hx, hc => by
    simp only [seLoop, extsLoop, List.append_nil, List.length_nil, Nat.add_zero]
    rw [List.take_of_length_le hx]
  | m + 1, n, c, xs, hn, hx, hc => by
    obtain ⟨t, ht⟩ : ∃ t, (seAt hole row : Int) + n + shift = t := ⟨_, rfl⟩
    by_cases hp : sePassed hole row used n t
    · have e : extsLoop recE hole shift row used (seAt hole row) (m + 1) n = extsLoop recE hole shift row used (seAt hole row) m (n + 1) := by
        rw [extsLoop, ht, if_pos hp, List.nil_append]
      rw [e] at hc ⊢
      rw [seLoop_pass ht hp, seLoop_exts hf hs hpos hrec hk ha m (n + 1) c xs (by omega) hx hc]
    · have e : extsLoop recE hole shift row used (seAt hole row) (m + 1) n = recE ((row.set (seAt hole row) n).set t.toNat n) (used ||| 2 ^ n.toNat) ++ extsLoop recE hole shift row used (seAt hole row) m (n + 1) := by
        rw [extsLoop, ht, if_neg hp]
      have hat := (seAt_spec hole row).2.2 ha
      have hfr : rd (freeH hole row) (seAt hole row) = -1 := by rw [freeH_rd _ ha, if_pos hat]
      have hc2 := count_free (n := n) t.toNat (by rw [freeH_len]; exact ha) hfr (by omega)
      rw [freeH_set (show n ≠ 0 by omega), freeH_set (show n ≠ 0 by omega)] at hc2
      rw [e] at hc ⊢
      rw [List.length_append] at hc ⊢
      rw [seLoop_put ht hp, hrec c xs _ _ (by omega) (fun j hj => by
          have hj' : j < row.length := by simpa using hj
          rw [rd_set _ _ _ _ (by simpa using hj'), rd_set _ _ _ _ hj']
          have := hpos j hj'
          split
          · omega
          · split
            · omega
            · exact this) hx (by omega), Option.bind_some, seLoop_exts hf hs hpos hrec hk ha m (n + 1) _ _ (by omega) (by rw [List.length_take]; omega) (by omega), take_more', List.append_assoc, Nat.add_assoc]
theorem seF_exts (from_ to_ shift hole : Int) (most : Nat) (hm : most ≤ 1000000) (hf : 1 ≤ from_) (hs : 0 ≤ shift) : ∀ (k c : Nat) (xs : List (List Int)) (row : List Int) (used : Nat), (freeH hole row).count (-1) < k → (∀ j : Nat, j < row.length → 0 ≤ rd row j) → xs.length ≤ most → c + (exts from_ (to_ + 1 - from_).toNat shift hole k row used).length ≤ 1000000000000 → seF from_ to_ shift hole (most : Int) k (c, xs) row used = some (c + (exts from_ (to_ + 1 - from_).toNat shift hole k row used).length, (xs ++ exts from_ (to_ + 1 - from_).toNat shift hole k row used).take most)
  | 0, c, xs, row, used, h, hp, hx, hc => by omega
  | k + 1, c, xs, row, used, h, hp, hx, hc => by
    unfold seF
    by_cases h2 : seAt hole row = row.length
    · have e : exts from_ (to_ + 1 - from_).toNat shift hole (k + 1) row used = [row] := by rw [exts, if_pos h2]
      rw [e] at hc ⊢
      have hc' : c + 1 ≤ 1000000000000 := hc
      rw [if_pos h2, if_pos ⟨by show c < _; omega, by show xs.length < _; omega⟩]
      show some (c + 1, if (xs.length : Int) < (most : Int) then xs ++ [row] else xs) = _
      by_cases h3 : (xs.length : Int) < (most : Int)
      · rw [if_pos h3, List.take_of_length_le (by simp; omega)]
        rfl
      · rw [if_neg h3, List.take_append_of_le_length (by omega), List.take_of_length_le (by omega)]
        rfl
    · have e : exts from_ (to_ + 1 - from_).toNat shift hole (k + 1) row used = extsLoop (exts from_ (to_ + 1 - from_).toNat shift hole k) hole shift row used (seAt hole row) (to_ + 1 - from_).toNat from_ := by rw [exts, if_neg h2]
      rw [e] at hc ⊢
      have := (seAt_spec hole row).1
      rw [if_neg h2]
      exact seLoop_exts hf hs hp (fun c xs row' used' h1 h3 h4 h5 => seF_exts from_ to_ shift hole most hm hf hs k c xs row' used' h1 h3 h4 h5) h (by omega) _ _ c xs hf hx hc
/-- So many of the numbers are not used. -/
def unset (used : Nat) : Nat → Nat → Nat
  | _, 0 => 0
  | b, m + 1 => (if used.testBit b = true then 0 else 1) + unset used (b + 1) m
theorem unset_same {u v : Nat} : ∀ (m b : Nat), (∀ j, b ≤ j → u.testBit j = v.testBit j) → unset u b m = unset v b m
  | 0, b, h => rfl
  | m + 1, b, h => by
    rw [unset, unset, h b (Nat.le_refl _), unset_same m (b + 1) (fun j hj => h j (by omega))]
theorem unset_or {u c : Nat} (hu : u.testBit c = false) : ∀ (m b : Nat), b ≤ c → c < b + m → unset (u ||| 2 ^ c) b m + 1 = unset u b m
  | 0, b, h1, h2 => by omega
  | m + 1, b, h1, h2 => by
    by_cases e : c = b
    · subst e
      have h3 := unset_same (u := u ||| 2 ^ c) (v := u) m (c + 1) (fun j hj => by
        rw [Nat.testBit_or, Nat.testBit_two_pow]
        have : ¬ c = j := by omega
        simp [this])
      rw [unset, unset, h3]
      simp [Nat.testBit_or, Nat.testBit_two_pow, hu]
      omega
    · have ih := unset_or hu m (b + 1) (by omega) (by omega)
      rw [unset, unset, Nat.testBit_or, Nat.testBit_two_pow]
      simp only [e, decide_false, Bool.or_false]
      omega
def fct : Nat → Nat
  | 0 => 1
  | n + 1 => (n + 1) * fct n
theorem fct_pos : ∀ n, 1 ≤ fct n
  | 0 => Nat.le_refl _
  | n + 1 => by
    have := fct_pos n
    rw [fct]
    exact Nat.le_trans this (Nat.le_mul_of_pos_left _ (Nat.succ_pos n))
theorem extsLoop_len {recE : List Int → Nat → List (List Int)} {hole shift : Int} {row : List Int} {used a B : Nat} {from_ : Int} {N : Nat} (hf : 1 ≤ from_) (hB : ∀ i, i < N → used.testBit (from_.toNat + i) = false → ∀ row', (recE row' (used ||| 2 ^ (from_.toNat + i))).length ≤ B) : ∀ (m i : Nat), i + m = N → (extsLoop recE hole shift row used a m (from_ + (i : Int))).length ≤ unset used (from_.toNat + i) m * B
  | 0, i, h => by simp [extsLoop]
  | m + 1, i, h => by
    have ih := extsLoop_len (recE := recE) (hole := hole) (shift := shift) (row := row) (a := a) hf hB m (i + 1) (by omega)
    have hnx : from_ + (i : Int) + 1 = from_ + ((i + 1 : Nat) : Int) := by omega
    have hb : (from_ + (i : Int)).toNat = from_.toNat + i := by omega
    rw [extsLoop, unset, List.length_append, hnx]
    rw [show from_.toNat + (i + 1) = from_.toNat + i + 1 by omega] at ih
    by_cases hbit : used.testBit (from_.toNat + i) = true
    · rw [if_pos hbit, if_pos (.inl (by rw [hb]; exact hbit))]
      simpa using ih
    · rw [if_neg hbit, Nat.add_mul, Nat.one_mul]
      refine Nat.add_le_add ?_ ih
      split
      · exact Nat.zero_le _
      · rw [hb]
        exact hB i (by omega) (Bool.eq_false_iff.mpr hbit) _
theorem exts_len (from_ : Int) (N : Nat) (shift hole : Int) (hf : 1 ≤ from_) : ∀ (k : Nat) (row : List Int) (used : Nat), (exts from_ N shift hole k row used).length ≤ fct (unset used from_.toNat N)
  | 0, row, used => Nat.zero_le _
  | k + 1, row, used => by
    rw [exts]
    split
    · exact fct_pos _
    · have h := extsLoop_len (recE := exts from_ N shift hole k) (hole := hole) (shift := shift) (row := row) (used := used) (a := seAt hole row) (B := fct (unset used from_.toNat N - 1)) (N := N) hf (fun i hi hb row' => by
        have h1 := exts_len from_ N shift hole hf k row' (used ||| 2 ^ (from_.toNat + i))
        have h2 := unset_or hb N from_.toNat (by omega) (by omega)
        have h3 : unset (used ||| 2 ^ (from_.toNat + i)) from_.toNat N = unset used from_.toNat N - 1 := by omega
        rw [h3] at h1
        exact h1) N 0 (by omega)
      have e0 : from_ + ((0 : Nat) : Int) = from_ := by simp
      rw [e0, Nat.add_zero] at h
      refine Nat.le_trans h ?_
      generalize unset used from_.toNat N = U
      cases U with
      | zero => simp
      | succ U => exact Nat.le_refl _
theorem unset_zero : ∀ (m b : Nat), unset 0 b m = m
  | 0, _ => rfl
  | m + 1, b => by
    rw [unset, unset_zero m (b + 1), Nat.zero_testBit]
    simp
    omega
theorem fct_small {n : Nat} (h : n ≤ 7) : fct n ≤ 5040 := by
  have : n = 0 ∨ n = 1 ∨ n = 2 ∨ n = 3 ∨ n = 4 ∨ n = 5 ∨ n = 6 ∨ n = 7 := by omega
  rcases this with rfl | rfl | rfl | rfl | rfl | rfl | rfl | rfl <;> decide
end Go.Proofs.Ytaohgllnoomaeaa.Fn
namespace Go.Proofs.Ytaohgllnoomaeaa.Fn
open Go.RowKit Go.Proofs.YtaohgllnoomaeaaW.PrintWords Go.Proofs.YtaohgllnoomaeaaW.PrintLast Go.Proofs.YtaohgllnoomaeaaW.PrintMore
set_option linter.unusedVariables false
set_option linter.unusedSimpArgs false
def extRows (n hole : Int) : List (List Int) := exts 1 n.toNat 0 hole (2 * n.toNat + 1 + 1) (List.replicate (2 * n.toNat + 1) 0) 0
theorem replicate_rd (p : Nat) (v : Int) (j : Nat) (h : j < p) : rd (List.replicate p v) j = v := by
  rw [rd_nat _ j (by simpa using h)]
  simp
theorem extRun_exts {n hole : Int} (h : extOk n hole = true) {σ : Type} (each : σ → List Int → Option (σ × Bool)) (s : σ) : extRun n hole each s = foldE each s (extRows n hole) := by
  have hd := of_decide_eq_true h
  have e1 : rowStart (2 * n.toNat + 1) hole = freeH hole (List.replicate (2 * n.toNat + 1) 0) := by
    refine ext_rd (by rw [rowStart_len, freeH_len, List.length_replicate]) (fun j hj => ?_)
    rw [rowStart_len] at hj
    rw [freeH_rd j (by simpa using hj), replicate_rd _ _ j hj]
    unfold rowStart
    rw [if_pos hd.2.2.1, rd_set _ _ _ _ (by simpa using hj), replicate_rd _ _ j hj]
    by_cases e : hole.toNat = j
    · have e2 : (j : Int) = hole := by omega
      simp [e, e2]
    · have e2 : ¬ (j : Int) = hole := by omega
      simp [e, e2]
  have e2 : numbersUp 1 n.toNat = leftH 1 n.toNat 0 := by simp [numbersUp, leftH]
  rw [extRun, if_pos h, rowsRun, e1, e2, fillF_exts each _ 1 0 hole n.toNat (fun j => by
    unfold rd
    rw [List.getD_eq_getElem?_getD, List.getElem?_replicate]
    split <;> rfl) (by omega) (by omega) _ s _ 0 (by
      have := List.count_le_length (a := (-1 : Int)) (l := freeH hole (List.replicate (2 * n.toNat + 1) 0))
      rw [freeH_len, List.length_replicate] at this
      omega) (fun j hj => by rw [replicate_rd _ _ j (by simpa using hj)]; omega)]
  rfl
theorem extRows_len {n hole : Int} (h : extOk n hole = true) : (extRows n hole).length ≤ 5040 := by
  have hd := of_decide_eq_true h
  have h1 := exts_len 1 n.toNat 0 hole (by omega) (2 * n.toNat + 1 + 1) (List.replicate (2 * n.toNat + 1) 0) 0
  rw [unset_zero] at h1
  exact Nat.le_trans h1 (fct_small (by omega))
theorem seF_rows {n hole : Int} (h : extOk n hole = true) (most : Nat) (hm : most ≤ 1000000) : seF 1 n 0 hole (most : Int) (2 * n.toNat + 1 + 1) (0, []) (List.replicate (2 * n.toNat + 1) 0) 0 = some ((extRows n hole).length, (extRows n hole).take most) := by
  have hl := extRows_len h
  unfold extRows at hl ⊢
  have e : (n + 1 - 1).toNat = n.toNat := by omega
  have := seF_exts 1 n 0 hole most hm (by omega) (by omega) (2 * n.toNat + 1 + 1) 0 [] (List.replicate (2 * n.toNat + 1) 0) 0 (by
      have := List.count_le_length (a := (-1 : Int)) (l := freeH hole (List.replicate (2 * n.toNat + 1) 0))
      rw [freeH_len, List.length_replicate] at this
      omega) (fun j hj => by rw [replicate_rd _ _ j (by simpa using hj)]; omega) (Nat.zero_le _) (by rw [e]; omega)
  rw [e] at this
  simpa using this
theorem foldE_count : ∀ (l : List (List Int)) (m : Nat), m + l.length ≤ 1000000000000 → foldE eachCount m l = some (m + l.length, false)
  | [], m, h => rfl
  | x :: l, m, h => by
    have h' : m + (l.length + 1) ≤ 1000000000000 := by simpa using h
    simp only [foldE, eachCount]
    rw [if_pos (by omega)]
    simp only [Option.bind_some, Bool.false_eq_true, if_false]
    rw [foldE_count l (m + 1) (by omega), List.length_cons]
    congr 2
    omega
theorem spec_hoAsked.f_val (n hole : Int) : spec_hoAsked.f n 7 hole = some (extOk n hole) := by
  unfold spec_hoAsked.f extOk
  rw [spec_l1In.f_val]
  simp only [Option.bind_some]
  by_cases h : 1 ≤ n ∧ n ≤ 7
  · rw [if_pos (by simp [h]), spec_l1In.f_val, wrap_in (by omega) (by omega)]
    simp [h]
  · rw [if_neg (by simpa using h), decide_eq_false (fun e => h ⟨e.1, e.2.1⟩)]
def countExtended (n hole : Int) : Int × Bool := if extOk n hole = true then (((extRows n hole).length : Int), true) else (0, false)
theorem impl_CountExtended.f_val (n hole : Int) : impl_CountExtended.f n hole = some (countExtended n hole) := by
  unfold impl_CountExtended.f countExtended
  by_cases h : extOk n hole = true
  · have := extRows_len h
    rw [extRun_exts h, foldE_count _ 0 (by omega), if_pos h, h]
    simp
  · rw [extRun, if_neg h, if_neg h]
    rw [Bool.not_eq_true] at h
    rw [h]
    rfl
theorem spec_CountExtended.f_val (n hole : Int) : spec_CountExtended.f n hole = some (countExtended n hole) := by
  unfold spec_CountExtended.f countExtended
  rw [spec_hoAsked.f_val]
  simp only [Option.bind_some]
  by_cases h : extOk n hole = true
  · have hd := of_decide_eq_true h
    have hs := seF_rows h 0 (by omega)
    rw [if_pos h, if_pos h, if_pos (by omega)]
    rw [show ((0 : Nat) : Int) = 0 from rfl] at hs
    rw [hs]
    rfl
  · rw [if_neg h, if_neg h]
end Go.Proofs.Ytaohgllnoomaeaa.Fn
namespace Go.Proofs.Ytaohgllnoomaeaa.Fn
open Go.RowKit Go.Proofs.YtaohgllnoomaeaaW.PrintWords Go.Proofs.YtaohgllnoomaeaaW.PrintLast Go.Proofs.YtaohgllnoomaeaaW.PrintMore
set_option linter.unusedVariables false
set_option linter.unusedSimpArgs false
theorem extsLoop_mem {rec : List Int → Nat → List (List Int)} {hole shift : Int} {row : List Int} {used a L : Nat} (hrec : ∀ row' used' x, row'.length = L → x ∈ rec row' used' → x.length = L) (hL : row.length = L) : ∀ (m : Nat) (n : Int) (x : List Int), x ∈ extsLoop rec hole shift row used a m n → x.length = L
  | 0, n, x, h => by simp [extsLoop] at h
  | m + 1, n, x, h => by
    rw [extsLoop] at h
    rcases List.mem_append.1 h with h | h
    · split at h
      · simp at h
      · exact hrec _ _ x (by simpa using hL) h
    · exact extsLoop_mem hrec hL m (n + 1) x h
theorem exts_mem (from_ : Int) (N : Nat) (shift hole : Int) : ∀ (k : Nat) (row : List Int) (used : Nat) (x : List Int), x ∈ exts from_ N shift hole k row used → x.length = row.length
  | 0, row, used, x, h => by simp [exts] at h
  | k + 1, row, used, x, h => by
    rw [exts] at h
    split at h
    · rw [List.mem_singleton.1 h]
    · exact extsLoop_mem (L := row.length) (fun row' used' x h1 h2 => (exts_mem from_ N shift hole k row' used' x h2).trans h1) rfl _ _ x h
theorem extRows_mem {n hole : Int} {x : List Int} (h : x ∈ extRows n hole) : x.length = 2 * n.toNat + 1 := by
  have := exts_mem _ _ _ _ _ _ _ _ h
  simpa using this
def firstExtended (n hole : Int) : List Int × Bool := if extOk n hole = true then (match extRows n hole with | [] => ([], false) | x :: _ => (x, true)) else ([], false)
theorem firstExtended_len (n hole : Int) : (firstExtended n hole).1.length ≤ 15 := by
  unfold firstExtended
  split
  · rename_i h
    have hd := of_decide_eq_true h
    have hm := fun x => extRows_mem (n := n) (hole := hole) (x := x)
    cases hL : extRows n hole with
    | nil => simp
    | cons x l =>
      have h5 : x.length = 2 * n.toNat + 1 := hm x (by rw [hL]; simp)
      show x.length ≤ 15
      omega
  · simp
theorem impl_FirstExtended.f_val (n hole : Int) : impl_FirstExtended.f n hole = some (firstExtended n hole) := by
  unfold impl_FirstExtended.f firstExtended
  by_cases h : extOk n hole = true
  · have hm := fun x => extRows_mem (n := n) (hole := hole) (x := x)
    rw [extRun_exts h, if_pos h]
    cases hL : extRows n hole with
    | nil => rfl
    | cons x l =>
      have h5 : x.length = 2 * n.toNat + 1 := hm x (by rw [hL]; simp)
      have e : decide ((0 : Int) < (x.length : Int)) = true := decide_eq_true (by omega)
      simp only [foldE, eachFirst, Option.bind_some, if_true, e]
  · rw [extRun, if_neg h, if_neg h]
    rfl
theorem spec_FirstExtended.f_val (n hole : Int) : spec_FirstExtended.f n hole = some (firstExtended n hole) := by
  unfold spec_FirstExtended.f firstExtended
  rw [spec_hoAsked.f_val]
  simp only [Option.bind_some]
  by_cases h : extOk n hole = true
  · have hd := of_decide_eq_true h
    have hs := seF_rows h 1 (by omega)
    rw [if_pos h, if_pos h, if_pos (by omega)]
    rw [show ((1 : Nat) : Int) = 1 from rfl] at hs
    rw [hs]
    cases extRows n hole with
    | nil => rfl
    | cons x l => simp [seFirstOf]
  · rw [if_neg h, if_neg h]
end Go.Proofs.Ytaohgllnoomaeaa.Fn
namespace Go.Proofs.Ytaohgllnoomaeaa.Fn
open Go.RowKit Go.Proofs.YtaohgllnoomaeaaW.PrintWords Go.Proofs.YtaohgllnoomaeaaW.PrintLast Go.Proofs.YtaohgllnoomaeaaW.PrintMore
set_option linter.unusedVariables false
set_option linter.unusedSimpArgs false
theorem foldE_all (most : Int) : ∀ (l xs : List (List Int)), ((xs.length + l.length : Nat) : Int) ≤ most → xs.length + l.length ≤ 1000000 → foldE (eachAll most) xs l = some (xs ++ l, false)
  | [], xs, h, h2 => by simp [foldE]
  | x :: l, xs, h, h2 => by
    have h' : ((xs.length + (l.length + 1) : Nat) : Int) ≤ most := by simpa using h
    have h2' : xs.length + (l.length + 1) ≤ 1000000 := by simpa using h2
    have e : decide (most < ((xs.length + 1 : Nat) : Int)) = false := decide_eq_false (by omega)
    simp only [foldE, eachAll]
    rw [if_pos (by omega)]
    simp only [Option.bind_some, e, Bool.false_eq_true, if_false]
    rw [foldE_all most l (xs ++ [x]) (by simp; omega) (by simp; omega)]
    simp
def allExtended (n hole : Int) : List (List Int) × Bool := if extOk n hole = true then (extRows n hole, true) else ([], false)
theorem impl_AllExtended.f_val (n hole : Int) : impl_AllExtended.f n hole = some (allExtended n hole) := by
  unfold impl_AllExtended.f allExtended
  by_cases h : extOk n hole = true
  · have hl := extRows_len h
    rw [extRun_exts h, foldE_all _ _ [] (by simp; omega) (by simp; omega), if_pos h, h]
    simp only [List.nil_append, Option.bind_some]
    rw [if_pos (by omega)]
  · rw [extRun, if_neg h, if_neg h]
    rw [Bool.not_eq_true] at h
    rw [h]
    rfl
theorem spec_AllExtended.f_val (n hole : Int) : spec_AllExtended.f n hole = some (allExtended n hole) := by
  unfold spec_AllExtended.f allExtended
  rw [spec_hoAsked.f_val]
  simp only [Option.bind_some]
  by_cases h : extOk n hole = true
  · have hd := of_decide_eq_true h
    have hl := extRows_len h
    have hs := seF_rows h 100000 (by omega)
    rw [if_pos h, if_pos h, if_pos (by omega)]
    rw [show ((100000 : Nat) : Int) = 100000 from rfl, List.take_of_length_le (by omega)] at hs
    rw [hs]
    rfl
  · rw [if_neg h, if_neg h]
end Go.Proofs.Ytaohgllnoomaeaa.Fn
namespace Go.Proofs.Ytaohgllnoomaeaa.Fn
open Go.RowKit Go.Proofs.YtaohgllnoomaeaaW.PrintWords Go.Proofs.YtaohgllnoomaeaaW.PrintLast Go.Proofs.YtaohgllnoomaeaaW.PrintMore
set_option linter.unusedVariables false
set_option linter.unusedSimpArgs false
/-- 0 + 1 + .. + (n - 1). -/
def tri : Nat → Int
  | 0 => 0
  | n + 1 => tri n + (n : Int)
theorem tri_four : ∀ q : Nat, tri (4 * q) % 2 = 0 ∧ tri (4 * q + 1) % 2 = 0 ∧ tri (4 * q + 2) % 2 = 1 ∧ tri (4 * q + 3) % 2 = 1
  | 0 => by simp [tri]
  | q + 1 => by
    obtain ⟨h0, h1, h2, h3⟩ := tri_four q
    have e : 4 * (q + 1) = 4 * q + 3 + 1 := by omega
    simp only [e, tri] at h0 h1 h2 h3 ⊢
    omega
theorem tri_even (n : Nat) : tri n % 2 = 0 ↔ n % 4 ≤ 1 := by
  obtain ⟨h0, h1, h2, h3⟩ := tri_four (n / 4)
  rcases (by omega : n % 4 = 0 ∨ n % 4 = 1 ∨ n % 4 = 2 ∨ n % 4 = 3) with h | h | h | h
  · rw [show 4 * (n / 4) = n from by omega] at h0
    omega
  · rw [show 4 * (n / 4) + 1 = n from by omega] at h1
    omega
  · rw [show 4 * (n / 4) + 2 = n from by omega] at h2
    omega
  · rw [show 4 * (n / 4) + 3 = n from by omega] at h3
    omega
theorem tri_odd (n : Nat) : tri n % 2 = 0 ∨ tri n % 2 = 1 := by omega
theorem tri_nonneg : ∀ n, 0 ≤ tri n
  | 0 => by simp [tri]
  | n + 1 => by
    have := tri_nonneg n
    simp only [tri]
    omega
theorem tri_add (a : Nat) : ∀ b : Nat, tri (a + b) = tri a + tri b + (a : Int) * b
  | 0 => by simp [tri]
  | b + 1 => by
    rw [← Nat.add_assoc, tri, tri, tri_add a b]
    push_cast
    rw [Int.mul_add]
    omega
/-- The sum of the places of all numbers, counted from i on. -/
def sumPos : Nat → List Int → Int
  | _, [] => 0
  | i, x :: l => (if x > 0 then (i : Int) else 0) + sumPos (i + 1) l
/-- The sum of the places of the numbers n, .., n + m - 1. -/
def placeSum (i : Nat) (l : List Int) : Nat → Nat → Int
  | 0, _ => 0
  | m + 1, n => (placesFrom (n : Int) i l).sum + placeSum i l m (n + 1)
theorem placeSum_nil (i : Nat) : ∀ m n, placeSum i [] m n = 0
  | 0, n => rfl
  | m + 1, n => by simp [placeSum, placesFrom, placeSum_nil i m]
theorem placeSum_cons (x : Int) (l : List Int) (i : Nat) : ∀ m n, placeSum i (x :: l) m n = (if (n : Int) ≤ x ∧ x < (n : Int) + m then (i : Int) else 0) + placeSum (i + 1) l m n
  | 0, n => by simp [placeSum]; omega
  | m + 1, n => by
    rw [placeSum, placeSum, placeSum_cons x l i m (n + 1), placesFrom]
    by_cases h : x = (n : Int)
    · subst h
      rw [if_pos rfl, if_neg (by omega), if_pos (by omega), List.sum_cons]
      omega
    · rw [if_neg h]
      by_cases h1 : (n : Int) ≤ x ∧ x < (n : Int) + (m + 1 : Nat)
      · rw [if_pos h1, if_pos (by omega)]
        omega
      · rw [if_neg h1, if_neg (by omega)]
        omega
theorem sumPos_eq : ∀ (l : List Int) (i : Nat), (∀ x ∈ l, 0 ≤ x ∧ x ≤ 20) → sumPos i l = placeSum i l 20 1
  | [], i, h => by rw [placeSum_nil, sumPos]
  | x :: l, i, h => by
    have hx := h x (by simp)
    rw [sumPos, placeSum_cons, sumPos_eq l (i + 1) (fun y hy => h y (by simp [hy]))]
    by_cases h0 : x > 0
    · rw [if_pos h0, if_pos (by omega)]
    · rw [if_neg h0, if_neg (by omega)]
theorem sumPos_holes : ∀ (l : List Int) (i : Nat), (∀ x ∈ l, 0 ≤ x) → sumPos i l + (placesFrom 0 i l).sum + tri i = tri (i + l.length)
  | [], i, h => by simp [sumPos, placesFrom]
  | x :: l, i, h => by
    have ih := sumPos_holes l (i + 1) (fun y hy => h y (by simp [hy]))
    have hx := h x (by simp)
    rw [sumPos, placesFrom, List.length_cons]
    have e : tri (i + 1) = tri i + (i : Int) := rfl
    rw [show i + 1 + l.length = i + (l.length + 1) from by omega, e] at ih
    by_cases h0 : x = 0
    · rw [if_pos h0, if_neg (by omega), List.sum_cons]
      omega
    · rw [if_neg h0, if_pos (by omega)]
      omega
/-- Both places of a number. -/
def firstOf (l : List Int) (v : Int) : Int := rd (placesOf l v) 0
def otherOf (l : List Int) (v : Int) : Int := rd (placesOf l v) 1
theorem two_places {l : List Int} {v : Int} (h : (placesOf l v).length = 2) : placesOf l v = [firstOf l v, otherOf l v] := by
  unfold firstOf otherOf
  match hp : placesOf l v, h with
  | [a, b], _ => rfl
theorem placeSum_numbers (l : List Int) (hk : ∀ k : Nat, l.count (k : Int) = 2 ∨ ¬ (k : Int) ∈ l ∨ k = 0) : ∀ m n, 0 < n → placeSum 0 l m n = ((numbersFrom l n m).map fun v => firstOf l v + otherOf l v).sum
  | 0, n, h => rfl
  | m + 1, n, h => by
    have ih := placeSum_numbers l hk m (n + 1) (by omega)
    have e : numbersFrom l n (m + 1) = (if (n : Int) ∈ l then [(n : Int)] else []) ++ numbersFrom l (n + 1) m := by
      unfold numbersFrom
      rw [List.range'_succ]
      by_cases hn : (n : Int) ∈ l <;> simp [hn]
    rw [placeSum, ih, e]
    by_cases hn : (n : Int) ∈ l
    · have h2 : (placesOf l (n : Int)).length = 2 := by
        rw [placesOf_count]
        rcases hk n with h1 | h1 | h1
        · exact h1
        · exact absurd hn h1
        · omega
      have e2 : placesFrom (n : Int) 0 l = [firstOf l n, otherOf l n] := two_places h2
      rw [if_pos hn, e2]
      simp
    · have h0 : placesFrom (n : Int) 0 l = [] := by
        apply List.eq_nil_of_length_eq_zero
        rw [placesFrom_count, List.count_eq_zero]
        exact hn
      rw [if_neg hn, h0]
      simp
theorem sumPos_numbers {l : List Int} (h : isPairs l = true) : sumPos 0 l = ((numbersOf l).map fun v => firstOf l v + otherOf l v).sum := by
  rw [sumPos_eq l 0 (fun x hx => isRow_mem (isPairs_row h) hx)]
  refine placeSum_numbers l (fun k => ?_) 20 1 (by omega)
  by_cases hk : (k : Int) ∈ l
  · by_cases h0 : k = 0
    · exact .inr (.inr h0)
    · have hm := isRow_mem (isPairs_row h) hk
      have := List.count_pos_iff.2 hk
      rcases pairsOk_count (isPairs_ok h) k (by omega) (by omega) with h1 | h1
      · omega
      · exact .inl h1
  · exact .inr (.inl hk)
theorem places_lt (n : Int) : ∀ (l : List Int) (i : Nat), ∀ x ∈ placesFrom n i l, (i : Int) ≤ x ∧ x < (i : Int) + l.length
  | [], i, x, h => by simp [placesFrom] at h
  | y :: l, i, x, h => by
    have ih := places_lt n l (i + 1) x
    rw [placesFrom] at h
    rw [List.length_cons]
    by_cases h0 : y = n
    · rw [if_pos h0] at h
      rcases List.mem_cons.1 h with rfl | h1
      · omega
      · have := ih h1
        omega
    · rw [if_neg h0] at h
      have := ih h
      omega
theorem first_bounds {l : List Int} {v : Int} (h : (placesOf l v).length = 2) : 0 ≤ firstOf l v ∧ firstOf l v < (l.length : Int) ∧ 0 ≤ otherOf l v ∧ otherOf l v < (l.length : Int) := by
  have e := two_places h
  have a := places_lt v l 0 (firstOf l v) (by rw [show placesFrom v 0 l = _ from e]; simp)
  have b := places_lt v l 0 (otherOf l v) (by rw [show placesFrom v 0 l = _ from e]; simp)
  omega
/-- In a pair row that fits a shift, the other place is the number and the shift behind the first one. -/
theorem fits_other {l : List Int} {s : Int} (hp : isPairs l = true) (hs : 0 ≤ s ∧ s ≤ 1) (h : fitsAt l s = true) {v : Int} (hv : v ∈ numbersOf l) : otherOf l v = firstOf l v + v + s := by
  obtain ⟨h1, h2, h3⟩ := (mem_numbersOf l v).1 hv
  rw [fitsAt_eq l s (isPairs_ok hp), List.all_eq_true] at h
  have g := h v hv
  have hc : (placesOf l v).length = 2 := numbersOf_two (isPairs_ok hp) hv
  have hb := first_bounds hc
  have hl := isRow_len (isPairs_row hp)
  rw [beq_iff_eq] at g
  unfold firstOf otherOf at *
  rw [wrap_in (by omega) (by omega), wrap_in (by omega) (by omega)] at g
  omega
theorem from_sum (k : Int) : ∀ (l : List Int) (i : Nat), fromOf k i l = true → l.sum + tri i = tri (i + l.length) + k * l.length
  | [], i, h => by simp
  | x :: l, i, h => by
    simp only [fromOf, Bool.and_eq_true, decide_eq_true_eq] at h
    have ih := from_sum k l (i + 1) h.2
    rw [show i + 1 + l.length = i + (l.length + 1) from by omega] at ih
    have e : tri (i + 1) = tri i + (i : Int) := rfl
    rw [e] at ih
    rw [List.sum_cons, List.length_cons, show ((l.length + 1 : Nat) : Int) = (l.length : Int) + 1 from rfl, Int.mul_add, Int.mul_one]
    omega
theorem sum_pairs {l : List Int} {s : Int} : ∀ (vs : List Int), (∀ v ∈ vs, otherOf l v = firstOf l v + v + s) → (vs.map fun v => firstOf l v + otherOf l v).sum = 2 * (vs.map (firstOf l)).sum + vs.sum + s * vs.length
  | [], h => by simp
  | v :: vs, h => by
    have ih := sum_pairs vs (fun x hx => h x (by simp [hx]))
    have hv := h v (by simp)
    rw [List.map_cons, List.sum_cons, ih, List.map_cons, List.sum_cons, List.sum_cons, List.length_cons, hv, show ((vs.length + 1 : Nat) : Int) = (vs.length : Int) + 1 from rfl, Int.mul_add s, Int.mul_one]
    omega
/-- All places of a row with the numbers from k on: the first ones twice, the numbers, the shifts and the holes. -/
theorem row_sum {l : List Int} {s k : Int} (hp : isPairs l = true) (hs : 0 ≤ s ∧ s ≤ 1) (h : fitsAt l s = true) (hf : fromOf k 0 (numbersOf l) = true) : 2 * ((numbersOf l).map (firstOf l)).sum + tri (numbersOf l).length + (k + s) * (numbersOf l).length + (placesOf l 0).sum = tri l.length := by
  have h1 := sumPos_holes l 0 (fun x hx => (isRow_mem (isPairs_row hp) hx).1)
  have h2 := sumPos_numbers hp
  have h3 := sum_pairs (l := l) (s := s) (numbersOf l) (fun v hv => fits_other hp hs h hv)
  have h4 := from_sum k (numbersOf l) 0 hf
  rw [h2, h3] at h1
  simp only [tri, Nat.zero_add] at h1 h4
  unfold placesOf
  rw [Int.add_mul]
  omega
theorem row_parity {l : List Int} {s k : Int} (hp : isPairs l = true) (hs : 0 ≤ s ∧ s ≤ 1) (h : fitsAt l s = true) (hf : fromOf k 0 (numbersOf l) = true) : (tri (numbersOf l).length + (k + s) * (numbersOf l).length + (placesOf l 0).sum) % 2 = tri l.length % 2 := by
  have := row_sum hp hs h hf
  omega
end Go.Proofs.Ytaohgllnoomaeaa.Fn
namespace Go.Proofs.Ytaohgllnoomaeaa.Fn
open Go.RowKit Go.Proofs.YtaohgllnoomaeaaW.PrintWords Go.Proofs.YtaohgllnoomaeaaW.PrintLast Go.Proofs.YtaohgllnoomaeaaW.PrintMore
set_option linter.unusedVariables false
set_option linter.unusedSimpArgs false
theorem rd_of (l : List Int) (i : Nat) (h : i < l.length) : rd l (i : Int) = l[i] := rd_nat l i h
theorem mem_placesFrom (n : Int) : ∀ (l : List Int) (i : Nat) (p : Int), p ∈ placesFrom n i l ↔ ∃ j : Nat, ∃ h : j < l.length, p = ((i + j : Nat) : Int) ∧ l[j] = n
  | [], i, p => by simp [placesFrom]
  | x :: l, i, p => by
    have ih := mem_placesFrom n l (i + 1) p
    rw [placesFrom]
    have hs : (∃ j : Nat, ∃ h : j < (x :: l).length, p = ((i + j : Nat) : Int) ∧ (x :: l)[j] = n) ↔ (p = (i : Int) ∧ x = n) ∨ ∃ j : Nat, ∃ h : j < l.length, p = ((i + 1 + j : Nat) : Int) ∧ l[j] = n := by
      constructor
      · rintro ⟨j, h, e, g⟩
        cases j with
        | zero => exact .inl ⟨by simpa using e, by simpa using g⟩
        | succ j => exact .inr ⟨j, by simpa using h, by rw [e]; congr 1; omega, by simpa using g⟩
      · rintro (⟨e, g⟩ | ⟨j, h, e, g⟩)
        · exact ⟨0, by simp, by simpa using e, by simpa using g⟩
        · exact ⟨j + 1, by simpa using h, by rw [e]; congr 1; omega, by simpa using g⟩
    rw [hs]
    by_cases h0 : x = n
    · rw [if_pos h0, List.mem_cons, ih]
      simp [h0]
    · rw [if_neg h0, ih]
      simp [h0]
theorem mem_placesOf (l : List Int) (n p : Int) : p ∈ placesOf l n ↔ 0 ≤ p ∧ p < (l.length : Int) ∧ rd l p = n := by
  unfold placesOf
  rw [mem_placesFrom]
  constructor
  · rintro ⟨j, h, rfl, g⟩
    rw [Nat.zero_add, rd_nat l j h]
    exact ⟨by omega, by omega, g⟩
  · rintro ⟨h0, h1, h2⟩
    have h3 : p.toNat < l.length := by omega
    refine ⟨p.toNat, h3, by omega, ?_⟩
    rw [← rd_nat l p.toNat h3, Int.toNat_of_nonneg h0, h2]
theorem places_sorted (n : Int) : ∀ (l : List Int) (i : Nat), (placesFrom n i l).Pairwise (· < ·)
  | [], i => by simp [placesFrom]
  | x :: l, i => by
    rw [placesFrom]
    by_cases h0 : x = n
    · rw [if_pos h0, List.pairwise_cons]
      exact ⟨fun p hp => by have := places_lt n l (i + 1) p hp; omega, places_sorted n l (i + 1)⟩
    · rw [if_neg h0]
      exact places_sorted n l (i + 1)
theorem first_lt {l : List Int} {v : Int} (h : (placesOf l v).length = 2) : firstOf l v < otherOf l v := by
  have e := two_places h
  have := places_sorted v l 0
  rw [show placesFrom v 0 l = _ from e] at this
  simpa using this
/-- A number that stands twice stands at its two places and nowhere else. -/
theorem rd_places {l : List Int} {v : Int} (h : (placesOf l v).length = 2) (p : Int) (h0 : 0 ≤ p) (h1 : p < (l.length : Int)) : rd l p = v ↔ p = firstOf l v ∨ p = otherOf l v := by
  have g := mem_placesOf l v p
  rw [two_places h] at g
  simp only [List.mem_cons, List.not_mem_nil, or_false] at g
  rw [g]
  exact ⟨fun e => ⟨h0, h1, e⟩, fun e => e.2.2⟩
theorem places_back (n : Int) : ∀ (l : List Int) (i : Nat), placesFrom n 0 l.reverse = ((placesFrom n i l).map (fun p => (i : Int) + l.length - 1 - p)).reverse
  | [], i => by simp [placesFrom]
  | x :: l, i => by
    rw [List.reverse_cons, placesFrom_snoc, places_back n l (i + 1), placesFrom, List.length_reverse, Nat.zero_add]
    have e : (fun p : Int => ((i + 1 : Nat) : Int) + l.length - 1 - p) = fun p : Int => (i : Int) + (x :: l).length - 1 - p := by
      funext p
      rw [List.length_cons]
      omega
    rw [e]
    by_cases h0 : x = n
    · rw [if_pos h0, if_pos h0, List.map_cons, List.reverse_cons]
      congr 2
      rw [List.length_cons]
      omega
    · rw [if_neg h0, if_neg h0, List.append_nil]
theorem back_places (l : List Int) (n : Int) : placesOf l.reverse n = ((placesOf l n).map (fun p => (l.length : Int) - 1 - p)).reverse := by
  unfold placesOf
  rw [places_back n l 0]
  simp
theorem back_two {l : List Int} {v : Int} (h : (placesOf l v).length = 2) : firstOf l.reverse v = (l.length : Int) - 1 - otherOf l v ∧ otherOf l.reverse v = (l.length : Int) - 1 - firstOf l v := by
  have e := back_places l v
  rw [two_places h] at e
  unfold firstOf otherOf at *
  rw [e]
  exact ⟨rfl, rfl⟩
theorem isRow_back (l : List Int) : isRow l.reverse = isRow l := by
  unfold isRow
  rw [List.length_reverse, List.all_reverse]
theorem isPairs_back (l : List Int) : isPairs l.reverse = isPairs l := by
  unfold isPairs
  rw [isRow_back, pairsOk_eq, pairsOk_eq]
  simp only [placesOf_count, List.count_reverse]
theorem numbersOf_back (l : List Int) : numbersOf l.reverse = numbersOf l := by
  unfold numbersOf numbersFrom
  simp only [List.mem_reverse]
/-- The pairs of a row: each number with both of its places. -/
def pairsOf (l : List Int) : List (List Int) := (numbersOf l).map fun v => v :: placesOf l v
theorem pairsOf_eq {l : List Int} (h : isPairs l = true) : pairsOf l = (numbersOf l).map fun v => [v, firstOf l v, otherOf l v] := by
  unfold pairsOf
  refine List.map_congr_left fun v hv => ?_
  rw [two_places (numbersOf_two (isPairs_ok h) hv)]
/-- One pair is put into a row; none where it does not fit. -/
def putPair (out p : List Int) : Option (List Int) :=
  if p.length = 3 ∧ (1 ≤ rd p 0 ∧ rd p 0 ≤ 20) ∧ ¬ rd p 0 ∈ out ∧ 0 ≤ rd p 1 ∧ rd p 2 < (out.length : Int) ∧ rd p 1 < rd p 2 ∧ rd out (rd p 1) = 0 ∧ rd out (rd p 2) = 0 then some ((out.set (rd p 1).toNat (rd p 0)).set (rd p 2).toNat (rd p 0)) else none
theorem putPair_length {out p r : List Int} (h : putPair out p = some r) : r.length = out.length := by
  unfold putPair at h
  split at h
  · cases h
    simp
  · cases h
def putPairs : List Int → List (List Int) → Option (List Int)
  | out, [] => some out
  | out, p :: ps => (putPair out p).bind fun r => putPairs r ps
theorem putPairs_length : ∀ {ps : List (List Int)} {out r : List Int}, putPairs out ps = some r → r.length = out.length
  | [], out, r, h => by cases h; rfl
  | p :: ps, out, r, h => by
    rw [putPairs] at h
    obtain ⟨x, hx, hr⟩ := Option.bind_eq_some_iff.1 h
    rw [putPairs_length hr, putPair_length hx]
/-- A row with only some of its numbers. -/
def onlyOf (l vs : List Int) : List Int := l.map fun x => if x ∈ vs then x else 0
theorem onlyOf_length (l vs : List Int) : (onlyOf l vs).length = l.length := by simp [onlyOf]
theorem onlyOf_rd (l vs : List Int) (p : Int) (h0 : 0 ≤ p) (h1 : p < (l.length : Int)) : rd (onlyOf l vs) p = if rd l p ∈ vs then rd l p else 0 := by
  obtain ⟨i, rfl⟩ : ∃ i : Nat, p = i := ⟨p.toNat, by omega⟩
  have h : i < l.length := by omega
  rw [rd_nat _ i (by rw [onlyOf_length]; exact h), rd_nat l i h]
  simp [onlyOf]
theorem onlyOf_put {l vs : List Int} {v : Int} (h : (placesOf l v).length = 2) : ((onlyOf l vs).set (firstOf l v).toNat v).set (otherOf l v).toNat v = onlyOf l (vs ++ [v]) := by
  have hb := first_bounds h
  apply List.ext_getElem
  · simp [onlyOf]
  · intro i h1 h2
    have hi : i < l.length := by simpa [onlyOf] using h2
    have g := rd_places h (i : Int) (by omega) (by omega)
    rw [rd_nat l i hi] at g
    simp only [List.getElem_set, onlyOf, List.getElem_map, List.mem_append, List.mem_cons, List.not_mem_nil, or_false]
    by_cases e : l[i] = v
    · rw [if_pos (show l[i] ∈ vs ∨ l[i] = v from .inr e), e]
      rcases g.1 e with h3 | h3
      · by_cases h4 : (otherOf l v).toNat = i
        · rw [if_pos h4]
        · rw [if_neg h4, if_pos (by omega)]
      · rw [if_pos (by omega)]
    · have h3 : ¬ ((i : Int) = firstOf l v ∨ (i : Int) = otherOf l v) := fun h => e (g.2 h)
      rw [if_neg (by omega), if_neg (by omega)]
      simp [e]
theorem putPairs_row {l : List Int} (hp : isPairs l = true) : ∀ (ws vs : List Int), (∀ v ∈ ws, v ∈ numbersOf l) → (vs ++ ws).Nodup → putPairs (onlyOf l vs) (ws.map fun v => [v, firstOf l v, otherOf l v]) = some (onlyOf l (vs ++ ws))
  | [], vs, h, hn => by simp [putPairs]
  | v :: ws, vs, h, hn => by
    have hv := h v (by simp)
    have h2 := numbersOf_two (isPairs_ok hp) hv
    have hb := first_bounds h2
    have hl := first_lt h2
    obtain ⟨m1, m2, m3⟩ := (mem_numbersOf l v).1 hv
    have hvs : ¬ v ∈ vs := fun hx => by
      have := (List.nodup_append.1 hn).2.2 v hx v (by simp)
      exact this rfl
    have e1 : rd l (firstOf l v) = v := (rd_places h2 _ hb.1 hb.2.1).2 (.inl rfl)
    have e2 : rd l (otherOf l v) = v := (rd_places h2 _ hb.2.2.1 hb.2.2.2).2 (.inr rfl)
    have e : putPair (onlyOf l vs) [v, firstOf l v, otherOf l v] = some (onlyOf l (vs ++ [v])) := by
      unfold putPair
      have r0 : rd [v, firstOf l v, otherOf l v] 0 = v := rfl
      have r1 : rd [v, firstOf l v, otherOf l v] 1 = firstOf l v := rfl
      have r2 : rd [v, firstOf l v, otherOf l v] 2 = otherOf l v := rfl
      rw [r0, r1, r2, if_pos, onlyOf_put h2]
      refine ⟨rfl, ⟨m2, m3⟩, ?_, hb.1, by rw [onlyOf_length]; exact hb.2.2.2, hl, ?_, ?_⟩
      · intro hx
        obtain ⟨x, hx1, hx2⟩ := List.mem_map.1 hx
        by_cases hxv : x ∈ vs
        · rw [if_pos hxv] at hx2
          exact hvs (hx2 ▸ hxv)
        · rw [if_neg hxv] at hx2
          omega
      · rw [onlyOf_rd l vs _ hb.1 hb.2.1, e1, if_neg hvs]
      · rw [onlyOf_rd l vs _ hb.2.2.1 hb.2.2.2, e2, if_neg hvs]
    have ih := putPairs_row hp ws (vs ++ [v]) (fun x hx => h x (by simp [hx])) (by simpa using hn)
    rw [List.map_cons, putPairs, e]
    simp only [Option.bind_some]
    rw [ih]
    simp
theorem onlyOf_nil (l : List Int) : onlyOf l [] = List.replicate l.length 0 := by
  unfold onlyOf
  simp [List.map_const']
theorem onlyOf_all {l : List Int} (hp : isPairs l = true) : onlyOf l (numbersOf l) = l := by
  unfold onlyOf
  conv => rhs; rw [← List.map_id l]
  refine List.map_congr_left fun x hx => ?_
  have h1 := isRow_mem (isPairs_row hp) hx
  by_cases h : x ∈ numbersOf l
  · rw [if_pos h]; rfl
  · rw [if_neg h]
    have : ¬ (1 ≤ x ∧ x ≤ 20) := fun h2 => h ((mem_numbersOf l x).2 ⟨hx, h2.1, h2.2⟩)
    show (0 : Int) = x
    omega
theorem numbersOf_nodup (l : List Int) : (numbersOf l).Nodup := by
  have := numbersOf_sorted l
  exact this.imp (fun h => by omega)
/-- The pairs of a row tell the row. -/
theorem putPairs_pairsOf {l : List Int} (hp : isPairs l = true) : putPairs (List.replicate l.length 0) (pairsOf l) = some l := by
  rw [pairsOf_eq hp, ← onlyOf_nil]
  have := putPairs_row hp (numbersOf l) [] (fun v hv => hv) (by simpa using numbersOf_nodup l)
  rw [this, List.nil_append, onlyOf_all hp]
end Go.Proofs.Ytaohgllnoomaeaa.Fn
namespace Go.Proofs.Ytaohgllnoomaeaa.Fn
open Go.RowKit Go.Proofs.YtaohgllnoomaeaaW.PrintWords Go.Proofs.YtaohgllnoomaeaaW.PrintLast Go.Proofs.YtaohgllnoomaeaaW.PrintMore
set_option linter.unusedVariables false
set_option linter.unusedSimpArgs false
/-- A row that is filled in part. -/
structure PartRow (from_ : Int) (N : Nat) (s hole : Int) (row : List Int) (used : Nat) : Prop where
  zero : ∀ j : Nat, (j : Int) = hole → rd row j = 0
  rng : ∀ j : Nat, j < row.length → rd row j = 0 ∨ (from_ ≤ rd row j ∧ rd row j < from_ + N)
  off : ∀ i : Nat, i < N → used.testBit (from_.toNat + i) = false → ∀ j : Nat, j < row.length → rd row j ≠ from_ + i
  on : ∀ i : Nat, i < N → used.testBit (from_.toNat + i) = true → ∃ a : Nat, (a : Int) + (from_ + i) + s < row.length ∧ ∀ j : Nat, j < row.length → (rd row j = from_ + i ↔ (j = a ∨ (j : Int) = a + (from_ + i) + s))
/-- A row that is filled: each number has its two places, and there is no other hole. -/
structure GoodRow (from_ : Int) (N : Nat) (s hole : Int) (p : Nat) (r : List Int) : Prop where
  len : r.length = p
  zero : ∀ j : Nat, (j : Int) = hole → rd r j = 0
  rng : ∀ j : Nat, j < p → (j : Int) ≠ hole → from_ ≤ rd r j ∧ rd r j < from_ + N
  on : ∀ i : Nat, i < N → ∃ a : Nat, (a : Int) + (from_ + i) + s < p ∧ ∀ j : Nat, j < p → (rd r j = from_ + i ↔ (j = a ∨ (j : Int) = a + (from_ + i) + s))
theorem rd_out (l : List Int) (j : Nat) (h : l.length ≤ j) : rd l j = 0 := by
  unfold rd
  rw [Int.toNat_natCast, List.getD_eq_getElem?_getD, List.getElem?_eq_none h]
  rfl
theorem unset_none {used : Nat} : ∀ (m b : Nat), unset used b m = 0 → ∀ i, i < m → used.testBit (b + i) = true
  | 0, b, h, i, hi => by omega
  | m + 1, b, h, i, hi => by
    rw [unset] at h
    by_cases e : used.testBit b = true
    · rw [if_pos e] at h
      cases i with
      | zero => simpa using e
      | succ i =>
        have := unset_none (used := used) m (b + 1) (by omega) i (by omega)
        rw [show b + (i + 1) = b + 1 + i from by omega]
        exact this
    · rw [if_neg e] at h
      omega
theorem count_set1 {r : List Int} {a : Nat} {n : Int} (ha : a < r.length) (h0 : rd r a = -1) (hn : n ≠ -1) : (r.set a n).count (-1) + 1 = r.count (-1) := by
  have hmem : (-1 : Int) ∈ r := by
    rw [rd_nat r a ha] at h0
    rw [← h0]
    exact List.getElem_mem ha
  have hpos := List.count_pos_iff.2 hmem
  have h1 : (r.set a n).count (-1) = r.count (-1) - 1 := by
    rw [List.count_set ha]
    rw [rd_nat r a ha] at h0
    simp [h0, hn]
  omega
theorem freeH_none {hole : Int} {row : List Int} (hp : ∀ j : Nat, j < row.length → 0 ≤ rd row j) (h : seAt hole row = row.length) : (freeH hole row).count (-1) = 0 := by
  rw [List.count_eq_zero, freeH_full h]
  intro hm
  obtain ⟨j, hj, e⟩ := List.getElem_of_mem hm
  have := hp j hj
  rw [rd_nat row j hj, e] at this
  omega
/-- A number is put at two places. -/
theorem PartRow.put {from_ : Int} {N : Nat} {s hole : Int} {row : List Int} {used a i t : Nat} (hf : 1 ≤ from_) (hs : 0 ≤ s) (h : PartRow from_ N s hole row used) (hi : i < N) (hu : used.testBit (from_.toNat + i) = false) (ha : a < row.length) (ht : (t : Int) = a + (from_ + i) + s) (htl : t < row.length) (h0 : rd row a = 0) (h1 : rd row t = 0) (hah : (a : Int) ≠ hole) (hth : (t : Int) ≠ hole) :
    PartRow from_ N s hole ((row.set a (from_ + i)).set t (from_ + i)) (used ||| 2 ^ (from_.toNat + i)) := by
  have hr : ∀ j : Nat, j < row.length → rd ((row.set a (from_ + i)).set t (from_ + i)) j = if t = j then from_ + (i : Int) else if a = j then from_ + (i : Int) else rd row j := fun j hj => by
    rw [rd_set _ _ _ _ (by simpa using hj), rd_set _ _ _ _ hj]
  have hlen : ((row.set a (from_ + (i : Int))).set t (from_ + (i : Int))).length = row.length := by simp
  refine ⟨fun j hj => ?_, fun j hj => ?_, fun i' hi' hu' j hj => ?_, fun i' hi' hu' => ?_⟩
  · rcases Nat.lt_or_ge j row.length with hl | hl
    · rw [hr j hl, if_neg (by omega), if_neg (by omega)]
      exact h.zero j hj
    · exact rd_out _ _ (by rw [hlen]; exact hl)
  · rw [hlen] at hj
    rw [hr j hj]
    by_cases e : t = j
    · rw [if_pos e]
      exact .inr (by omega)
    · rw [if_neg e]
      by_cases e2 : a = j
      · rw [if_pos e2]
        exact .inr (by omega)
      · rw [if_neg e2]
        exact h.rng j hj
  · rw [hlen] at hj
    rw [Nat.testBit_or, Bool.or_eq_false_iff, Nat.testBit_two_pow] at hu'
    have hne : i' ≠ i := fun e => by simp [e] at hu'
    have := h.off i' hi' hu'.1 j hj
    rw [hr j hj]
    split
    · omega
    · split
      · omega
      · exact this
  · rw [hlen]
    by_cases hii : i' = i
    · subst hii
      refine ⟨a, by omega, fun j hj => ?_⟩
      rw [hr j hj]
      have := h.off i' hi' hu j hj
      by_cases e : t = j
      · rw [if_pos e]
        exact ⟨fun _ => .inr (by omega), fun _ => rfl⟩
      · rw [if_neg e]
        by_cases e2 : a = j
        · rw [if_pos e2]
          exact ⟨fun _ => .inl e2.symm, fun _ => rfl⟩
        · rw [if_neg e2]
          exact ⟨fun hx => absurd hx this, fun hx => by omega⟩
    · have hu2 : used.testBit (from_.toNat + i') = true := by
        rw [Nat.testBit_or, Nat.testBit_two_pow, decide_eq_false (show ¬ (from_.toNat + i = from_.toNat + i') from by omega), Bool.or_false] at hu'
        exact hu'
      obtain ⟨a', ha', hx⟩ := h.on i' hi' hu2
      refine ⟨a', ha', fun j hj => ?_⟩
      rw [hr j hj, ← hx j hj]
      by_cases e : t = j
      · subst e
        rw [if_pos rfl, h1]
        omega
      · rw [if_neg e]
        by_cases e2 : a = j
        · subst e2
          rw [if_pos rfl, h0]
          omega
        · rw [if_neg e2]
/-- Entries that are filled stay. -/
def Keeps (row x : List Int) : Prop := x.length = row.length ∧ ∀ j : Nat, rd row j ≠ 0 → rd x j = rd row j
theorem Keeps.set {row x : List Int} {a t : Nat} {n : Int} (h0 : rd row a = 0) (h1 : rd row t = 0) (hn : n ≠ 0) (h : Keeps ((row.set a n).set t n) x) : Keeps row x := by
  refine ⟨by simpa using h.1, fun j hj => ?_⟩
  have hl : j < row.length := by
    rcases Nat.lt_or_ge j row.length with hl | hl
    · exact hl
    · exact absurd (rd_out _ _ hl) hj
  have hr : rd ((row.set a n).set t n) j = rd row j := by
    rw [rd_set _ _ _ _ (by simpa using hl), rd_set _ _ _ _ hl, if_neg (fun e => hj (by rw [← e]; exact h1)), if_neg (fun e => hj (by rw [← e]; exact h0))]
  rw [h.2 j (by rw [hr]; exact hj), hr]
/-- What is found is of the kind. -/
theorem extsLoop_sound {from_ : Int} {N : Nat} {s hole : Int} {row : List Int} {used : Nat} {Q : List Int → Prop} (hf : 1 ≤ from_) (hs : 0 ≤ s) (h : PartRow from_ N s hole row used) (ha : seAt hole row < row.length)
    (rec : List Int → Nat → List (List Int)) (hrec : ∀ i : Nat, i < N → ∀ t : Nat, (t : Int) = (seAt hole row : Nat) + (from_ + i) + s → used.testBit (from_.toNat + i) = false → t < row.length → (t : Int) ≠ hole → rd row t = 0 → ∀ x ∈ rec ((row.set (seAt hole row) (from_ + i)).set t (from_ + i)) (used ||| 2 ^ (from_.toNat + i)), Q x) : ∀ (m i : Nat), i + m = N → ∀ x ∈ extsLoop rec hole s row used (seAt hole row) m (from_ + (i : Int)), Q x
  | 0, i, hm, x, hx => by simp [extsLoop] at hx
  | m + 1, i, hm, x, hx => by
    rw [extsLoop] at hx
    rcases List.mem_append.1 hx with hx | hx
    · split at hx
      · simp at hx
      · rename_i hp
        have e1 : (from_ + (i : Int)).toNat = from_.toNat + i := by omega
        simp only [not_or, e1] at hp
        have ht : 0 ≤ ((seAt hole row : Nat) : Int) + (from_ + i) + s := by omega
        rw [e1] at hx
        refine hrec i (by omega) (((seAt hole row : Nat) : Int) + (from_ + i) + s).toNat (by omega) (by simpa using hp.1) (by omega) (by omega) ?_ x hx
        rw [Int.toNat_of_nonneg ht]
        exact Decidable.not_not.1 hp.2.2.2
    · have e : from_ + (i : Int) + 1 = from_ + ((i + 1 : Nat) : Int) := by omega
      rw [e] at hx
      exact extsLoop_sound hf hs h ha rec hrec m (i + 1) (by omega) x hx
theorem exts_sound {from_ : Int} {N : Nat} {s hole : Int} {p : Nat} (hf : 1 ≤ from_) (hs : 0 ≤ s) : ∀ (k : Nat) (row : List Int) (used : Nat), row.length = p → PartRow from_ N s hole row used → (freeH hole row).count (-1) = 2 * unset used from_.toNat N → ∀ x ∈ exts from_ N s hole k row used, GoodRow from_ N s hole p x ∧ Keeps row x
  | 0, row, used, hl, h, hc, x, hx => by simp [exts] at hx
  | k + 1, row, used, hl, h, hc, x, hx => by
    have hsp := seAt_spec hole row
    have hpos : ∀ j : Nat, j < row.length → 0 ≤ rd row j := fun j hj => by rcases h.rng j hj with h1 | h1 <;> omega
    rw [exts] at hx
    split at hx
    · rename_i hfull
      rw [List.mem_singleton] at hx
      subst hx
      have hc0 := freeH_none hpos hfull
      have hall := unset_none (used := used) N from_.toNat (by omega)
      refine ⟨⟨hl, h.zero, fun j hj hjh => ?_, fun i hi => ?_⟩, rfl, fun j hj => rfl⟩
      · rcases hsp.2.1 j (by omega) with h1 | h1
        · rcases h.rng j (by omega) with h2 | h2
          · exact absurd h2 h1
          · exact h2
        · exact absurd h1 hjh
      · obtain ⟨a, ha, hx⟩ := h.on i hi (hall i hi)
        exact ⟨a, by omega, fun j hj => hx j (by omega)⟩
    · rename_i hfull
      have ha : seAt hole row < row.length := by omega
      have h0 := hsp.2.2 ha
      refine extsLoop_sound (Q := fun x => GoodRow from_ N s hole p x ∧ Keeps row x) hf hs h ha _ (fun i hi t ht hu htl hth hrt x hx => ?_) N 0 (by omega) x (by simpa using hx)
      have hput := h.put hf hs hi hu ha ht htl h0.1 hrt h0.2 hth
      have hcnt : (freeH hole ((row.set (seAt hole row) (from_ + i)).set t (from_ + i))).count (-1) = 2 * unset (used ||| 2 ^ (from_.toNat + i)) from_.toNat N := by
        have hn0 : from_ + (i : Int) ≠ 0 := by omega
        have hn1 : from_ + (i : Int) ≠ -1 := by omega
        have c1 := count_set1 (r := freeH hole row) (a := seAt hole row) (n := from_ + i) (by rw [freeH_len]; exact ha) (by rw [freeH_rd _ ha, if_pos h0]) hn1
        have hne : seAt hole row ≠ t := by omega
        have c2 := count_set1 (r := freeH hole (row.set (seAt hole row) (from_ + i))) (a := t) (n := from_ + i) (by rw [freeH_len]; simpa using htl) (by
          rw [freeH_rd _ (by simpa using htl), rd_set _ _ _ _ htl, if_neg hne, if_pos ⟨hrt, hth⟩]) hn1
        rw [freeH_set hn0] at c1 c2
        have c3 := unset_or hu N from_.toNat (by omega) (by omega)
        omega
      have ih := exts_sound hf hs k _ _ (by simpa using hl) hput hcnt x hx
      exact ⟨ih.1, ih.2.set h0.1 hrt (by omega)⟩
theorem extsLoop_has {rec : List Int → Nat → List (List Int)} {hole s : Int} {row : List Int} {used a : Nat} {from_ : Int} {i : Nat} {x : List Int} (hp : ¬ sePassed hole row used (from_ + (i : Int)) ((a : Int) + (from_ + (i : Int)) + s)) (hx : x ∈ rec ((row.set a (from_ + (i : Int))).set ((a : Int) + (from_ + (i : Int)) + s).toNat (from_ + (i : Int))) (used ||| 2 ^ (from_ + (i : Int)).toNat)) : ∀ (m i0 : Nat), i0 ≤ i → i < i0 + m → x ∈ extsLoop rec hole s row used a m (from_ + (i0 : Int))
  | 0, i0, h1, h2 => by omega
  | m + 1, i0, h1, h2 => by
    rw [extsLoop, List.mem_append]
    by_cases e : i0 = i
    · subst e
      rw [if_neg hp]
      exact .inl hx
    · have e2 : from_ + (i0 : Int) + 1 = from_ + ((i0 + 1 : Nat) : Int) := by omega
      rw [e2]
      exact .inr (extsLoop_has hp hx m (i0 + 1) (by omega) (by omega))
/-- Each row of the kind is found. -/
theorem exts_complete {from_ : Int} {N : Nat} {s hole : Int} {p : Nat} (hf : 1 ≤ from_) (hs : 0 ≤ s) {r : List Int} (hr : GoodRow from_ N s hole p r) : ∀ (k : Nat) (row : List Int) (used : Nat), row.length = p → PartRow from_ N s hole row used → Keeps row r → (freeH hole row).count (-1) < k → r ∈ exts from_ N s hole k row used
  | 0, row, used, hl, h, hk, hc => by omega
  | k + 1, row, used, hl, h, hk, hc => by
    have hsp := seAt_spec hole row
    rw [exts]
    split
    · rename_i hfull
      rw [List.mem_singleton]
      refine ext_rd (hr.len.trans hl.symm) (fun j hj => ?_)
      rw [hr.len] at hj
      by_cases h0 : rd row j = 0
      · rcases hsp.2.1 j (by omega) with h1 | h1
        · exact absurd h0 h1
        · rw [h0, hr.zero j h1]
      · exact hk.2 j h0
    · rename_i hfull
      have ha : seAt hole row < row.length := by omega
      have h0 := hsp.2.2 ha
      generalize hav : seAt hole row = a at *
      have hv := hr.rng a (by omega) h0.2
      obtain ⟨i, hi⟩ : ∃ i : Nat, rd r a = from_ + (i : Int) := ⟨(rd r a - from_).toNat, by omega⟩
      have hiN : i < N := by omega
      obtain ⟨b, hb, hbx⟩ := hr.on i hiN
      have hu : used.testBit (from_.toNat + i) = false := by
        by_cases hu : used.testBit (from_.toNat + i) = true
        · exfalso
          obtain ⟨c, hc2, hcx⟩ := h.on i hiN hu
          have g1 : rd row c = from_ + (i : Int) := (hcx c (by omega)).2 (.inl rfl)
          have g2 : rd row ((c : Int) + (from_ + i) + s) = from_ + (i : Int) := by
            have := (hcx ((c : Int) + (from_ + i) + s).toNat (by omega)).2 (.inr (by omega))
            rwa [Int.toNat_of_nonneg (by omega)] at this
          have k1 := hk.2 c (by omega)
          have k2 := hk.2 ((c : Int) + (from_ + i) + s).toNat (by rw [Int.toNat_of_nonneg (by omega)]; omega)
          rw [Int.toNat_of_nonneg (by omega)] at k2
          have q1 := (hbx c (by omega)).1 (by omega)
          have q2 := (hbx ((c : Int) + (from_ + i) + s).toNat (by omega)).1 (by rw [Int.toNat_of_nonneg (by omega)]; omega)
          have q3 := (hbx a (by omega)).1 hi
          have hac : a = c ∨ (a : Int) = c + (from_ + i) + s := by omega
          have := (hcx a (by omega)).2 hac
          omega
        · simpa using hu
      have hoff := h.off i hiN hu
      have hba : b = a := by
        rcases (hbx a (by omega)).1 hi with e | e
        · exact e.symm
        · exfalso
          have hbr : rd r b = from_ + (i : Int) := (hbx b (by omega)).2 (.inl rfl)
          rcases hsp.2.1 b (by omega) with h1 | h1
          · have := hk.2 b h1
            exact hoff b (by omega) (by omega)
          · have := hr.zero b h1
            omega
      subst hba
      obtain ⟨t, ht⟩ : ∃ t : Nat, (t : Int) = (b : Int) + (from_ + i) + s := ⟨((b : Int) + (from_ + i) + s).toNat, by omega⟩
      have htr : rd r t = from_ + (i : Int) := (hbx t (by omega)).2 (.inr ht)
      have ht0 : rd row t = 0 := by
        by_cases e : rd row t = 0
        · exact e
        · have := hk.2 t e
          exact absurd (this.symm.trans htr) (hoff t (by omega))
      have hth : (t : Int) ≠ hole := fun e => by have := hr.zero t e; omega
      have hn0 : from_ + (i : Int) ≠ 0 := by omega
      have hn1 : from_ + (i : Int) ≠ -1 := by omega
      have e1 : (from_ + (i : Int)).toNat = from_.toNat + i := by omega
      have hput := h.put hf hs hiN hu ha ht (by omega) h0.1 ht0 h0.2 hth
      have hkeep : Keeps ((row.set b (from_ + i)).set t (from_ + i)) r := by
        refine ⟨by simp [hr.len, hl], fun j hj => ?_⟩
        have hjl : j < row.length := by
          rcases Nat.lt_or_ge j row.length with hjl | hjl
          · exact hjl
          · exact absurd (rd_out _ _ (by simpa using hjl)) hj
        rw [rd_set _ _ _ _ (by simpa using hjl), rd_set _ _ _ _ hjl] at hj ⊢
        by_cases e : t = j
        · subst e
          rw [if_pos rfl]
          exact htr
        · rw [if_neg e] at hj ⊢
          by_cases e2 : b = j
          · subst e2
            rw [if_pos rfl]
            exact hi
          · rw [if_neg e2] at hj ⊢
            exact hk.2 j hj
      have hcnt : (freeH hole ((row.set b (from_ + i)).set t (from_ + i))).count (-1) < k := by
        have hrow : rd (freeH hole row) b = -1 := by rw [freeH_rd _ ha, if_pos h0]
        have := count_free (r := freeH hole row) (a := b) (n := from_ + i) t (by rw [freeH_len]; exact ha) hrow hn1
        rw [freeH_set hn0, freeH_set hn0] at this
        omega
      have hmem := exts_complete hf hs hr k _ _ (by simpa using hl) hput hkeep hcnt
      have hp1 : ¬ sePassed hole row used (from_ + (i : Int)) ((b : Int) + (from_ + (i : Int)) + s) := by
        simp only [not_or, e1, ← ht]
        exact ⟨by simpa using hu, by omega, hth, fun hx => hx ht0⟩
      have hp2 : r ∈ exts from_ N s hole k ((row.set b (from_ + (i : Int))).set ((b : Int) + (from_ + (i : Int)) + s).toNat (from_ + (i : Int))) (used ||| 2 ^ (from_ + (i : Int)).toNat) := by
        rw [e1, ← ht]
        exact hmem
      have hp3 := extsLoop_has hp1 hp2 N 0 (by omega) (by omega)
      simpa using hp3
def LexLt (x y : List Int) : Prop := ∃ i : Nat, (∀ j : Nat, j < i → rd x j = rd y j) ∧ rd x i < rd y i ∧ i < x.length ∧ i < y.length
theorem LexLt.ne {x y : List Int} (h : LexLt x y) : x ≠ y := by
  rintro rfl
  obtain ⟨i, _, h2, _⟩ := h
  omega
/-- What the loop finds from a number on has that number or a greater one at the place. -/
theorem extsLoop_sorted {from_ : Int} {N : Nat} {s hole : Int} {row : List Int} {used : Nat} (hf : 1 ≤ from_) (hs : 0 ≤ s) (ha : seAt hole row < row.length) (hz : ∀ j : Nat, (j : Int) = hole → rd row j = 0)
    (rec : List Int → Nat → List (List Int))
    (hS : ∀ i : Nat, i < N → ∀ t : Nat, (t : Int) = (seAt hole row : Nat) + (from_ + i) + s → used.testBit (from_.toNat + i) = false → t < row.length → (t : Int) ≠ hole → rd row t = 0 → (rec ((row.set (seAt hole row) (from_ + i)).set t (from_ + i)) (used ||| 2 ^ (from_.toNat + i))).Pairwise LexLt ∧ ∀ x ∈ rec ((row.set (seAt hole row) (from_ + i)).set t (from_ + i)) (used ||| 2 ^ (from_.toNat + i)), Keeps ((row.set (seAt hole row) (from_ + i)).set t (from_ + i)) x ∧ ∀ j : Nat, (j : Int) = hole → rd x j = 0) : ∀ (m i : Nat), i + m = N → (extsLoop rec hole s row used (seAt hole row) m (from_ + (i : Int))).Pairwise LexLt ∧ ∀ x ∈ extsLoop rec hole s row used (seAt hole row) m (from_ + (i : Int)), x.length = row.length ∧ from_ + (i : Int) ≤ rd x (seAt hole row) ∧ ∀ j : Nat, j < seAt hole row → rd x j = rd row j
  | 0, i, hm => by simp [extsLoop]
  | m + 1, i, hm => by
    have ih := extsLoop_sorted hf hs ha hz rec hS m (i + 1) (by omega)
    have e2 : from_ + (i : Int) + 1 = from_ + ((i + 1 : Nat) : Int) := by omega
    have e1 : (from_ + (i : Int)).toNat = from_.toNat + i := by omega
    have hsp := seAt_spec hole row
    have h0 := hsp.2.2 ha
    rw [extsLoop, e2]
    have hfirst : ((if sePassed hole row used (from_ + (i : Int)) ((seAt hole row : Nat) + (from_ + (i : Int)) + s) then [] else rec ((row.set (seAt hole row) (from_ + (i : Int))).set (((seAt hole row : Nat) : Int) + (from_ + (i : Int)) + s).toNat (from_ + (i : Int))) (used ||| 2 ^ (from_ + (i : Int)).toNat)) : List (List Int)).Pairwise LexLt ∧ ∀ x ∈ (if sePassed hole row used (from_ + (i : Int)) ((seAt hole row : Nat) + (from_ + (i : Int)) + s) then [] else rec ((row.set (seAt hole row) (from_ + (i : Int))).set (((seAt hole row : Nat) : Int) + (from_ + (i : Int)) + s).toNat (from_ + (i : Int))) (used ||| 2 ^ (from_ + (i : Int)).toNat) : List (List Int)), x.length = row.length ∧ rd x (seAt hole row) = from_ + (i : Int) ∧ ∀ j : Nat, j < seAt hole row → rd x j = rd row j := by
      split
      · simp
      · rename_i hp
        simp only [not_or, e1] at hp
        have ht : 0 ≤ ((seAt hole row : Nat) : Int) + (from_ + i) + s := by omega
        obtain ⟨t, htt⟩ : ∃ t : Nat, (t : Int) = ((seAt hole row : Nat) : Int) + (from_ + i) + s := ⟨_, Int.toNat_of_nonneg ht⟩
        rw [e1]
        simp only [← htt, Int.toNat_natCast] at hp ⊢
        obtain ⟨g1, g2⟩ := hS i (by omega) t htt (by simpa using hp.1) (by omega) (by omega) (Decidable.not_not.1 hp.2.2.2)
        refine ⟨g1, fun x hx => ?_⟩
        obtain ⟨hk, hh⟩ := g2 x hx
        have hr : ∀ j : Nat, j < row.length → rd ((row.set (seAt hole row) (from_ + i)).set t (from_ + i)) j = if t = j then from_ + (i : Int) else if seAt hole row = j then from_ + (i : Int) else rd row j := fun j hj => by
          rw [rd_set _ _ _ _ (by simpa using hj), rd_set _ _ _ _ hj]
        refine ⟨by simpa using hk.1, ?_, fun j hj => ?_⟩
        · have := hr _ ha
          rw [if_neg (by omega), if_pos rfl] at this
          rw [hk.2 _ (by omega), this]
        · have := hr j (by omega)
          rw [if_neg (by omega), if_neg (by omega)] at this
          rcases hsp.2.1 j hj with h1 | h1
          · rw [hk.2 j (by omega), this]
          · rw [hh j h1, hz j h1]
    refine ⟨List.pairwise_append.2 ⟨hfirst.1, ih.1, fun x hx y hy => ?_⟩, fun x hx => ?_⟩
    · obtain ⟨x1, x2, x3⟩ := hfirst.2 x hx
      obtain ⟨y1, y2, y3⟩ := ih.2 y hy
      exact ⟨seAt hole row, fun j hj => (x3 j hj).trans (y3 j hj).symm, by omega, by omega, by omega⟩
    · rcases List.mem_append.1 hx with hx | hx
      · obtain ⟨x1, x2, x3⟩ := hfirst.2 x hx
        exact ⟨x1, by omega, x3⟩
      · obtain ⟨x1, x2, x3⟩ := ih.2 x hx
        exact ⟨x1, by omega, x3⟩
theorem exts_sorted {from_ : Int} {N : Nat} {s hole : Int} {p : Nat} (hf : 1 ≤ from_) (hs : 0 ≤ s) : ∀ (k : Nat) (row : List Int) (used : Nat), row.length = p → PartRow from_ N s hole row used → (freeH hole row).count (-1) = 2 * unset used from_.toNat N → (exts from_ N s hole k row used).Pairwise LexLt
  | 0, row, used, hl, h, hc => by simp [exts]
  | k + 1, row, used, hl, h, hc => by
    have hsp := seAt_spec hole row
    rw [exts]
    split
    · simp
    · rename_i hfull
      have ha : seAt hole row < row.length := by omega
      have h0 := hsp.2.2 ha
      have := extsLoop_sorted (N := N) (used := used) hf hs ha h.zero (exts from_ N s hole k) (fun i hi t ht hu htl hth hrt => ?_) N 0 (by omega)
      · simpa using this.1
      · have hput := h.put hf hs hi hu ha ht htl h0.1 hrt h0.2 hth
        have hcnt : (freeH hole ((row.set (seAt hole row) (from_ + i)).set t (from_ + i))).count (-1) = 2 * unset (used ||| 2 ^ (from_.toNat + i)) from_.toNat N := by
          have hn0 : from_ + (i : Int) ≠ 0 := by omega
          have hn1 : from_ + (i : Int) ≠ -1 := by omega
          have c1 := count_set1 (r := freeH hole row) (a := seAt hole row) (n := from_ + i) (by rw [freeH_len]; exact ha) (by rw [freeH_rd _ ha, if_pos h0]) hn1
          have hne : seAt hole row ≠ t := by omega
          have c2 := count_set1 (r := freeH hole (row.set (seAt hole row) (from_ + i))) (a := t) (n := from_ + i) (by rw [freeH_len]; simpa using htl) (by
            rw [freeH_rd _ (by simpa using htl), rd_set _ _ _ _ htl, if_neg hne, if_pos ⟨hrt, hth⟩]) hn1
          rw [freeH_set hn0] at c1 c2
          have c3 := unset_or hu N from_.toNat (by omega) (by omega)
          omega
        refine ⟨exts_sorted (p := p) hf hs k _ _ (by simpa using hl) hput hcnt, fun x hx => ?_⟩
        have hsnd := exts_sound (p := p) hf hs k _ _ (by simpa using hl) hput hcnt x hx
        exact ⟨hsnd.2, hsnd.1.zero⟩
/-- All rows with the numbers from_, .., N of them, at so many places, in order. -/
def rowsOf (p N : Nat) (from_ s hole : Int) : List (List Int) := exts from_ N s hole (p + 1) (List.replicate p 0) 0
theorem zeros_at (p j : Nat) : rd (List.replicate p (0 : Int)) (j : Int) = 0 := by
  unfold rd
  rw [Int.toNat_natCast, List.getD_eq_getElem?_getD, List.getElem?_replicate]
  split <;> rfl
theorem part_start (p N : Nat) (from_ s hole : Int) (hf : 1 ≤ from_) : PartRow from_ N s hole (List.replicate p 0) 0 :=
  ⟨fun j _ => zeros_at p j, fun j _ => .inl (zeros_at p j), fun i _ _ j _ => by rw [zeros_at]; omega, fun i _ h => by simp at h⟩
theorem freeH_start (p : Nat) (hole : Int) (hh : hole < p) : (freeH hole (List.replicate p 0)).count (-1) = if 0 ≤ hole then p - 1 else p := by
  by_cases h : 0 ≤ hole
  · obtain ⟨h', rfl⟩ : ∃ h' : Nat, hole = (h' : Int) := ⟨hole.toNat, by omega⟩
    have e : freeH (h' : Int) (List.replicate p 0) = (List.replicate p (-1)).set h' 0 := by
      refine ext_rd (by simp [freeH_len]) (fun j hj => ?_)
      rw [freeH_len, List.length_replicate] at hj
      rw [freeH_rd j (by simpa using hj), zeros_at, rd_set _ _ _ _ (by simpa using hj)]
      have h1 : rd (List.replicate p (-1)) (j : Int) = -1 := by
        rw [rd_nat _ j (by simpa using hj)]
        simp
      rw [h1]
      by_cases e : h' = j
      · subst e
        simp
      · rw [if_pos ⟨rfl, by omega⟩, if_neg e]
    rw [e, List.count_set (by simpa using hh), List.count_replicate, if_pos h]
    simp
  · have e : freeH hole (List.replicate p 0) = List.replicate p (-1) := by
      refine ext_rd (by simp [freeH_len]) (fun j hj => ?_)
      rw [freeH_len, List.length_replicate] at hj
      rw [freeH_rd j (by simpa using hj), zeros_at, if_pos ⟨rfl, by omega⟩, rd_nat _ j (by simpa using hj)]
      simp
    rw [e, List.count_replicate, if_neg h]
    simp
/-- The places are just those for all numbers and the hole. -/
def PlacesFit (p N : Nat) (hole : Int) : Prop := hole < p ∧ (p : Int) = 2 * N + (if 0 ≤ hole then 1 else 0)
theorem PlacesFit.count {p N : Nat} {hole : Int} (h : PlacesFit p N hole) : (freeH hole (List.replicate p 0)).count (-1) = 2 * N := by
  obtain ⟨h1, h2⟩ := h
  rw [freeH_start p hole h1]
  split at h2 <;> rename_i h3
  · rw [if_pos h3]
    omega
  · rw [if_neg h3]
    omega
theorem rowsOf_good {p N : Nat} {from_ s hole : Int} (hp : PlacesFit p N hole) (hf : 1 ≤ from_) (hs : 0 ≤ s) (x : List Int) : x ∈ rowsOf p N from_ s hole ↔ GoodRow from_ N s hole p x := by
  have hc := hp.count
  constructor
  · intro h
    exact (exts_sound (p := p) hf hs _ _ _ (by simp) (part_start p N from_ s hole hf) (by rw [hc, unset_zero]) x h).1
  · intro h
    refine exts_complete hf hs h _ _ _ (by simp) (part_start p N from_ s hole hf) ⟨by simp [h.len], fun j hj => absurd (zeros_at p j) hj⟩ ?_
    rw [hc]
    have := hp.2
    split at this <;> omega
theorem rowsOf_sorted {p N : Nat} {from_ s hole : Int} (hp : PlacesFit p N hole) (hf : 1 ≤ from_) (hs : 0 ≤ s) : (rowsOf p N from_ s hole).Pairwise LexLt :=
  exts_sorted (p := p) hf hs _ _ _ (by simp) (part_start p N from_ s hole hf) (by rw [hp.count, unset_zero])
theorem rowsOf_len (p N : Nat) (from_ s hole : Int) (hf : 1 ≤ from_) : (rowsOf p N from_ s hole).length ≤ fct N := by
  have h1 := exts_len from_ N s hole hf (p + 1) (List.replicate p 0) 0
  rw [unset_zero] at h1
  exact h1
end Go.Proofs.Ytaohgllnoomaeaa.Fn
namespace Go.Proofs.Ytaohgllnoomaeaa.Fn
open Go.RowKit Go.Proofs.YtaohgllnoomaeaaW.PrintWords Go.Proofs.YtaohgllnoomaeaaW.PrintLast Go.Proofs.YtaohgllnoomaeaaW.PrintMore
set_option linter.unusedVariables false
set_option linter.unusedSimpArgs false
theorem pw_ext : ∀ (l m : List Int), l.Pairwise (· < ·) → m.Pairwise (· < ·) → (∀ x, x ∈ l ↔ x ∈ m) → l = m
  | [], [], _, _, _ => rfl
  | [], y :: m, _, _, h => absurd ((h y).2 (by simp)) (by simp)
  | x :: l, [], _, _, h => absurd ((h x).1 (by simp)) (by simp)
  | x :: l, y :: m, hl, hm, h => by
    obtain ⟨l1, l2⟩ := List.pairwise_cons.1 hl
    obtain ⟨m1, m2⟩ := List.pairwise_cons.1 hm
    have e : x = y := by
      rcases List.mem_cons.1 ((h x).1 (by simp)) with e | e
      · exact e
      · rcases List.mem_cons.1 ((h y).2 (by simp)) with e2 | e2
        · exact e2.symm
        · have := m1 x e
          have := l1 y e2
          omega
    subst e
    congr 1
    refine pw_ext l m l2 m2 (fun z => ⟨fun hz => ?_, fun hz => ?_⟩)
    · rcases List.mem_cons.1 ((h z).1 (by simp [hz])) with e | e
      · have := l1 z hz
        omega
      · exact e
    · rcases List.mem_cons.1 ((h z).2 (by simp [hz])) with e | e
      · have := m1 z hz
        omega
      · exact e
theorem numbersUp_sorted (a : Int) (n : Nat) : (numbersUp a n).Pairwise (· < ·) := by
  unfold numbersUp
  rw [List.pairwise_map]
  exact List.pairwise_lt_range.imp (fun h => by omega)
theorem mem_up {a x : Int} {n : Nat} : x ∈ numbersUp a n ↔ a ≤ x ∧ x < a + n := by
  refine ⟨mem_numbersUp, fun h => List.mem_map.2 ⟨(x - a).toNat, List.mem_range.2 (by omega), by omega⟩⟩
theorem fromOf_append (k : Int) : ∀ (l : List Int) (i : Nat) (x : Int), fromOf k i (l ++ [x]) = (fromOf k i l && decide (x = k + ((i + l.length : Nat) : Int)))
  | [], i, x => by simp [fromOf]
  | y :: l, i, x => by
    rw [List.cons_append, fromOf, fromOf, fromOf_append k l (i + 1) x, List.length_cons, show i + 1 + l.length = i + (l.length + 1) from by omega, Bool.and_assoc]
theorem fromOf_up (k : Int) : ∀ n : Nat, fromOf k 0 (numbersUp k n) = true
  | 0 => rfl
  | n + 1 => by
    rw [numbersUp_succ, fromOf_append, fromOf_up k n, numbersUp_len]
    simp
/-- A row of the kind, told by its pairs. -/
def rowOk (p N : Nat) (from_ s hole : Int) (r : List Int) : Bool := decide (r.length = p) && isPairs r && fitsAt r s && decide (numbersOf r = numbersUp from_ N) && decide (placesOf r 0 = if 0 ≤ hole then [hole] else [])
structure RowOk (p N : Nat) (from_ s hole : Int) (r : List Int) : Prop where
  len : r.length = p
  pairs : isPairs r = true
  fits : fitsAt r s = true
  nums : numbersOf r = numbersUp from_ N
  holes : placesOf r 0 = if 0 ≤ hole then [hole] else []
theorem rowOk_iff {p N : Nat} {from_ s hole : Int} {r : List Int} : rowOk p N from_ s hole r = true ↔ RowOk p N from_ s hole r := by
  unfold rowOk
  simp only [Bool.and_eq_true, decide_eq_true_eq]
  exact ⟨fun ⟨⟨⟨⟨a, b⟩, c⟩, d⟩, e⟩ => ⟨a, b, c, d, e⟩, fun ⟨a, b, c, d, e⟩ => ⟨⟨⟨⟨a, b⟩, c⟩, d⟩, e⟩⟩
/-- What a kind of rows asks of its measures. -/
structure KindFit (p N : Nat) (from_ s hole : Int) : Prop where
  fit : PlacesFit p N hole
  f1 : 1 ≤ from_
  f2 : from_ + N ≤ 21
  s1 : 0 ≤ s
  s2 : s ≤ 1
  p1 : p ≤ 40
  h1 : -1 ≤ hole
theorem good_place {p N : Nat} {from_ s hole : Int} {r : List Int} (k : KindFit p N from_ s hole) (h : GoodRow from_ N s hole p r) {i : Nat} (hi : i < N) : ∃ a : Nat, placesOf r (from_ + i) = [(a : Int), (a : Int) + (from_ + i) + s] ∧ (a : Int) + (from_ + i) + s < p := by
  obtain ⟨a, ha, hx⟩ := h.on i hi
  have := k.f1
  have := k.s1
  refine ⟨a, pw_ext _ _ (places_sorted _ r 0) (by simp; omega) (fun q => ?_), ha⟩
  show q ∈ placesOf r (from_ + i) ↔ _
  rw [mem_placesOf, h.len]
  simp only [List.mem_cons, List.not_mem_nil, or_false]
  constructor
  · rintro ⟨h0, h1, h2⟩
    have := (hx q.toNat (by omega)).1 (by rw [Int.toNat_of_nonneg h0]; exact h2)
    omega
  · intro hq
    have h0 : 0 ≤ q := by omega
    have := (hx q.toNat (by omega)).2 (by omega)
    rw [Int.toNat_of_nonneg h0] at this
    exact ⟨h0, by omega, this⟩
theorem goodRow_ok {p N : Nat} {from_ s hole : Int} {r : List Int} (k : KindFit p N from_ s hole) (h : GoodRow from_ N s hole p r) : RowOk p N from_ s hole r := by
  have kf := k.f1
  have kf2 := k.f2
  have ks := k.s1
  have ks2 := k.s2
  have kp := k.p1
  have kh := k.h1
  have hv : ∀ x ∈ r, x = 0 ∨ (from_ ≤ x ∧ x < from_ + N) := fun x hx => by
    obtain ⟨j, hj, e⟩ := List.getElem_of_mem hx
    have hr := rd_nat r j hj
    rw [e] at hr
    by_cases hh : (j : Int) = hole
    · left
      rw [← hr]
      exact h.zero j hh
    · right
      rw [← hr]
      exact h.rng j (by rw [← h.len]; exact hj) hh
  have hrow : isRow r = true := by
    unfold isRow
    rw [Bool.and_eq_true, decide_eq_true_eq, List.all_eq_true]
    refine ⟨by rw [h.len]; exact kp, fun x hx => ?_⟩
    have := hv x hx
    simp only [Bool.and_eq_true, decide_eq_true_eq]
    omega
  have hnum : ∀ v : Int, v ∈ numbersOf r ↔ v ∈ numbersUp from_ N := fun v => by
    rw [mem_numbersOf, mem_up]
    constructor
    · rintro ⟨h1, h2, h3⟩
      have := hv v h1
      omega
    · rintro ⟨h1, h2⟩
      obtain ⟨i, rfl⟩ : ∃ i : Nat, v = from_ + (i : Int) := ⟨(v - from_).toNat, by omega⟩
      obtain ⟨a, ha, _⟩ := good_place k h (i := i) (by omega)
      have hc := placesOf_count r (from_ + i)
      rw [ha] at hc
      refine ⟨List.count_pos_iff.1 ?_, by omega, by omega⟩
      rw [← hc]
      simp
  have hnums : numbersOf r = numbersUp from_ N := pw_ext _ _ (numbersOf_sorted r) (numbersUp_sorted from_ N) hnum
  have hpairs : pairsOk r = true := by
    rw [pairsOk_eq, List.all_eq_true]
    intro q hq
    have hq := List.mem_range'_1.1 hq
    rw [placesOf_count]
    by_cases hm : (q : Int) ∈ numbersUp from_ N
    · have hb := mem_up.1 hm
      obtain ⟨i, hi⟩ : ∃ i : Nat, (q : Int) = from_ + (i : Int) := ⟨((q : Int) - from_).toNat, by omega⟩
      obtain ⟨a, ha, _⟩ := good_place k h (i := i) (by omega)
      have hc := placesOf_count r (from_ + i)
      rw [ha] at hc
      rw [hi, ← hc]
      rfl
    · have : r.count (q : Int) = 0 := by
        rw [List.count_eq_zero]
        intro hx
        exact hm ((hnum _).1 ((mem_numbersOf r _).2 ⟨hx, by omega, by omega⟩))
      rw [this]
      rfl
  refine ⟨h.len, by unfold isPairs; rw [hrow, hpairs]; rfl, ?_, hnums, ?_⟩
  · rw [fitsAt_eq r s hpairs, List.all_eq_true]
    intro v hm
    rw [hnums] at hm
    have hb := mem_up.1 hm
    obtain ⟨i, rfl⟩ : ∃ i : Nat, v = from_ + (i : Int) := ⟨(v - from_).toNat, by omega⟩
    obtain ⟨a, ha, hap⟩ := good_place k h (i := i) (by omega)
    rw [ha, beq_iff_eq]
    have e0 : rd [(a : Int), (a : Int) + (from_ + i) + s] 0 = a := rfl
    have e1 : rd [(a : Int), (a : Int) + (from_ + i) + s] 1 = (a : Int) + (from_ + i) + s := rfl
    rw [e0, e1]
    congr 1
    omega
  · refine pw_ext _ _ (places_sorted 0 r 0) (by split <;> simp) (fun q => ?_)
    show q ∈ placesOf r 0 ↔ _
    rw [mem_placesOf, h.len]
    constructor
    · rintro ⟨h0, h1, h2⟩
      have hq : q = hole := by
        by_cases e : q = hole
        · exact e
        · have := h.rng q.toNat (by omega) (by omega)
          rw [Int.toNat_of_nonneg h0] at this
          omega
      rw [if_pos (by omega), hq]
      simp
    · intro hq
      have hlt := k.fit.1
      split at hq
      · rename_i h0
        rw [List.mem_singleton] at hq
        subst hq
        have := h.zero q.toNat (by omega)
        rw [Int.toNat_of_nonneg h0] at this
        exact ⟨h0, by omega, this⟩
      · simp at hq
theorem rowOk_good {p N : Nat} {from_ s hole : Int} {r : List Int} (k : KindFit p N from_ s hole) (h : RowOk p N from_ s hole r) : GoodRow from_ N s hole p r := by
  have kf := k.f1
  have kf2 := k.f2
  have ks := k.s1
  have ks2 := k.s2
  have kh := k.h1
  refine ⟨h.len, fun j hj => ?_, fun j hj hne => ?_, fun i hi => ?_⟩
  · rcases Nat.lt_or_ge j r.length with hl | hl
    · have hm : (j : Int) ∈ placesOf r 0 := by
        rw [h.holes, if_pos (by omega), hj]
        simp
      exact ((mem_placesOf r 0 _).1 hm).2.2
    · exact rd_out _ _ hl
  · have hl : j < r.length := by rw [h.len]; exact hj
    have hmem : rd r j ∈ r := by
      rw [rd_nat r j hl]
      exact List.getElem_mem hl
    have hb := isRow_mem (isPairs_row h.pairs) hmem
    have h0 : ¬ rd r j = 0 := fun e => by
      have hm : (j : Int) ∈ placesOf r 0 := (mem_placesOf r 0 _).2 ⟨by omega, by omega, e⟩
      rw [h.holes] at hm
      split at hm
      · exact hne (List.mem_singleton.1 hm)
      · simp at hm
    have := (mem_numbersOf r (rd r j)).2 ⟨hmem, by omega, hb.2⟩
    rw [h.nums] at this
    exact mem_up.1 this
  · have hv : from_ + (i : Int) ∈ numbersOf r := by
      rw [h.nums]
      exact mem_up.2 (by omega)
    have h2 := numbersOf_two (isPairs_ok h.pairs) hv
    have hb := first_bounds h2
    have ho := fits_other h.pairs ⟨ks, ks2⟩ h.fits hv
    rw [h.len] at hb
    refine ⟨(firstOf r (from_ + i)).toNat, by omega, fun j hj => ?_⟩
    rw [rd_places h2 j (by omega) (by rw [h.len]; omega)]
    omega
theorem rowsOf_ok {p N : Nat} {from_ s hole : Int} (k : KindFit p N from_ s hole) (x : List Int) : x ∈ rowsOf p N from_ s hole ↔ RowOk p N from_ s hole x :=
  (rowsOf_good k.fit k.f1 k.s1 x).trans ⟨goodRow_ok k, rowOk_good k⟩
theorem fits_back {l : List Int} {s : Int} (hp : isPairs l = true) (hs : 0 ≤ s ∧ s ≤ 1) (h : fitsAt l s = true) : fitsAt l.reverse s = true := by
  have hp' : isPairs l.reverse = true := by rw [isPairs_back]; exact hp
  rw [fitsAt_eq _ s (isPairs_ok hp'), List.all_eq_true]
  intro v hv
  rw [numbersOf_back] at hv
  have h2 := numbersOf_two (isPairs_ok hp) hv
  have ho := fits_other hp hs h hv
  have hb := back_two h2
  unfold firstOf otherOf at hb ho
  rw [hb.1, hb.2, ho, beq_iff_eq]
  congr 1
  omega
/-- A row backwards is of the kind with the hole at the other side. -/
theorem RowOk.back {p N : Nat} {from_ s hole : Int} {r : List Int} (hs : 0 ≤ s ∧ s ≤ 1) (h : RowOk p N from_ s hole r) : RowOk p N from_ s (if 0 ≤ hole then (p : Int) - 1 - hole else hole) r.reverse := by
  refine ⟨by rw [List.length_reverse]; exact h.len, by rw [isPairs_back]; exact h.pairs, fits_back h.pairs hs h.fits, by rw [numbersOf_back]; exact h.nums, ?_⟩
  rw [back_places, h.holes, h.len]
  by_cases h0 : 0 ≤ hole
  · have hm : hole ∈ placesOf r 0 := by rw [h.holes, if_pos h0]; simp
    have hb := (mem_placesOf r 0 hole).1 hm
    rw [h.len] at hb
    rw [if_pos h0, if_pos h0, if_pos (by omega)]
    rfl
  · rw [if_neg h0, if_neg h0, if_neg h0]
    rfl
/-- Where there is a row, the parities are these. -/
theorem RowOk.parity {p N : Nat} {from_ s hole : Int} {r : List Int} (hs : 0 ≤ s ∧ s ≤ 1) (h : RowOk p N from_ s hole r) : (tri N + (from_ + s) * N + (if 0 ≤ hole then hole else 0)) % 2 = tri p % 2 := by
  have := row_parity (k := from_) h.pairs hs h.fits (by rw [h.nums]; exact fromOf_up from_ N)
  rw [h.nums, numbersUp_len, h.len, h.holes] at this
  by_cases h0 : 0 ≤ hole
  · rw [if_pos h0] at this ⊢
    simpa using this
  · rw [if_neg h0] at this ⊢
    simpa using this
end Go.Proofs.Ytaohgllnoomaeaa.Fn
namespace Go.Proofs.Ytaohgllnoomaeaa.Fn
open Go.RowKit Go.Proofs.YtaohgllnoomaeaaW.PrintWords Go.Proofs.YtaohgllnoomaeaaW.PrintLast Go.Proofs.YtaohgllnoomaeaaW.PrintMore
set_option linter.unusedVariables false
set_option linter.unusedSimpArgs false
theorem rowsRun_rows {p N : Nat} {d s hole : Int} (hp : PlacesFit p N hole) (hd : 1 ≤ d) (hs : 0 ≤ s) (hh : -1 ≤ hole) {σ : Type} (each : σ → List Int → Option (σ × Bool)) (st : σ) : rowsRun p N d s hole each st = foldE each st (rowsOf p N d s hole) := by
  have h1 := hp.1
  have e1 : rowStart p hole = freeH hole (List.replicate p 0) := by
    refine ext_rd (by rw [rowStart_len, freeH_len, List.length_replicate]) (fun j hj => ?_)
    rw [rowStart_len] at hj
    have hm : rd (List.replicate p (-1)) (j : Int) = -1 := by
      rw [rd_nat _ j (by simpa using hj)]
      simp
    rw [freeH_rd j (by simpa using hj), zeros_at]
    unfold rowStart
    by_cases h0 : 0 ≤ hole
    · rw [if_pos h0, rd_set _ _ _ _ (by simpa using hj), hm]
      by_cases e : hole.toNat = j
      · have e2 : (j : Int) = hole := by omega
        simp [e, e2]
      · have e2 : ¬ (j : Int) = hole := by omega
        simp [e, e2]
    · have e2 : ¬ (j : Int) = hole := by omega
      rw [if_neg h0, hm]
      simp [e2]
  have e2 : numbersUp d N = leftH d N 0 := by simp [numbersUp, leftH]
  rw [rowsRun, e1, e2, fillF_exts each _ d s hole N (fun j => by
    unfold rd
    rw [List.getD_eq_getElem?_getD, List.getElem?_replicate]
    split <;> rfl) hd hs _ st _ 0 (by
      have := List.count_le_length (a := (-1 : Int)) (l := freeH hole (List.replicate p 0))
      rw [freeH_len, List.length_replicate] at this
      omega) (fun j hj => by rw [zeros_at]; omega)]
  rfl
theorem fct_nine {n : Nat} (h : n ≤ 9) : fct n ≤ 362880 := by
  match n, h with
  | 0, _ | 1, _ | 2, _ | 3, _ | 4, _ | 5, _ | 6, _ | 7, _ | 8, _ | 9, _ => decide
theorem rowsOf_nine {p N : Nat} {d s hole : Int} (hd : 1 ≤ d) (hN : N ≤ 9) : (rowsOf p N d s hole).length ≤ 362880 := Nat.le_trans (rowsOf_len p N d s hole hd) (fct_nine hN)
theorem seF_rowsOf {p N : Nat} {d to_ s hole : Int} (hd : 1 ≤ d) (ht : to_ = d + N - 1) (hs : 0 ≤ s) (hN : N ≤ 9) (most : Nat) (hm : most ≤ 1000000) : seF d to_ s hole (most : Int) (p + 1) (0, []) (List.replicate p 0) 0 = some ((rowsOf p N d s hole).length, (rowsOf p N d s hole).take most) := by
  have hl := rowsOf_nine (p := p) (N := N) (d := d) (s := s) (hole := hole) hd hN
  unfold rowsOf at hl ⊢
  have e : (to_ + 1 - d).toNat = N := by omega
  have := seF_exts d to_ s hole most hm hd hs (p + 1) 0 [] (List.replicate p 0) 0 (by
      have := List.count_le_length (a := (-1 : Int)) (l := freeH hole (List.replicate p 0))
      rw [freeH_len, List.length_replicate] at this
      omega) (fun j hj => by rw [zeros_at]; omega) (Nat.zero_le _) (by rw [e]; omega)
  rw [e] at this
  simpa using this
/-- The number of rows, the first one, all of them if they are not too many. -/
def kindCount (l : List (List Int)) : Int × Bool := ((l.length : Int), true)
def kindFirst (l : List (List Int)) : List Int × Bool := match l with | [] => ([], false) | x :: _ => (x, true)
def kindAll (l : List (List Int)) : List (List Int) × Bool := if l.length ≤ 600 then (l, true) else ([], false)
theorem foldE_counted : ∀ (l : List (List Int)) (m : Nat), m + l.length ≤ 1000000000000 → foldE eachCount m l = some (m + l.length, false)
  | [], m, h => rfl
  | x :: l, m, h => by
    have h' : m + (l.length + 1) ≤ 1000000000000 := by simpa using h
    simp only [foldE, eachCount]
    rw [if_pos (by omega)]
    simp only [Option.bind_some, Bool.false_eq_true, if_false]
    rw [foldE_counted l (m + 1) (by omega), List.length_cons]
    congr 2
    omega
/-- All Skolem rows. -/
def skolemRows (n : Nat) : List (List Int) := rowsOf (2 * n) n 1 0 (-1)
theorem skolem_fit (n : Nat) (hn : 1 ≤ n) : PlacesFit (2 * n) n (-1) := by
  unfold PlacesFit
  refine ⟨by omega, ?_⟩
  split <;> omega
theorem skolemRun_rows (n : Nat) (hn : 1 ≤ n) {σ : Type} (each : σ → List Int → Option (σ × Bool)) (st : σ) : skolemRun n each st = foldE each st (skolemRows n) :=
  rowsRun_rows (skolem_fit n hn) (by omega) (by omega) (by omega) each st
theorem seSkolemRun_rows (n : Nat) (hn : n ≤ 9) (most : Nat) (hm : most ≤ 1000000) : seSkolemRun n (most : Int) = some ((skolemRows n).length, (skolemRows n).take most) :=
  seF_rowsOf (by omega) (by omega) (by omega) hn most hm
def skolemOk (n : Int) : Bool := decide (1 ≤ n ∧ n ≤ 9)
def countSkolem (n : Int) : Int × Bool := if skolemOk n = true then kindCount (skolemRows n.toNat) else (0, false)
def firstSkolem (n : Int) : List Int × Bool := if skolemOk n = true then kindFirst (skolemRows n.toNat) else ([], false)
def allSkolem (n : Int) : List (List Int) × Bool := if skolemOk n = true then kindAll (skolemRows n.toNat) else ([], false)
theorem skolemRows_mem {n : Nat} (hn : 1 ≤ n) : ∀ x ∈ skolemRows n, x.length = 2 * n := fun x hx => ((rowsOf_good (skolem_fit n hn) (by omega) (by omega) x).1 hx).len
theorem skolem_sought_val (n : Int) : impl_sought.f n = some (skolemOk n) := by
  unfold skolemOk
  unfold impl_sought.f
  by_cases h1 : n ≥ 1 <;> by_cases h2 : n ≤ 9 <;> simp [h1, h2] <;> omega
theorem impl_CountSkolem.f_val (n : Int) : impl_CountSkolem.f n = some (countSkolem n) := by
  unfold impl_CountSkolem.f countSkolem
  rw [skolem_sought_val]
  by_cases h : skolemOk n = true
  · have hd := of_decide_eq_true h
    rw [h, if_pos rfl, if_pos rfl, skolemRun_rows n.toNat (by omega)]
    have hl := rowsOf_nine (p := 2 * n.toNat) (N := n.toNat) (d := 1) (s := 0) (hole := (-1)) (by omega) (by omega)
    rw [foldE_counted _ 0 (by unfold skolemRows; omega)]
    simp [kindCount]
  · rw [if_neg h, if_neg (fun e => h (Option.some.inj e))]
/-- All Hooked rows. -/
def hookedRows (n : Nat) : List (List Int) := rowsOf (2 * n + 1) n 1 0 (2 * (n : Int) - 1)
theorem hooked_fit (n : Nat) (hn : 1 ≤ n) : PlacesFit (2 * n + 1) n (2 * (n : Int) - 1) := by
  unfold PlacesFit
  refine ⟨by omega, ?_⟩
  split <;> omega
theorem hookedRun_rows (n : Nat) (hn : 1 ≤ n) {σ : Type} (each : σ → List Int → Option (σ × Bool)) (st : σ) : hookedRun n each st = foldE each st (hookedRows n) :=
  rowsRun_rows (hooked_fit n hn) (by omega) (by omega) (by omega) each st
def hookedOk (n : Int) : Bool := decide (1 ≤ n ∧ n ≤ 9)
def countHooked (n : Int) : Int × Bool := if hookedOk n = true then kindCount (hookedRows n.toNat) else (0, false)
def firstHooked (n : Int) : List Int × Bool := if hookedOk n = true then kindFirst (hookedRows n.toNat) else ([], false)
def allHooked (n : Int) : List (List Int) × Bool := if hookedOk n = true then kindAll (hookedRows n.toNat) else ([], false)
theorem hookedRows_mem {n : Nat} (hn : 1 ≤ n) : ∀ x ∈ hookedRows n, x.length = 2 * n + 1 := fun x hx => ((rowsOf_good (hooked_fit n hn) (by omega) (by omega) x).1 hx).len
theorem hooked_sought_val (n : Int) : impl_sought.f n = some (hookedOk n) := by
  unfold hookedOk
  unfold impl_sought.f
  by_cases h1 : n ≥ 1 <;> by_cases h2 : n ≤ 9 <;> simp [h1, h2] <;> omega
theorem impl_CountHooked.f_val (n : Int) : impl_CountHooked.f n = some (countHooked n) := by
  unfold impl_CountHooked.f countHooked
  rw [hooked_sought_val]
  by_cases h : hookedOk n = true
  · have hd := of_decide_eq_true h
    rw [h, if_pos rfl, if_pos rfl, hookedRun_rows n.toNat (by omega)]
    have hl := rowsOf_nine (p := 2 * n.toNat + 1) (N := n.toNat) (d := 1) (s := 0) (hole := (2 * (n.toNat : Int) - 1)) (by omega) (by omega)
    rw [foldE_counted _ 0 (by unfold hookedRows; omega)]
    simp [kindCount]
  · rw [if_neg h, if_neg (fun e => h (Option.some.inj e))]
/-- All Langford rows. -/
def langfordRows (n : Nat) (d : Int) : List (List Int) := rowsOf (2 * n) n d 1 (-1)
theorem langford_fit (n : Nat) (hn : 1 ≤ n) : PlacesFit (2 * n) n (-1) := by
  unfold PlacesFit
  refine ⟨by omega, ?_⟩
  split <;> omega
end Go.Proofs.Ytaohgllnoomaeaa.Fn
