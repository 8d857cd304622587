/- The machine's side and plain lemmas for FnTreesLabelled: texts of this session, merged by its program (part 4). -/
import Derived.Test.YtnhnpplccfojeaaMFnTreesLabelled0
import Derived.Test.YtnhnpplccfojeaaMFnTreesLabelled1
import Derived.Test.YtnhnpplccfojeaaMFnTreesLabelled2
import Derived.Test.YtnhnpplccfojeaaMFnTreesLabelled3
set_option maxHeartbeats 80000000
set_option maxRecDepth 100000
namespace Go.Proofs.Ytnhnpplccfojeaa.Fn
open Go.RowKit Go.Proofs.YtnhnpplccfojeaaW.PrintWords Go.Proofs.YtnhnpplccfojeaaW.PrintLast Go.Proofs.YtnhnpplccfojeaaW.PrintMore
attribute [local go_sem] max2_int min2_int max_two min_two max_three min_three max_four min_four
set_option linter.unusedVariables false
set_option linter.unusedSimpArgs false
theorem Zaa.rest3 (k : Nat) (A0 : Option Addr) (c0 : Nat) (l0 : List Int) (A1 : Option Addr) (c1 : Nat) (l1 : List Int) (r : Bool) (w : World) (HR1 : Aside0 ((Kd.int IntKind.u8).C w A1 l1.length l1)) (HC1 : Aside0 (l1.length ≤ c1)) (HT : Aside0 (r = true)) (t340 t341 : List Int) (t346 t347 t348 t349 : Bool) (t350 : List Int) (t351 t355 t358 t359 t360 t361 : Bool) (t362 : Int) (t363 : Bool) (t364 : Int) (t365 : Bool) (t366 : List (List Int)) (t367 t371 : Bool) (Ao18 : Option Addr) (co18 : Nat) (Ao19 : Option Addr) (co19 : Nat) (v352 v356 v368 v372 : Value) (kj15 : Nat) (HJ15 : Aside0 (kj15 + (1 : Nat) ≤ k)) (z3_5 : World) (u27 u28 u217 u218 u219 : Value) (HB : Aside0 (Below w.heap.size w z3_5)) (kj80 : Nat) (HJ80 : Aside0 (kj80 + (1 : Nat) ≤ kj15)) (HC98 : Aside0 ((if t347 = true then (Zab.f kj80 t341).bind fun bt385 => (Zat.f kj80 t340 bt385.fst).bind fun bt389 => (Zab.f kj80 bt385.fst).bind fun bt391 => if (↑t350.length : Int) = wrap64 ((↑t341.length : Int) - (1 : Int)) then if bt385.snd = true then if bt389.snd = true then if (bt389.fst != t346) = true then some false else if bt391.snd = true then (Zaq.f kj80 bt391.fst t341).bind fun t395 => if t395 = true then Zaa.l1 kj80 l1 t341 t346 t350 t362 t363 t366 (↑t341.length : Int) true (1 : Int) else some false else some false else some false else some false else some false else Zaa.j5 kj80 l1) = some r)) (z3_414 : Act → World → Prop) {Cz3_415 : Code} (ez3_415 : codeAt [1, 1, 1, 1, 1, 1, 1, 1, 1, 1, 1, 1, 1, 1, 1, 1] (bodyAt Try.f3) = Cz3_415) (z3_415 : ∀ (a_ : Act) (w_ : World), Code.wp Try.prog Cz3_415 (bodyPost Try.prog Try.f3 fun e w' => e = Ending.returned (Value.bool r) ∧ Below w.heap.size w w') a_ w_ → z3_414 a_ w_) (wc : World) (u4 u29 u30 u31 u32 u33 u34 u35 u36 u37 u38 u39 u53 u54 u55 u56 u57 u58 u59 u60 u61 u62 u63 u64 u65 u66 u67 u68 u69 u70 u71 u72 u73 u74 u75 u76 u77 u78 u79 u80 u81 u82 u83 u84 u85 u86 u87 u88 u89 u90 u91 u92 u93 u94 u95 u96 u97 u98 u99 u100 u101 u102 u103 u104 u105 u106 u107 u108 u109 u110 u111 u112 u113 u114 u115 u116 u117 u118 u119 u120 u121 u122 u123 u124 u125 u126 u127 u128 u129 u130 u131 u132 u133 u134 u135 u136 u137 u138 u139 u140 u141 u142 u143 u144 u145 u146 u147 u148 u149 u150 u151 u152 u153 u154 u155 u156 u157 u158 u159 u160 u161 u162 u163 u164 u165 u166 u167 u168 u169 u170 u171 u172 u173 u174 u175 u176 u177 u178 u179 u180 u181 u182 u183 u184 u185 u186 u187 u188 u189 u190 u191 u192 u193 u194 u195 u196 u197 u198 u199 u200 u201 u202 u203 u204 u205 u206 u207 u208 u209 u210 u211 u212 u213 u214 u215 u216 u220 u221 u222 u223 u224 u225 u226 u227 u228 u229 u230 u231 u232 u233 u234 u235 u236 u237 u238 u239 u240 u241 u242 u243 u244 u245 u246 u247 u248 u249 u250 u251 u252 u253 u254 u255 u256 u257 u258 u259 u260 u261 u262 u263 u264 u265 u266 u267 u268 u269 u270 u271 u272 u273 u274 u275 u276 u277 u278 u279 u280 u281 u282 u283 u284 u285 u286 u287 u288 u289 u290 u291 u292 u293 u294 u295 u296 u297 u298 u299 u300 u301 u302 u303 u304 u305 u306 u307 u308 u309 u310 u311 u312 u313 u314 u315 u316 u317 u318 u319 u320 u321 u322 u323 u324 u325 u326 u327 u328 u329 u330 u331 u332 u333 u334 u335 u336 u337 u338 u339 u340 u341 u342 u343 u344 u345 u346 u347 u348 u349 u350 u351 u352 u353 u354 u355 u356 u357 u358 u359 u360 u361 u362 u363 u364 u365 u366 u367 u368 u369 u370 u371 u372 u373 u374 u375 u376 u377 u378 u379 u380 u381 u382 u383 u384 u385 u386 u387 u388 u389 u390 u391 u392 u393 u394 u395 u396 u397 u398 u399 u400 u401 u402 u403 u404 u405 u406 u407 u408 u409 u410 u411 u412 u413 u414 u415 u416 u417 u418 u419 u420 u421 u422 u423 u424 u425 u426 u427 u428 u429 u430 u431 u432 u433 u434 u435 u436 u437 u438 u439 u440 u441 u442 u443 u444 u445 u446 u447 u448 u449 u450 u451 u452 u453 u454 u455 u456 u457 u458 u459 u460 u461 u462 u463 u464 : Value) (hcut : ∃ kq, Aside0 (Zaa.j5 kq l1 = some r) ∧ Aside0 (kq ≤ kj80) ∧ Aside0 (Below w.heap.size w wc)) : z3_414 { tmps := #[Value.slice A0 l0.length c0, Value.slice A1 l1.length c1, Go.undef, Go.undef, u4, Value.slice Ao18 t340.length co18, Value.slice Ao19 t341.length co19, Value.bool t346, Value.bool t347, Value.bool t348, Value.bool t349, v352, Value.bool t351, v356, Value.bool t355, Value.bool t358, Value.bool t359, Value.bool t360, Value.bool t361, Value.int IntKind.i64 t362, Value.bool t363, Value.int IntKind.i64 t364, Value.bool t365, v368, Value.bool t367, v372, Value.bool t371, u27, u28, u29, u30, u31, u32, u33, u34, u35, u36, u37, u38, u39, Go.undef, Go.undef, Go.undef, Go.undef, Go.undef, Go.undef, Go.undef, Go.undef, Go.undef, Go.undef, Go.undef, Go.undef, Go.undef, u53, u54, u55, u56, u57, u58, u59, u60, u61, u62, u63, u64, u65, u66, u67, u68, u69, u70, u71, u72, u73, u74, u75, u76, u77, u78, u79, u80, u81, u82, u83, u84, u85, u86, u87, u88, u89, u90, u91, u92, u93, u94, u95, u96, u97, u98, u99, u100, u101, u102, u103, u104, u105, u106, u107, u108, u109, u110, u111, u112, u113, u114, u115, u116, u117, u118, u119, u120, u121, u122, u123, u124, u125, u126, u127, u128, u129, u130, u131, u132, u133, u134, u135, u136, u137, u138, u139, u140, u141, u142, u143, u144, u145, u146, u147, u148, u149, u150, u151, u152, u153, u154, u155, u156, u157, u158, u159, u160, u161, u162, u163, u164, u165, u166, u167, u168, u169, u170, u171, u172, u173, u174, u175, u176, u177, u178, u179, u180, u181, u182, u183, u184, u185, u186, u187, u188, u189, u190, u191, u192, u193, u194, u195, u196, u197, u198, u199, u200, u201, u202, u203, u204, u205, u206, u207, u208, u209, u210, u211, u212, u213, u214, u215, u216, u217, u218, u219, u220, u221, u222, u223, u224, u225, u226, u227, u228, u229, u230, u231, u232, u233, u234, u235, u236, u237, u238, u239, u240, u241, u242, u243, u244, u245, u246, u247, u248, u249, u250, u251, u252, u253, u254, u255, u256, u257, u258, u259, u260, u261, u262, u263, u264, u265, u266, u267, u268, u269, u270, u271, u272, u273, u274, u275, u276, u277, u278, u279, u280, u281, u282, u283, u284, u285, u286, u287, u288, u289, u290, u291, u292, u293, u294, u295, u296, u297, u298, u299, u300, u301, u302, u303, u304, u305, u306, u307, u308, u309, u310, u311, u312, u313, u314, u315, u316, u317, u318, u319, u320, u321, u322, u323, u324, u325, u326, u327, u328, u329, u330, u331, u332, u333, u334, u335, u336, u337, u338, u339, u340, u341, u342, u343, u344, u345, u346, u347, u348, u349, u350, u351, u352, u353, u354, u355, u356, u357, u358, u359, u360, u361, u362, u363, u364, u365, u366, u367, u368, u369, u370, u371, u372, u373, u374, u375, u376, u377, u378, u379, u380, u381, u382, u383, u384, u385, u386, u387, u388, u389, u390, u391, u392, u393, u394, u395, u396, u397, u398, u399, u400, u401, u402, u403, u404, u405, u406, u407, u408, u409, u410, u411, u412, u413, u414, u415, u416, u417, u418, u419, u420, u421, u422, u423, u424, u425, u426, u427, u428, u429, u430, u431, u432, u433, u434, u435, u436, u437, u438, u439, u440, u441, u442, u443, u444, u445, u446, u447, u448, u449, u450, u451, u452, u453, u454, u455, u456, u457, u458, u459, u460, u461, u462, u463, u464], defers := [] } wc := by
  conv at ez3_415 => (lhs; whnf)
  subst ez3_415
  clear HC98
  try clear c1
  obtain ⟨kq, HA, HJ97, HB⟩ := hcut
  cases kq with
  | zero => exact absurd HA.out (by simp [Zaa.j5])
  | succ kj97 =>
   have H := HA.out
   clear HA
   simp only [Zaa.j5] at H
   replace H := bs_ H
   obtain ⟨t408, A137, H⟩ := H
   (try dsimp only at H)
   replace H := Option.bind_eq_some_iff.mp H
   obtain ⟨⟨t411, t412⟩, A1380, H⟩ := H
   (try dsimp only at H)
   have A138 := Aside0.mk A1380
   clear A1380
   replace H := Option.bind_eq_some_iff.mp H
   obtain ⟨⟨t415, t416⟩, A1390, H⟩ := H
   (try dsimp only at H)
   have A139 := Aside0.mk A1390
   clear A1390
   replace H := Option.bind_eq_some_iff.mp H
   obtain ⟨⟨t419, t420⟩, A1400, H⟩ := H
   (try dsimp only at H)
   have A140 := Aside0.mk A1400
   clear A1400
   replace H := Option.bind_eq_some_iff.mp H
   obtain ⟨⟨t421, t422⟩, A1410, H⟩ := H
   (try dsimp only at H)
   have A141 := Aside0.mk A1410
   clear A1410
   have HC142 := Aside0.mk H
   clear H
   go_upto_region 50 with (first | ((with_reducible refine gate_callee (f := 25) rfl ?_); refine goesA (some 367) Try.func25 #[.slice A1 l1.length c1] ?_; (with_reducible refine (Zba.calls kj97 _ _ l1 t408 _ ?side1 ?side2 A137.out).mono ?_); (case side1 => repeat (first | exact (Kd.C_below HR1.out HB.out) | (with_reducible refine Kd.C_alloc ?_ _) | (with_reducible refine Kd.C_drewN ?_ _) | (with_reducible refine Kd.C_drew ?_))); (case side2 => exact HC1.out); rintro e w143 ⟨v409, rfl, ho0, hb⟩; refine ⟨_, rfl, ?_⟩; have HO410 := lowR ho0 HB; replace HB := upB HB hb; obtain ⟨Ao144, co144, eo144⟩ := Kd.R_slice HO410.out; subst eo144) | ((with_reducible refine gate_callee (f := 26) rfl ?_); refine goesA (some 370) Try.func26 #[.slice Ao144 t408.length co144] ?_; (with_reducible refine (Zbk.calls kj97 _ _ t408 t411 t412 _ ?side1 ?side2 A138.out).mono ?_); (case side1 => exact atRC HO410); (case side2 => exact (Kd.R_reads' HO410.out).2.1); rintro e w145 ⟨v413, rfl, ho0, hb⟩; refine ⟨_, rfl, ?_⟩; have HO414 := lowR ho0 HB; replace HO410 := upR HO410 hb; replace HB := upB HB hb) | ((with_reducible refine gate_callee (f := 27) rfl ?_); refine goesA (some 375) Try.func27 #[.slice Ao144 t408.length co144] ?_; (with_reducible refine (Zbg.calls kj97 _ _ t408 t415 t416 _ ?side1 ?side2 A139.out).mono ?_); (case side1 => exact atRC HO410); (case side2 => exact (Kd.R_reads' HO410.out).2.1); rintro e w146 ⟨v417, rfl, ho0, hb⟩; refine ⟨_, rfl, ?_⟩; have HO418 := lowR ho0 HB; replace HO410 := upR HO410 hb; replace HO414 := upR HO414 hb; replace HB := upB HB hb) | ((with_reducible refine gate_callee (f := 28) rfl ?_); refine goesA (some 380) Try.func28 #[.slice Ao144 t408.length co144] ?_; (with_reducible refine (Zbl.calls kj97 _ _ t408 t419 t420 _ ?side1 ?side2 A140.out).mono ?_); (case side1 => exact atRC HO410); (case side2 => exact (Kd.R_reads' HO410.out).2.1); rintro e w147 ⟨rfl, hb⟩; refine ⟨_, rfl, ?_⟩; replace HO410 := upR HO410 hb; replace HO414 := upR HO414 hb; replace HO418 := upR HO418 hb; replace HB := upB HB hb) | ((with_reducible refine gate_callee (f := 29) rfl ?_); refine goesA (some 385) Try.func29 #[.slice Ao144 t408.length co144] ?_; (with_reducible refine (Zbf.calls kj97 _ _ t408 t421 t422 _ ?side1 ?side2 A141.out).mono ?_); (case side1 => exact atRC HO410); (case side2 => exact (Kd.R_reads' HO410.out).2.1); rintro e w148 ⟨rfl, hb⟩; refine ⟨_, rfl, ?_⟩; replace HO410 := upR HO410 hb; replace HO414 := upR HO414 hb; replace HO418 := upR HO418 hb; replace HB := upB HB hb))
   (try simp only [Act.put, List.setIfInBounds_toArray, List.set_cons_zero, List.set_cons_succ])
   go_cut [421] (fun v421 wc => ∃ (kq : Nat) (x421_141 : Bool), v421 = .bool x421_141 ∧ Aside0 (Zaa.j6 kq t408 t411 t412 t419 t420 x421_141 = some r) ∧ Aside0 (kq ≤ kj97) ∧ Aside0 (Kd.R (Kd.int .i64) 3 wc w.heap.size (fun _ => True) (.slice Ao144 t408.length co144) t408) ∧ Aside0 (Kd.R (Kd.int .i64) 3 wc w.heap.size (fun _ => True) v413 t411) ∧ Aside0 (Below w.heap.size w wc))
   case first => as_aux_lemma =>
    have H := HC142.out
    clear HC142
    by_cases c149 : (t412 != t416) = true
    ·rw [if_pos c149] at H
     have c149b0 : (t412 != t416) = true := c149
     (try (have c149b1 : decide (t412 = t416) = false := by simpa using c149))
     (try (have c149b2 : (t412 == t416) = false := by simpa using c149))
     (try (have c149b3 : ¬ (t412 = t416) := by simpa using c149))
     clear c149
     (first | rw [c149b0] | (simp only [i64_w, i32_w]; rw [c149b0]) | skip)
     exact absurd (H.trans (congrArg some HT.out)) (Zaa.j6_no kj97 t408 t411 t412 t419 t420)
    rw [if_neg c149] at H
    have c149b0 : (t412 != t416) = false := by simpa using c149
    (try (have c149b1 : decide (t412 = t416) = true := by simpa using c149))
    (try (have c149b2 : (t412 == t416) = true := by simpa using c149))
    clear c149
    (first | rw [c149b0] | (simp only [i64_w, i32_w]; rw [c149b0]) | skip)
    replace H := bs_ H
    obtain ⟨t423, A150, H⟩ := H
    (try dsimp only at H)
    by_cases c151 : t423 = true
    rotate_left
    ·replace c151 := Bool.eq_false_iff.mpr c151
     subst c151
     rw [if_neg (show ¬ (false = true) by decide)] at H
     exact absurd (H.trans (congrArg some HT.out)) (Zaa.j6_no kj97 t408 t411 t412 t419 t420)
    subst c151
    rw [if_pos rfl] at H
    by_cases c152 : (t420 != t422) = true
    ·rw [if_pos c152] at H
     have c152b0 : (t420 != t422) = true := c152
     (try (have c152b1 : decide (t420 = t422) = false := by simpa using c152))
     (try (have c152b2 : (t420 == t422) = false := by simpa using c152))
     (try (have c152b3 : ¬ (t420 = t422) := by simpa using c152))
     clear c152
     exact absurd (H.trans (congrArg some HT.out)) (Zaa.j6_no kj97 t408 t411 t412 t419 t420)
    rw [if_neg c152] at H
    have c152b0 : (t420 != t422) = false := by simpa using c152
    (try (have c152b1 : decide (t420 = t422) = true := by simpa using c152))
    (try (have c152b2 : (t420 == t422) = true := by simpa using c152))
    clear c152
    by_cases c153 : t419 = t421
    rotate_left
    ·rw [if_neg c153] at H
     have c153b0 : (t419 == t421) = false := beq_eq_false_iff_ne.mpr c153
     have c153b1 : (t419 != t421) = true := bne_iff_ne.mpr c153
     exact absurd (H.trans (congrArg some HT.out)) (Zaa.j6_no kj97 t408 t411 t412 t419 t420)
    rw [if_pos c153] at H
    have c153b0 : (t419 == t421) = true := beq_iff_eq.mpr c153
    have c153b1 : (t419 != t421) = false := bne_eq_false_iff_eq.mpr c153
    clear c153
    by_cases c154 : t420 = true
    ·subst c154
     obtain rfl : t422 = true := (by simpa using c152b0)
     rw [if_pos rfl] at H
     by_cases c155 : (t412 != (decide (t419 > 0))) = true
     ·rw [if_pos c155] at H
      have c155b0 : (t412 != (decide (t419 > 0))) = true := c155
      (try (have c155b1 : decide (t412 = (decide (t419 > 0))) = false := by simpa using c155))
      (try (have c155b2 : (t412 == (decide (t419 > 0))) = false := by simpa using c155))
      (try (have c155b3 : ¬ (t412 = (decide (t419 > 0))) := by simpa using c155))
      clear c155
      exact absurd (H.trans (congrArg some HT.out)) (Zaa.j6_no kj97 t408 t411 t412 t419 true)
     rw [if_neg c155] at H
     have c155b0 : (t412 != (decide (t419 > 0))) = false := by simpa using c155
     (try (have c155b1 : decide (t412 = (decide (t419 > 0))) = true := by simpa using c155))
     (try (have c155b2 : (t412 == (decide (t419 > 0))) = true := by simpa using c155))
     clear c155
     replace H := bs_ H
     obtain ⟨t424, A156, H⟩ := H
     (try dsimp only at H)
     have H' := Aside0.mk H
     clear H
     obtain ⟨Ao157, co157, eo157⟩ := Kd.R_slice HO414.out
     subst eo157
     obtain ⟨Ao158, co158, eo158⟩ := Kd.R_slice HO418.out
     subst eo158
     as_aux_lemma =>
      go_wp2_with (first | (go_at_call 18; (with_reducible refine (Zaq.calls kj97 _ _ t411 _ _ t415 true _ ?side1 ?side2 ?side3 ?side4 A150.out).mono ?_); (case side1 => exact atRC HO414); (case side2 => exact (Kd.R_reads' HO414.out).2.1); (case side3 => exact atRC HO418); (case side4 => exact (Kd.R_reads' HO418.out).2.1); rintro e w' ⟨rfl, ⟨nd, rfl⟩⟩) | (go_at_call 20; (with_reducible refine (Zae.calls kj97 _ _ t408 t424 _ ?side1 ?side2 A156.out).mono ?_); (case side1 => exact atRC HO410); (case side2 => exact (Kd.R_reads' HO410.out).2.1); rintro e w' ⟨rfl, ⟨nd, rfl⟩⟩))
      go_meet
      case rel => exact ⟨_, ((true != t424)), eqd, H', ⟨by have := HJ15.out; have := HJ80.out; have := HJ97.out; first | omega | exact Nat.le_refl _⟩, ⟨atR HO410⟩, ⟨atR HO414⟩, ⟨atB HB⟩⟩
    ·replace c154 := Bool.eq_false_iff.mpr c154
     subst c154
     obtain rfl : t422 = false := (by simpa using c152b0)
     rw [if_neg (show ¬ (false = true) by decide)] at H
     by_cases c159 : (t412 != false) = true
     ·rw [if_pos c159] at H
      have c159b0 : (t412 != false) = true := c159
      (try (have c159b1 : decide (t412 = false) = false := by simpa using c159))
      (try (have c159b2 : (t412 == false) = false := by simpa using c159))
      (try (have c159b3 : ¬ (t412 = false) := by simpa using c159))
      clear c159
      exact absurd (H.trans (congrArg some HT.out)) (Zaa.j6_no kj97 t408 t411 t412 t419 false)
     rw [if_neg c159] at H
     have c159b0 : (t412 != false) = false := by simpa using c159
     (try (have c159b1 : decide (t412 = false) = true := by simpa using c159))
     (try (have c159b2 : (t412 == false) = true := by simpa using c159))
     clear c159
     replace H := bs_ H
     obtain ⟨t425, A160, H⟩ := H
     (try dsimp only at H)
     have H' := Aside0.mk H
     clear H
     obtain ⟨Ao161, co161, eo161⟩ := Kd.R_slice HO414.out
     subst eo161
     obtain ⟨Ao162, co162, eo162⟩ := Kd.R_slice HO418.out
     subst eo162
     as_aux_lemma =>
      go_wp2_with (first | (go_at_call 18; (with_reducible refine (Zaq.calls kj97 _ _ t411 _ _ t415 true _ ?side1 ?side2 ?side3 ?side4 A150.out).mono ?_); (case side1 => exact atRC HO414); (case side2 => exact (Kd.R_reads' HO414.out).2.1); (case side3 => exact atRC HO418); (case side4 => exact (Kd.R_reads' HO418.out).2.1); rintro e w' ⟨rfl, ⟨nd, rfl⟩⟩) | (go_at_call 20; (with_reducible refine (Zae.calls kj97 _ _ t408 t425 _ ?side1 ?side2 A160.out).mono ?_); (case side1 => exact atRC HO410); (case side2 => exact (Kd.R_reads' HO410.out).2.1); rintro e w' ⟨rfl, ⟨nd, rfl⟩⟩))
      go_meet
      case rel => exact ⟨_, ((false != t425)), eqd, H', ⟨by have := HJ15.out; have := HJ80.out; have := HJ97.out; first | omega | exact Nat.le_refl _⟩, ⟨atR HO410⟩, ⟨atR HO414⟩, ⟨atB HB⟩⟩
   case rest =>
    rename_i z4_0 z4_1 z4_2 z4_3 z4_4 z4_5 z4_6 z4_7 z4_8 z4_9 z4_10 z4_11 z4_12 z4_13 z4_14 z4_15 z4_16 z4_17 z4_18 z4_19 z4_20 z4_21 z4_22 z4_23 z4_24 z4_25 z4_26 z4_27 z4_28 z4_29 z4_30 z4_31 z4_32 z4_33 z4_34 z4_35 z4_36 z4_37 z4_38 z4_39 z4_40 z4_41 z4_42 z4_43 z4_44 z4_45 z4_46 z4_47 z4_48 z4_49 z4_50 z4_51 z4_52 z4_53 z4_54 z4_55 z4_56 z4_57 z4_58 z4_59 z4_60 z4_61 z4_62 z4_63 z4_64 z4_65 z4_66 z4_67 z4_68 z4_69 z4_70 z4_71 z4_72 z4_73 z4_74 z4_75 z4_76 z4_77 z4_78 z4_79 z4_80 z4_81 z4_82 z4_83 z4_84 z4_85 z4_86 z4_87 z4_88 z4_89 z4_90 z4_91 z4_92 z4_93 z4_94 z4_95 z4_96 z4_97 z4_98 z4_99 z4_100 z4_101 z4_102 z4_103 z4_104 z4_105 z4_106 z4_107 z4_108 z4_109 z4_110 z4_111 z4_112 z4_113 z4_114 z4_115 z4_116 z4_117 z4_118 z4_119 z4_120 z4_121 z4_122 z4_123 z4_124 z4_125 z4_126 z4_127 z4_128 z4_129 z4_130 z4_131 z4_132 z4_133 z4_134 z4_135 z4_136 z4_137 z4_138 z4_139 z4_140 z4_141 z4_142 z4_143 z4_144 z4_145 z4_146 z4_147 z4_148 z4_149 z4_150 z4_151 z4_152 z4_153 z4_154 z4_155 z4_156 z4_157 z4_158 z4_159 z4_160 z4_161 z4_162 z4_163 z4_164 z4_165 z4_166 z4_167 z4_168 z4_169 z4_170 z4_171 z4_172 z4_173 z4_174 z4_175 z4_176 z4_177 z4_178 z4_179 z4_180 z4_181 z4_182 z4_183 z4_184 z4_185 z4_186 z4_187 z4_188 z4_189 z4_190 z4_191 z4_192 z4_193 z4_194 z4_195 z4_196 z4_197 z4_198 z4_199 z4_200 z4_201 z4_202 z4_203 z4_204 z4_205 z4_206 z4_207 z4_208 z4_209 z4_210 z4_211 z4_212 z4_213 z4_214 z4_215 z4_216 z4_217 z4_218 z4_219 z4_220 z4_221 z4_222 z4_223 z4_224 z4_225 z4_226 z4_227 z4_228 z4_229 z4_230 z4_231 z4_232 z4_233 z4_234 z4_235 z4_236 z4_237 z4_238 z4_239 z4_240 z4_241 z4_242 z4_243 z4_244 z4_245 z4_246 z4_247 z4_248 z4_249 z4_250 z4_251 z4_252 z4_253 z4_254 z4_255 z4_256 z4_257 z4_258 z4_259 z4_260 z4_261 z4_262 z4_263 z4_264 z4_265 z4_266 z4_267 z4_268 z4_269 z4_270 z4_271 z4_272 z4_273 z4_274 z4_275 z4_276 z4_277 z4_278 z4_279 z4_280 z4_281 z4_282 z4_283 z4_284 z4_285 z4_286 z4_287 z4_288 z4_289 z4_290 z4_291 z4_292 z4_293 z4_294 z4_295 z4_296 z4_297 z4_298 z4_299 z4_300 z4_301 z4_302 z4_303 z4_304 z4_305 z4_306 z4_307 z4_308 z4_309 z4_310 z4_311 z4_312 z4_313 z4_314 z4_315 z4_316 z4_317 z4_318 z4_319 z4_320 z4_321 z4_322 z4_323 z4_324 z4_325 z4_326 z4_327 z4_328 z4_329 z4_330 z4_331 z4_332 z4_333 z4_334 z4_335 z4_336 z4_337 z4_338 z4_339 z4_340 z4_341 z4_342 z4_343 z4_344 z4_345 z4_346 z4_347 z4_348 z4_349 z4_350 z4_351 z4_352 z4_353 z4_354 z4_355 z4_356 z4_357 z4_358 z4_359 z4_360 z4_361 z4_362 z4_363 z4_364 z4_365 z4_366 z4_367 z4_368 z4_369 z4_370 z4_371 z4_372 z4_373 z4_374 z4_375 z4_376 z4_377 z4_378 z4_379 z4_380 z4_381 z4_382 z4_383 z4_384 z4_385 z4_386 z4_387 z4_388 z4_389 z4_390 z4_391 z4_392 z4_393 z4_394 z4_395 z4_396 z4_397 z4_398 z4_399 z4_400 z4_401 z4_402 z4_403 z4_404 z4_405 z4_406 z4_407 z4_408 z4_409 z4_410 z4_411 z4_412
    exact Zaa.rest4 A0 c0 l0 A1 c1 l1 r w HT t340 t341 t346 t347 t348 t349 t351 t355 t358 t359 t360 t361 t362 t363 t364 t365 t367 t371 Ao18 co18 Ao19 co19 v352 v356 v368 v372 u27 u28 u217 u218 u219 u4 u29 u30 u31 u32 u33 u34 u35 u36 u37 u38 u39 u317 u318 u319 kj97 t408 t411 t412 t415 t416 t419 t420 t421 t422 HC142 Ao144 co144 v413 v417 w148 HB z4_409 (by rfl) z4_410 z4_411 (by rfl) z4_412 wc u53 u54 u55 u56 u57 u58 u59 u60 u61 u62 u63 u64 u65 u66 u67 u68 u69 u70 u71 u72 u73 u74 u75 u76 u77 u78 u79 u80 u81 u82 u83 u84 u85 u86 u87 u88 u89 u90 u91 u92 u93 u94 u95 u96 u97 u98 u99 u100 u101 u102 u103 u104 u105 u106 u107 u108 u109 u110 u111 u112 u113 u114 u115 u116 u117 u118 u119 u120 u121 u122 u123 u124 u125 u126 u127 u128 u129 u130 u131 u132 u133 u134 u135 u136 u137 u138 u139 u140 u141 u142 u143 u144 u145 u146 u147 u148 u149 u150 u151 u152 u153 u154 u155 u156 u157 u158 u159 u160 u161 u162 u163 u164 u165 u166 u167 u168 u169 u170 u171 u172 u173 u174 u175 u176 u177 u178 u179 u180 u181 u182 u183 u184 u185 u186 u187 u188 u189 u190 u191 u192 u193 u194 u195 u196 u197 u198 u199 u200 u201 u202 u203 u204 u205 u206 u207 u208 u209 u210 u211 u212 u213 u214 u215 u216 u220 u221 u222 u223 u224 u225 u226 u227 u228 u229 u230 u231 u232 u233 u234 u235 u236 u237 u238 u239 u240 u241 u242 u243 u244 u245 u246 u247 u248 u249 u250 u251 u252 u253 u254 u255 u256 u257 u258 u259 u260 u261 u262 u263 u264 u265 u266 u267 u268 u269 u270 u271 u272 u273 u274 u275 u276 u277 u278 u279 u280 u281 u282 u283 u284 u285 u286 u287 u288 u289 u290 u291 u292 u293 u294 u295 u296 u297 u298 u299 u300 u301 u302 u303 u304 u305 u306 u307 u308 u309 u310 u311 u312 u313 u314 u315 u316 u320 u321 u322 u323 u324 u325 u326 u327 u328 u329 u330 u331 u332 u333 u334 u335 u336 u337 u338 u339 u340 u341 u342 u343 u344 u345 u346 u347 u348 u349 u350 u351 u352 u353 u354 u355 u356 u357 u358 u359 u360 u361 u362 u363 u364 u365 u366 u367 u368 u369 u370 u371 u372 u373 u374 u375 u376 u377 u378 u379 u380 u381 u382 u383 u384 u385 u386 u387 u388 u389 u390 u391 u392 u393 u394 u395 u396 u397 u398 u399 u400 u401 u402 u403 u404 u405 u406 u407 u408 u409 u410 u411 u412 u413 u414 u415 u416 u417 u418 u419 u420 u421 u422 u423 u424 u425 u426 u427 u428 u429 u430 u431 u432 u433 u434 u435 u436 u437 u438 u439 u440 u441 u442 u443 u444 u445 u446 u447 u448 u449 u450 u451 u452 u453 u454 u455 u456 u457 u458 u459 u460 u461 u462 u463 u464 hcut
end Go.Proofs.Ytnhnpplccfojeaa.Fn
