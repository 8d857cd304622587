/- The machine's side and plain lemmas for FnTreesLabelled: texts of this session, merged by its program (part 3). -/
import Derived.Test.YtnhnpplccfojeaaMFnTreesLabelled0
import Derived.Test.YtnhnpplccfojeaaMFnTreesLabelled1
import Derived.Test.YtnhnpplccfojeaaMFnTreesLabelled2
set_option maxHeartbeats 80000000
set_option maxRecDepth 100000
namespace Go.Proofs.Ytnhnpplccfojeaa.Fn
open Go.RowKit Go.Proofs.YtnhnpplccfojeaaW.PrintWords Go.Proofs.YtnhnpplccfojeaaW.PrintLast Go.Proofs.YtnhnpplccfojeaaW.PrintMore
attribute [local go_sem] max2_int min2_int max_two min_two max_three min_three max_four min_four
set_option linter.unusedVariables false
set_option linter.unusedSimpArgs false
theorem Zaa.rest4 (A0 : Option Addr) (c0 : Nat) (l0 : List Int) (A1 : Option Addr) (c1 : Nat) (l1 : List Int) (r : Bool) (w : World) (HT : Aside0 (r = true)) (t340 t341 : List Int) (t346 t347 t348 t349 t351 t355 t358 t359 t360 t361 : Bool) (t362 : Int) (t363 : Bool) (t364 : Int) (t365 t367 t371 : Bool) (Ao18 : Option Addr) (co18 : Nat) (Ao19 : Option Addr) (co19 : Nat) (v352 v356 v368 v372 u27 u28 u217 u218 u219 u4 u29 u30 u31 u32 u33 u34 u35 u36 u37 u38 u39 u317 u318 u319 : Value) (kj97 : Nat) (t408 t411 : List Int) (t412 : Bool) (t415 : List Int) (t416 : Bool) (t419 : Int) (t420 : Bool) (t421 : Int) (t422 : Bool) (HC142 : Aside0 ((if (t412 != t416) = true then Zaa.j6 kj97 t408 t411 t412 t419 t420 true else (Zaq.f kj97 t411 t415).bind fun t423 => if t423 = true then if (t420 != t422) = true then Zaa.j6 kj97 t408 t411 t412 t419 t420 true else if t419 = t421 then if t420 = true then if (t412 != decide (t419 > (0 : Int))) = true then Zaa.j6 kj97 t408 t411 t412 t419 t420 true else (Zae.f kj97 t408).bind fun t424 => Zaa.j6 kj97 t408 t411 t412 t419 t420 (t420 != t424) else if (t412 != false) = true then Zaa.j6 kj97 t408 t411 t412 t419 t420 true else (Zae.f kj97 t408).bind fun t425 => Zaa.j6 kj97 t408 t411 t412 t419 t420 (t420 != t425) else Zaa.j6 kj97 t408 t411 t412 t419 t420 true else Zaa.j6 kj97 t408 t411 t412 t419 t420 true) = some r)) (Ao144 : Option Addr) (co144 : Nat) (v413 v417 : Value) (w148 : World) (HB : Aside0 (Below w.heap.size w w148)) (z4_409 : Act → World → Prop) {Cz4_410 : Code} (ez4_410 : codeAt [1, 1, 1, 1, 1, 1, 1, 1, 1, 1, 1, 1, 1, 1, 1, 1, 1, 1, 1, 1, 1, 1] (bodyAt Try.f3) = Cz4_410) (z4_410 : ∀ (a_ : Act) (w_ : World), Code.wp Try.prog Cz4_410 (bodyPost Try.prog Try.f3 fun e w' => e = Ending.returned (Value.bool r) ∧ Below w.heap.size w w') a_ w_ → z4_409 a_ w_) (z4_411 : Act → World → Prop) {Cz4_412 : Code} (ez4_412 : codeAt [1, 1, 1, 1, 1, 1, 1, 1, 1, 1, 1, 1, 1, 1, 1, 1, 1, 1, 1, 1, 1, 0, 1] (bodyAt Try.f3) = Cz4_412) (z4_412 : ∀ (a_ : Act) (w_ : World), Code.wp Try.prog Cz4_412 (Exit.then z4_409 (bodyPost Try.prog Try.f3 fun e w' => e = Ending.returned (Value.bool r) ∧ Below w.heap.size w w')) a_ w_ → z4_411 a_ w_) (wc : World) (u53 u54 u55 u56 u57 u58 u59 u60 u61 u62 u63 u64 u65 u66 u67 u68 u69 u70 u71 u72 u73 u74 u75 u76 u77 u78 u79 u80 u81 u82 u83 u84 u85 u86 u87 u88 u89 u90 u91 u92 u93 u94 u95 u96 u97 u98 u99 u100 u101 u102 u103 u104 u105 u106 u107 u108 u109 u110 u111 u112 u113 u114 u115 u116 u117 u118 u119 u120 u121 u122 u123 u124 u125 u126 u127 u128 u129 u130 u131 u132 u133 u134 u135 u136 u137 u138 u139 u140 u141 u142 u143 u144 u145 u146 u147 u148 u149 u150 u151 u152 u153 u154 u155 u156 u157 u158 u159 u160 u161 u162 u163 u164 u165 u166 u167 u168 u169 u170 u171 u172 u173 u174 u175 u176 u177 u178 u179 u180 u181 u182 u183 u184 u185 u186 u187 u188 u189 u190 u191 u192 u193 u194 u195 u196 u197 u198 u199 u200 u201 u202 u203 u204 u205 u206 u207 u208 u209 u210 u211 u212 u213 u214 u215 u216 u220 u221 u222 u223 u224 u225 u226 u227 u228 u229 u230 u231 u232 u233 u234 u235 u236 u237 u238 u239 u240 u241 u242 u243 u244 u245 u246 u247 u248 u249 u250 u251 u252 u253 u254 u255 u256 u257 u258 u259 u260 u261 u262 u263 u264 u265 u266 u267 u268 u269 u270 u271 u272 u273 u274 u275 u276 u277 u278 u279 u280 u281 u282 u283 u284 u285 u286 u287 u288 u289 u290 u291 u292 u293 u294 u295 u296 u297 u298 u299 u300 u301 u302 u303 u304 u305 u306 u307 u308 u309 u310 u311 u312 u313 u314 u315 u316 u320 u321 u322 u323 u324 u325 u326 u327 u328 u329 u330 u331 u332 u333 u334 u335 u336 u337 u338 u339 u340 u341 u342 u343 u344 u345 u346 u347 u348 u349 u350 u351 u352 u353 u354 u355 u356 u357 u358 u359 u360 u361 u362 u363 u364 u365 u366 u367 u368 u369 u370 u371 u372 u373 u374 u375 u376 u377 u378 u379 u380 u381 u382 u383 u384 u385 u386 u387 u388 u389 u390 u391 u392 u393 u394 u395 u396 u397 u398 u399 u400 u401 u402 u403 u404 u405 u406 u407 u408 u409 u410 u411 u412 u413 u414 u415 u416 u417 u418 u419 u420 u421 u422 u423 u424 u425 u426 u427 u428 u429 u430 u431 u432 u433 u434 u435 u436 u437 u438 u439 u440 u441 u442 u443 u444 u445 u446 u447 u448 u449 u450 u451 u452 u453 u454 u455 u456 u457 u458 u459 u460 u461 u462 u463 u464 : Value) (hcut : ∃ kq x421_141, u421 = Value.bool x421_141 ∧ Aside0 (Zaa.j6 kq t408 t411 t412 t419 t420 x421_141 = some r) ∧ Aside0 (kq ≤ kj97) ∧ Aside0 ((Kd.int IntKind.i64).R (3 : Nat) wc w.heap.size (fun x => True) (Value.slice Ao144 t408.length co144) t408) ∧ Aside0 ((Kd.int IntKind.i64).R (3 : Nat) wc w.heap.size (fun x => True) v413 t411) ∧ Aside0 (Below w.heap.size w wc)) : z4_411 { tmps := #[Value.slice A0 l0.length c0, Value.slice A1 l1.length c1, Go.undef, Go.undef, u4, Value.slice Ao18 t340.length co18, Value.slice Ao19 t341.length co19, Value.bool t346, Value.bool t347, Value.bool t348, Value.bool t349, v352, Value.bool t351, v356, Value.bool t355, Value.bool t358, Value.bool t359, Value.bool t360, Value.bool t361, Value.int IntKind.i64 t362, Value.bool t363, Value.int IntKind.i64 t364, Value.bool t365, v368, Value.bool t367, v372, Value.bool t371, u27, u28, u29, u30, u31, u32, u33, u34, u35, u36, u37, u38, u39, Value.slice Ao144 t408.length co144, v413, Value.bool t412, v417, Value.bool t416, Value.int IntKind.i64 t419, Value.bool t420, Value.int IntKind.i64 t421, Value.bool t422, Go.undef, Go.undef, Go.undef, Go.undef, u53, u54, u55, u56, u57, u58, u59, u60, u61, u62, u63, u64, u65, u66, u67, u68, u69, u70, u71, u72, u73, u74, u75, u76, u77, u78, u79, u80, u81, u82, u83, u84, u85, u86, u87, u88, u89, u90, u91, u92, u93, u94, u95, u96, u97, u98, u99, u100, u101, u102, u103, u104, u105, u106, u107, u108, u109, u110, u111, u112, u113, u114, u115, u116, u117, u118, u119, u120, u121, u122, u123, u124, u125, u126, u127, u128, u129, u130, u131, u132, u133, u134, u135, u136, u137, u138, u139, u140, u141, u142, u143, u144, u145, u146, u147, u148, u149, u150, u151, u152, u153, u154, u155, u156, u157, u158, u159, u160, u161, u162, u163, u164, u165, u166, u167, u168, u169, u170, u171, u172, u173, u174, u175, u176, u177, u178, u179, u180, u181, u182, u183, u184, u185, u186, u187, u188, u189, u190, u191, u192, u193, u194, u195, u196, u197, u198, u199, u200, u201, u202, u203, u204, u205, u206, u207, u208, u209, u210, u211, u212, u213, u214, u215, u216, u217, u218, u219, u220, u221, u222, u223, u224, u225, u226, u227, u228, u229, u230, u231, u232, u233, u234, u235, u236, u237, u238, u239, u240, u241, u242, u243, u244, u245, u246, u247, u248, u249, u250, u251, u252, u253, u254, u255, u256, u257, u258, u259, u260, u261, u262, u263, u264, u265, u266, u267, u268, u269, u270, u271, u272, u273, u274, u275, u276, u277, u278, u279, u280, u281, u282, u283, u284, u285, u286, u287, u288, u289, u290, u291, u292, u293, u294, u295, u296, u297, u298, u299, u300, u301, u302, u303, u304, u305, u306, u307, u308, u309, u310, u311, u312, u313, u314, u315, u316, u317, u318, u319, u320, u321, u322, u323, u324, u325, u326, u327, u328, u329, u330, u331, u332, u333, u334, u335, u336, u337, u338, u339, u340, u341, u342, u343, u344, u345, u346, u347, u348, u349, u350, u351, u352, u353, u354, u355, u356, u357, u358, u359, u360, u361, u362, u363, u364, u365, u366, u367, u368, u369, u370, u371, u372, u373, u374, u375, u376, u377, u378, u379, u380, u381, u382, u383, u384, u385, u386, u387, u388, u389, u390, u391, u392, u393, u394, u395, u396, u397, u398, u399, u400, u401, u402, u403, u404, u405, u406, u407, u408, u409, u410, u411, u412, u413, u414, u415, u416, u417, u418, u419, u420, u421, u422, u423, u424, u425, u426, u427, u428, u429, u430, u431, u432, u433, u434, u435, u436, u437, u438, u439, u440, u441, u442, u443, u444, u445, u446, u447, u448, u449, u450, u451, u452, u453, u454, u455, u456, u457, u458, u459, u460, u461, u462, u463, u464], defers := [] } wc := by
  conv at ez4_410 => (lhs; whnf)
  conv at ez4_412 => (lhs; whnf)
  subst ez4_410
  subst ez4_412
  clear HC142
  try clear c1
  obtain ⟨kq, x421_141, rfl, HA, HJ141, HO_40, HO_41, HB⟩ := hcut
  cases kq with
  | zero => exact absurd HA.out (by simp [Zaa.j6])
  | succ kj141 =>
   have H := HA.out
   clear HA
   simp only [Zaa.j6] at H
   by_cases c163 : x421_141 = true
   ·subst c163
    rw [if_pos rfl] at H
    exact absurd ((Option.some.inj H).trans HT.out) (by decide)
   replace c163 := Bool.eq_false_iff.mpr c163
   subst c163
   rw [if_neg (show ¬ (false = true) by decide)] at H
   by_cases c164 : t412 = true
   ·subst c164
    rw [if_pos rfl] at H
    replace H := Option.bind_eq_some_iff.mp H
    obtain ⟨⟨t426, t427⟩, A1650, H⟩ := H
    (try dsimp only at H)
    have A165 := Aside0.mk A1650
    clear A1650
    replace H := Option.bind_eq_some_iff.mp H
    obtain ⟨⟨t428, t429⟩, A1660, H⟩ := H
    (try dsimp only at H)
    have A166 := Aside0.mk A1660
    clear A1660
    by_cases c167 : t427 = true
    rotate_left
    ·replace c167 := Bool.eq_false_iff.mpr c167
     subst c167
     rw [if_neg (show ¬ (false = true) by decide)] at H
     exact absurd ((Option.some.inj H).trans HT.out) (by decide)
    subst c167
    rw [if_pos rfl] at H
    by_cases c168 : t426 = true
    rotate_left
    ·replace c168 := Bool.eq_false_iff.mpr c168
     subst c168
     rw [if_neg (show ¬ (false = true) by decide)] at H
     exact absurd ((Option.some.inj H).trans HT.out) (by decide)
    subst c168
    rw [if_pos rfl] at H
    by_cases c169 : t429 = true
    rotate_left
    ·replace c169 := Bool.eq_false_iff.mpr c169
     subst c169
     rw [if_neg (show ¬ (false = true) by decide)] at H
     exact absurd ((Option.some.inj H).trans HT.out) (by decide)
    subst c169
    rw [if_pos rfl] at H
    replace H := bs_ H
    obtain ⟨t432, A170, H⟩ := H
    (try dsimp only at H)
    by_cases c171 : t432 = true
    ·subst c171
     rw [if_pos rfl] at H
     exact absurd ((Option.some.inj H).trans HT.out) (by decide)
    replace c171 := Bool.eq_false_iff.mpr c171
    subst c171
    rw [if_neg (show ¬ (false = true) by decide)] at H
    by_cases c172 : (t408.length : Int) > 1
    ·rw [if_pos c172] at H
     have c172b0 := decide_eq_true c172
     have c172b1 : decide (1 < t408.length) = true := decide_eq_true (by omega)
     clear c172
     by_cases c173 : (Int.tmod t419 2) = 0
     rotate_left
     ·rw [if_neg c173] at H
      have c173b0 : ((Int.tmod t419 2) == 0) = false := beq_eq_false_iff_ne.mpr c173
      have c173b1 : ((Int.tmod t419 2) != 0) = true := bne_iff_ne.mpr c173
      exact absurd ((Option.some.inj H).trans HT.out) (by decide)
     rw [if_pos c173] at H
     have c173b0 : ((Int.tmod t419 2) == 0) = true := beq_iff_eq.mpr c173
     have c173b1 : ((Int.tmod t419 2) != 0) = false := bne_eq_false_iff_eq.mpr c173
     clear c173
     by_cases c174 : t420 = true
     rotate_left
     ·replace c174 := Bool.eq_false_iff.mpr c174
      subst c174
      rw [if_neg (show ¬ (false = true) by decide)] at H
      obtain rfl := Option.some.inj H
      obtain ⟨Ao179, co179, eo179⟩ := Kd.R_slice HO_41.out
      subst eo179
      as_aux_lemma =>
       go_wp2_with (first | ((with_reducible refine gate_callee (f := 8) rfl ?_); refine goesA (some 426) Try.func8 #[.slice Ao144 t408.length co144, .slice Ao179 t411.length co179] ?_; (with_reducible refine (Zat.calls kj141 _ _ t408 _ _ t411 true true _ ?side1 ?side2 ?side3 ?side4 A165.out).mono ?_); (case side1 => exact atRC HO_40); (case side2 => exact (Kd.R_reads' HO_40.out).2.1); (case side3 => exact atRC HO_41); (case side4 => exact (Kd.R_reads' HO_41.out).2.1); rintro e w180 ⟨rfl, hb⟩; refine ⟨_, rfl, ?_⟩; replace HO_40 := upR HO_40 hb; replace HO_41 := upR HO_41 hb; replace HB := upB HB hb) | ((with_reducible refine gate_callee (f := 22) rfl ?_); refine goesA (some 431) Try.func22 #[.slice Ao179 t411.length co179] ?_; (with_reducible refine (Zab.calls kj141 _ _ t411 t428 true _ ?side1 ?side2 A166.out).mono ?_); (case side1 => exact atRC HO_41); (case side2 => exact (Kd.R_reads' HO_41.out).2.1); rintro e w181 ⟨v430, rfl, ho0, hb⟩; refine ⟨_, rfl, ?_⟩; have HO431 := lowR ho0 HB; replace HO_40 := upR HO_40 hb; replace HO_41 := upR HO_41 hb; replace HB := upB HB hb; obtain ⟨Ao182, co182, eo182⟩ := Kd.R_slice HO431.out; subst eo182) | (go_at_call 30; (with_reducible refine (Zas.calls kj141 _ _ t428 _ _ t411 false _ ?side1 ?side2 ?side3 ?side4 A170.out).mono ?_); (case side1 => exact atRC HO431); (case side2 => exact (Kd.R_reads' HO431.out).2.1); (case side3 => exact atRC HO_41); (case side4 => exact (Kd.R_reads' HO_41.out).2.1); rintro e w' ⟨rfl, ⟨nd, rfl⟩⟩))
       go_ret
       exact ⟨eqr, atB HB⟩
     subst c174
     rw [if_pos rfl] at H
     obtain rfl := Option.some.inj H
     obtain ⟨Ao175, co175, eo175⟩ := Kd.R_slice HO_41.out
     subst eo175
     as_aux_lemma =>
      go_wp2_with (first | ((with_reducible refine gate_callee (f := 8) rfl ?_); refine goesA (some 426) Try.func8 #[.slice Ao144 t408.length co144, .slice Ao175 t411.length co175] ?_; (with_reducible refine (Zat.calls kj141 _ _ t408 _ _ t411 true true _ ?side1 ?side2 ?side3 ?side4 A165.out).mono ?_); (case side1 => exact atRC HO_40); (case side2 => exact (Kd.R_reads' HO_40.out).2.1); (case side3 => exact atRC HO_41); (case side4 => exact (Kd.R_reads' HO_41.out).2.1); rintro e w176 ⟨rfl, hb⟩; refine ⟨_, rfl, ?_⟩; replace HO_40 := upR HO_40 hb; replace HO_41 := upR HO_41 hb; replace HB := upB HB hb) | ((with_reducible refine gate_callee (f := 22) rfl ?_); refine goesA (some 431) Try.func22 #[.slice Ao175 t411.length co175] ?_; (with_reducible refine (Zab.calls kj141 _ _ t411 t428 true _ ?side1 ?side2 A166.out).mono ?_); (case side1 => exact atRC HO_41); (case side2 => exact (Kd.R_reads' HO_41.out).2.1); rintro e w177 ⟨v430, rfl, ho0, hb⟩; refine ⟨_, rfl, ?_⟩; have HO431 := lowR ho0 HB; replace HO_40 := upR HO_40 hb; replace HO_41 := upR HO_41 hb; replace HB := upB HB hb; obtain ⟨Ao178, co178, eo178⟩ := Kd.R_slice HO431.out; subst eo178) | (go_at_call 30; (with_reducible refine (Zas.calls kj141 _ _ t428 _ _ t411 false _ ?side1 ?side2 ?side3 ?side4 A170.out).mono ?_); (case side1 => exact atRC HO431); (case side2 => exact (Kd.R_reads' HO431.out).2.1); (case side3 => exact atRC HO_41); (case side4 => exact (Kd.R_reads' HO_41.out).2.1); rintro e w' ⟨rfl, ⟨nd, rfl⟩⟩))
      go_ret
      exact ⟨eqr, atB HB⟩
    ·rw [if_neg c172] at H
     have c172b0 := decide_eq_false c172
     have c172b1 : decide (1 < t408.length) = false := decide_eq_false (by omega)
     clear c172
     by_cases c183 : t420 = true
     rotate_left
     ·replace c183 := Bool.eq_false_iff.mpr c183
      subst c183
      rw [if_neg (show ¬ (false = true) by decide)] at H
      obtain rfl := Option.some.inj H
      obtain ⟨Ao188, co188, eo188⟩ := Kd.R_slice HO_41.out
      subst eo188
      as_aux_lemma =>
       go_wp2_with (first | ((with_reducible refine gate_callee (f := 8) rfl ?_); refine goesA (some 426) Try.func8 #[.slice Ao144 t408.length co144, .slice Ao188 t411.length co188] ?_; (with_reducible refine (Zat.calls kj141 _ _ t408 _ _ t411 true true _ ?side1 ?side2 ?side3 ?side4 A165.out).mono ?_); (case side1 => exact atRC HO_40); (case side2 => exact (Kd.R_reads' HO_40.out).2.1); (case side3 => exact atRC HO_41); (case side4 => exact (Kd.R_reads' HO_41.out).2.1); rintro e w189 ⟨rfl, hb⟩; refine ⟨_, rfl, ?_⟩; replace HO_40 := upR HO_40 hb; replace HO_41 := upR HO_41 hb; replace HB := upB HB hb) | ((with_reducible refine gate_callee (f := 22) rfl ?_); refine goesA (some 431) Try.func22 #[.slice Ao188 t411.length co188] ?_; (with_reducible refine (Zab.calls kj141 _ _ t411 t428 true _ ?side1 ?side2 A166.out).mono ?_); (case side1 => exact atRC HO_41); (case side2 => exact (Kd.R_reads' HO_41.out).2.1); rintro e w190 ⟨v430, rfl, ho0, hb⟩; refine ⟨_, rfl, ?_⟩; have HO431 := lowR ho0 HB; replace HO_40 := upR HO_40 hb; replace HO_41 := upR HO_41 hb; replace HB := upB HB hb; obtain ⟨Ao191, co191, eo191⟩ := Kd.R_slice HO431.out; subst eo191) | (go_at_call 30; (with_reducible refine (Zas.calls kj141 _ _ t428 _ _ t411 false _ ?side1 ?side2 ?side3 ?side4 A170.out).mono ?_); (case side1 => exact atRC HO431); (case side2 => exact (Kd.R_reads' HO431.out).2.1); (case side3 => exact atRC HO_41); (case side4 => exact (Kd.R_reads' HO_41.out).2.1); rintro e w' ⟨rfl, ⟨nd, rfl⟩⟩))
       go_ret
       exact ⟨eqr, atB HB⟩
     subst c183
     rw [if_pos rfl] at H
     obtain rfl := Option.some.inj H
     obtain ⟨Ao184, co184, eo184⟩ := Kd.R_slice HO_41.out
     subst eo184
     as_aux_lemma =>
      go_wp2_with (first | ((with_reducible refine gate_callee (f := 8) rfl ?_); refine goesA (some 426) Try.func8 #[.slice Ao144 t408.length co144, .slice Ao184 t411.length co184] ?_; (with_reducible refine (Zat.calls kj141 _ _ t408 _ _ t411 true true _ ?side1 ?side2 ?side3 ?side4 A165.out).mono ?_); (case side1 => exact atRC HO_40); (case side2 => exact (Kd.R_reads' HO_40.out).2.1); (case side3 => exact atRC HO_41); (case side4 => exact (Kd.R_reads' HO_41.out).2.1); rintro e w185 ⟨rfl, hb⟩; refine ⟨_, rfl, ?_⟩; replace HO_40 := upR HO_40 hb; replace HO_41 := upR HO_41 hb; replace HB := upB HB hb) | ((with_reducible refine gate_callee (f := 22) rfl ?_); refine goesA (some 431) Try.func22 #[.slice Ao184 t411.length co184] ?_; (with_reducible refine (Zab.calls kj141 _ _ t411 t428 true _ ?side1 ?side2 A166.out).mono ?_); (case side1 => exact atRC HO_41); (case side2 => exact (Kd.R_reads' HO_41.out).2.1); rintro e w186 ⟨v430, rfl, ho0, hb⟩; refine ⟨_, rfl, ?_⟩; have HO431 := lowR ho0 HB; replace HO_40 := upR HO_40 hb; replace HO_41 := upR HO_41 hb; replace HB := upB HB hb; obtain ⟨Ao187, co187, eo187⟩ := Kd.R_slice HO431.out; subst eo187) | (go_at_call 30; (with_reducible refine (Zas.calls kj141 _ _ t428 _ _ t411 false _ ?side1 ?side2 ?side3 ?side4 A170.out).mono ?_); (case side1 => exact atRC HO431); (case side2 => exact (Kd.R_reads' HO431.out).2.1); (case side3 => exact atRC HO_41); (case side4 => exact (Kd.R_reads' HO_41.out).2.1); rintro e w' ⟨rfl, ⟨nd, rfl⟩⟩))
      go_ret
      exact ⟨eqr, atB HB⟩
   ·replace c164 := Bool.eq_false_iff.mpr c164
    subst c164
    rw [if_neg (show ¬ (false = true) by decide)] at H
    by_cases c192 : t420 = true
    rotate_left
    ·replace c192 := Bool.eq_false_iff.mpr c192
     subst c192
     rw [if_neg (show ¬ (false = true) by decide)] at H
     obtain rfl := Option.some.inj H
     as_aux_lemma =>
      go_wp2
      go_ret
      exact ⟨eqr, atB HB⟩
    subst c192
    rw [if_pos rfl] at H
    obtain rfl := Option.some.inj H
    as_aux_lemma =>
     go_wp2
     go_ret
     exact ⟨eqr, atB HB⟩
end Go.Proofs.Ytnhnpplccfojeaa.Fn
