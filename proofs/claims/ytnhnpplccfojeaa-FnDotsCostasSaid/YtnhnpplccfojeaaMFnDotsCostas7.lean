/- The machine's side and plain lemmas for FnDotsCostas: texts of this session, merged by its program (part 7). -/
import Derived.Test.YtnhnpplccfojeaaMFnDotsCostas0
import Derived.Test.YtnhnpplccfojeaaMFnDotsCostas1
import Derived.Test.YtnhnpplccfojeaaMFnDotsCostas2
import Derived.Test.YtnhnpplccfojeaaMFnDotsCostas3
import Derived.Test.YtnhnpplccfojeaaMFnDotsCostas4
import Derived.Test.YtnhnpplccfojeaaMFnDotsCostas5
import Derived.Test.YtnhnpplccfojeaaMFnDotsCostas6
namespace Go.Proofs.Ytnhnpplccfojeaa.Fn
open Go.RowKit Go.Proofs.YtnhnpplccfojeaaW.PrintWords Go.Proofs.YtnhnpplccfojeaaW.PrintLast Go.Proofs.YtnhnpplccfojeaaW.PrintMore
attribute [local go_sem] max2_int min2_int max_two min_two max_three min_three max_four min_four   -- for this text's walks alone
set_option linter.unusedVariables false
set_option linter.unusedSimpArgs false
set_option maxHeartbeats 80000000 in
set_option maxRecDepth 100000 in
theorem laws_FnDotsCostas.rest1 (k : Nat) (A0 : Option Addr) (c0 : Nat) (l0 : List Int) (A1 : Option Addr) (c1 : Nat) (l1 : List Int) (r : Bool) (w : World) (HR1 : Aside0 ((Kd.int IntKind.u8).C w A1 l1.length l1)) (HC1 : Aside0 (l1.length ≤ c1)) (HT : Aside0 (r = true)) (t1045 : List Int) (t1048 t1049 t1050 t1051 : Bool) (t1052 t1053 t1054 : Int) (t1055 : Bool) (t1056 t1057 t1058 : Int) (t1059 : Bool) (HC10 : Aside0 ((if (t1049 != t1051) = true then laws_FnDotsCostas.j0 k l1 t1045 t1048 t1049 t1052 t1053 t1054 t1055 true else if (t1048 != t1050) = true then laws_FnDotsCostas.j0 k l1 t1045 t1048 t1049 t1052 t1053 t1054 t1055 true else if (t1055 != t1059) = true then laws_FnDotsCostas.j0 k l1 t1045 t1048 t1049 t1052 t1053 t1054 t1055 true else if t1052 = t1056 then if t1053 = t1057 then if t1054 = t1058 then (impl_IsDots.f k t1045).bind fun t1060 => if (t1049 != t1060) = true then laws_FnDotsCostas.j0 k l1 t1045 t1048 t1049 t1052 t1053 t1054 t1055 true else (impl_IsDots.f k t1045).bind fun t1061 => (spec_IsDots.f k t1045).bind fun t1062 => if (t1061 != t1062) = true then laws_FnDotsCostas.j0 k l1 t1045 t1048 t1049 t1052 t1053 t1054 t1055 true else if t1049 = true then laws_FnDotsCostas.j0 k l1 t1045 t1048 t1049 t1052 t1053 t1054 t1055 (t1055 != !t1048) else laws_FnDotsCostas.j0 k l1 t1045 t1048 t1049 t1052 t1053 t1054 t1055 (t1055 != false) else laws_FnDotsCostas.j0 k l1 t1045 t1048 t1049 t1052 t1053 t1054 t1055 true else laws_FnDotsCostas.j0 k l1 t1045 t1048 t1049 t1052 t1053 t1054 t1055 true else laws_FnDotsCostas.j0 k l1 t1045 t1048 t1049 t1052 t1053 t1054 t1055 true) = some r)) (Ao12 : Option Addr) (co12 : Nat) (w16 : World) (HB : Aside0 (Below w.heap.size w w16)) (z1_1 : Act → World → Prop) {Cz1_2 : Code} (ez1_2 : codeAt [1, 1, 1, 1, 1, 1, 1, 1] (bodyAt Try.f5) = Cz1_2) (z1_2 : ∀ (a_ : Act) (w_ : World), Code.wp Try.prog Cz1_2 (bodyPost Try.prog Try.f5 fun e w' => e = Ending.returned (Value.bool r) ∧ Below w.heap.size w w') a_ w_ → z1_1 a_ w_) (z1_3 : Act → World → Prop) {Cz1_4 : Code} (ez1_4 : codeAt [1, 1, 1, 1, 1, 1, 1, 0, 1] (bodyAt Try.f5) = Cz1_4) (z1_4 : ∀ (a_ : Act) (w_ : World), Code.wp Try.prog Cz1_4 (Exit.then z1_1 (bodyPost Try.prog Try.f5 fun e w' => e = Ending.returned (Value.bool r) ∧ Below w.heap.size w w')) a_ w_ → z1_3 a_ w_) (wc : World) (u72 u73 u74 u75 u76 u77 u78 u79 u80 u81 u82 u83 u84 u85 u86 u87 u88 u89 u90 u91 u92 u93 u94 u95 u96 u97 u98 u99 u100 u101 u102 u103 u104 u105 u106 u107 u108 u109 u110 u111 u112 u113 u114 u115 u116 u117 u118 u119 u120 u121 u122 u123 u124 u125 u126 u127 u128 u129 u130 u131 u132 u133 u134 u135 u136 u137 u138 u139 u140 u141 u142 u143 u144 u145 u146 u147 u148 u149 u150 u151 u152 u153 u154 u155 u156 u157 u158 u159 u160 u161 u162 u163 u164 u165 u166 u167 u168 u169 u170 u171 u172 u173 u174 u175 u176 u177 u178 u179 u180 u181 u182 u183 u184 u185 u186 u187 u188 u189 u190 u191 u192 u193 u194 u195 u196 u197 u198 u199 u200 u201 u202 u203 u204 u205 u206 u207 u208 u209 u210 u211 u212 u213 u214 u215 u216 u217 u218 u219 u220 u221 u222 u223 u224 u225 u226 u227 u228 u229 u230 u231 u232 u233 u234 u235 u236 u237 u238 u239 u240 u241 u242 u243 u244 u245 u246 u247 u251 u252 u253 u254 u255 u256 u257 u258 u259 u260 u261 u262 u263 u264 u265 u266 u267 u268 u269 u270 u271 u272 u273 u274 u275 u276 u277 u278 u279 u280 u281 u282 u283 u284 u285 u286 u287 u288 u289 u290 u291 u292 u293 u294 u295 u296 u297 u298 u299 u300 u301 u302 u303 u304 u305 u306 u307 u308 u309 u310 u311 u312 u313 u314 u315 u316 u317 u318 u319 u320 u321 u322 u323 u324 u325 u326 u327 u328 u329 u330 u331 u332 u333 u334 u335 u336 u337 u338 u339 u340 u341 u342 u343 u344 u345 u346 u347 u348 u349 u350 u351 u352 u353 u354 u355 u356 u357 u358 u359 u360 u361 u362 u363 u364 u365 u366 u367 u368 u369 u370 u371 u372 u373 u374 u375 u376 u377 u378 u379 u380 u381 u382 u383 u384 u385 u386 u387 u391 u392 u393 u394 u395 u396 u397 u398 u399 u400 u401 u402 u403 u404 u405 u406 u407 u408 u409 u410 u411 u412 u413 u414 u415 u416 u417 u418 u419 u420 u421 u422 u423 u424 u425 u426 u427 u428 u429 u430 u431 u432 u433 u434 u435 u436 u437 u438 u439 u440 u441 u442 u443 u444 u445 u446 u447 u448 u449 u450 u451 u452 u453 u454 u455 u456 u457 u458 u459 u460 u461 u462 u463 u464 u465 u466 u467 u468 u469 u470 u471 u472 u473 u474 u475 u476 u477 u478 u479 u480 u481 u482 u483 u484 u485 u486 u487 u488 u489 u490 u491 u492 u493 u494 u495 u496 u497 u498 u499 u500 u501 u502 u503 u504 u505 u506 u507 u508 u509 u510 u511 u512 u513 u514 : Value) (hcut : ∃ kq x150_9, u150 = Value.bool x150_9 ∧ Aside0 (laws_FnDotsCostas.j0 kq l1 t1045 t1048 t1049 t1052 t1053 t1054 t1055 x150_9 = some r) ∧ Aside0 (kq ≤ k) ∧ Aside0 ((Kd.int IntKind.i64).R (3 : Nat) wc w.heap.size (fun x => True) (Value.slice Ao12 t1045.length co12) t1045) ∧ Aside0 (Below w.heap.size w wc)) : z1_3 { tmps := #[Value.slice A0 l0.length c0, Value.slice A1 l1.length c1, Go.undef, Go.undef, Value.bool false, Value.slice Ao12 t1045.length co12, Value.bool t1048, Value.bool t1049, Value.bool t1050, Value.bool t1051, Value.int IntKind.i64 t1052, Value.int IntKind.i64 t1053, Value.int IntKind.i64 t1054, Value.bool t1055, Value.int IntKind.i64 t1056, Value.int IntKind.i64 t1057, Value.int IntKind.i64 t1058, Value.bool t1059, Go.undef, Go.undef, Go.undef, Go.undef, Go.undef, Go.undef, Go.undef, Go.undef, Go.undef, Go.undef, Go.undef, Go.undef, Go.undef, Go.undef, Go.undef, Go.undef, Go.undef, Go.undef, Go.undef, Go.undef, Go.undef, Go.undef, Go.undef, Go.undef, Go.undef, Go.undef, Go.undef, Go.undef, Go.undef, Go.undef, Go.undef, Go.undef, Go.undef, Go.undef, Go.undef, Go.undef, Go.undef, Go.undef, Go.undef, Go.undef, Go.undef, Go.undef, Go.undef, Go.undef, Go.undef, Go.undef, Go.undef, Go.undef, Go.undef, Go.undef, Go.undef, Go.undef, Go.undef, Go.undef, u72, u73, u74, u75, u76, u77, u78, u79, u80, u81, u82, u83, u84, u85, u86, u87, u88, u89, u90, u91, u92, u93, u94, u95, u96, u97, u98, u99, u100, u101, u102, u103, u104, u105, u106, u107, u108, u109, u110, u111, u112, u113, u114, u115, u116, u117, u118, u119, u120, u121, u122, u123, u124, u125, u126, u127, u128, u129, u130, u131, u132, u133, u134, u135, u136, u137, u138, u139, u140, u141, u142, u143, u144, u145, u146, u147, u148, u149, u150, u151, u152, u153, u154, u155, u156, u157, u158, u159, u160, u161, u162, u163, u164, u165, u166, u167, u168, u169, u170, u171, u172, u173, u174, u175, u176, u177, u178, u179, u180, u181, u182, u183, u184, u185, u186, u187, u188, u189, u190, u191, u192, u193, u194, u195, u196, u197, u198, u199, u200, u201, u202, u203, u204, u205, u206, u207, u208, u209, u210, u211, u212, u213, u214, u215, u216, u217, u218, u219, u220, u221, u222, u223, u224, u225, u226, u227, u228, u229, u230, u231, u232, u233, u234, u235, u236, u237, u238, u239, u240, u241, u242, u243, u244, u245, u246, u247, Go.undef, Go.undef, Go.undef, u251, u252, u253, u254, u255, u256, u257, u258, u259, u260, u261, u262, u263, u264, u265, u266, u267, u268, u269, u270, u271, u272, u273, u274, u275, u276, u277, u278, u279, u280, u281, u282, u283, u284, u285, u286, u287, u288, u289, u290, u291, u292, u293, u294, u295, u296, u297, u298, u299, u300, u301, u302, u303, u304, u305, u306, u307, u308, u309, u310, u311, u312, u313, u314, u315, u316, u317, u318, u319, u320, u321, u322, u323, u324, u325, u326, u327, u328, u329, u330, u331, u332, u333, u334, u335, u336, u337, u338, u339, u340, u341, u342, u343, u344, u345, u346, u347, u348, u349, u350, u351, u352, u353, u354, u355, u356, u357, u358, u359, u360, u361, u362, u363, u364, u365, u366, u367, u368, u369, u370, u371, u372, u373, u374, u375, u376, u377, u378, u379, u380, u381, u382, u383, u384, u385, u386, u387, Go.undef, Go.undef, Go.undef, u391, u392, u393, u394, u395, u396, u397, u398, u399, u400, u401, u402, u403, u404, u405, u406, u407, u408, u409, u410, u411, u412, u413, u414, u415, u416, u417, u418, u419, u420, u421, u422, u423, u424, u425, u426, u427, u428, u429, u430, u431, u432, u433, u434, u435, u436, u437, u438, u439, u440, u441, u442, u443, u444, u445, u446, u447, u448, u449, u450, u451, u452, u453, u454, u455, u456, u457, u458, u459, u460, u461, u462, u463, u464, u465, u466, u467, u468, u469, u470, u471, u472, u473, u474, u475, u476, u477, u478, u479, u480, u481, u482, u483, u484, u485, u486, u487, u488, u489, u490, u491, u492, u493, u494, u495, u496, u497, u498, u499, u500, u501, u502, u503, u504, u505, u506, u507, u508, u509, u510, u511, u512, u513, u514], defers := [] } wc := by
  conv at ez1_2 => (lhs; whnf)
  conv at ez1_4 => (lhs; whnf)
  subst ez1_2
  subst ez1_4
  clear HC10
  try clear c1
  try clear c2
  try clear p2
  try clear c4
  try clear c5
  try clear c17
  try clear c17b0
  try clear c17b1
  try clear c17b2
  try clear c18
  try clear c18b0
  try clear c18b1
  try clear c18b2
  try clear c19
  try clear c19b0
  try clear c19b1
  try clear c19b2
  try clear c20
  try clear c20b0
  try clear c20b1
  try clear c21
  try clear c21b0
  try clear c21b1
  try clear c22
  try clear c22b0
  try clear c22b1
  try clear c24
  try clear c24b0
  try clear c24b1
  try clear c24b2
  try clear c27
  try clear c27b0
  try clear c27b1
  try clear c27b2
  try clear c28
  obtain ⟨kq, x150_9, rfl, HA, HJ9, HO_5, HB⟩ := hcut
  cases kq with
  | zero => exact absurd HA.out (by simp [laws_FnDotsCostas.j0])
  | succ kj9 =>
   have H := HA.out
   clear HA
   simp only [laws_FnDotsCostas.j0] at H
   by_cases c29 : x150_9 = true
   ·subst c29
    rw [if_pos rfl] at H
    exact absurd ((Option.some.inj H).trans HT.out) (by decide)
   ·replace c29 := Bool.eq_false_iff.mpr c29
    subst c29
    rw [if_neg (show ¬ (false = true) by decide)] at H
    have HC30 := Aside0.mk H
    clear H
    go_upto_if 151 with (fail)
    repeat (go_quiet (fail); go_upto_if 151 with (fail))
    go_cut [] (fun wc => ∃ (kq : Nat), Aside0 (laws_FnDotsCostas.j1 kq l1 t1045 t1048 t1049 = some r) ∧ Aside0 (kq ≤ kj9) ∧ Aside0 (Kd.R (Kd.int .i64) 3 wc w.heap.size (fun _ => True) (.slice Ao12 t1045.length co12) t1045) ∧ Aside0 (Below w.heap.size w wc))
    case first => as_aux_lemma =>
     have H := HC30.out
     clear HC30
     by_cases c31 : t1055 = true
     ·subst c31
      rw [if_pos rfl] at H
      replace H := Option.bind_eq_some_iff.mp H
      obtain ⟨⟨t1063, t1064⟩, A320, H⟩ := H
      (try dsimp only at H)
      have A32 := Aside0.mk A320
      clear A320
      by_cases c33 : t1064 = true
      ·subst c33
       rw [if_pos rfl] at H
       by_cases c34 : t1053 ≥ t1054
       ·rw [if_pos c34] at H
        have c34b0 : decide (t1054 ≤ t1053) = true := decide_eq_true c34
        clear c34
        (first | rw [c34b0] | (simp only [i64_w, i32_w]; rw [c34b0]) | skip)
        exact absurd ((Option.some.inj H).trans HT.out) (by decide)
       ·rw [if_neg c34] at H
        have c34b0 : decide (t1054 ≤ t1053) = false := decide_eq_false c34
        clear c34
        (first | rw [c34b0] | (simp only [i64_w, i32_w]; rw [c34b0]) | skip)
        by_cases c35 : t1054 ≥ (t1063.length : Int)
        ·rw [if_pos c35] at H
         have c35b0 : decide ((t1063.length : Int) ≤ t1054) = true := decide_eq_true c35
         clear c35
         exact absurd ((Option.some.inj H).trans HT.out) (by decide)
        ·rw [if_neg c35] at H
         have c35b0 : decide ((t1063.length : Int) ≤ t1054) = false := decide_eq_false c35
         clear c35
         by_cases c36 : 0 ≤ t1053
         ·rw [if_pos c36] at H
          have c36b0 : decide (0 ≤ t1053) = true := decide_eq_true c36
          clear c36
          by_cases c37 : t1053 < (t1063.length : Int)
          ·rw [if_pos c37] at H
           have c37b0 : decide (t1053 < (t1063.length : Int)) = true := decide_eq_true c37
           clear c37
           by_cases c38 : 0 ≤ t1054
           ·rw [if_pos c38] at H
            have c38b0 : decide (0 ≤ t1054) = true := decide_eq_true c38
            clear c38
            by_cases c39 : t1054 < (t1063.length : Int)
            ·rw [if_pos c39] at H
             have c39b0 : decide (t1054 < (t1063.length : Int)) = true := decide_eq_true c39
             clear c39
             by_cases c40 : (rd t1063 t1053) = (rd t1063 t1054)
             ·rw [if_pos c40] at H
              have c40b0 : ((rd t1063 t1053) == (rd t1063 t1054)) = true := beq_iff_eq.mpr c40
              have c40b1 : ((rd t1063 t1053) != (rd t1063 t1054)) = false := bne_eq_false_iff_eq.mpr c40
              clear c40
              have H' := Aside0.mk H
              clear H
              as_aux_lemma =>
               go_wp2_with (first | (go_at_call 60; (with_reducible refine (impl_DifferencesOf.calls kj9 _ _ t1045 t1052 t1063 true _ ?side1 ?side2 A32.out).mono ?_); (case side1 => exact atRC HO_5); (case side2 => exact (Kd.R_reads' HO_5.out).2.1); rintro e w41 ⟨v1065, rfl, ho0, hb⟩; have HO1066 := lowR ho0 HB; replace HO_5 := upR HO_5 hb; replace HB := upB HB hb; (try clear hb); (try clear hb2); (try clear hk); (try clear hi); (try clear ho0); obtain ⟨Ao42, co42, eo42⟩ := Kd.R_slice HO1066.out; subst eo42; have p1067 : 0 ≤ (t1053 : Int) := ofd; have q1067 : t1053 < (t1063.length : Int) := ofd; obtain ⟨ad1067, e1067, hx1067_0⟩ := Kd.at_int (Kd.R_reads' HO1066.out).2.2 t1053 p1067 q1067; cases e1067; replace p1067 := eq_true p1067; replace q1067 := eq_true q1067; have p1068 : 0 ≤ (t1054 : Int) := ofd; have q1068 : t1054 < (t1063.length : Int) := ofd; obtain ⟨ad1068, e1068, hx1068_0⟩ := Kd.at_int (Kd.R_reads' HO1066.out).2.2 t1054 p1068 q1068; obtain rfl : ad1067 = ad1068 := (by injection e1068); replace p1068 := eq_true p1068; replace q1068 := eq_true q1068))
               repeat (go_quiet (first | (go_at_call 60; (with_reducible refine (impl_DifferencesOf.calls kj9 _ _ t1045 t1052 t1063 true _ ?side1 ?side2 A32.out).mono ?_); (case side1 => exact atRC HO_5); (case side2 => exact (Kd.R_reads' HO_5.out).2.1); rintro e w41 ⟨v1065, rfl, ho0, hb⟩; have HO1066 := lowR ho0 HB; replace HO_5 := upR HO_5 hb; replace HB := upB HB hb; (try clear hb); (try clear hb2); (try clear hk); (try clear hi); (try clear ho0); obtain ⟨Ao42, co42, eo42⟩ := Kd.R_slice HO1066.out; subst eo42; have p1067 : 0 ≤ (t1053 : Int) := ofd; have q1067 : t1053 < (t1063.length : Int) := ofd; obtain ⟨ad1067, e1067, hx1067_0⟩ := Kd.at_int (Kd.R_reads' HO1066.out).2.2 t1053 p1067 q1067; cases e1067; replace p1067 := eq_true p1067; replace q1067 := eq_true q1067; have p1068 : 0 ≤ (t1054 : Int) := ofd; have q1068 : t1054 < (t1063.length : Int) := ofd; obtain ⟨ad1068, e1068, hx1068_0⟩ := Kd.at_int (Kd.R_reads' HO1066.out).2.2 t1054 p1068 q1068; obtain rfl : ad1067 = ad1068 := (by injection e1068); replace p1068 := eq_true p1068; replace q1068 := eq_true q1068)); try go_wp2_with (first | (go_at_call 60; (with_reducible refine (impl_DifferencesOf.calls kj9 _ _ t1045 t1052 t1063 true _ ?side1 ?side2 A32.out).mono ?_); (case side1 => exact atRC HO_5); (case side2 => exact (Kd.R_reads' HO_5.out).2.1); rintro e w41 ⟨v1065, rfl, ho0, hb⟩; have HO1066 := lowR ho0 HB; replace HO_5 := upR HO_5 hb; replace HB := upB HB hb; (try clear hb); (try clear hb2); (try clear hk); (try clear hi); (try clear ho0); obtain ⟨Ao42, co42, eo42⟩ := Kd.R_slice HO1066.out; subst eo42; have p1067 : 0 ≤ (t1053 : Int) := ofd; have q1067 : t1053 < (t1063.length : Int) := ofd; obtain ⟨ad1067, e1067, hx1067_0⟩ := Kd.at_int (Kd.R_reads' HO1066.out).2.2 t1053 p1067 q1067; cases e1067; replace p1067 := eq_true p1067; replace q1067 := eq_true q1067; have p1068 : 0 ≤ (t1054 : Int) := ofd; have q1068 : t1054 < (t1063.length : Int) := ofd; obtain ⟨ad1068, e1068, hx1068_0⟩ := Kd.at_int (Kd.R_reads' HO1066.out).2.2 t1054 p1068 q1068; obtain rfl : ad1067 = ad1068 := (by injection e1068); replace p1068 := eq_true p1068; replace q1068 := eq_true q1068)))
               go_meet
               case rel => exact ⟨_, H', ⟨by have := HJ9.out; first | omega | exact Nat.le_refl _⟩, ⟨atR HO_5⟩, ⟨atB HB⟩⟩
             ·rw [if_neg c40] at H
              have c40b0 : ((rd t1063 t1053) == (rd t1063 t1054)) = false := beq_eq_false_iff_ne.mpr c40
              have c40b1 : ((rd t1063 t1053) != (rd t1063 t1054)) = true := bne_iff_ne.mpr c40
              exact absurd ((Option.some.inj H).trans HT.out) (by decide)
            ·rw [if_neg c39] at H
             exact absurd H (by simp)
           ·rw [if_neg c38] at H
            exact absurd H (by simp)
          ·rw [if_neg c37] at H
           exact absurd H (by simp)
         ·rw [if_neg c36] at H
          exact absurd H (by simp)
      ·replace c33 := Bool.eq_false_iff.mpr c33
       subst c33
       rw [if_neg (show ¬ (false = true) by decide)] at H
       exact absurd ((Option.some.inj H).trans HT.out) (by decide)
     ·replace c31 := Bool.eq_false_iff.mpr c31
      subst c31
      rw [if_neg (show ¬ (false = true) by decide)] at H
      have H' := Aside0.mk H
      clear H
      as_aux_lemma =>
       go_wp2
       repeat (go_quiet (fail); try go_wp2)
       go_meet
       case rel => exact ⟨_, H', ⟨by have := HJ9.out; first | omega | exact Nat.le_refl _⟩, ⟨atR HO_5⟩, ⟨atB HB⟩⟩
    case rest =>
     rename_i z2_0 z2_1 z2_2 z2_3 z2_4 z2_5 z2_6 z2_7 z2_8 z2_9 z2_10 z2_11 z2_12 z2_13 z2_14 z2_15 z2_16 z2_17 z2_18 z2_19 z2_20 z2_21 z2_22 z2_23 z2_24 z2_25 z2_26 z2_27 z2_28 z2_29 z2_30 z2_31 z2_32 z2_33 z2_34 z2_35 z2_36 z2_37 z2_38 z2_39 z2_40 z2_41 z2_42 z2_43 z2_44 z2_45 z2_46 z2_47 z2_48 z2_49 z2_50 z2_51 z2_52 z2_53 z2_54 z2_55 z2_56 z2_57 z2_58 z2_59 z2_60 z2_61 z2_62 z2_63 z2_64 z2_65 z2_66 z2_67 z2_68 z2_69 z2_70 z2_71 z2_72 z2_73 z2_74 z2_75 z2_76 z2_77 z2_78 z2_79 z2_80 z2_81 z2_82 z2_83 z2_84 z2_85 z2_86 z2_87 z2_88 z2_89 z2_90 z2_91 z2_92 z2_93 z2_94 z2_95 z2_96 z2_97 z2_98 z2_99 z2_100 z2_101 z2_102 z2_103 z2_104 z2_105 z2_106 z2_107 z2_108 z2_109 z2_110 z2_111 z2_112 z2_113 z2_114 z2_115 z2_116 z2_117 z2_118 z2_119 z2_120 z2_121 z2_122 z2_123 z2_124 z2_125 z2_126 z2_127 z2_128 z2_129 z2_130 z2_131 z2_132 z2_133 z2_134 z2_135 z2_136 z2_137 z2_138 z2_139 z2_140 z2_141 z2_142 z2_143 z2_144 z2_145 z2_146 z2_147 z2_148 z2_149 z2_150 z2_151 z2_152 z2_153 z2_154 z2_155 z2_156 z2_157 z2_158 z2_159 z2_160 z2_161 z2_162 z2_163 z2_164 z2_165 z2_166 z2_167 z2_168 z2_169 z2_170 z2_171 z2_172 z2_173 z2_174 z2_175 z2_176 z2_177 z2_178 z2_179 z2_180 z2_181 z2_182 z2_183 z2_184 z2_185 z2_186 z2_187 z2_188 z2_189 z2_190 z2_191 z2_192 z2_193 z2_194 z2_195 z2_196 z2_197 z2_198 z2_199 z2_200 z2_201 z2_202 z2_203 z2_204 z2_205 z2_206 z2_207 z2_208 z2_209 z2_210 z2_211 z2_212 z2_213 z2_214 z2_215 z2_216 z2_217 z2_218 z2_219 z2_220 z2_221 z2_222 z2_223 z2_224 z2_225 z2_226 z2_227 z2_228 z2_229 z2_230 z2_231 z2_232 z2_233 z2_234 z2_235 z2_236 z2_237 z2_238 z2_239 z2_240 z2_241 z2_242 z2_243 z2_244 z2_245 z2_246 z2_247 z2_248 z2_249 z2_250 z2_251 z2_252 z2_253 z2_254 z2_255 z2_256 z2_257 z2_258 z2_259 z2_260 z2_261 z2_262 z2_263 z2_264 z2_265 z2_266 z2_267 z2_268 z2_269 z2_270 z2_271 z2_272 z2_273 z2_274 z2_275 z2_276 z2_277 z2_278 z2_279 z2_280 z2_281 z2_282 z2_283 z2_284 z2_285 z2_286 z2_287 z2_288 z2_289 z2_290 z2_291 z2_292 z2_293 z2_294 z2_295 z2_296 z2_297 z2_298 z2_299 z2_300 z2_301 z2_302 z2_303 z2_304 z2_305 z2_306 z2_307 z2_308 z2_309 z2_310 z2_311 z2_312 z2_313 z2_314 z2_315 z2_316 z2_317 z2_318 z2_319 z2_320 z2_321 z2_322 z2_323 z2_324 z2_325 z2_326 z2_327 z2_328 z2_329 z2_330 z2_331 z2_332 z2_333 z2_334 z2_335 z2_336 z2_337 z2_338 z2_339 z2_340 z2_341 z2_342 z2_343 z2_344 z2_345 z2_346 z2_347 z2_348 z2_349 z2_350 z2_351 z2_352 z2_353 z2_354 z2_355 z2_356 z2_357 z2_358 z2_359 z2_360 z2_361 z2_362 z2_363 z2_364 z2_365 z2_366 z2_367 z2_368 z2_369 z2_370 z2_371 z2_372 z2_373 z2_374 z2_375 z2_376 z2_377 z2_378 z2_379 z2_380 z2_381 z2_382 z2_383 z2_384 z2_385 z2_386 z2_387 z2_388 z2_389 z2_390 z2_391 z2_392 z2_393 z2_394 z2_395 z2_396 z2_397 z2_398 z2_399 z2_400 z2_401 z2_402 z2_403 z2_404 z2_405 z2_406 z2_407 z2_408 z2_409 z2_410 z2_411 z2_412 z2_413 z2_414 z2_415 z2_416 z2_417 z2_418 z2_419 z2_420 z2_421 z2_422 z2_423 z2_424 z2_425 z2_426 z2_427 z2_428 z2_429 z2_430 z2_431 z2_432 z2_433 z2_434 z2_435 z2_436 z2_437 z2_438 z2_439 z2_440 z2_441
     exact laws_FnDotsCostas.rest2 k A0 c0 l0 A1 c1 l1 r w HR1 HC1 HT t1045 t1048 t1049 t1050 t1051 t1052 t1053 t1054 t1055 t1056 t1057 t1058 t1059 Ao12 co12 z2_1 HO_5 HB kj9 HJ9 HC30 z2_440 (by rfl) z2_441 wc u4 u18 u19 u72 u73 u74 u75 u76 u77 u78 u79 u80 u81 u82 u83 u84 u85 u86 u87 u88 u89 u90 u91 u92 u93 u94 u95 u96 u97 u98 u99 u100 u101 u102 u103 u104 u105 u106 u107 u108 u109 u110 u111 u112 u113 u114 u115 u116 u117 u118 u119 u120 u121 u122 u123 u124 u125 u126 u127 u128 u129 u130 u131 u132 u133 u134 u135 u136 u137 u138 u139 u140 u141 u142 u143 u144 u145 u146 u147 u148 u149 u150 u151 u152 u153 u154 u155 u156 u157 u158 u159 u160 u161 u162 u163 u164 u165 u166 u167 u168 u169 u170 u171 u172 u173 u174 u175 u176 u177 u178 u179 u180 u181 u182 u183 u184 u185 u186 u187 u188 u189 u190 u191 u192 u193 u194 u195 u196 u197 u198 u199 u200 u201 u202 u203 u204 u205 u206 u207 u208 u209 u210 u211 u212 u213 u214 u215 u216 u217 u218 u219 u220 u221 u222 u223 u224 u225 u226 u227 u228 u229 u230 u231 u232 u233 u234 u235 u236 u237 u238 u239 u240 u241 u242 u243 u244 u245 u246 u247 u251 u252 u253 u254 u255 u256 u257 u258 u259 u260 u261 u262 u263 u264 u265 u266 u267 u268 u269 u270 u271 u272 u273 u274 u275 u276 u277 u278 u279 u280 u281 u282 u283 u284 u285 u286 u287 u288 u289 u290 u291 u292 u293 u294 u295 u296 u297 u298 u299 u300 u301 u302 u303 u304 u305 u306 u307 u308 u309 u310 u311 u312 u313 u314 u315 u316 u317 u318 u319 u320 u321 u322 u323 u324 u325 u326 u327 u328 u329 u330 u331 u332 u333 u334 u335 u336 u337 u338 u339 u340 u341 u342 u343 u344 u345 u346 u347 u348 u349 u350 u351 u352 u353 u354 u355 u356 u357 u358 u359 u360 u361 u362 u363 u364 u365 u366 u367 u368 u369 u370 u371 u372 u373 u374 u375 u376 u377 u378 u379 u380 u381 u382 u383 u384 u385 u386 u387 u391 u392 u393 u394 u395 u396 u397 u398 u399 u400 u401 u402 u403 u404 u405 u406 u407 u408 u409 u410 u411 u412 u413 u414 u415 u416 u417 u418 u419 u420 u421 u422 u423 u424 u425 u426 u427 u428 u429 u430 u431 u432 u433 u434 u435 u436 u437 u438 u439 u440 u441 u442 u443 u444 u445 u446 u447 u448 u449 u450 u451 u452 u453 u454 u455 u456 u457 u458 u459 u460 u461 u462 u463 u464 u465 u466 u467 u468 u469 u470 u471 u472 u473 u474 u475 u476 u477 u478 u479 u480 u481 u482 u483 u484 u485 u486 u487 u488 u489 u490 u491 u492 u493 u494 u495 u496 u497 u498 u499 u500 u501 u502 u503 u504 u505 u506 u507 u508 u509 u510 u511 u512 u513 u514 hcut
end Go.Proofs.Ytnhnpplccfojeaa.Fn
