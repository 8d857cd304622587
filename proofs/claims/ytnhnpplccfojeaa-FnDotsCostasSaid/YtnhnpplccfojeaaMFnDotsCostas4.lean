/- The machine's side and plain lemmas for FnDotsCostas: texts of this session, merged by its program (part 4). -/
import Derived.Test.YtnhnpplccfojeaaMFnDotsCostas0
import Derived.Test.YtnhnpplccfojeaaMFnDotsCostas1
import Derived.Test.YtnhnpplccfojeaaMFnDotsCostas2
import Derived.Test.YtnhnpplccfojeaaMFnDotsCostas3
namespace Go.Proofs.Ytnhnpplccfojeaa.Fn
open Go.RowKit Go.Proofs.YtnhnpplccfojeaaW.PrintWords Go.Proofs.YtnhnpplccfojeaaW.PrintLast Go.Proofs.YtnhnpplccfojeaaW.PrintMore
attribute [local go_sem] max2_int min2_int max_two min_two max_three min_three max_four min_four   -- for this text's walks alone
set_option linter.unusedVariables false
set_option linter.unusedSimpArgs false
set_option maxHeartbeats 80000000 in
set_option maxRecDepth 100000 in
theorem laws_FnDotsCostas.rest4 (A0 : Option Addr) (c0 : Nat) (l0 : List Int) (A1 : Option Addr) (c1 : Nat) (l1 : List Int) (r : Bool) (w : World) (HR1 : Aside0 ((Kd.int IntKind.u8).C w A1 l1.length l1)) (HC1 : Aside0 (l1.length ≤ c1)) (HT : Aside0 (r = true)) (t1045 : List Int) (t1048 t1049 t1050 t1051 : Bool) (t1052 t1053 t1054 : Int) (t1055 : Bool) (t1056 t1057 t1058 : Int) (t1059 : Bool) (Ao12 : Option Addr) (co12 : Nat) (u18 u19 u20 u21 u22 u23 u24 u25 u26 u27 u28 u29 u31 u248 u249 u250 : Value) (kj42 : Nat) (t1091 : Int) (t1092 : List (List Int)) (t1093 : Bool) (t1096 : List (List Int)) (t1099 : Bool) (t1100 : Int) (t1101 : Bool) (t1102 : Int) (t1103 : Bool) (t1104 : Int) (t1105 : Bool) (t1106 : Int) (t1107 : Bool) (c82b0 : (t1093 != t1099) = false) (c82b1 : decide (t1093 = t1099) = true) (c82b2 : (t1093 == t1099) = true) (c85b0 : (t1101 != t1103) = false) (c85b1 : decide (t1101 = t1103) = true) (c85b2 : (t1101 == t1103) = true) (c86b0 : (t1100 == t1102) = true) (c86b1 : (t1100 != t1102) = false) (c87b0 : (t1105 != t1107) = false) (c87b1 : decide (t1105 = t1107) = true) (c87b2 : (t1105 == t1107) = true) (c88b0 : (t1104 == t1106) = true) (c88b1 : (t1104 != t1106) = false) (c89b0 : (t1101 != t1093) = false) (c89b1 : decide (t1101 = t1093) = true) (c89b2 : (t1101 == t1093) = true) (c90b0 : (t1105 != t1093) = false) (c90b1 : decide (t1105 = t1093) = true) (c90b2 : (t1105 == t1093) = true) (HC91 : Aside0 ((if t1093 = true then (impl_FirstCostas.f kj42 t1091).bind fun bt1109 => if (↑t1092.length : Int) = t1100 then if bt1109.snd = true then if (0 : Int) < (↑t1092.length : Int) then (laws_zSame.f kj42 bt1109.fst (rd_L2 t1092 (0 : Int))).bind fun t1114 => if t1114 = true then if t1104 > t1100 then some false else if wrap64 ((8 : Int) * t1104) < t1100 then some false else laws_FnDotsCostas.l3 kj42 l1 t1092 t1104 (0 : Int) t1092 (↑t1092.length : Int) (0 : Int) else some false else Option.none else some false else some false else laws_FnDotsCostas.j7 kj42 l1) = some r)) (w98 : World) (HB : Aside0 (Below w.heap.size w w98)) (Ao99 : Option Addr) (co99 : Nat) (Ao100 : Option Addr) (co100 : Nat) (z4_441 : Act → World → Prop) {Cz4_442 : Code} (ez4_442 : codeAt [1, 1, 1, 1, 1, 1, 1, 1, 1, 1, 1, 1, 1, 1, 1, 1, 1, 1, 1] (bodyAt Try.f5) = Cz4_442) (z4_442 : ∀ (a_ : Act) (w_ : World), Code.wp Try.prog Cz4_442 (bodyPost Try.prog Try.f5 fun e w' => e = Ending.returned (Value.bool r) ∧ Below w.heap.size w w') a_ w_ → z4_441 a_ w_) (wc : World) (u4 u45 u46 u47 u48 u49 u50 u51 u52 u53 u72 u73 u74 u75 u76 u77 u78 u79 u80 u81 u82 u83 u84 u85 u86 u87 u88 u89 u90 u91 u92 u93 u94 u95 u96 u97 u98 u99 u100 u101 u102 u103 u104 u105 u106 u107 u108 u109 u110 u111 u112 u113 u114 u115 u116 u117 u118 u119 u120 u121 u122 u123 u124 u125 u126 u127 u128 u129 u130 u131 u132 u133 u134 u135 u136 u137 u138 u139 u140 u141 u142 u143 u144 u145 u146 u147 u148 u149 u150 u151 u152 u153 u154 u155 u156 u157 u158 u159 u160 u161 u162 u163 u164 u165 u166 u167 u168 u169 u170 u171 u172 u173 u174 u175 u176 u177 u178 u179 u180 u181 u182 u183 u184 u185 u186 u187 u188 u189 u190 u191 u192 u193 u194 u195 u196 u197 u198 u199 u200 u201 u202 u203 u204 u205 u206 u207 u208 u209 u210 u211 u212 u213 u214 u215 u216 u217 u218 u219 u220 u221 u222 u223 u224 u225 u226 u227 u228 u229 u230 u231 u232 u233 u234 u235 u236 u237 u238 u239 u240 u241 u242 u243 u244 u245 u246 u247 u251 u252 u253 u254 u255 u256 u257 u258 u259 u260 u261 u262 u263 u264 u265 u266 u267 u268 u269 u270 u271 u272 u273 u274 u275 u276 u277 u278 u279 u280 u281 u282 u283 u284 u285 u286 u287 u288 u289 u290 u291 u292 u293 u294 u295 u296 u297 u298 u299 u300 u301 u302 u303 u304 u305 u306 u307 u308 u309 u310 u311 u312 u313 u314 u315 u316 u317 u318 u319 u320 u321 u322 u323 u324 u325 u326 u327 u328 u329 u330 u331 u332 u333 u334 u335 u336 u337 u338 u339 u340 u341 u342 u343 u344 u345 u346 u347 u348 u349 u350 u351 u352 u353 u354 u355 u356 u357 u358 u359 u360 u361 u362 u363 u364 u365 u366 u367 u368 u369 u370 u371 u372 u373 u374 u375 u376 u377 u378 u379 u380 u381 u382 u383 u384 u385 u386 u387 u388 u389 u390 u391 u392 u393 u394 u395 u396 u397 u398 u399 u400 u401 u402 u403 u404 u405 u406 u407 u408 u409 u410 u411 u412 u413 u414 u415 u416 u417 u418 u419 u420 u421 u422 u423 u424 u425 u426 u427 u428 u429 u430 u431 u432 u433 u434 u435 u436 u437 u438 u439 u440 u441 u442 u443 u444 u445 u446 u447 u448 u449 u450 u451 u452 u453 u454 u455 u456 u457 u458 u459 u460 u461 u462 u463 u464 u465 u466 u467 u468 u469 u470 u471 u472 u473 u474 u475 u476 u477 u478 u479 u480 u481 u482 u483 u484 u485 u486 u487 u488 u489 u490 u491 u492 u493 u494 u495 u496 u497 u498 u499 u500 u501 u502 u503 u504 u505 u506 u507 u508 u509 u510 u511 u512 u513 u514 : Value) (hcut : ∃ kq, Aside0 (laws_FnDotsCostas.j7 kq l1 = some r) ∧ Aside0 (kq ≤ kj42) ∧ Aside0 (Below w.heap.size w wc)) : z4_441 { tmps := #[Value.slice A0 l0.length c0, Value.slice A1 l1.length c1, Go.undef, Go.undef, u4, Value.slice Ao12 t1045.length co12, Value.bool t1048, Value.bool t1049, Value.bool t1050, Value.bool t1051, Value.int IntKind.i64 t1052, Value.int IntKind.i64 t1053, Value.int IntKind.i64 t1054, Value.bool t1055, Value.int IntKind.i64 t1056, Value.int IntKind.i64 t1057, Value.int IntKind.i64 t1058, Value.bool t1059, u18, u19, u20, u21, u22, u23, u24, u25, u26, u27, u28, u29, Go.undef, u31, Value.int IntKind.i64 t1091, Value.slice Ao99 t1092.length co99, Value.bool t1093, Value.slice Ao100 t1096.length co100, Value.bool t1099, Value.int IntKind.i64 t1100, Value.bool t1101, Value.int IntKind.i64 t1102, Value.bool t1103, Value.int IntKind.i64 t1104, Value.bool t1105, Value.int IntKind.i64 t1106, Value.bool t1107, u45, u46, u47, u48, u49, u50, u51, u52, u53, Go.undef, Go.undef, Go.undef, Go.undef, Go.undef, Go.undef, Go.undef, Go.undef, Go.undef, Go.undef, Go.undef, Go.undef, Go.undef, Go.undef, Go.undef, Go.undef, Go.undef, Go.undef, u72, u73, u74, u75, u76, u77, u78, u79, u80, u81, u82, u83, u84, u85, u86, u87, u88, u89, u90, u91, u92, u93, u94, u95, u96, u97, u98, u99, u100, u101, u102, u103, u104, u105, u106, u107, u108, u109, u110, u111, u112, u113, u114, u115, u116, u117, u118, u119, u120, u121, u122, u123, u124, u125, u126, u127, u128, u129, u130, u131, u132, u133, u134, u135, u136, u137, u138, u139, u140, u141, u142, u143, u144, u145, u146, u147, u148, u149, u150, u151, u152, u153, u154, u155, u156, u157, u158, u159, u160, u161, u162, u163, u164, u165, u166, u167, u168, u169, u170, u171, u172, u173, u174, u175, u176, u177, u178, u179, u180, u181, u182, u183, u184, u185, u186, u187, u188, u189, u190, u191, u192, u193, u194, u195, u196, u197, u198, u199, u200, u201, u202, u203, u204, u205, u206, u207, u208, u209, u210, u211, u212, u213, u214, u215, u216, u217, u218, u219, u220, u221, u222, u223, u224, u225, u226, u227, u228, u229, u230, u231, u232, u233, u234, u235, u236, u237, u238, u239, u240, u241, u242, u243, u244, u245, u246, u247, u248, u249, u250, u251, u252, u253, u254, u255, u256, u257, u258, u259, u260, u261, u262, u263, u264, u265, u266, u267, u268, u269, u270, u271, u272, u273, u274, u275, u276, u277, u278, u279, u280, u281, u282, u283, u284, u285, u286, u287, u288, u289, u290, u291, u292, u293, u294, u295, u296, u297, u298, u299, u300, u301, u302, u303, u304, u305, u306, u307, u308, u309, u310, u311, u312, u313, u314, u315, u316, u317, u318, u319, u320, u321, u322, u323, u324, u325, u326, u327, u328, u329, u330, u331, u332, u333, u334, u335, u336, u337, u338, u339, u340, u341, u342, u343, u344, u345, u346, u347, u348, u349, u350, u351, u352, u353, u354, u355, u356, u357, u358, u359, u360, u361, u362, u363, u364, u365, u366, u367, u368, u369, u370, u371, u372, u373, u374, u375, u376, u377, u378, u379, u380, u381, u382, u383, u384, u385, u386, u387, u388, u389, u390, u391, u392, u393, u394, u395, u396, u397, u398, u399, u400, u401, u402, u403, u404, u405, u406, u407, u408, u409, u410, u411, u412, u413, u414, u415, u416, u417, u418, u419, u420, u421, u422, u423, u424, u425, u426, u427, u428, u429, u430, u431, u432, u433, u434, u435, u436, u437, u438, u439, u440, u441, u442, u443, u444, u445, u446, u447, u448, u449, u450, u451, u452, u453, u454, u455, u456, u457, u458, u459, u460, u461, u462, u463, u464, u465, u466, u467, u468, u469, u470, u471, u472, u473, u474, u475, u476, u477, u478, u479, u480, u481, u482, u483, u484, u485, u486, u487, u488, u489, u490, u491, u492, u493, u494, u495, u496, u497, u498, u499, u500, u501, u502, u503, u504, u505, u506, u507, u508, u509, u510, u511, u512, u513, u514], defers := [] } wc := by
  conv at ez4_442 => (lhs; whnf)
  subst ez4_442
  clear HC91
  try clear c1
  try clear p1
  try clear q1
  try clear hx1
  try clear qi1
  try clear c2
  try clear p2
  try clear c3
  try clear c4
  try clear c5
  try clear c6
  try clear p6
  try clear q6
  try clear c7
  try clear c8
  try clear c9
  try clear c10
  try clear p10
  try clear q10
  try clear hx10
  try clear c11
  try clear p11
  try clear q11
  try clear hx11
  try clear qi11
  try clear c12
  try clear c13
  try clear c14
  try clear c17
  try clear c17b0
  try clear c17b1
  try clear c17b2
  try clear c18
  try clear c18b0
  try clear c18b1
  try clear c18b2
  try clear c19
  try clear c19b0
  try clear c19b1
  try clear c19b2
  try clear c20
  try clear c20b0
  try clear c20b1
  try clear c21
  try clear c21b0
  try clear c21b1
  try clear c22
  try clear c22b0
  try clear c22b1
  try clear c24
  try clear c24b0
  try clear c24b1
  try clear c24b2
  try clear c27
  try clear c27b0
  try clear c27b1
  try clear c27b2
  try clear c28
  try clear c29
  try clear c31
  try clear c33
  try clear c34
  try clear c34b0
  try clear c35
  try clear c35b0
  try clear c36
  try clear c36b0
  try clear c37
  try clear c37b0
  try clear c38
  try clear c38b0
  try clear c39
  try clear c39b0
  try clear c40
  try clear c40b0
  try clear c40b1
  try clear c44
  try clear c45
  try clear c45b0
  try clear c47
  try clear c48
  try clear c48b0
  try clear c48b1
  try clear c50
  try clear c50b0
  try clear c50b1
  try clear c51
  try clear c51b0
  try clear c51b1
  try clear c54
  try clear c54b0
  try clear c54b1
  try clear c55
  try clear c55b0
  try clear c55b1
  try clear c57
  try clear c57b0
  try clear c57b1
  try clear c60
  try clear q60
  try clear q61
  try clear c62
  try clear c62b0
  try clear p64
  try clear c65
  try clear c65b0
  try clear c66
  try clear c66b0
  try clear c67
  try clear c67b0
  try clear c68
  try clear c68b0
  try clear c68b1
  try clear c69
  try clear c70
  try clear c70b0
  try clear c70b1
  try clear c71
  try clear c72
  try clear c72b0
  try clear c72b1
  try clear c73
  try clear c73b0
  try clear c74
  try clear c74b0
  try clear c74b1
  try clear c74b2
  try clear c82
  try clear c82b0
  try clear c82b1
  try clear c82b2
  try clear c84
  try clear c85
  try clear c85b0
  try clear c85b1
  try clear c85b2
  try clear c86
  try clear c86b0
  try clear c86b1
  try clear c87
  try clear c87b0
  try clear c87b1
  try clear c87b2
  try clear c88
  try clear c88b0
  try clear c88b1
  try clear c89
  try clear c89b0
  try clear c89b1
  try clear c89b2
  try clear c90
  try clear c90b0
  try clear c90b1
  try clear c90b2
  try clear c101
  try clear c103
  try clear c103b0
  try clear c103b1
  try clear c104
  try clear c105
  try clear c105b0
  try clear c105b1
  try clear p106
  try clear q106
  try clear hx106
  try clear c107
  try clear c108
  try clear c108b0
  try clear c109
  try clear c109b0
  try clear p109
  try clear q109
  try clear hx109
  try clear c111
  try clear p111
  try clear q111
  try clear hx111
  try clear qi111
  try clear c112
  try clear c112b0
  try clear p112
  try clear q112
  try clear hx112
  try clear c113
  try clear c113b0
  try clear c114
  try clear c114b0
  try clear c117
  try clear c118
  try clear c119
  try clear c120
  try clear c120b0
  try clear c122
  try clear c122b0
  try clear c123
  try clear c123b0
  try clear c125
  try clear c127
  try clear c135
  try clear c142
  try clear c142b0
  try clear c142b1
  try clear hx1067_0
  try clear hx1068_0
  try clear hx1090_0
  try clear hx1113_0
  try clear hx1115_0
  try clear hx1122_0
  try clear p1
  try clear p10
  try clear p106
  try clear p1067
  try clear p1068
  try clear p109
  try clear p1090
  try clear p11
  try clear p111
  try clear p1113
  try clear p1115
  try clear p1122
  try clear p2
  try clear p6
  try clear p64
  try clear q060
  try clear q1
  try clear q10
  try clear q106
  try clear q1067
  try clear q1068
  try clear q109
  try clear q1090
  try clear q11
  try clear q111
  try clear q1113
  try clear q1115
  try clear q1122
  try clear q6
  try clear q60
  try clear q61
  obtain ⟨kq, HA, HJ90, HB⟩ := hcut
  cases kq with
  | zero => exact absurd HA.out (by simp [laws_FnDotsCostas.j7])
  | succ kj90 =>
   have H := HA.out
   clear HA
   simp only [laws_FnDotsCostas.j7] at H
   replace H := Option.bind_eq_some_iff.mp H
   obtain ⟨t1126, A1430, H⟩ := H
   (try dsimp only at H)
   have A143 := Aside0.mk A1430
   clear A1430
   replace H := Option.bind_eq_some_iff.mp H
   obtain ⟨⟨t1127, t1128⟩, A1440, H⟩ := H
   (try dsimp only at H)
   have A144 := Aside0.mk A1440
   clear A1440
   replace H := Option.bind_eq_some_iff.mp H
   obtain ⟨⟨t1131, t1134⟩, A1450, H⟩ := H
   (try dsimp only at H)
   have A145 := Aside0.mk A1450
   clear A1450
   replace H := Option.bind_eq_some_iff.mp H
   obtain ⟨⟨t1135, t1136, t1137⟩, A1460, H⟩ := H
   (try dsimp only at H)
   have A146 := Aside0.mk A1460
   clear A1460
   replace H := Option.bind_eq_some_iff.mp H
   obtain ⟨⟨t1140, t1141⟩, A1470, H⟩ := H
   (try dsimp only at H)
   have A147 := Aside0.mk A1470
   clear A1470
   replace H := Option.bind_eq_some_iff.mp H
   obtain ⟨⟨t1142, t1143⟩, A1480, H⟩ := H
   (try dsimp only at H)
   have A148 := Aside0.mk A1480
   clear A1480
   replace H := Option.bind_eq_some_iff.mp H
   obtain ⟨⟨t1144, t1145⟩, A1490, H⟩ := H
   (try dsimp only at H)
   have A149 := Aside0.mk A1490
   clear A1490
   replace H := Option.bind_eq_some_iff.mp H
   obtain ⟨⟨t1148, t1149⟩, A1500, H⟩ := H
   (try dsimp only at H)
   have A150 := Aside0.mk A1500
   clear A1500
   replace H := Option.bind_eq_some_iff.mp H
   obtain ⟨⟨t1152, t1153⟩, A1510, H⟩ := H
   (try dsimp only at H)
   have A151 := Aside0.mk A1510
   clear A1510
   by_cases c152 : (t1128 == t1134) = true
   ·rw [if_pos c152] at H
    have c152b0 : (t1128 == t1134) = true := c152
    (try (have c152b1 : decide (t1128 = t1134) = true := by simpa using c152))
    (try (have c152b2 : (t1128 == t1134) = true := by simpa using c152))
    clear c152
    replace H := Option.bind_eq_some_iff.mp H
    obtain ⟨t1156, A1530, H⟩ := H
    (try dsimp only at H)
    have A153 := Aside0.mk A1530
    clear A1530
    by_cases c154 : t1156 = true
    ·subst c154
     rw [if_pos rfl] at H
     by_cases c155 : (t1141 == t1143) = true
     ·rw [if_pos c155] at H
      have c155b0 : (t1141 == t1143) = true := c155
      (try (have c155b1 : decide (t1141 = t1143) = true := by simpa using c155))
      (try (have c155b2 : (t1141 == t1143) = true := by simpa using c155))
      clear c155
      by_cases c156 : t1140 = t1142
      ·rw [if_pos c156] at H
       have c156b0 : (t1140 == t1142) = true := beq_iff_eq.mpr c156
       have c156b1 : (t1140 != t1142) = false := bne_eq_false_iff_eq.mpr c156
       clear c156
       by_cases c157 : (t1149 == t1153) = true
       ·rw [if_pos c157] at H
        have c157b0 : (t1149 == t1153) = true := c157
        (try (have c157b1 : decide (t1149 = t1153) = true := by simpa using c157))
        (try (have c157b2 : (t1149 == t1153) = true := by simpa using c157))
        clear c157
        replace H := Option.bind_eq_some_iff.mp H
        obtain ⟨t1157, A1580, H⟩ := H
        (try dsimp only at H)
        have A158 := Aside0.mk A1580
        clear A1580
        obtain rfl := Option.some.inj H
        as_aux_lemma =>
         go_wp2_with (first | (go_at_call 75; (with_reducible refine (spec_DrawFirstCostas.calls _ _ l1 t1126 _ ?side1 ?side2 A143.out).mono ?_); (case side1 => repeat (first | exact (Kd.C_below HR1.out HB.out) | (with_reducible refine Kd.C_alloc ?_ _) | (with_reducible refine Kd.C_drewN ?_ _) | (with_reducible refine Kd.C_drew ?_))); (case side2 => exact HC1.out); rintro e w159 ⟨rfl, hb⟩; replace HB := upB HB hb; (try clear hb); (try clear hb2); (try clear hk); (try clear hi)) | (go_at_call 71; (with_reducible refine (impl_FirstCostas.calls kj90 t1126 t1127 t1128 _ A144.out).mono ?_); rintro e w160 ⟨v1129, rfl, ho0, hb⟩; have HO1130 := lowR ho0 HB; replace HB := upB HB hb; (try clear hb); (try clear hb2); (try clear hk); (try clear hi); (try clear ho0)) | (go_at_call 76; (with_reducible refine (spec_FirstCostas.calls kj90 t1126 t1131 t1134 _ A145.out).mono ?_); rintro e w161 ⟨v1132, rfl, ho0, hb⟩; have HO1133 := Aside0.mk (Kd.V_lower (Kd.V_mono (ok' := fun k_ => True) ho0 (fun k_ hk_ => trivial)) (szB HB)); replace HO1130 := upR HO1130 hb; replace HB := upB HB hb; (try clear hb); (try clear hb2); (try clear hk); (try clear hi); (try clear ho0)) | (go_at_call 77; (with_reducible refine (spec_DrawEchoAt.calls kj90 _ _ l1 t1135 t1136 t1137 _ ?side1 ?side2 A146.out).mono ?_); (case side1 => repeat (first | exact (Kd.C_below HR1.out HB.out) | (with_reducible refine Kd.C_alloc ?_ _) | (with_reducible refine Kd.C_drewN ?_ _) | (with_reducible refine Kd.C_drew ?_))); (case side2 => exact HC1.out); rintro e w162 ⟨v1138, rfl, ho0, hb⟩; have HO1139 := lowR ho0 HB; replace HO1130 := upR HO1130 hb; replace HO1133 := Aside0.mk (Kd.V_below (by (with_reducible repeat (first | apply Kd.V_alloc | apply Kd.V_drewN | apply Kd.V_drew)); exact HO1133.out) hb); replace HB := upB HB hb; (try clear hb); (try clear hb2); (try clear hk); (try clear hi); (try clear ho0); obtain ⟨Ao163, co163, eo163⟩ := Kd.R_slice HO1139.out; subst eo163) | (go_at_call 62; (with_reducible refine (impl_EchoAt.calls kj90 _ _ t1135 t1136 t1137 t1140 t1141 _ ?side1 ?side2 A147.out).mono ?_); (case side1 => exact atRC HO1139); (case side2 => exact (Kd.R_reads' HO1139.out).2.1); rintro e w' ⟨rfl, ⟨nd, rfl⟩⟩; (try first | exact ⟨rfl, _, World.drewN_drewN _ _ _⟩ | exact ⟨rfl, _, Eq.trans (World.drewN_drewN _ _ _) (congrArg (World.drewN _) (Nat.add_assoc _ _ _))⟩)) | (go_at_call 78; (with_reducible refine (spec_EchoAt.calls kj90 _ _ t1135 t1136 t1137 t1142 t1143 _ ?side1 ?side2 A148.out).mono ?_); (case side1 => exact atRC HO1139); (case side2 => exact (Kd.R_reads' HO1139.out).2.1); rintro e w' ⟨rfl, ⟨nd, rfl⟩⟩; (try first | exact ⟨rfl, _, World.drewN_drewN _ _ _⟩ | exact ⟨rfl, _, Eq.trans (World.drewN_drewN _ _ _) (congrArg (World.drewN _) (Nat.add_assoc _ _ _))⟩)) | (go_at_call 79; (with_reducible refine (spec_DrawDifferencesOf.calls kj90 _ _ l1 t1144 t1145 _ ?side1 ?side2 A149.out).mono ?_); (case side1 => repeat (first | exact (Kd.C_below HR1.out (atB HB)) | (with_reducible refine Kd.C_alloc ?_ _) | (with_reducible refine Kd.C_drewN ?_ _) | (with_reducible refine Kd.C_drew ?_))); (case side2 => exact HC1.out); rintro e w164 ⟨v1146, rfl, ho0, hb⟩; have HO1147 := lowR ho0 HB; replace HO1130 := upR HO1130 hb; replace HO1133 := Aside0.mk (Kd.V_below (by (with_reducible repeat (first | apply Kd.V_alloc | apply Kd.V_drewN | apply Kd.V_drew)); exact HO1133.out) hb); replace HO1139 := upR HO1139 hb; replace HB := upB HB hb; (try clear hb); (try clear hb2); (try clear hk); (try clear hi); (try clear ho0); obtain ⟨Ao165, co165, eo165⟩ := Kd.R_slice HO1147.out; subst eo165) | (go_at_call 60; (with_reducible refine (impl_DifferencesOf.calls kj90 _ _ t1144 t1145 t1148 t1149 _ ?side1 ?side2 A150.out).mono ?_); (case side1 => exact atRC HO1147); (case side2 => exact (Kd.R_reads' HO1147.out).2.1); rintro e w166 ⟨v1150, rfl, ho0, hb⟩; have HO1151 := lowR ho0 HB; replace HO1130 := upR HO1130 hb; replace HO1133 := Aside0.mk (Kd.V_below (by (with_reducible repeat (first | apply Kd.V_alloc | apply Kd.V_drewN | apply Kd.V_drew)); exact HO1133.out) hb); replace HO1139 := upR HO1139 hb; replace HO1147 := upR HO1147 hb; replace HB := upB HB hb; (try clear hb); (try clear hb2); (try clear hk); (try clear hi); (try clear ho0)) | (go_at_call 80; (with_reducible refine (spec_DifferencesOf.calls kj90 _ _ t1144 t1145 t1152 t1153 _ ?side1 ?side2 A151.out).mono ?_); (case side1 => exact atRC HO1147); (case side2 => exact (Kd.R_reads' HO1147.out).2.1); rintro e w167 ⟨v1154, rfl, ho0, hb⟩; have HO1155 := lowR ho0 HB; replace HO1130 := upR HO1130 hb; replace HO1133 := Aside0.mk (Kd.V_below (by (with_reducible repeat (first | apply Kd.V_alloc | apply Kd.V_drewN | apply Kd.V_drew)); exact HO1133.out) hb); replace HO1139 := upR HO1139 hb; replace HO1147 := upR HO1147 hb; replace HO1151 := upR HO1151 hb; replace HB := upB HB hb; (try clear hb); (try clear hb2); (try clear hk); (try clear hi); (try clear ho0); obtain ⟨Ao168, co168, eo168⟩ := Kd.R_slice HO1130.out; subst eo168; obtain ⟨Ao169, co169, eo169⟩ := Kd.V_slice HO1133.out; subst eo169) | (go_at_call 72; (with_reducible refine (laws_zSame.calls kj90 _ _ t1127 _ _ t1131 true _ ?side1 ?side2 ?side3 ?side4 A153.out).mono ?_); (case side1 => exact atRC HO1130); (case side2 => exact (Kd.R_reads' HO1130.out).2.1); (case side3 => repeat (first | exact (Kd.V_reads' HO1133.out).2.2 | (with_reducible refine Kd.C_alloc ?_ _) | (with_reducible refine Kd.C_drewN ?_ _) | (with_reducible refine Kd.C_drew ?_))); (case side4 => exact (Kd.V_reads' HO1133.out).2.1); rintro e w' ⟨rfl, ⟨nd, rfl⟩⟩; (try first | exact ⟨rfl, _, World.drewN_drewN _ _ _⟩ | exact ⟨rfl, _, Eq.trans (World.drewN_drewN _ _ _) (congrArg (World.drewN _) (Nat.add_assoc _ _ _))⟩); obtain ⟨Ao170, co170, eo170⟩ := Kd.R_slice HO1151.out; subst eo170; obtain ⟨Ao171, co171, eo171⟩ := Kd.R_slice HO1155.out; subst eo171) | (go_at_call 72; (with_reducible refine (laws_zSame.calls kj90 _ _ t1148 _ _ t1152 t1157 _ ?side1 ?side2 ?side3 ?side4 A158.out).mono ?_); (case side1 => exact atRC HO1151); (case side2 => exact (Kd.R_reads' HO1151.out).2.1); (case side3 => exact atRC HO1155); (case side4 => exact (Kd.R_reads' HO1155.out).2.1); rintro e w' ⟨rfl, ⟨nd, rfl⟩⟩; (try first | exact ⟨rfl, _, World.drewN_drewN _ _ _⟩ | exact ⟨rfl, _, Eq.trans (World.drewN_drewN _ _ _) (congrArg (World.drewN _) (Nat.add_assoc _ _ _))⟩)))
         repeat (go_quiet (first | (go_at_call 75; (with_reducible refine (spec_DrawFirstCostas.calls _ _ l1 t1126 _ ?side1 ?side2 A143.out).mono ?_); (case side1 => repeat (first | exact (Kd.C_below HR1.out HB.out) | (with_reducible refine Kd.C_alloc ?_ _) | (with_reducible refine Kd.C_drewN ?_ _) | (with_reducible refine Kd.C_drew ?_))); (case side2 => exact HC1.out); rintro e w159 ⟨rfl, hb⟩; replace HB := upB HB hb; (try clear hb); (try clear hb2); (try clear hk); (try clear hi)) | (go_at_call 71; (with_reducible refine (impl_FirstCostas.calls kj90 t1126 t1127 t1128 _ A144.out).mono ?_); rintro e w160 ⟨v1129, rfl, ho0, hb⟩; have HO1130 := lowR ho0 HB; replace HB := upB HB hb; (try clear hb); (try clear hb2); (try clear hk); (try clear hi); (try clear ho0)) | (go_at_call 76; (with_reducible refine (spec_FirstCostas.calls kj90 t1126 t1131 t1134 _ A145.out).mono ?_); rintro e w161 ⟨v1132, rfl, ho0, hb⟩; have HO1133 := Aside0.mk (Kd.V_lower (Kd.V_mono (ok' := fun k_ => True) ho0 (fun k_ hk_ => trivial)) (szB HB)); replace HO1130 := upR HO1130 hb; replace HB := upB HB hb; (try clear hb); (try clear hb2); (try clear hk); (try clear hi); (try clear ho0)) | (go_at_call 77; (with_reducible refine (spec_DrawEchoAt.calls kj90 _ _ l1 t1135 t1136 t1137 _ ?side1 ?side2 A146.out).mono ?_); (case side1 => repeat (first | exact (Kd.C_below HR1.out HB.out) | (with_reducible refine Kd.C_alloc ?_ _) | (with_reducible refine Kd.C_drewN ?_ _) | (with_reducible refine Kd.C_drew ?_))); (case side2 => exact HC1.out); rintro e w162 ⟨v1138, rfl, ho0, hb⟩; have HO1139 := lowR ho0 HB; replace HO1130 := upR HO1130 hb; replace HO1133 := Aside0.mk (Kd.V_below (by (with_reducible repeat (first | apply Kd.V_alloc | apply Kd.V_drewN | apply Kd.V_drew)); exact HO1133.out) hb); replace HB := upB HB hb; (try clear hb); (try clear hb2); (try clear hk); (try clear hi); (try clear ho0); obtain ⟨Ao163, co163, eo163⟩ := Kd.R_slice HO1139.out; subst eo163) | (go_at_call 62; (with_reducible refine (impl_EchoAt.calls kj90 _ _ t1135 t1136 t1137 t1140 t1141 _ ?side1 ?side2 A147.out).mono ?_); (case side1 => exact atRC HO1139); (case side2 => exact (Kd.R_reads' HO1139.out).2.1); rintro e w' ⟨rfl, ⟨nd, rfl⟩⟩; (try first | exact ⟨rfl, _, World.drewN_drewN _ _ _⟩ | exact ⟨rfl, _, Eq.trans (World.drewN_drewN _ _ _) (congrArg (World.drewN _) (Nat.add_assoc _ _ _))⟩)) | (go_at_call 78; (with_reducible refine (spec_EchoAt.calls kj90 _ _ t1135 t1136 t1137 t1142 t1143 _ ?side1 ?side2 A148.out).mono ?_); (case side1 => exact atRC HO1139); (case side2 => exact (Kd.R_reads' HO1139.out).2.1); rintro e w' ⟨rfl, ⟨nd, rfl⟩⟩; (try first | exact ⟨rfl, _, World.drewN_drewN _ _ _⟩ | exact ⟨rfl, _, Eq.trans (World.drewN_drewN _ _ _) (congrArg (World.drewN _) (Nat.add_assoc _ _ _))⟩)) | (go_at_call 79; (with_reducible refine (spec_DrawDifferencesOf.calls kj90 _ _ l1 t1144 t1145 _ ?side1 ?side2 A149.out).mono ?_); (case side1 => repeat (first | exact (Kd.C_below HR1.out (atB HB)) | (with_reducible refine Kd.C_alloc ?_ _) | (with_reducible refine Kd.C_drewN ?_ _) | (with_reducible refine Kd.C_drew ?_))); (case side2 => exact HC1.out); rintro e w164 ⟨v1146, rfl, ho0, hb⟩; have HO1147 := lowR ho0 HB; replace HO1130 := upR HO1130 hb; replace HO1133 := Aside0.mk (Kd.V_below (by (with_reducible repeat (first | apply Kd.V_alloc | apply Kd.V_drewN | apply Kd.V_drew)); exact HO1133.out) hb); replace HO1139 := upR HO1139 hb; replace HB := upB HB hb; (try clear hb); (try clear hb2); (try clear hk); (try clear hi); (try clear ho0); obtain ⟨Ao165, co165, eo165⟩ := Kd.R_slice HO1147.out; subst eo165) | (go_at_call 60; (with_reducible refine (impl_DifferencesOf.calls kj90 _ _ t1144 t1145 t1148 t1149 _ ?side1 ?side2 A150.out).mono ?_); (case side1 => exact atRC HO1147); (case side2 => exact (Kd.R_reads' HO1147.out).2.1); rintro e w166 ⟨v1150, rfl, ho0, hb⟩; have HO1151 := lowR ho0 HB; replace HO1130 := upR HO1130 hb; replace HO1133 := Aside0.mk (Kd.V_below (by (with_reducible repeat (first | apply Kd.V_alloc | apply Kd.V_drewN | apply Kd.V_drew)); exact HO1133.out) hb); replace HO1139 := upR HO1139 hb; replace HO1147 := upR HO1147 hb; replace HB := upB HB hb; (try clear hb); (try clear hb2); (try clear hk); (try clear hi); (try clear ho0)) | (go_at_call 80; (with_reducible refine (spec_DifferencesOf.calls kj90 _ _ t1144 t1145 t1152 t1153 _ ?side1 ?side2 A151.out).mono ?_); (case side1 => exact atRC HO1147); (case side2 => exact (Kd.R_reads' HO1147.out).2.1); rintro e w167 ⟨v1154, rfl, ho0, hb⟩; have HO1155 := lowR ho0 HB; replace HO1130 := upR HO1130 hb; replace HO1133 := Aside0.mk (Kd.V_below (by (with_reducible repeat (first | apply Kd.V_alloc | apply Kd.V_drewN | apply Kd.V_drew)); exact HO1133.out) hb); replace HO1139 := upR HO1139 hb; replace HO1147 := upR HO1147 hb; replace HO1151 := upR HO1151 hb; replace HB := upB HB hb; (try clear hb); (try clear hb2); (try clear hk); (try clear hi); (try clear ho0); obtain ⟨Ao168, co168, eo168⟩ := Kd.R_slice HO1130.out; subst eo168; obtain ⟨Ao169, co169, eo169⟩ := Kd.V_slice HO1133.out; subst eo169) | (go_at_call 72; (with_reducible refine (laws_zSame.calls kj90 _ _ t1127 _ _ t1131 true _ ?side1 ?side2 ?side3 ?side4 A153.out).mono ?_); (case side1 => exact atRC HO1130); (case side2 => exact (Kd.R_reads' HO1130.out).2.1); (case side3 => repeat (first | exact (Kd.V_reads' HO1133.out).2.2 | (with_reducible refine Kd.C_alloc ?_ _) | (with_reducible refine Kd.C_drewN ?_ _) | (with_reducible refine Kd.C_drew ?_))); (case side4 => exact (Kd.V_reads' HO1133.out).2.1); rintro e w' ⟨rfl, ⟨nd, rfl⟩⟩; (try first | exact ⟨rfl, _, World.drewN_drewN _ _ _⟩ | exact ⟨rfl, _, Eq.trans (World.drewN_drewN _ _ _) (congrArg (World.drewN _) (Nat.add_assoc _ _ _))⟩); obtain ⟨Ao170, co170, eo170⟩ := Kd.R_slice HO1151.out; subst eo170; obtain ⟨Ao171, co171, eo171⟩ := Kd.R_slice HO1155.out; subst eo171) | (go_at_call 72; (with_reducible refine (laws_zSame.calls kj90 _ _ t1148 _ _ t1152 t1157 _ ?side1 ?side2 ?side3 ?side4 A158.out).mono ?_); (case side1 => exact atRC HO1151); (case side2 => exact (Kd.R_reads' HO1151.out).2.1); (case side3 => exact atRC HO1155); (case side4 => exact (Kd.R_reads' HO1155.out).2.1); rintro e w' ⟨rfl, ⟨nd, rfl⟩⟩; (try first | exact ⟨rfl, _, World.drewN_drewN _ _ _⟩ | exact ⟨rfl, _, Eq.trans (World.drewN_drewN _ _ _) (congrArg (World.drewN _) (Nat.add_assoc _ _ _))⟩))); try go_wp2_with (first | (go_at_call 75; (with_reducible refine (spec_DrawFirstCostas.calls _ _ l1 t1126 _ ?side1 ?side2 A143.out).mono ?_); (case side1 => repeat (first | exact (Kd.C_below HR1.out HB.out) | (with_reducible refine Kd.C_alloc ?_ _) | (with_reducible refine Kd.C_drewN ?_ _) | (with_reducible refine Kd.C_drew ?_))); (case side2 => exact HC1.out); rintro e w159 ⟨rfl, hb⟩; replace HB := upB HB hb; (try clear hb); (try clear hb2); (try clear hk); (try clear hi)) | (go_at_call 71; (with_reducible refine (impl_FirstCostas.calls kj90 t1126 t1127 t1128 _ A144.out).mono ?_); rintro e w160 ⟨v1129, rfl, ho0, hb⟩; have HO1130 := lowR ho0 HB; replace HB := upB HB hb; (try clear hb); (try clear hb2); (try clear hk); (try clear hi); (try clear ho0)) | (go_at_call 76; (with_reducible refine (spec_FirstCostas.calls kj90 t1126 t1131 t1134 _ A145.out).mono ?_); rintro e w161 ⟨v1132, rfl, ho0, hb⟩; have HO1133 := Aside0.mk (Kd.V_lower (Kd.V_mono (ok' := fun k_ => True) ho0 (fun k_ hk_ => trivial)) (szB HB)); replace HO1130 := upR HO1130 hb; replace HB := upB HB hb; (try clear hb); (try clear hb2); (try clear hk); (try clear hi); (try clear ho0)) | (go_at_call 77; (with_reducible refine (spec_DrawEchoAt.calls kj90 _ _ l1 t1135 t1136 t1137 _ ?side1 ?side2 A146.out).mono ?_); (case side1 => repeat (first | exact (Kd.C_below HR1.out HB.out) | (with_reducible refine Kd.C_alloc ?_ _) | (with_reducible refine Kd.C_drewN ?_ _) | (with_reducible refine Kd.C_drew ?_))); (case side2 => exact HC1.out); rintro e w162 ⟨v1138, rfl, ho0, hb⟩; have HO1139 := lowR ho0 HB; replace HO1130 := upR HO1130 hb; replace HO1133 := Aside0.mk (Kd.V_below (by (with_reducible repeat (first | apply Kd.V_alloc | apply Kd.V_drewN | apply Kd.V_drew)); exact HO1133.out) hb); replace HB := upB HB hb; (try clear hb); (try clear hb2); (try clear hk); (try clear hi); (try clear ho0); obtain ⟨Ao163, co163, eo163⟩ := Kd.R_slice HO1139.out; subst eo163) | (go_at_call 62; (with_reducible refine (impl_EchoAt.calls kj90 _ _ t1135 t1136 t1137 t1140 t1141 _ ?side1 ?side2 A147.out).mono ?_); (case side1 => exact atRC HO1139); (case side2 => exact (Kd.R_reads' HO1139.out).2.1); rintro e w' ⟨rfl, ⟨nd, rfl⟩⟩; (try first | exact ⟨rfl, _, World.drewN_drewN _ _ _⟩ | exact ⟨rfl, _, Eq.trans (World.drewN_drewN _ _ _) (congrArg (World.drewN _) (Nat.add_assoc _ _ _))⟩)) | (go_at_call 78; (with_reducible refine (spec_EchoAt.calls kj90 _ _ t1135 t1136 t1137 t1142 t1143 _ ?side1 ?side2 A148.out).mono ?_); (case side1 => exact atRC HO1139); (case side2 => exact (Kd.R_reads' HO1139.out).2.1); rintro e w' ⟨rfl, ⟨nd, rfl⟩⟩; (try first | exact ⟨rfl, _, World.drewN_drewN _ _ _⟩ | exact ⟨rfl, _, Eq.trans (World.drewN_drewN _ _ _) (congrArg (World.drewN _) (Nat.add_assoc _ _ _))⟩)) | (go_at_call 79; (with_reducible refine (spec_DrawDifferencesOf.calls kj90 _ _ l1 t1144 t1145 _ ?side1 ?side2 A149.out).mono ?_); (case side1 => repeat (first | exact (Kd.C_below HR1.out (atB HB)) | (with_reducible refine Kd.C_alloc ?_ _) | (with_reducible refine Kd.C_drewN ?_ _) | (with_reducible refine Kd.C_drew ?_))); (case side2 => exact HC1.out); rintro e w164 ⟨v1146, rfl, ho0, hb⟩; have HO1147 := lowR ho0 HB; replace HO1130 := upR HO1130 hb; replace HO1133 := Aside0.mk (Kd.V_below (by (with_reducible repeat (first | apply Kd.V_alloc | apply Kd.V_drewN | apply Kd.V_drew)); exact HO1133.out) hb); replace HO1139 := upR HO1139 hb; replace HB := upB HB hb; (try clear hb); (try clear hb2); (try clear hk); (try clear hi); (try clear ho0); obtain ⟨Ao165, co165, eo165⟩ := Kd.R_slice HO1147.out; subst eo165) | (go_at_call 60; (with_reducible refine (impl_DifferencesOf.calls kj90 _ _ t1144 t1145 t1148 t1149 _ ?side1 ?side2 A150.out).mono ?_); (case side1 => exact atRC HO1147); (case side2 => exact (Kd.R_reads' HO1147.out).2.1); rintro e w166 ⟨v1150, rfl, ho0, hb⟩; have HO1151 := lowR ho0 HB; replace HO1130 := upR HO1130 hb; replace HO1133 := Aside0.mk (Kd.V_below (by (with_reducible repeat (first | apply Kd.V_alloc | apply Kd.V_drewN | apply Kd.V_drew)); exact HO1133.out) hb); replace HO1139 := upR HO1139 hb; replace HO1147 := upR HO1147 hb; replace HB := upB HB hb; (try clear hb); (try clear hb2); (try clear hk); (try clear hi); (try clear ho0)) | (go_at_call 80; (with_reducible refine (spec_DifferencesOf.calls kj90 _ _ t1144 t1145 t1152 t1153 _ ?side1 ?side2 A151.out).mono ?_); (case side1 => exact atRC HO1147); (case side2 => exact (Kd.R_reads' HO1147.out).2.1); rintro e w167 ⟨v1154, rfl, ho0, hb⟩; have HO1155 := lowR ho0 HB; replace HO1130 := upR HO1130 hb; replace HO1133 := Aside0.mk (Kd.V_below (by (with_reducible repeat (first | apply Kd.V_alloc | apply Kd.V_drewN | apply Kd.V_drew)); exact HO1133.out) hb); replace HO1139 := upR HO1139 hb; replace HO1147 := upR HO1147 hb; replace HO1151 := upR HO1151 hb; replace HB := upB HB hb; (try clear hb); (try clear hb2); (try clear hk); (try clear hi); (try clear ho0); obtain ⟨Ao168, co168, eo168⟩ := Kd.R_slice HO1130.out; subst eo168; obtain ⟨Ao169, co169, eo169⟩ := Kd.V_slice HO1133.out; subst eo169) | (go_at_call 72; (with_reducible refine (laws_zSame.calls kj90 _ _ t1127 _ _ t1131 true _ ?side1 ?side2 ?side3 ?side4 A153.out).mono ?_); (case side1 => exact atRC HO1130); (case side2 => exact (Kd.R_reads' HO1130.out).2.1); (case side3 => repeat (first | exact (Kd.V_reads' HO1133.out).2.2 | (with_reducible refine Kd.C_alloc ?_ _) | (with_reducible refine Kd.C_drewN ?_ _) | (with_reducible refine Kd.C_drew ?_))); (case side4 => exact (Kd.V_reads' HO1133.out).2.1); rintro e w' ⟨rfl, ⟨nd, rfl⟩⟩; (try first | exact ⟨rfl, _, World.drewN_drewN _ _ _⟩ | exact ⟨rfl, _, Eq.trans (World.drewN_drewN _ _ _) (congrArg (World.drewN _) (Nat.add_assoc _ _ _))⟩); obtain ⟨Ao170, co170, eo170⟩ := Kd.R_slice HO1151.out; subst eo170; obtain ⟨Ao171, co171, eo171⟩ := Kd.R_slice HO1155.out; subst eo171) | (go_at_call 72; (with_reducible refine (laws_zSame.calls kj90 _ _ t1148 _ _ t1152 t1157 _ ?side1 ?side2 ?side3 ?side4 A158.out).mono ?_); (case side1 => exact atRC HO1151); (case side2 => exact (Kd.R_reads' HO1151.out).2.1); (case side3 => exact atRC HO1155); (case side4 => exact (Kd.R_reads' HO1155.out).2.1); rintro e w' ⟨rfl, ⟨nd, rfl⟩⟩; (try first | exact ⟨rfl, _, World.drewN_drewN _ _ _⟩ | exact ⟨rfl, _, Eq.trans (World.drewN_drewN _ _ _) (congrArg (World.drewN _) (Nat.add_assoc _ _ _))⟩))))
         go_ret
         exact ⟨eqr, atB HB⟩
       ·rw [if_neg c157] at H
        have c157b0 : (t1149 == t1153) = false := by simpa using c157
        (try (have c157b1 : decide (t1149 = t1153) = false := by simpa using c157))
        (try (have c157b2 : (t1149 == t1153) = false := by simpa using c157))
        (try (have c157b3 : ¬ (t1149 = t1153) := by simpa using c157))
        clear c157
        exact absurd ((Option.some.inj H).trans HT.out) (by decide)
      ·rw [if_neg c156] at H
       have c156b0 : (t1140 == t1142) = false := beq_eq_false_iff_ne.mpr c156
       have c156b1 : (t1140 != t1142) = true := bne_iff_ne.mpr c156
       exact absurd ((Option.some.inj H).trans HT.out) (by decide)
     ·rw [if_neg c155] at H
      have c155b0 : (t1141 == t1143) = false := by simpa using c155
      (try (have c155b1 : decide (t1141 = t1143) = false := by simpa using c155))
      (try (have c155b2 : (t1141 == t1143) = false := by simpa using c155))
      (try (have c155b3 : ¬ (t1141 = t1143) := by simpa using c155))
      clear c155
      exact absurd ((Option.some.inj H).trans HT.out) (by decide)
    ·replace c154 := Bool.eq_false_iff.mpr c154
     subst c154
     rw [if_neg (show ¬ (false = true) by decide)] at H
     exact absurd ((Option.some.inj H).trans HT.out) (by decide)
   ·rw [if_neg c152] at H
    have c152b0 : (t1128 == t1134) = false := by simpa using c152
    (try (have c152b1 : decide (t1128 = t1134) = false := by simpa using c152))
    (try (have c152b2 : (t1128 == t1134) = false := by simpa using c152))
    (try (have c152b3 : ¬ (t1128 = t1134) := by simpa using c152))
    clear c152
    exact absurd ((Option.some.inj H).trans HT.out) (by decide)
end Go.Proofs.Ytnhnpplccfojeaa.Fn
