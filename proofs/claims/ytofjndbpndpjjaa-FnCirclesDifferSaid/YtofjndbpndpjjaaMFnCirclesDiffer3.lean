/- The machine's side and plain lemmas for FnCirclesDiffer: texts of this session, merged by its program (part 3). -/
import Derived.Test.YtofjndbpndpjjaaMFnCirclesDiffer0
import Derived.Test.YtofjndbpndpjjaaMFnCirclesDiffer1
import Derived.Test.YtofjndbpndpjjaaMFnCirclesDiffer2
namespace Go.Proofs.Ytofjndbpndpjjaa.Fn
open Go.RowKit Go.Proofs.YtofjndbpndpjjaaW.PrintWords Go.Proofs.YtofjndbpndpjjaaW.PrintLast Go.Proofs.YtofjndbpndpjjaaW.PrintMore
attribute [local go_sem] max2_int min2_int max_two min_two max_three min_three max_four min_four   -- for this text's walks alone
set_option linter.unusedVariables false
set_option linter.unusedSimpArgs false


set_option maxHeartbeats 80000000 in
set_option maxRecDepth 100000 in
theorem laws_FnCirclesDiffer.rest3 (A0 : Option Go.Addr) (c0 : Nat) (l0 : List Int) (A1 : Option Go.Addr) (c1 : Nat) (l1 : List Int) (r : Bool) (w : Go.World) (HR1 : Go.Proofs.YtofjndbpndpjjaaW.PrintWords.Aside0 ((Go.Proofs.YtofjndbpndpjjaaW.PrintWords.Kd.int Go.IntKind.u8).C w A1 l1.length l1)) (HC1 : Go.Proofs.YtofjndbpndpjjaaW.PrintWords.Aside0 (l1.length ≤ c1)) (HT : Go.Proofs.YtofjndbpndpjjaaW.PrintWords.Aside0 (r = Bool.true)) (t926 : Int) (t927 : List Int) (t930 : Int) (t931 : Bool) (t932 : Int) (t933 : Bool) (t934 : Bool) (t935 : Bool) (t936 : Bool) (t937 : Bool) (t939 : Bool) (t945 : Bool) (t947 : Bool) (t951 : Bool) (t954 : Bool) (t955 : Bool) (t956 : Bool) (t957 : Bool) (Ao18 : Option Go.Addr) (co18 : Nat) (v940 : Go.Value) (v943 : Go.Value) (v948 : Go.Value) (v952 : Go.Value) (z2_ : Go.World) (u27 : Go.Value) (u28 : Go.Value) (u29 : Go.Value) (u30 : Go.Value) (u32 : Go.Value) (u34 : Go.Value) (u35 : Go.Value) (u36 : Go.Value) (u37 : Go.Value) (u38 : Go.Value) (u228 : Go.Value) (u229 : Go.Value) (u230 : Go.Value) (u290 : Go.Value) (u291 : Go.Value) (u292 : Go.Value) (u296 : Go.Value) (u297 : Go.Value) (u298 : Go.Value) (HB : Go.Proofs.YtofjndbpndpjjaaW.PrintWords.Aside0 (Go.RowKit.Below w.heap.size w z2_)) (kj61 : Nat) (HC108 : Go.Proofs.YtofjndbpndpjjaaW.PrintWords.Aside0 ((if t931 = Bool.true then if Go.RowKit.wrap64 (t930 * Go.RowKit.wrap64 (t926 - (1 : Int))) = Go.RowKit.wrap64 ((↑t927.length : Int) * Go.RowKit.wrap64 ((↑t927.length : Int) - (1 : Int))) then (Go.Proofs.Ytofjndbpndpjjaa.Fn.impl_ComplementSet.f kj61 t926 t927).bind fun bt980 => if bt980.snd = Bool.true then Go.Proofs.Ytofjndbpndpjjaa.Fn.laws_FnCirclesDiffer.j6 kj61 l1 t926 t927 t930 (↑t927.length : Int) bt980.fst (Decidable.decide ((↑bt980.fst.length : Int) > (1 : Int))) else Go.Proofs.Ytofjndbpndpjjaa.Fn.laws_FnCirclesDiffer.j6 kj61 l1 t926 t927 t930 (↑t927.length : Int) bt980.fst Bool.false else Option.some Bool.false else Go.Proofs.Ytofjndbpndpjjaa.Fn.laws_FnCirclesDiffer.j10 kj61 l1) = Option.some r)) (z458_ : Go.Act → Go.World → Prop) {Cz459_ : Code} (ez459_ : codeAt [1, 1, 1, 1, 1, 1, 1, 1, 1, 1, 1, 1, 1, 1, 1, 1] (bodyAt Try.f4) = Cz459_) (z459_ : ∀ (a_ : Act) (w_ : World), Code.wp Try.prog Cz459_ (Go.bodyPost Go.Proofs.Try.prog Go.Proofs.Try.f4 fun e w' => e = Go.Ending.returned (Go.Value.bool r) ∧ Go.RowKit.Below w.heap.size w w') a_ w_ → z458_ a_ w_) (wc : Go.World) (u4 : Go.Value) (u39 : Go.Value) (u40 : Go.Value) (u41 : Go.Value) (u42 : Go.Value) (u43 : Go.Value) (u44 : Go.Value) (u45 : Go.Value) (u46 : Go.Value) (u47 : Go.Value) (u48 : Go.Value) (u68 : Go.Value) (u69 : Go.Value) (u70 : Go.Value) (u71 : Go.Value) (u72 : Go.Value) (u73 : Go.Value) (u74 : Go.Value) (u75 : Go.Value) (u76 : Go.Value) (u77 : Go.Value) (u78 : Go.Value) (u79 : Go.Value) (u80 : Go.Value) (u81 : Go.Value) (u82 : Go.Value) (u83 : Go.Value) (u84 : Go.Value) (u85 : Go.Value) (u86 : Go.Value) (u87 : Go.Value) (u88 : Go.Value) (u89 : Go.Value) (u90 : Go.Value) (u91 : Go.Value) (u92 : Go.Value) (u93 : Go.Value) (u94 : Go.Value) (u95 : Go.Value) (u96 : Go.Value) (u97 : Go.Value) (u98 : Go.Value) (u99 : Go.Value) (u100 : Go.Value) (u101 : Go.Value) (u102 : Go.Value) (u103 : Go.Value) (u104 : Go.Value) (u105 : Go.Value) (u106 : Go.Value) (u107 : Go.Value) (u108 : Go.Value) (u109 : Go.Value) (u110 : Go.Value) (u111 : Go.Value) (u112 : Go.Value) (u113 : Go.Value) (u114 : Go.Value) (u115 : Go.Value) (u116 : Go.Value) (u117 : Go.Value) (u118 : Go.Value) (u119 : Go.Value) (u120 : Go.Value) (u121 : Go.Value) (u122 : Go.Value) (u123 : Go.Value) (u124 : Go.Value) (u125 : Go.Value) (u126 : Go.Value) (u127 : Go.Value) (u128 : Go.Value) (u129 : Go.Value) (u130 : Go.Value) (u131 : Go.Value) (u132 : Go.Value) (u133 : Go.Value) (u134 : Go.Value) (u135 : Go.Value) (u136 : Go.Value) (u137 : Go.Value) (u138 : Go.Value) (u139 : Go.Value) (u140 : Go.Value) (u141 : Go.Value) (u142 : Go.Value) (u143 : Go.Value) (u144 : Go.Value) (u145 : Go.Value) (u146 : Go.Value) (u147 : Go.Value) (u148 : Go.Value) (u149 : Go.Value) (u150 : Go.Value) (u151 : Go.Value) (u152 : Go.Value) (u153 : Go.Value) (u154 : Go.Value) (u155 : Go.Value) (u156 : Go.Value) (u157 : Go.Value) (u158 : Go.Value) (u159 : Go.Value) (u160 : Go.Value) (u161 : Go.Value) (u162 : Go.Value) (u163 : Go.Value) (u164 : Go.Value) (u165 : Go.Value) (u166 : Go.Value) (u167 : Go.Value) (u168 : Go.Value) (u169 : Go.Value) (u170 : Go.Value) (u171 : Go.Value) (u172 : Go.Value) (u173 : Go.Value) (u174 : Go.Value) (u175 : Go.Value) (u176 : Go.Value) (u177 : Go.Value) (u178 : Go.Value) (u179 : Go.Value) (u180 : Go.Value) (u181 : Go.Value) (u182 : Go.Value) (u183 : Go.Value) (u184 : Go.Value) (u185 : Go.Value) (u186 : Go.Value) (u187 : Go.Value) (u188 : Go.Value) (u189 : Go.Value) (u190 : Go.Value) (u191 : Go.Value) (u192 : Go.Value) (u193 : Go.Value) (u194 : Go.Value) (u195 : Go.Value) (u196 : Go.Value) (u197 : Go.Value) (u198 : Go.Value) (u199 : Go.Value) (u200 : Go.Value) (u201 : Go.Value) (u202 : Go.Value) (u203 : Go.Value) (u204 : Go.Value) (u205 : Go.Value) (u206 : Go.Value) (u207 : Go.Value) (u208 : Go.Value) (u209 : Go.Value) (u210 : Go.Value) (u211 : Go.Value) (u212 : Go.Value) (u213 : Go.Value) (u214 : Go.Value) (u215 : Go.Value) (u216 : Go.Value) (u217 : Go.Value) (u218 : Go.Value) (u219 : Go.Value) (u220 : Go.Value) (u221 : Go.Value) (u222 : Go.Value) (u223 : Go.Value) (u224 : Go.Value) (u225 : Go.Value) (u226 : Go.Value) (u227 : Go.Value) (u231 : Go.Value) (u232 : Go.Value) (u233 : Go.Value) (u234 : Go.Value) (u235 : Go.Value) (u236 : Go.Value) (u237 : Go.Value) (u238 : Go.Value) (u239 : Go.Value) (u240 : Go.Value) (u241 : Go.Value) (u242 : Go.Value) (u243 : Go.Value) (u244 : Go.Value) (u245 : Go.Value) (u246 : Go.Value) (u247 : Go.Value) (u248 : Go.Value) (u249 : Go.Value) (u250 : Go.Value) (u251 : Go.Value) (u252 : Go.Value) (u253 : Go.Value) (u254 : Go.Value) (u255 : Go.Value) (u256 : Go.Value) (u257 : Go.Value) (u258 : Go.Value) (u259 : Go.Value) (u260 : Go.Value) (u261 : Go.Value) (u262 : Go.Value) (u263 : Go.Value) (u264 : Go.Value) (u265 : Go.Value) (u266 : Go.Value) (u267 : Go.Value) (u268 : Go.Value) (u269 : Go.Value) (u270 : Go.Value) (u271 : Go.Value) (u272 : Go.Value) (u273 : Go.Value) (u274 : Go.Value) (u275 : Go.Value) (u276 : Go.Value) (u277 : Go.Value) (u278 : Go.Value) (u279 : Go.Value) (u280 : Go.Value) (u281 : Go.Value) (u282 : Go.Value) (u283 : Go.Value) (u284 : Go.Value) (u285 : Go.Value) (u286 : Go.Value) (u287 : Go.Value) (u288 : Go.Value) (u289 : Go.Value) (u293 : Go.Value) (u294 : Go.Value) (u295 : Go.Value) (u299 : Go.Value) (u300 : Go.Value) (u301 : Go.Value) (u302 : Go.Value) (u303 : Go.Value) (u304 : Go.Value) (u305 : Go.Value) (u306 : Go.Value) (u307 : Go.Value) (u308 : Go.Value) (u309 : Go.Value) (u310 : Go.Value) (u311 : Go.Value) (u312 : Go.Value) (u313 : Go.Value) (u314 : Go.Value) (u315 : Go.Value) (u316 : Go.Value) (u317 : Go.Value) (u318 : Go.Value) (u319 : Go.Value) (u320 : Go.Value) (u321 : Go.Value) (u322 : Go.Value) (u323 : Go.Value) (u324 : Go.Value) (u325 : Go.Value) (u326 : Go.Value) (u327 : Go.Value) (u328 : Go.Value) (u329 : Go.Value) (u330 : Go.Value) (u331 : Go.Value) (u332 : Go.Value) (u333 : Go.Value) (u334 : Go.Value) (u335 : Go.Value) (u336 : Go.Value) (u337 : Go.Value) (u338 : Go.Value) (u339 : Go.Value) (u340 : Go.Value) (u341 : Go.Value) (u342 : Go.Value) (u343 : Go.Value) (u344 : Go.Value) (u345 : Go.Value) (u346 : Go.Value) (u347 : Go.Value) (u348 : Go.Value) (u349 : Go.Value) (u350 : Go.Value) (u351 : Go.Value) (u352 : Go.Value) (u353 : Go.Value) (u354 : Go.Value) (u355 : Go.Value) (u356 : Go.Value) (u357 : Go.Value) (u358 : Go.Value) (u359 : Go.Value) (u360 : Go.Value) (u361 : Go.Value) (u362 : Go.Value) (u363 : Go.Value) (u364 : Go.Value) (u365 : Go.Value) (u366 : Go.Value) (u367 : Go.Value) (u368 : Go.Value) (u369 : Go.Value) (u370 : Go.Value) (u371 : Go.Value) (u372 : Go.Value) (u373 : Go.Value) (u374 : Go.Value) (u375 : Go.Value) (u376 : Go.Value) (u377 : Go.Value) (u378 : Go.Value) (u379 : Go.Value) (u380 : Go.Value) (u381 : Go.Value) (u382 : Go.Value) (u383 : Go.Value) (u384 : Go.Value) (u385 : Go.Value) (u386 : Go.Value) (u387 : Go.Value) (u388 : Go.Value) (u389 : Go.Value) (u390 : Go.Value) (u391 : Go.Value) (u392 : Go.Value) (u393 : Go.Value) (u394 : Go.Value) (u395 : Go.Value) (u396 : Go.Value) (u397 : Go.Value) (u398 : Go.Value) (u399 : Go.Value) (u400 : Go.Value) (u401 : Go.Value) (u402 : Go.Value) (u403 : Go.Value) (u404 : Go.Value) (u405 : Go.Value) (u406 : Go.Value) (u407 : Go.Value) (u408 : Go.Value) (u409 : Go.Value) (u410 : Go.Value) (u411 : Go.Value) (u412 : Go.Value) (u413 : Go.Value) (u414 : Go.Value) (u415 : Go.Value) (u416 : Go.Value) (u417 : Go.Value) (u418 : Go.Value) (u419 : Go.Value) (u420 : Go.Value) (u421 : Go.Value) (u422 : Go.Value) (u423 : Go.Value) (u424 : Go.Value) (u425 : Go.Value) (u426 : Go.Value) (u427 : Go.Value) (u428 : Go.Value) (u429 : Go.Value) (u430 : Go.Value) (u431 : Go.Value) (u432 : Go.Value) (u433 : Go.Value) (u434 : Go.Value) (u435 : Go.Value) (u436 : Go.Value) (u437 : Go.Value) (u438 : Go.Value) (u439 : Go.Value) (u440 : Go.Value) (u441 : Go.Value) (u442 : Go.Value) (u443 : Go.Value) (u444 : Go.Value) (u445 : Go.Value) (u446 : Go.Value) (u447 : Go.Value) (u448 : Go.Value) (u449 : Go.Value) (u450 : Go.Value) (u451 : Go.Value) (u452 : Go.Value) (u453 : Go.Value) (u454 : Go.Value) (u455 : Go.Value) (u456 : Go.Value) (u457 : Go.Value) (u458 : Go.Value) (u459 : Go.Value) (u460 : Go.Value) (u461 : Go.Value) (u462 : Go.Value) (u463 : Go.Value) (u464 : Go.Value) (u465 : Go.Value) (u466 : Go.Value) (u467 : Go.Value) (u468 : Go.Value) (u469 : Go.Value) (u470 : Go.Value) (u471 : Go.Value) (u472 : Go.Value) (u473 : Go.Value) (u474 : Go.Value) (u475 : Go.Value) (u476 : Go.Value) (u477 : Go.Value) (u478 : Go.Value) (u479 : Go.Value) (u480 : Go.Value) (u481 : Go.Value) (u482 : Go.Value) (u483 : Go.Value) (u484 : Go.Value) (u485 : Go.Value) (u486 : Go.Value) (u487 : Go.Value) (u488 : Go.Value) (u489 : Go.Value) (u490 : Go.Value) (u491 : Go.Value) (u492 : Go.Value) (u493 : Go.Value) (u494 : Go.Value) (u495 : Go.Value) (u496 : Go.Value) (u497 : Go.Value) (u498 : Go.Value) (u499 : Go.Value) (u500 : Go.Value) (u501 : Go.Value) (u502 : Go.Value) (u503 : Go.Value) (u504 : Go.Value) (u505 : Go.Value) (u506 : Go.Value) (u507 : Go.Value) (u508 : Go.Value) (u509 : Go.Value) (u510 : Go.Value) (u511 : Go.Value) (u512 : Go.Value) (u513 : Go.Value) (u514 : Go.Value) (u515 : Go.Value) (u516 : Go.Value) (u517 : Go.Value) (u518 : Go.Value) (u519 : Go.Value) (u520 : Go.Value) (u521 : Go.Value) (u522 : Go.Value) (u523 : Go.Value) (u524 : Go.Value) (u525 : Go.Value) (u526 : Go.Value) (u527 : Go.Value) (u528 : Go.Value) (u529 : Go.Value) (hcut : ∃ kq, Go.Proofs.YtofjndbpndpjjaaW.PrintWords.Aside0 (Go.Proofs.Ytofjndbpndpjjaa.Fn.laws_FnCirclesDiffer.j10 kq l1 = Option.some r) ∧ Go.Proofs.YtofjndbpndpjjaaW.PrintWords.Aside0 (kq ≤ kj61) ∧ Go.Proofs.YtofjndbpndpjjaaW.PrintWords.Aside0 (Go.RowKit.Below w.heap.size w wc)) : z458_ { tmps := #[Go.Value.slice A0 l0.length c0, Go.Value.slice A1 l1.length c1, Go.undef, Go.undef, u4, Go.Value.int Go.IntKind.i64 t926, Go.Value.slice Ao18 t927.length co18, Go.Value.int Go.IntKind.i64 t930, Go.Value.bool t931, Go.Value.int Go.IntKind.i64 t932, Go.Value.bool t933, Go.Value.bool t934, Go.Value.bool t935, Go.Value.bool t936, Go.Value.bool t937, v940, Go.Value.bool t939, v943, Go.Value.bool t945, v948, Go.Value.bool t947, v952, Go.Value.bool t951, Go.Value.bool t954, Go.Value.bool t955, Go.Value.bool t956, Go.Value.bool t957, u27, u28, u29, u30, Go.undef, u32, Go.undef, u34, u35, u36, u37, u38, u39, u40, u41, u42, u43, u44, u45, u46, u47, u48, Go.undef, Go.undef, Go.undef, Go.undef, Go.undef, Go.undef, Go.undef, Go.undef, Go.undef, Go.undef, Go.undef, Go.undef, Go.undef, Go.undef, Go.undef, Go.undef, Go.undef, Go.undef, Go.undef, u68, u69, u70, u71, u72, u73, u74, u75, u76, u77, u78, u79, u80, u81, u82, u83, u84, u85, u86, u87, u88, u89, u90, u91, u92, u93, u94, u95, u96, u97, u98, u99, u100, u101, u102, u103, u104, u105, u106, u107, u108, u109, u110, u111, u112, u113, u114, u115, u116, u117, u118, u119, u120, u121, u122, u123, u124, u125, u126, u127, u128, u129, u130, u131, u132, u133, u134, u135, u136, u137, u138, u139, u140, u141, u142, u143, u144, u145, u146, u147, u148, u149, u150, u151, u152, u153, u154, u155, u156, u157, u158, u159, u160, u161, u162, u163, u164, u165, u166, u167, u168, u169, u170, u171, u172, u173, u174, u175, u176, u177, u178, u179, u180, u181, u182, u183, u184, u185, u186, u187, u188, u189, u190, u191, u192, u193, u194, u195, u196, u197, u198, u199, u200, u201, u202, u203, u204, u205, u206, u207, u208, u209, u210, u211, u212, u213, u214, u215, u216, u217, u218, u219, u220, u221, u222, u223, u224, u225, u226, u227, u228, u229, u230, u231, u232, u233, u234, u235, u236, u237, u238, u239, u240, u241, u242, u243, u244, u245, u246, u247, u248, u249, u250, u251, u252, u253, u254, u255, u256, u257, u258, u259, u260, u261, u262, u263, u264, u265, u266, u267, u268, u269, u270, u271, u272, u273, u274, u275, u276, u277, u278, u279, u280, u281, u282, u283, u284, u285, u286, u287, u288, u289, u290, u291, u292, u293, u294, u295, u296, u297, u298, u299, u300, u301, u302, u303, u304, u305, u306, u307, u308, u309, u310, u311, u312, u313, u314, u315, u316, u317, u318, u319, u320, u321, u322, u323, u324, u325, u326, u327, u328, u329, u330, u331, u332, u333, u334, u335, u336, u337, u338, u339, u340, u341, u342, u343, u344, u345, u346, u347, u348, u349, u350, u351, u352, u353, u354, u355, u356, u357, u358, u359, u360, u361, u362, u363, u364, u365, u366, u367, u368, u369, u370, u371, u372, u373, u374, u375, u376, u377, u378, u379, u380, u381, u382, u383, u384, u385, u386, u387, u388, u389, u390, u391, u392, u393, u394, u395, u396, u397, u398, u399, u400, u401, u402, u403, u404, u405, u406, u407, u408, u409, u410, u411, u412, u413, u414, u415, u416, u417, u418, u419, u420, u421, u422, u423, u424, u425, u426, u427, u428, u429, u430, u431, u432, u433, u434, u435, u436, u437, u438, u439, u440, u441, u442, u443, u444, u445, u446, u447, u448, u449, u450, u451, u452, u453, u454, u455, u456, u457, u458, u459, u460, u461, u462, u463, u464, u465, u466, u467, u468, u469, u470, u471, u472, u473, u474, u475, u476, u477, u478, u479, u480, u481, u482, u483, u484, u485, u486, u487, u488, u489, u490, u491, u492, u493, u494, u495, u496, u497, u498, u499, u500, u501, u502, u503, u504, u505, u506, u507, u508, u509, u510, u511, u512, u513, u514, u515, u516, u517, u518, u519, u520, u521, u522, u523, u524, u525, u526, u527, u528, u529], defers := [] } wc := by
  conv at ez459_ => (lhs; whnf)
  subst ez459_
  clear HC108
  try clear c1
  try clear c2
  try clear p2
  try clear c3
  try clear c4
  try clear c5
  try clear c6
  try clear p6
  try clear c7
  try clear c8
  try clear c9
  try clear p9
  try clear q9
  try clear hx9
  try clear qi9
  try clear c10
  try clear c11
  try clear c12
  try clear c13
  try clear c29
  try clear c29b0
  try clear c29b1
  try clear c29b2
  try clear c30
  try clear c30b0
  try clear c30b1
  try clear c31
  try clear c31b0
  try clear c31b1
  try clear c31b2
  try clear c32
  try clear c32b0
  try clear c32b1
  try clear c32b2
  try clear c33
  try clear c33b0
  try clear c33b1
  try clear c33b2
  try clear c34
  try clear c35
  try clear c36
  try clear c36b0
  try clear c36b1
  try clear c36b2
  try clear c37
  try clear c38
  try clear c39
  try clear c39b0
  try clear c39b1
  try clear c39b2
  try clear c40
  try clear c40b0
  try clear c40b1
  try clear c40b2
  try clear c41
  try clear c42
  try clear c42b0
  try clear c42b1
  try clear c42b2
  try clear c43
  try clear c45
  try clear c45b0
  try clear c45b1
  try clear c45b2
  try clear c46
  try clear c47
  try clear c47b0
  try clear c47b1
  try clear c47b2
  try clear c48
  try clear c48b0
  try clear c48b1
  try clear c48b2
  try clear c49
  try clear c49b0
  try clear c49b1
  try clear c49b2
  try clear c50
  try clear c51
  try clear c52
  try clear c54
  try clear c54b0
  try clear c54b1
  try clear c54b2
  try clear c55
  try clear c55b0
  try clear c55b1
  try clear c55b2
  try clear c56
  try clear c56b0
  try clear c56b1
  try clear c56b2
  try clear c61
  try clear c63
  try clear p64
  try clear c65
  try clear c65b0
  try clear c66
  try clear c66b0
  try clear c67
  try clear c67b0
  try clear c69
  try clear c69b0
  try clear c69b1
  try clear c70
  try clear c70b0
  try clear c70b1
  try clear c71
  try clear c71b0
  try clear c73
  try clear c73b0
  try clear c74
  try clear c74b0
  try clear c75
  try clear c75b0
  try clear c77
  try clear c77b0
  try clear c78
  try clear c78b0
  try clear c79
  try clear c80
  try clear c80b0
  try clear c81
  try clear c81b0
  try clear c81b1
  try clear c83
  try clear c83b0
  try clear c83b1
  try clear c84
  try clear c84b0
  try clear c84b1
  try clear c84b2
  try clear c85
  try clear c85b0
  try clear c85b1
  try clear c86
  try clear c86b0
  try clear c86b1
  try clear c87
  try clear c87b0
  try clear c87b1
  try clear c89
  try clear c89b0
  try clear c90
  try clear c90b0
  try clear c91
  try clear c91b0
  try clear c92
  try clear c92b0
  try clear c93
  try clear c93b0
  try clear c94
  try clear c94b0
  try clear c95
  try clear c95b0
  try clear c95b1
  try clear p96
  try clear q96
  try clear hx96
  try clear qi96
  try clear c97
  try clear c100
  try clear c101
  try clear c103
  try clear c109
  try clear c110
  try clear c110b0
  try clear c110b1
  try clear c114
  try clear c117
  try clear c119
  try clear c119b0
  try clear c120
  try clear c121
  try clear c121b0
  try clear c121b1
  try clear c127
  try clear c127b0
  try clear c128
  try clear c131
  try clear c131b0
  try clear c131b1
  try clear c133
  try clear c134
  try clear c135
  try clear c135b0
  try clear c135b1
  try clear hx963_0
  try clear hx964_0
  try clear hx965_0
  try clear hx967_0
  try clear hx968_0
  try clear hx969_0
  try clear p2
  try clear p6
  try clear p64
  try clear p9
  try clear p96
  try clear p963
  try clear p964
  try clear p965
  try clear p967
  try clear p968
  try clear p969
  try clear q9
  try clear q96
  try clear q963
  try clear q964
  try clear q965
  try clear q967
  try clear q968
  try clear q969
  obtain ⟨kq, HA, HJ107, HB⟩ := hcut
  cases kq with
  | zero => exact absurd HA.out (by simp [laws_FnCirclesDiffer.j10])
  | succ kj107 =>
   have H := HA.out
   clear HA
   simp only [laws_FnCirclesDiffer.j10] at H
   replace H := Option.bind_eq_some_iff.mp H
   obtain ⟨⟨t993, t994, t995⟩, A1400, H⟩ := H
   (try dsimp only at H)
   have A140 := Aside0.mk A1400
   clear A1400
   replace H := Option.bind_eq_some_iff.mp H
   obtain ⟨⟨t998, t999⟩, A1410, H⟩ := H
   (try dsimp only at H)
   have A141 := Aside0.mk A1410
   clear A1410
   replace H := Option.bind_eq_some_iff.mp H
   obtain ⟨⟨t1002, t1003⟩, A1420, H⟩ := H
   (try dsimp only at H)
   have A142 := Aside0.mk A1420
   clear A1420
   replace H := Option.bind_eq_some_iff.mp H
   obtain ⟨⟨t1006, t1007⟩, A1430, H⟩ := H
   (try dsimp only at H)
   have A143 := Aside0.mk A1430
   clear A1430
   replace H := Option.bind_eq_some_iff.mp H
   obtain ⟨⟨t1010, t1011⟩, A1440, H⟩ := H
   (try dsimp only at H)
   have A144 := Aside0.mk A1440
   clear A1440
   replace H := Option.bind_eq_some_iff.mp H
   obtain ⟨⟨t1014, t1015⟩, A1450, H⟩ := H
   (try dsimp only at H)
   have A145 := Aside0.mk A1450
   clear A1450
   replace H := Option.bind_eq_some_iff.mp H
   obtain ⟨⟨t1018, t1019⟩, A1460, H⟩ := H
   (try dsimp only at H)
   have A146 := Aside0.mk A1460
   clear A1460
   replace H := Option.bind_eq_some_iff.mp H
   obtain ⟨⟨t1022, t1023⟩, A1470, H⟩ := H
   (try dsimp only at H)
   have A147 := Aside0.mk A1470
   clear A1470
   by_cases c148 : (t999 != t1003) = true
   ·rw [if_pos c148] at H
    have c148b0 : (t999 != t1003) = true := c148
    (try (have c148b1 : decide (t999 = t1003) = false := by simpa using c148))
    (try (have c148b2 : (t999 == t1003) = false := by simpa using c148))
    (try (have c148b3 : ¬ (t999 = t1003) := by simpa using c148))
    clear c148
    exact absurd ((Option.some.inj H).trans HT.out) (by decide)
   ·rw [if_neg c148] at H
    have c148b0 : (t999 != t1003) = false := by simpa using c148
    (try (have c148b1 : decide (t999 = t1003) = true := by simpa using c148))
    (try (have c148b2 : (t999 == t1003) = true := by simpa using c148))
    clear c148
    replace H := Option.bind_eq_some_iff.mp H
    obtain ⟨t1026, A1490, H⟩ := H
    (try dsimp only at H)
    have A149 := Aside0.mk A1490
    clear A1490
    by_cases c150 : t1026 = true
    ·subst c150
     rw [if_pos rfl] at H
     by_cases c151 : (t1007 != t1011) = true
     ·rw [if_pos c151] at H
      have c151b0 : (t1007 != t1011) = true := c151
      (try (have c151b1 : decide (t1007 = t1011) = false := by simpa using c151))
      (try (have c151b2 : (t1007 == t1011) = false := by simpa using c151))
      (try (have c151b3 : ¬ (t1007 = t1011) := by simpa using c151))
      clear c151
      exact absurd ((Option.some.inj H).trans HT.out) (by decide)
     ·rw [if_neg c151] at H
      have c151b0 : (t1007 != t1011) = false := by simpa using c151
      (try (have c151b1 : decide (t1007 = t1011) = true := by simpa using c151))
      (try (have c151b2 : (t1007 == t1011) = true := by simpa using c151))
      clear c151
      replace H := Option.bind_eq_some_iff.mp H
      obtain ⟨t1027, A1520, H⟩ := H
      (try dsimp only at H)
      have A152 := Aside0.mk A1520
      clear A1520
      by_cases c153 : t1027 = true
      ·subst c153
       rw [if_pos rfl] at H
       by_cases c154 : (t1019 != t1023) = true
       ·rw [if_pos c154] at H
        have c154b0 : (t1019 != t1023) = true := c154
        (try (have c154b1 : decide (t1019 = t1023) = false := by simpa using c154))
        (try (have c154b2 : (t1019 == t1023) = false := by simpa using c154))
        (try (have c154b3 : ¬ (t1019 = t1023) := by simpa using c154))
        clear c154
        exact absurd ((Option.some.inj H).trans HT.out) (by decide)
       ·rw [if_neg c154] at H
        have c154b0 : (t1019 != t1023) = false := by simpa using c154
        (try (have c154b1 : decide (t1019 = t1023) = true := by simpa using c154))
        (try (have c154b2 : (t1019 == t1023) = true := by simpa using c154))
        clear c154
        replace H := Option.bind_eq_some_iff.mp H
        obtain ⟨t1028, A1550, H⟩ := H
        (try dsimp only at H)
        have A155 := Aside0.mk A1550
        clear A1550
        by_cases c156 : t1028 = true
        ·subst c156
         rw [if_pos rfl] at H
         by_cases c157 : t1019 = true
         ·subst c157
          obtain rfl : t1023 = true := (by simpa using c154b0)
          rw [if_pos rfl] at H
          replace H := Option.bind_eq_some_iff.mp H
          obtain ⟨⟨t1029, t1030⟩, A1580, H⟩ := H
          (try dsimp only at H)
          have A158 := Aside0.mk A1580
          clear A1580
          by_cases c159 : t1030 = true
          ·subst c159
           rw [if_pos rfl] at H
           replace H := Option.bind_eq_some_iff.mp H
           obtain ⟨t1033, A1600, H⟩ := H
           (try dsimp only at H)
           have A160 := Aside0.mk A1600
           clear A1600
           by_cases c161 : t1033 = true
           ·subst c161
            rw [if_pos rfl] at H
            obtain rfl := Option.some.inj H
            as_aux_lemma =>
             go_wp2_with (first | ((with_reducible refine gate_callee (f := 53) rfl ?_); refine goesA (some 428) Try.func53 #[.slice A1 l1.length c1] ?_; (with_reducible refine (spec_DrawMoveSet.calls kj107 _ _ l1 t993 t994 t995 _ ?side1 ?side2 A140.out).mono ?_); (case side1 => repeat (first | exact (Kd.C_below HR1.out HB.out) | (with_reducible refine Kd.C_alloc ?_ _) | (with_reducible refine Kd.C_drewN ?_ _) | (with_reducible refine Kd.C_drew ?_))); (case side2 => exact HC1.out); rintro e w162 ⟨v996, rfl, ho0, hb⟩; refine ⟨_, rfl, ?_⟩; have HO997 := lowR ho0 HB; replace HB := upB HB hb; (try clear hb); (try clear hb2); (try clear hk); (try clear hi); (try clear ho0); obtain ⟨Ao163, co163, eo163⟩ := Kd.R_slice HO997.out; subst eo163) | ((with_reducible refine gate_callee (f := 49) rfl ?_); refine goesA (some 436) Try.func49 #[.int .i64 t993, .slice Ao163 t994.length co163, .int .i64 t995] ?_; (with_reducible refine (impl_MoveSet.calls kj107 t993 _ _ t994 t995 t998 t999 _ ?side1 ?side2 A141.out).mono ?_); (case side1 => exact atRC HO997); (case side2 => exact (Kd.R_reads' HO997.out).2.1); rintro e w164 ⟨v1000, rfl, ho0, hb⟩; refine ⟨_, rfl, ?_⟩; have HO1001 := lowR ho0 HB; replace HO997 := upR HO997 hb; replace HB := upB HB hb; (try clear hb); (try clear hb2); (try clear hk); (try clear hi); (try clear ho0)) | ((with_reducible refine gate_callee (f := 54) rfl ?_); refine goesA (some 443) Try.func54 #[.int .i64 t993, .slice Ao163 t994.length co163, .int .i64 t995] ?_; (with_reducible refine (spec_MoveSet.calls kj107 t993 _ _ t994 t995 t1002 t1003 _ ?side1 ?side2 A142.out).mono ?_); (case side1 => exact atRC HO997); (case side2 => exact (Kd.R_reads' HO997.out).2.1); rintro e w165 ⟨v1004, rfl, ho0, hb⟩; refine ⟨_, rfl, ?_⟩; have HO1005 := lowR ho0 HB; replace HO997 := upR HO997 hb; replace HO1001 := upR HO1001 hb; replace HB := upB HB hb; (try clear hb); (try clear hb2); (try clear hk); (try clear hi); (try clear ho0)) | ((with_reducible refine gate_callee (f := 51) rfl ?_); refine goesA (some 450) Try.func51 #[.int .i64 t993, .slice Ao163 t994.length co163, .int .i64 t995] ?_; (with_reducible refine (impl_TimesSet.calls kj107 t993 _ _ t994 t995 t1006 t1007 _ ?side1 ?side2 A143.out).mono ?_); (case side1 => exact atRC HO997); (case side2 => exact (Kd.R_reads' HO997.out).2.1); rintro e w166 ⟨v1008, rfl, ho0, hb⟩; refine ⟨_, rfl, ?_⟩; have HO1009 := lowR ho0 HB; replace HO997 := upR HO997 hb; replace HO1001 := upR HO1001 hb; replace HO1005 := upR HO1005 hb; replace HB := upB HB hb; (try clear hb); (try clear hb2); (try clear hk); (try clear hi); (try clear ho0)) | ((with_reducible refine gate_callee (f := 55) rfl ?_); refine goesA (some 457) Try.func55 #[.int .i64 t993, .slice Ao163 t994.length co163, .int .i64 t995] ?_; (with_reducible refine (spec_TimesSet.calls kj107 t993 _ _ t994 t995 t1010 t1011 _ ?side1 ?side2 A144.out).mono ?_); (case side1 => exact atRC HO997); (case side2 => exact (Kd.R_reads' HO997.out).2.1); rintro e w167 ⟨v1012, rfl, ho0, hb⟩; refine ⟨_, rfl, ?_⟩; have HO1013 := lowR ho0 HB; replace HO997 := upR HO997 hb; replace HO1001 := upR HO1001 hb; replace HO1005 := upR HO1005 hb; replace HO1009 := upR HO1009 hb; replace HB := upB HB hb; (try clear hb); (try clear hb2); (try clear hk); (try clear hi); (try clear ho0)) | ((with_reducible refine gate_callee (f := 56) rfl ?_); refine goesA (some 462) Try.func56 #[.slice A1 l1.length c1] ?_; (with_reducible refine (spec_DrawComplementSet.calls kj107 _ _ l1 t1014 t1015 _ ?side1 ?side2 A145.out).mono ?_); (case side1 => repeat (first | exact (Kd.C_below HR1.out HB.out) | (with_reducible refine Kd.C_alloc ?_ _) | (with_reducible refine Kd.C_drewN ?_ _) | (with_reducible refine Kd.C_drew ?_))); (case side2 => exact HC1.out); rintro e w168 ⟨v1016, rfl, ho0, hb⟩; refine ⟨_, rfl, ?_⟩; have HO1017 := lowR ho0 HB; replace HO997 := upR HO997 hb; replace HO1001 := upR HO1001 hb; replace HO1005 := upR HO1005 hb; replace HO1009 := upR HO1009 hb; replace HO1013 := upR HO1013 hb; replace HB := upB HB hb; (try clear hb); (try clear hb2); (try clear hk); (try clear hi); (try clear ho0); obtain ⟨Ao169, co169, eo169⟩ := Kd.R_slice HO1017.out; subst eo169) | ((with_reducible refine gate_callee (f := 50) rfl ?_); refine goesA (some 468) Try.func50 #[.int .i64 t1014, .slice Ao169 t1015.length co169] ?_; (with_reducible refine (impl_ComplementSet.calls kj107 t1014 _ _ t1015 t1018 true _ ?side1 ?side2 A146.out).mono ?_); (case side1 => exact atRC HO1017); (case side2 => exact (Kd.R_reads' HO1017.out).2.1); rintro e w170 ⟨v1020, rfl, ho0, hb⟩; refine ⟨_, rfl, ?_⟩; have HO1021 := lowR ho0 HB; replace HO997 := upR HO997 hb; replace HO1001 := upR HO1001 hb; replace HO1005 := upR HO1005 hb; replace HO1009 := upR HO1009 hb; replace HO1013 := upR HO1013 hb; replace HO1017 := upR HO1017 hb; replace HB := upB HB hb; (try clear hb); (try clear hb2); (try clear hk); (try clear hi); (try clear ho0)) | ((with_reducible refine gate_callee (f := 57) rfl ?_); refine goesA (some 474) Try.func57 #[.int .i64 t1014, .slice Ao169 t1015.length co169] ?_; (with_reducible refine (spec_ComplementSet.calls kj107 t1014 _ _ t1015 t1022 true _ ?side1 ?side2 A147.out).mono ?_); (case side1 => exact atRC HO1017); (case side2 => exact (Kd.R_reads' HO1017.out).2.1); rintro e w171 ⟨v1024, rfl, ho0, hb⟩; refine ⟨_, rfl, ?_⟩; have HO1025 := lowR ho0 HB; replace HO997 := upR HO997 hb; replace HO1001 := upR HO1001 hb; replace HO1005 := upR HO1005 hb; replace HO1009 := upR HO1009 hb; replace HO1013 := upR HO1013 hb; replace HO1017 := upR HO1017 hb; replace HO1021 := upR HO1021 hb; replace HB := upB HB hb; (try clear hb); (try clear hb2); (try clear hk); (try clear hi); (try clear ho0); obtain ⟨Ao172, co172, eo172⟩ := Kd.R_slice HO1001.out; subst eo172; obtain ⟨Ao173, co173, eo173⟩ := Kd.R_slice HO1005.out; subst eo173) | (go_at_call 44; (with_reducible refine (laws_zSame.calls kj107 _ _ t998 _ _ t1002 true _ ?side1 ?side2 ?side3 ?side4 A149.out).mono ?_); (case side1 => exact atRC HO1001); (case side2 => exact (Kd.R_reads' HO1001.out).2.1); (case side3 => exact atRC HO1005); (case side4 => exact (Kd.R_reads' HO1005.out).2.1); rintro e w' ⟨rfl, ⟨nd, rfl⟩⟩; (try (rw [drewN_self w171]; generalize hq_ : World.drewN w171 _ = w171; have n0_ : Aside0 (Kd.R (Kd.int .i64) 3 w171 w.heap.size (fun _ => True) (.slice Ao172 t998.length co172) t998) := ⟨by rw [← hq_]; exact (atR HO1001)⟩; have n1_ : Aside0 (Kd.R (Kd.int .i64) 3 w171 w.heap.size (fun _ => True) (.slice Ao173 t1002.length co173) t1002) := ⟨by rw [← hq_]; exact (atR HO1005)⟩; have n2_ : Aside0 (Kd.R (Kd.int .i64) 3 w171 w.heap.size (fun _ => True) v1008 t1006) := ⟨by rw [← hq_]; exact (atR HO1009)⟩; have n3_ : Aside0 (Kd.R (Kd.int .i64) 3 w171 w.heap.size (fun _ => True) v1012 t1010) := ⟨by rw [← hq_]; exact (atR HO1013)⟩; have n4_ : Aside0 (Kd.R (Kd.int .i64) 3 w171 w.heap.size (fun _ => True) (.slice Ao169 t1015.length co169) t1015) := ⟨by rw [← hq_]; exact (atR HO1017)⟩; have n5_ : Aside0 (Kd.R (Kd.int .i64) 3 w171 w.heap.size (fun _ => True) v1020 t1018) := ⟨by rw [← hq_]; exact (atR HO1021)⟩; have n6_ : Aside0 (Kd.R (Kd.int .i64) 3 w171 w.heap.size (fun _ => True) v1024 t1022) := ⟨by rw [← hq_]; exact (atR HO1025)⟩; have n7_ : Aside0 (Kd.R (Kd.int .i64) 3 w171 w.heap.size (fun _ => True) (.slice Ao163 t994.length co163) t994) := ⟨by rw [← hq_]; exact (atR HO997)⟩; have n8_ : Aside0 (Below w.heap.size w w171) := ⟨by rw [← hq_]; exact (atB HB)⟩; clear HO1001 HO1005 HO1009 HO1013 HO1017 HO1021 HO1025 HO997 HB hq_; have HO1001 := n0_; have HO1005 := n1_; have HO1009 := n2_; have HO1013 := n3_; have HO1017 := n4_; have HO1021 := n5_; have HO1025 := n6_; have HO997 := n7_; have HB := n8_; clear n0_ n1_ n2_ n3_ n4_ n5_ n6_ n7_ n8_)); obtain ⟨Ao174, co174, eo174⟩ := Kd.R_slice HO1009.out; subst eo174; obtain ⟨Ao175, co175, eo175⟩ := Kd.R_slice HO1013.out; subst eo175) | (go_at_call 44; (with_reducible refine (laws_zSame.calls kj107 _ _ t1006 _ _ t1010 true _ ?side1 ?side2 ?side3 ?side4 A152.out).mono ?_); (case side1 => exact atRC HO1009); (case side2 => exact (Kd.R_reads' HO1009.out).2.1); (case side3 => exact atRC HO1013); (case side4 => exact (Kd.R_reads' HO1013.out).2.1); rintro e w' ⟨rfl, ⟨nd, rfl⟩⟩; (try (rw [drewN_self w171]; generalize hq_ : World.drewN w171 _ = w171; have n0_ : Aside0 (Kd.R (Kd.int .i64) 3 w171 w.heap.size (fun _ => True) (.slice Ao172 t998.length co172) t998) := ⟨by rw [← hq_]; exact (atR HO1001)⟩; have n1_ : Aside0 (Kd.R (Kd.int .i64) 3 w171 w.heap.size (fun _ => True) (.slice Ao173 t1002.length co173) t1002) := ⟨by rw [← hq_]; exact (atR HO1005)⟩; have n2_ : Aside0 (Kd.R (Kd.int .i64) 3 w171 w.heap.size (fun _ => True) (.slice Ao174 t1006.length co174) t1006) := ⟨by rw [← hq_]; exact (atR HO1009)⟩; have n3_ : Aside0 (Kd.R (Kd.int .i64) 3 w171 w.heap.size (fun _ => True) (.slice Ao175 t1010.length co175) t1010) := ⟨by rw [← hq_]; exact (atR HO1013)⟩; have n4_ : Aside0 (Kd.R (Kd.int .i64) 3 w171 w.heap.size (fun _ => True) (.slice Ao169 t1015.length co169) t1015) := ⟨by rw [← hq_]; exact (atR HO1017)⟩; have n5_ : Aside0 (Kd.R (Kd.int .i64) 3 w171 w.heap.size (fun _ => True) v1020 t1018) := ⟨by rw [← hq_]; exact (atR HO1021)⟩; have n6_ : Aside0 (Kd.R (Kd.int .i64) 3 w171 w.heap.size (fun _ => True) v1024 t1022) := ⟨by rw [← hq_]; exact (atR HO1025)⟩; have n7_ : Aside0 (Kd.R (Kd.int .i64) 3 w171 w.heap.size (fun _ => True) (.slice Ao163 t994.length co163) t994) := ⟨by rw [← hq_]; exact (atR HO997)⟩; have n8_ : Aside0 (Below w.heap.size w w171) := ⟨by rw [← hq_]; exact (atB HB)⟩; clear HO1001 HO1005 HO1009 HO1013 HO1017 HO1021 HO1025 HO997 HB hq_; have HO1001 := n0_; have HO1005 := n1_; have HO1009 := n2_; have HO1013 := n3_; have HO1017 := n4_; have HO1021 := n5_; have HO1025 := n6_; have HO997 := n7_; have HB := n8_; clear n0_ n1_ n2_ n3_ n4_ n5_ n6_ n7_ n8_)); obtain ⟨Ao176, co176, eo176⟩ := Kd.R_slice HO1021.out; subst eo176; obtain ⟨Ao177, co177, eo177⟩ := Kd.R_slice HO1025.out; subst eo177) | (go_at_call 44; (with_reducible refine (laws_zSame.calls kj107 _ _ t1018 _ _ t1022 true _ ?side1 ?side2 ?side3 ?side4 A155.out).mono ?_); (case side1 => exact atRC HO1021); (case side2 => exact (Kd.R_reads' HO1021.out).2.1); (case side3 => exact atRC HO1025); (case side4 => exact (Kd.R_reads' HO1025.out).2.1); rintro e w' ⟨rfl, ⟨nd, rfl⟩⟩; (try (rw [drewN_self w171]; generalize hq_ : World.drewN w171 _ = w171; have n0_ : Aside0 (Kd.R (Kd.int .i64) 3 w171 w.heap.size (fun _ => True) (.slice Ao172 t998.length co172) t998) := ⟨by rw [← hq_]; exact (atR HO1001)⟩; have n1_ : Aside0 (Kd.R (Kd.int .i64) 3 w171 w.heap.size (fun _ => True) (.slice Ao173 t1002.length co173) t1002) := ⟨by rw [← hq_]; exact (atR HO1005)⟩; have n2_ : Aside0 (Kd.R (Kd.int .i64) 3 w171 w.heap.size (fun _ => True) (.slice Ao174 t1006.length co174) t1006) := ⟨by rw [← hq_]; exact (atR HO1009)⟩; have n3_ : Aside0 (Kd.R (Kd.int .i64) 3 w171 w.heap.size (fun _ => True) (.slice Ao175 t1010.length co175) t1010) := ⟨by rw [← hq_]; exact (atR HO1013)⟩; have n4_ : Aside0 (Kd.R (Kd.int .i64) 3 w171 w.heap.size (fun _ => True) (.slice Ao169 t1015.length co169) t1015) := ⟨by rw [← hq_]; exact (atR HO1017)⟩; have n5_ : Aside0 (Kd.R (Kd.int .i64) 3 w171 w.heap.size (fun _ => True) (.slice Ao176 t1018.length co176) t1018) := ⟨by rw [← hq_]; exact (atR HO1021)⟩; have n6_ : Aside0 (Kd.R (Kd.int .i64) 3 w171 w.heap.size (fun _ => True) (.slice Ao177 t1022.length co177) t1022) := ⟨by rw [← hq_]; exact (atR HO1025)⟩; have n7_ : Aside0 (Kd.R (Kd.int .i64) 3 w171 w.heap.size (fun _ => True) (.slice Ao163 t994.length co163) t994) := ⟨by rw [← hq_]; exact (atR HO997)⟩; have n8_ : Aside0 (Below w.heap.size w w171) := ⟨by rw [← hq_]; exact (atB HB)⟩; clear HO1001 HO1005 HO1009 HO1013 HO1017 HO1021 HO1025 HO997 HB hq_; have HO1001 := n0_; have HO1005 := n1_; have HO1009 := n2_; have HO1013 := n3_; have HO1017 := n4_; have HO1021 := n5_; have HO1025 := n6_; have HO997 := n7_; have HB := n8_; clear n0_ n1_ n2_ n3_ n4_ n5_ n6_ n7_ n8_))) | ((with_reducible refine gate_callee (f := 50) rfl ?_); refine goesA (some 512) Try.func50 #[.int .i64 t1014, .slice Ao176 t1018.length co176] ?_; (with_reducible refine (impl_ComplementSet.calls kj107 t1014 _ _ t1018 t1029 true _ ?side1 ?side2 A158.out).mono ?_); (case side1 => exact atRC HO1021); (case side2 => exact (Kd.R_reads' HO1021.out).2.1); rintro e w178 ⟨v1031, rfl, ho0, hb⟩; refine ⟨_, rfl, ?_⟩; have HO1032 := lowR ho0 HB; replace HO997 := upR HO997 hb; replace HO1001 := upR HO1001 hb; replace HO1005 := upR HO1005 hb; replace HO1009 := upR HO1009 hb; replace HO1013 := upR HO1013 hb; replace HO1017 := upR HO1017 hb; replace HO1021 := upR HO1021 hb; replace HO1025 := upR HO1025 hb; replace HB := upB HB hb; (try clear hb); (try clear hb2); (try clear hk); (try clear hi); (try clear ho0); obtain ⟨Ao179, co179, eo179⟩ := Kd.R_slice HO1032.out; subst eo179) | (go_at_call 44; (with_reducible refine (laws_zSame.calls kj107 _ _ t1029 _ _ t1015 true _ ?side1 ?side2 ?side3 ?side4 A160.out).mono ?_); (case side1 => exact atRC HO1032); (case side2 => exact (Kd.R_reads' HO1032.out).2.1); (case side3 => exact atRC HO1017); (case side4 => exact (Kd.R_reads' HO1017.out).2.1); rintro e w' ⟨rfl, ⟨nd, rfl⟩⟩))
             go_ret
             exact ⟨eqr, atB HB⟩
           ·replace c161 := Bool.eq_false_iff.mpr c161
            subst c161
            rw [if_neg (show ¬ (false = true) by decide)] at H
            exact absurd ((Option.some.inj H).trans HT.out) (by decide)
          ·replace c159 := Bool.eq_false_iff.mpr c159
           subst c159
           rw [if_neg (show ¬ (false = true) by decide)] at H
           exact absurd ((Option.some.inj H).trans HT.out) (by decide)
         ·replace c157 := Bool.eq_false_iff.mpr c157
          subst c157
          obtain rfl : t1023 = false := (by simpa using c154b0)
          rw [if_neg (show ¬ (false = true) by decide)] at H
          obtain rfl := Option.some.inj H
          as_aux_lemma =>
           go_wp2_with (first | ((with_reducible refine gate_callee (f := 53) rfl ?_); refine goesA (some 428) Try.func53 #[.slice A1 l1.length c1] ?_; (with_reducible refine (spec_DrawMoveSet.calls kj107 _ _ l1 t993 t994 t995 _ ?side1 ?side2 A140.out).mono ?_); (case side1 => repeat (first | exact (Kd.C_below HR1.out HB.out) | (with_reducible refine Kd.C_alloc ?_ _) | (with_reducible refine Kd.C_drewN ?_ _) | (with_reducible refine Kd.C_drew ?_))); (case side2 => exact HC1.out); rintro e w180 ⟨v996, rfl, ho0, hb⟩; refine ⟨_, rfl, ?_⟩; have HO997 := lowR ho0 HB; replace HB := upB HB hb; (try clear hb); (try clear hb2); (try clear hk); (try clear hi); (try clear ho0); obtain ⟨Ao181, co181, eo181⟩ := Kd.R_slice HO997.out; subst eo181) | ((with_reducible refine gate_callee (f := 49) rfl ?_); refine goesA (some 436) Try.func49 #[.int .i64 t993, .slice Ao181 t994.length co181, .int .i64 t995] ?_; (with_reducible refine (impl_MoveSet.calls kj107 t993 _ _ t994 t995 t998 t999 _ ?side1 ?side2 A141.out).mono ?_); (case side1 => exact atRC HO997); (case side2 => exact (Kd.R_reads' HO997.out).2.1); rintro e w182 ⟨v1000, rfl, ho0, hb⟩; refine ⟨_, rfl, ?_⟩; have HO1001 := lowR ho0 HB; replace HO997 := upR HO997 hb; replace HB := upB HB hb; (try clear hb); (try clear hb2); (try clear hk); (try clear hi); (try clear ho0)) | ((with_reducible refine gate_callee (f := 54) rfl ?_); refine goesA (some 443) Try.func54 #[.int .i64 t993, .slice Ao181 t994.length co181, .int .i64 t995] ?_; (with_reducible refine (spec_MoveSet.calls kj107 t993 _ _ t994 t995 t1002 t1003 _ ?side1 ?side2 A142.out).mono ?_); (case side1 => exact atRC HO997); (case side2 => exact (Kd.R_reads' HO997.out).2.1); rintro e w183 ⟨v1004, rfl, ho0, hb⟩; refine ⟨_, rfl, ?_⟩; have HO1005 := lowR ho0 HB; replace HO997 := upR HO997 hb; replace HO1001 := upR HO1001 hb; replace HB := upB HB hb; (try clear hb); (try clear hb2); (try clear hk); (try clear hi); (try clear ho0)) | ((with_reducible refine gate_callee (f := 51) rfl ?_); refine goesA (some 450) Try.func51 #[.int .i64 t993, .slice Ao181 t994.length co181, .int .i64 t995] ?_; (with_reducible refine (impl_TimesSet.calls kj107 t993 _ _ t994 t995 t1006 t1007 _ ?side1 ?side2 A143.out).mono ?_); (case side1 => exact atRC HO997); (case side2 => exact (Kd.R_reads' HO997.out).2.1); rintro e w184 ⟨v1008, rfl, ho0, hb⟩; refine ⟨_, rfl, ?_⟩; have HO1009 := lowR ho0 HB; replace HO997 := upR HO997 hb; replace HO1001 := upR HO1001 hb; replace HO1005 := upR HO1005 hb; replace HB := upB HB hb; (try clear hb); (try clear hb2); (try clear hk); (try clear hi); (try clear ho0)) | ((with_reducible refine gate_callee (f := 55) rfl ?_); refine goesA (some 457) Try.func55 #[.int .i64 t993, .slice Ao181 t994.length co181, .int .i64 t995] ?_; (with_reducible refine (spec_TimesSet.calls kj107 t993 _ _ t994 t995 t1010 t1011 _ ?side1 ?side2 A144.out).mono ?_); (case side1 => exact atRC HO997); (case side2 => exact (Kd.R_reads' HO997.out).2.1); rintro e w185 ⟨v1012, rfl, ho0, hb⟩; refine ⟨_, rfl, ?_⟩; have HO1013 := lowR ho0 HB; replace HO997 := upR HO997 hb; replace HO1001 := upR HO1001 hb; replace HO1005 := upR HO1005 hb; replace HO1009 := upR HO1009 hb; replace HB := upB HB hb; (try clear hb); (try clear hb2); (try clear hk); (try clear hi); (try clear ho0)) | ((with_reducible refine gate_callee (f := 56) rfl ?_); refine goesA (some 462) Try.func56 #[.slice A1 l1.length c1] ?_; (with_reducible refine (spec_DrawComplementSet.calls kj107 _ _ l1 t1014 t1015 _ ?side1 ?side2 A145.out).mono ?_); (case side1 => repeat (first | exact (Kd.C_below HR1.out HB.out) | (with_reducible refine Kd.C_alloc ?_ _) | (with_reducible refine Kd.C_drewN ?_ _) | (with_reducible refine Kd.C_drew ?_))); (case side2 => exact HC1.out); rintro e w186 ⟨v1016, rfl, ho0, hb⟩; refine ⟨_, rfl, ?_⟩; have HO1017 := lowR ho0 HB; replace HO997 := upR HO997 hb; replace HO1001 := upR HO1001 hb; replace HO1005 := upR HO1005 hb; replace HO1009 := upR HO1009 hb; replace HO1013 := upR HO1013 hb; replace HB := upB HB hb; (try clear hb); (try clear hb2); (try clear hk); (try clear hi); (try clear ho0); obtain ⟨Ao187, co187, eo187⟩ := Kd.R_slice HO1017.out; subst eo187) | ((with_reducible refine gate_callee (f := 50) rfl ?_); refine goesA (some 468) Try.func50 #[.int .i64 t1014, .slice Ao187 t1015.length co187] ?_; (with_reducible refine (impl_ComplementSet.calls kj107 t1014 _ _ t1015 t1018 false _ ?side1 ?side2 A146.out).mono ?_); (case side1 => exact atRC HO1017); (case side2 => exact (Kd.R_reads' HO1017.out).2.1); rintro e w188 ⟨v1020, rfl, ho0, hb⟩; refine ⟨_, rfl, ?_⟩; have HO1021 := lowR ho0 HB; replace HO997 := upR HO997 hb; replace HO1001 := upR HO1001 hb; replace HO1005 := upR HO1005 hb; replace HO1009 := upR HO1009 hb; replace HO1013 := upR HO1013 hb; replace HO1017 := upR HO1017 hb; replace HB := upB HB hb; (try clear hb); (try clear hb2); (try clear hk); (try clear hi); (try clear ho0)) | ((with_reducible refine gate_callee (f := 57) rfl ?_); refine goesA (some 474) Try.func57 #[.int .i64 t1014, .slice Ao187 t1015.length co187] ?_; (with_reducible refine (spec_ComplementSet.calls kj107 t1014 _ _ t1015 t1022 false _ ?side1 ?side2 A147.out).mono ?_); (case side1 => exact atRC HO1017); (case side2 => exact (Kd.R_reads' HO1017.out).2.1); rintro e w189 ⟨v1024, rfl, ho0, hb⟩; refine ⟨_, rfl, ?_⟩; have HO1025 := lowR ho0 HB; replace HO997 := upR HO997 hb; replace HO1001 := upR HO1001 hb; replace HO1005 := upR HO1005 hb; replace HO1009 := upR HO1009 hb; replace HO1013 := upR HO1013 hb; replace HO1017 := upR HO1017 hb; replace HO1021 := upR HO1021 hb; replace HB := upB HB hb; (try clear hb); (try clear hb2); (try clear hk); (try clear hi); (try clear ho0); obtain ⟨Ao190, co190, eo190⟩ := Kd.R_slice HO1001.out; subst eo190; obtain ⟨Ao191, co191, eo191⟩ := Kd.R_slice HO1005.out; subst eo191) | (go_at_call 44; (with_reducible refine (laws_zSame.calls kj107 _ _ t998 _ _ t1002 true _ ?side1 ?side2 ?side3 ?side4 A149.out).mono ?_); (case side1 => exact atRC HO1001); (case side2 => exact (Kd.R_reads' HO1001.out).2.1); (case side3 => exact atRC HO1005); (case side4 => exact (Kd.R_reads' HO1005.out).2.1); rintro e w' ⟨rfl, ⟨nd, rfl⟩⟩; obtain ⟨Ao192, co192, eo192⟩ := Kd.R_slice HO1009.out; subst eo192; obtain ⟨Ao193, co193, eo193⟩ := Kd.R_slice HO1013.out; subst eo193) | (go_at_call 44; (with_reducible refine (laws_zSame.calls kj107 _ _ t1006 _ _ t1010 true _ ?side1 ?side2 ?side3 ?side4 A152.out).mono ?_); (case side1 => exact atRC HO1009); (case side2 => exact (Kd.R_reads' HO1009.out).2.1); (case side3 => exact atRC HO1013); (case side4 => exact (Kd.R_reads' HO1013.out).2.1); rintro e w' ⟨rfl, ⟨nd, rfl⟩⟩; obtain ⟨Ao194, co194, eo194⟩ := Kd.R_slice HO1021.out; subst eo194; obtain ⟨Ao195, co195, eo195⟩ := Kd.R_slice HO1025.out; subst eo195) | (go_at_call 44; (with_reducible refine (laws_zSame.calls kj107 _ _ t1018 _ _ t1022 true _ ?side1 ?side2 ?side3 ?side4 A155.out).mono ?_); (case side1 => exact atRC HO1021); (case side2 => exact (Kd.R_reads' HO1021.out).2.1); (case side3 => exact atRC HO1025); (case side4 => exact (Kd.R_reads' HO1025.out).2.1); rintro e w' ⟨rfl, ⟨nd, rfl⟩⟩))
           go_ret
           exact ⟨eqr, atB HB⟩
        ·replace c156 := Bool.eq_false_iff.mpr c156
         subst c156
         rw [if_neg (show ¬ (false = true) by decide)] at H
         exact absurd ((Option.some.inj H).trans HT.out) (by decide)
      ·replace c153 := Bool.eq_false_iff.mpr c153
       subst c153
       rw [if_neg (show ¬ (false = true) by decide)] at H
       exact absurd ((Option.some.inj H).trans HT.out) (by decide)
    ·replace c150 := Bool.eq_false_iff.mpr c150
     subst c150
     rw [if_neg (show ¬ (false = true) by decide)] at H
     exact absurd ((Option.some.inj H).trans HT.out) (by decide)
  
end Go.Proofs.Ytofjndbpndpjjaa.Fn
