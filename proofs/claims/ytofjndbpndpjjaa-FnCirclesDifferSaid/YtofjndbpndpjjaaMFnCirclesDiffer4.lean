/- The machine's side and plain lemmas for FnCirclesDiffer: texts of this session, merged by its program (part 4). -/
import Derived.Test.YtofjndbpndpjjaaMFnCirclesDiffer0
import Derived.Test.YtofjndbpndpjjaaMFnCirclesDiffer1
import Derived.Test.YtofjndbpndpjjaaMFnCirclesDiffer2
import Derived.Test.YtofjndbpndpjjaaMFnCirclesDiffer3
namespace Go.Proofs.Ytofjndbpndpjjaa.Fn
open Go.RowKit Go.Proofs.YtofjndbpndpjjaaW.PrintWords Go.Proofs.YtofjndbpndpjjaaW.PrintLast Go.Proofs.YtofjndbpndpjjaaW.PrintMore
attribute [local go_sem] max2_int min2_int max_two min_two max_three min_three max_four min_four   -- for this text's walks alone
set_option linter.unusedVariables false
set_option linter.unusedSimpArgs false


set_option maxHeartbeats 80000000 in
set_option maxRecDepth 100000 in
theorem laws_FnCirclesDiffer.rest2 (k : Nat) (A0 : Option Go.Addr) (c0 : Nat) (l0 : List Int) (A1 : Option Go.Addr) (c1 : Nat) (l1 : List Int) (r : Bool) (w : Go.World) (HR1 : Go.Proofs.YtofjndbpndpjjaaW.PrintWords.Aside0 ((Go.Proofs.YtofjndbpndpjjaaW.PrintWords.Kd.int Go.IntKind.u8).C w A1 l1.length l1)) (HC1 : Go.Proofs.YtofjndbpndpjjaaW.PrintWords.Aside0 (l1.length ≤ c1)) (HT : Go.Proofs.YtofjndbpndpjjaaW.PrintWords.Aside0 (r = Bool.true)) (t926 : Int) (t927 : List Int) (t930 : Int) (t931 : Bool) (t932 : Int) (t933 : Bool) (t934 : Bool) (t935 : Bool) (t936 : Bool) (t937 : Bool) (t938 : List Int) (t939 : Bool) (t945 : Bool) (t946 : List Int) (t947 : Bool) (t951 : Bool) (t954 : Bool) (t955 : Bool) (t956 : Bool) (t957 : Bool) (Ao18 : Option Go.Addr) (co18 : Nat) (v940 : Go.Value) (v943 : Go.Value) (v948 : Go.Value) (v952 : Go.Value) (z1_ : Go.World) (HO_6 : Go.Proofs.YtofjndbpndpjjaaW.PrintWords.Aside0 ((Go.Proofs.YtofjndbpndpjjaaW.PrintWords.Kd.int Go.IntKind.i64).R (3 : Nat) z1_ w.heap.size (fun x => True) (Go.Value.slice Ao18 t927.length co18) t927)) (HB : Go.Proofs.YtofjndbpndpjjaaW.PrintWords.Aside0 (Go.RowKit.Below w.heap.size w z1_)) (kj15 : Nat) (HJ15 : Go.Proofs.YtofjndbpndpjjaaW.PrintWords.Aside0 (kj15 + (1 : Nat) ≤ k)) (HC62 : Go.Proofs.YtofjndbpndpjjaaW.PrintWords.Aside0 ((if t935 = Bool.true then Go.Proofs.Ytofjndbpndpjjaa.Fn.laws_FnCirclesDiffer.l0 kj15 l1 t926 t927 t930 t931 t938 t946 t954 (↑t927.length : Int) (0 : Int) t938 (↑t938.length : Int) (0 : Int) else Go.Proofs.Ytofjndbpndpjjaa.Fn.laws_FnCirclesDiffer.j5 kj15 l1 t926 t927 t930 t931) = Option.some r)) (z456_ : Go.Act → Go.World → Prop) {Cz457_ : Code} (ez457_ : codeAt [1, 1, 1, 1, 1, 1, 1, 1, 1, 1, 1, 1, 1, 1, 1] (bodyAt Try.f4) = Cz457_) (z457_ : ∀ (a_ : Act) (w_ : World), Code.wp Try.prog Cz457_ (Go.bodyPost Go.Proofs.Try.prog Go.Proofs.Try.f4 fun e w' => e = Go.Ending.returned (Go.Value.bool r) ∧ Go.RowKit.Below w.heap.size w w') a_ w_ → z456_ a_ w_) (wc : Go.World) (u4 : Go.Value) (u27 : Go.Value) (u28 : Go.Value) (u29 : Go.Value) (u30 : Go.Value) (u32 : Go.Value) (u34 : Go.Value) (u35 : Go.Value) (u36 : Go.Value) (u37 : Go.Value) (u38 : Go.Value) (u68 : Go.Value) (u69 : Go.Value) (u70 : Go.Value) (u71 : Go.Value) (u72 : Go.Value) (u73 : Go.Value) (u74 : Go.Value) (u75 : Go.Value) (u76 : Go.Value) (u77 : Go.Value) (u78 : Go.Value) (u79 : Go.Value) (u80 : Go.Value) (u81 : Go.Value) (u82 : Go.Value) (u83 : Go.Value) (u84 : Go.Value) (u85 : Go.Value) (u86 : Go.Value) (u87 : Go.Value) (u88 : Go.Value) (u89 : Go.Value) (u90 : Go.Value) (u91 : Go.Value) (u92 : Go.Value) (u93 : Go.Value) (u94 : Go.Value) (u95 : Go.Value) (u96 : Go.Value) (u97 : Go.Value) (u98 : Go.Value) (u99 : Go.Value) (u100 : Go.Value) (u101 : Go.Value) (u102 : Go.Value) (u103 : Go.Value) (u104 : Go.Value) (u105 : Go.Value) (u106 : Go.Value) (u107 : Go.Value) (u108 : Go.Value) (u109 : Go.Value) (u110 : Go.Value) (u111 : Go.Value) (u112 : Go.Value) (u113 : Go.Value) (u114 : Go.Value) (u115 : Go.Value) (u116 : Go.Value) (u117 : Go.Value) (u118 : Go.Value) (u119 : Go.Value) (u120 : Go.Value) (u121 : Go.Value) (u122 : Go.Value) (u123 : Go.Value) (u124 : Go.Value) (u125 : Go.Value) (u126 : Go.Value) (u127 : Go.Value) (u128 : Go.Value) (u129 : Go.Value) (u130 : Go.Value) (u131 : Go.Value) (u132 : Go.Value) (u133 : Go.Value) (u134 : Go.Value) (u135 : Go.Value) (u136 : Go.Value) (u137 : Go.Value) (u138 : Go.Value) (u139 : Go.Value) (u140 : Go.Value) (u141 : Go.Value) (u142 : Go.Value) (u143 : Go.Value) (u144 : Go.Value) (u145 : Go.Value) (u146 : Go.Value) (u147 : Go.Value) (u148 : Go.Value) (u149 : Go.Value) (u150 : Go.Value) (u151 : Go.Value) (u152 : Go.Value) (u153 : Go.Value) (u154 : Go.Value) (u155 : Go.Value) (u156 : Go.Value) (u157 : Go.Value) (u158 : Go.Value) (u159 : Go.Value) (u160 : Go.Value) (u161 : Go.Value) (u162 : Go.Value) (u163 : Go.Value) (u164 : Go.Value) (u165 : Go.Value) (u166 : Go.Value) (u167 : Go.Value) (u168 : Go.Value) (u169 : Go.Value) (u170 : Go.Value) (u171 : Go.Value) (u172 : Go.Value) (u173 : Go.Value) (u174 : Go.Value) (u175 : Go.Value) (u176 : Go.Value) (u177 : Go.Value) (u178 : Go.Value) (u179 : Go.Value) (u180 : Go.Value) (u181 : Go.Value) (u182 : Go.Value) (u183 : Go.Value) (u184 : Go.Value) (u185 : Go.Value) (u186 : Go.Value) (u187 : Go.Value) (u188 : Go.Value) (u189 : Go.Value) (u190 : Go.Value) (u191 : Go.Value) (u192 : Go.Value) (u193 : Go.Value) (u194 : Go.Value) (u195 : Go.Value) (u196 : Go.Value) (u197 : Go.Value) (u198 : Go.Value) (u199 : Go.Value) (u200 : Go.Value) (u201 : Go.Value) (u202 : Go.Value) (u203 : Go.Value) (u204 : Go.Value) (u205 : Go.Value) (u206 : Go.Value) (u207 : Go.Value) (u208 : Go.Value) (u209 : Go.Value) (u210 : Go.Value) (u211 : Go.Value) (u212 : Go.Value) (u213 : Go.Value) (u214 : Go.Value) (u215 : Go.Value) (u216 : Go.Value) (u217 : Go.Value) (u218 : Go.Value) (u219 : Go.Value) (u220 : Go.Value) (u221 : Go.Value) (u222 : Go.Value) (u223 : Go.Value) (u224 : Go.Value) (u225 : Go.Value) (u226 : Go.Value) (u227 : Go.Value) (u228 : Go.Value) (u229 : Go.Value) (u230 : Go.Value) (u231 : Go.Value) (u232 : Go.Value) (u233 : Go.Value) (u234 : Go.Value) (u235 : Go.Value) (u236 : Go.Value) (u237 : Go.Value) (u238 : Go.Value) (u239 : Go.Value) (u240 : Go.Value) (u241 : Go.Value) (u242 : Go.Value) (u243 : Go.Value) (u244 : Go.Value) (u245 : Go.Value) (u246 : Go.Value) (u247 : Go.Value) (u248 : Go.Value) (u249 : Go.Value) (u250 : Go.Value) (u251 : Go.Value) (u252 : Go.Value) (u253 : Go.Value) (u254 : Go.Value) (u255 : Go.Value) (u256 : Go.Value) (u257 : Go.Value) (u258 : Go.Value) (u259 : Go.Value) (u260 : Go.Value) (u261 : Go.Value) (u262 : Go.Value) (u263 : Go.Value) (u264 : Go.Value) (u265 : Go.Value) (u266 : Go.Value) (u267 : Go.Value) (u268 : Go.Value) (u269 : Go.Value) (u270 : Go.Value) (u271 : Go.Value) (u272 : Go.Value) (u273 : Go.Value) (u274 : Go.Value) (u275 : Go.Value) (u276 : Go.Value) (u277 : Go.Value) (u278 : Go.Value) (u279 : Go.Value) (u280 : Go.Value) (u281 : Go.Value) (u282 : Go.Value) (u283 : Go.Value) (u284 : Go.Value) (u285 : Go.Value) (u286 : Go.Value) (u287 : Go.Value) (u288 : Go.Value) (u289 : Go.Value) (u290 : Go.Value) (u291 : Go.Value) (u292 : Go.Value) (u293 : Go.Value) (u294 : Go.Value) (u295 : Go.Value) (u296 : Go.Value) (u297 : Go.Value) (u298 : Go.Value) (u299 : Go.Value) (u300 : Go.Value) (u301 : Go.Value) (u302 : Go.Value) (u303 : Go.Value) (u304 : Go.Value) (u305 : Go.Value) (u306 : Go.Value) (u307 : Go.Value) (u308 : Go.Value) (u309 : Go.Value) (u310 : Go.Value) (u311 : Go.Value) (u312 : Go.Value) (u313 : Go.Value) (u314 : Go.Value) (u315 : Go.Value) (u316 : Go.Value) (u317 : Go.Value) (u318 : Go.Value) (u319 : Go.Value) (u320 : Go.Value) (u321 : Go.Value) (u322 : Go.Value) (u323 : Go.Value) (u324 : Go.Value) (u325 : Go.Value) (u326 : Go.Value) (u327 : Go.Value) (u328 : Go.Value) (u329 : Go.Value) (u330 : Go.Value) (u331 : Go.Value) (u332 : Go.Value) (u333 : Go.Value) (u334 : Go.Value) (u335 : Go.Value) (u336 : Go.Value) (u337 : Go.Value) (u338 : Go.Value) (u339 : Go.Value) (u340 : Go.Value) (u341 : Go.Value) (u342 : Go.Value) (u343 : Go.Value) (u344 : Go.Value) (u345 : Go.Value) (u346 : Go.Value) (u347 : Go.Value) (u348 : Go.Value) (u349 : Go.Value) (u350 : Go.Value) (u351 : Go.Value) (u352 : Go.Value) (u353 : Go.Value) (u354 : Go.Value) (u355 : Go.Value) (u356 : Go.Value) (u357 : Go.Value) (u358 : Go.Value) (u359 : Go.Value) (u360 : Go.Value) (u361 : Go.Value) (u362 : Go.Value) (u363 : Go.Value) (u364 : Go.Value) (u365 : Go.Value) (u366 : Go.Value) (u367 : Go.Value) (u368 : Go.Value) (u369 : Go.Value) (u370 : Go.Value) (u371 : Go.Value) (u372 : Go.Value) (u373 : Go.Value) (u374 : Go.Value) (u375 : Go.Value) (u376 : Go.Value) (u377 : Go.Value) (u378 : Go.Value) (u379 : Go.Value) (u380 : Go.Value) (u381 : Go.Value) (u382 : Go.Value) (u383 : Go.Value) (u384 : Go.Value) (u385 : Go.Value) (u386 : Go.Value) (u387 : Go.Value) (u388 : Go.Value) (u389 : Go.Value) (u390 : Go.Value) (u391 : Go.Value) (u392 : Go.Value) (u393 : Go.Value) (u394 : Go.Value) (u395 : Go.Value) (u396 : Go.Value) (u397 : Go.Value) (u398 : Go.Value) (u399 : Go.Value) (u400 : Go.Value) (u401 : Go.Value) (u402 : Go.Value) (u403 : Go.Value) (u404 : Go.Value) (u405 : Go.Value) (u406 : Go.Value) (u407 : Go.Value) (u408 : Go.Value) (u409 : Go.Value) (u410 : Go.Value) (u411 : Go.Value) (u412 : Go.Value) (u413 : Go.Value) (u414 : Go.Value) (u415 : Go.Value) (u416 : Go.Value) (u417 : Go.Value) (u418 : Go.Value) (u419 : Go.Value) (u420 : Go.Value) (u421 : Go.Value) (u422 : Go.Value) (u423 : Go.Value) (u424 : Go.Value) (u425 : Go.Value) (u426 : Go.Value) (u427 : Go.Value) (u428 : Go.Value) (u429 : Go.Value) (u430 : Go.Value) (u431 : Go.Value) (u432 : Go.Value) (u433 : Go.Value) (u434 : Go.Value) (u435 : Go.Value) (u436 : Go.Value) (u437 : Go.Value) (u438 : Go.Value) (u439 : Go.Value) (u440 : Go.Value) (u441 : Go.Value) (u442 : Go.Value) (u443 : Go.Value) (u444 : Go.Value) (u445 : Go.Value) (u446 : Go.Value) (u447 : Go.Value) (u448 : Go.Value) (u449 : Go.Value) (u450 : Go.Value) (u451 : Go.Value) (u452 : Go.Value) (u453 : Go.Value) (u454 : Go.Value) (u455 : Go.Value) (u456 : Go.Value) (u457 : Go.Value) (u458 : Go.Value) (u459 : Go.Value) (u460 : Go.Value) (u461 : Go.Value) (u462 : Go.Value) (u463 : Go.Value) (u464 : Go.Value) (u465 : Go.Value) (u466 : Go.Value) (u467 : Go.Value) (u468 : Go.Value) (u469 : Go.Value) (u470 : Go.Value) (u471 : Go.Value) (u472 : Go.Value) (u473 : Go.Value) (u474 : Go.Value) (u475 : Go.Value) (u476 : Go.Value) (u477 : Go.Value) (u478 : Go.Value) (u479 : Go.Value) (u480 : Go.Value) (u481 : Go.Value) (u482 : Go.Value) (u483 : Go.Value) (u484 : Go.Value) (u485 : Go.Value) (u486 : Go.Value) (u487 : Go.Value) (u488 : Go.Value) (u489 : Go.Value) (u490 : Go.Value) (u491 : Go.Value) (u492 : Go.Value) (u493 : Go.Value) (u494 : Go.Value) (u495 : Go.Value) (u496 : Go.Value) (u497 : Go.Value) (u498 : Go.Value) (u499 : Go.Value) (u500 : Go.Value) (u501 : Go.Value) (u502 : Go.Value) (u503 : Go.Value) (u504 : Go.Value) (u505 : Go.Value) (u506 : Go.Value) (u507 : Go.Value) (u508 : Go.Value) (u509 : Go.Value) (u510 : Go.Value) (u511 : Go.Value) (u512 : Go.Value) (u513 : Go.Value) (u514 : Go.Value) (u515 : Go.Value) (u516 : Go.Value) (u517 : Go.Value) (u518 : Go.Value) (u519 : Go.Value) (u520 : Go.Value) (u521 : Go.Value) (u522 : Go.Value) (u523 : Go.Value) (u524 : Go.Value) (u525 : Go.Value) (u526 : Go.Value) (u527 : Go.Value) (u528 : Go.Value) (u529 : Go.Value) (hcut : ∃ kq, Go.Proofs.YtofjndbpndpjjaaW.PrintWords.Aside0 (Go.Proofs.Ytofjndbpndpjjaa.Fn.laws_FnCirclesDiffer.j5 kq l1 t926 t927 t930 t931 = Option.some r) ∧ Go.Proofs.YtofjndbpndpjjaaW.PrintWords.Aside0 (kq ≤ kj15) ∧ Go.Proofs.YtofjndbpndpjjaaW.PrintWords.Aside0 ((Go.Proofs.YtofjndbpndpjjaaW.PrintWords.Kd.int Go.IntKind.i64).R (3 : Nat) wc w.heap.size (fun x => True) (Go.Value.slice Ao18 t927.length co18) t927) ∧ Go.Proofs.YtofjndbpndpjjaaW.PrintWords.Aside0 (Go.RowKit.Below w.heap.size w wc)) : z456_ { tmps := #[Go.Value.slice A0 l0.length c0, Go.Value.slice A1 l1.length c1, Go.undef, Go.undef, u4, Go.Value.int Go.IntKind.i64 t926, Go.Value.slice Ao18 t927.length co18, Go.Value.int Go.IntKind.i64 t930, Go.Value.bool t931, Go.Value.int Go.IntKind.i64 t932, Go.Value.bool t933, Go.Value.bool t934, Go.Value.bool t935, Go.Value.bool t936, Go.Value.bool t937, v940, Go.Value.bool t939, v943, Go.Value.bool t945, v948, Go.Value.bool t947, v952, Go.Value.bool t951, Go.Value.bool t954, Go.Value.bool t955, Go.Value.bool t956, Go.Value.bool t957, u27, u28, u29, u30, Go.undef, u32, Go.undef, u34, u35, u36, u37, u38, Go.undef, Go.undef, Go.undef, Go.undef, Go.undef, Go.undef, Go.undef, Go.undef, Go.undef, Go.undef, Go.undef, Go.undef, Go.undef, Go.undef, Go.undef, Go.undef, Go.undef, Go.undef, Go.undef, Go.undef, Go.undef, Go.undef, Go.undef, Go.undef, Go.undef, Go.undef, Go.undef, Go.undef, Go.undef, u68, u69, u70, u71, u72, u73, u74, u75, u76, u77, u78, u79, u80, u81, u82, u83, u84, u85, u86, u87, u88, u89, u90, u91, u92, u93, u94, u95, u96, u97, u98, u99, u100, u101, u102, u103, u104, u105, u106, u107, u108, u109, u110, u111, u112, u113, u114, u115, u116, u117, u118, u119, u120, u121, u122, u123, u124, u125, u126, u127, u128, u129, u130, u131, u132, u133, u134, u135, u136, u137, u138, u139, u140, u141, u142, u143, u144, u145, u146, u147, u148, u149, u150, u151, u152, u153, u154, u155, u156, u157, u158, u159, u160, u161, u162, u163, u164, u165, u166, u167, u168, u169, u170, u171, u172, u173, u174, u175, u176, u177, u178, u179, u180, u181, u182, u183, u184, u185, u186, u187, u188, u189, u190, u191, u192, u193, u194, u195, u196, u197, u198, u199, u200, u201, u202, u203, u204, u205, u206, u207, u208, u209, u210, u211, u212, u213, u214, u215, u216, u217, u218, u219, u220, u221, u222, u223, u224, u225, u226, u227, u228, u229, u230, u231, u232, u233, u234, u235, u236, u237, u238, u239, u240, u241, u242, u243, u244, u245, u246, u247, u248, u249, u250, u251, u252, u253, u254, u255, u256, u257, u258, u259, u260, u261, u262, u263, u264, u265, u266, u267, u268, u269, u270, u271, u272, u273, u274, u275, u276, u277, u278, u279, u280, u281, u282, u283, u284, u285, u286, u287, u288, u289, u290, u291, u292, u293, u294, u295, u296, u297, u298, u299, u300, u301, u302, u303, u304, u305, u306, u307, u308, u309, u310, u311, u312, u313, u314, u315, u316, u317, u318, u319, u320, u321, u322, u323, u324, u325, u326, u327, u328, u329, u330, u331, u332, u333, u334, u335, u336, u337, u338, u339, u340, u341, u342, u343, u344, u345, u346, u347, u348, u349, u350, u351, u352, u353, u354, u355, u356, u357, u358, u359, u360, u361, u362, u363, u364, u365, u366, u367, u368, u369, u370, u371, u372, u373, u374, u375, u376, u377, u378, u379, u380, u381, u382, u383, u384, u385, u386, u387, u388, u389, u390, u391, u392, u393, u394, u395, u396, u397, u398, u399, u400, u401, u402, u403, u404, u405, u406, u407, u408, u409, u410, u411, u412, u413, u414, u415, u416, u417, u418, u419, u420, u421, u422, u423, u424, u425, u426, u427, u428, u429, u430, u431, u432, u433, u434, u435, u436, u437, u438, u439, u440, u441, u442, u443, u444, u445, u446, u447, u448, u449, u450, u451, u452, u453, u454, u455, u456, u457, u458, u459, u460, u461, u462, u463, u464, u465, u466, u467, u468, u469, u470, u471, u472, u473, u474, u475, u476, u477, u478, u479, u480, u481, u482, u483, u484, u485, u486, u487, u488, u489, u490, u491, u492, u493, u494, u495, u496, u497, u498, u499, u500, u501, u502, u503, u504, u505, u506, u507, u508, u509, u510, u511, u512, u513, u514, u515, u516, u517, u518, u519, u520, u521, u522, u523, u524, u525, u526, u527, u528, u529], defers := [] } wc := by
  conv at ez457_ => (lhs; whnf)
  subst ez457_
  clear HC62
  try clear c1
  try clear c2
  try clear p2
  try clear c3
  try clear c4
  try clear c5
  try clear c6
  try clear p6
  try clear c7
  try clear c8
  try clear c9
  try clear p9
  try clear q9
  try clear hx9
  try clear qi9
  try clear c10
  try clear c29
  try clear c29b0
  try clear c29b1
  try clear c29b2
  try clear c30
  try clear c30b0
  try clear c30b1
  try clear c31
  try clear c31b0
  try clear c31b1
  try clear c31b2
  try clear c32
  try clear c32b0
  try clear c32b1
  try clear c32b2
  try clear c33
  try clear c33b0
  try clear c33b1
  try clear c33b2
  try clear c34
  try clear c35
  try clear c36
  try clear c36b0
  try clear c36b1
  try clear c36b2
  try clear c37
  try clear c38
  try clear c39
  try clear c39b0
  try clear c39b1
  try clear c39b2
  try clear c40
  try clear c40b0
  try clear c40b1
  try clear c40b2
  try clear c41
  try clear c42
  try clear c42b0
  try clear c42b1
  try clear c42b2
  try clear c43
  try clear c45
  try clear c45b0
  try clear c45b1
  try clear c45b2
  try clear c46
  try clear c47
  try clear c47b0
  try clear c47b1
  try clear c47b2
  try clear c48
  try clear c48b0
  try clear c48b1
  try clear c48b2
  try clear c49
  try clear c49b0
  try clear c49b1
  try clear c49b2
  try clear c54
  try clear c54b0
  try clear c54b1
  try clear c54b2
  try clear c55
  try clear c55b0
  try clear c55b1
  try clear c55b2
  try clear c56
  try clear c56b0
  try clear c56b1
  try clear c56b2
  try clear c61
  try clear c63
  try clear p64
  try clear c65
  try clear c65b0
  try clear c66
  try clear c66b0
  try clear c67
  try clear c67b0
  try clear c69
  try clear c69b0
  try clear c69b1
  try clear c70
  try clear c70b0
  try clear c70b1
  try clear c71
  try clear c71b0
  try clear c73
  try clear c73b0
  try clear c74
  try clear c74b0
  try clear c75
  try clear c75b0
  try clear c77
  try clear c77b0
  try clear c78
  try clear c78b0
  try clear c79
  try clear c80
  try clear c80b0
  try clear c81
  try clear c81b0
  try clear c81b1
  try clear c83
  try clear c83b0
  try clear c83b1
  try clear c84
  try clear c84b0
  try clear c84b1
  try clear c84b2
  try clear c85
  try clear c85b0
  try clear c85b1
  try clear c86
  try clear c86b0
  try clear c86b1
  try clear c87
  try clear c87b0
  try clear c87b1
  try clear c89
  try clear c89b0
  try clear c90
  try clear c90b0
  try clear c91
  try clear c91b0
  try clear c92
  try clear c92b0
  try clear c93
  try clear c93b0
  try clear c94
  try clear c94b0
  try clear c95
  try clear c95b0
  try clear c95b1
  try clear p96
  try clear q96
  try clear hx96
  try clear qi96
  try clear c97
  try clear c100
  try clear c101
  try clear c103
  try clear hx963_0
  try clear hx964_0
  try clear hx965_0
  try clear hx967_0
  try clear hx968_0
  try clear hx969_0
  try clear p2
  try clear p6
  try clear p64
  try clear p9
  try clear p963
  try clear p964
  try clear p965
  try clear p967
  try clear p968
  try clear p969
  try clear q9
  try clear q963
  try clear q964
  try clear q965
  try clear q967
  try clear q968
  try clear q969
  obtain ⟨kq, HA, HJ61, HO_6, HB⟩ := hcut
  cases kq with
  | zero => exact absurd HA.out (by simp [laws_FnCirclesDiffer.j5])
  | succ kj61 =>
   have H := HA.out
   clear HA
   simp only [laws_FnCirclesDiffer.j5] at H
   have HC108 := Aside0.mk H
   clear H
   go_upto_if 338 with (fail)
   go_cut [] (fun wc => ∃ (kq : Nat), Aside0 (laws_FnCirclesDiffer.j10 kq l1 = some r) ∧ Aside0 (kq ≤ kj61) ∧ Aside0 (Below w.heap.size w wc))
   case first => as_aux_lemma =>
    have H := HC108.out
    clear HC108
    by_cases c109 : t931 = true
    ·subst c109
     rw [if_pos rfl] at H
     by_cases c110 : (wrap64 (t930 * (wrap64 (t926 - 1)))) = (wrap64 ((t927.length : Int) * (wrap64 ((t927.length : Int) - 1))))
     ·rw [if_pos c110] at H
      have c110b0 : ((wrap64 (t930 * (wrap64 (t926 - 1)))) == (wrap64 ((t927.length : Int) * (wrap64 ((t927.length : Int) - 1))))) = true := beq_iff_eq.mpr c110
      have c110b1 : ((wrap64 (t930 * (wrap64 (t926 - 1)))) != (wrap64 ((t927.length : Int) * (wrap64 ((t927.length : Int) - 1))))) = false := bne_eq_false_iff_eq.mpr c110
      clear c110
      (first | rw [c110b0] | (simp only [i64_w, i32_w]; rw [c110b0]) | skip)
      replace H := Option.bind_eq_some_iff.mp H
      obtain ⟨⟨t980, t981⟩, A1110, H⟩ := H
      (try dsimp only at H)
      have A111 := Aside0.mk A1110
      clear A1110
      have HC112 := Aside0.mk H
      clear H
      go_upto_region 48 with (first | ((with_reducible refine gate_callee (f := 50) rfl ?_); refine goesA (some 353) Try.func50 #[.int .i64 t926, .slice Ao18 t927.length co18] ?_; (with_reducible refine (impl_ComplementSet.calls kj61 t926 _ _ t927 t980 t981 _ ?side1 ?side2 A111.out).mono ?_); (case side1 => exact atRC HO_6); (case side2 => exact (Kd.R_reads' HO_6.out).2.1); rintro e w113 ⟨v982, rfl, ho0, hb⟩; refine ⟨_, rfl, ?_⟩; have HO983 := lowR ho0 HB; replace HO_6 := upR HO_6 hb; replace HB := upB HB hb; (try clear hb); (try clear hb2); (try clear hk); (try clear hi); (try clear ho0)))
      (try simp only [Act.put, List.setIfInBounds_toArray, List.set_cons_zero, List.set_cons_succ])
      go_cut [361] (fun v361 wc => ∃ (kq : Nat) (x361_111 : Bool), v361 = .bool x361_111 ∧ Aside0 (laws_FnCirclesDiffer.j6 kq l1 t926 t927 t930 (t927.length : Int) t980 x361_111 = some r) ∧ Aside0 (kq ≤ kj61) ∧ Aside0 (Kd.R (Kd.int .i64) 3 wc w.heap.size (fun _ => True) (.slice Ao18 t927.length co18) t927) ∧ Aside0 (Kd.R (Kd.int .i64) 3 wc w.heap.size (fun _ => True) v982 t980) ∧ Aside0 (Below w.heap.size w wc))
      case first => as_aux_lemma =>
       have H := HC112.out
       clear HC112
       by_cases c114 : t981 = true
       ·subst c114
        rw [if_pos rfl] at H
        have H' := Aside0.mk H
        clear H
        obtain ⟨Ao115, co115, eo115⟩ := Kd.R_slice HO983.out
        subst eo115
        as_aux_lemma =>
         go_wp2
         go_meet
         case rel => exact ⟨_, (decide ((t980.length : Int) > 1)), eqd, H', ⟨by have := HJ15.out; have := HJ61.out; first | omega | exact Nat.le_refl _⟩, ⟨atR HO_6⟩, ⟨atR HO983⟩, ⟨atB HB⟩⟩
       ·replace c114 := Bool.eq_false_iff.mpr c114
        subst c114
        rw [if_neg (show ¬ (false = true) by decide)] at H
        have H' := Aside0.mk H
        clear H
        as_aux_lemma =>
         go_wp2
         go_meet
         case rel => exact ⟨_, (false), eqd, H', ⟨by have := HJ15.out; have := HJ61.out; first | omega | exact Nat.le_refl _⟩, ⟨atR HO_6⟩, ⟨atR HO983⟩, ⟨atB HB⟩⟩
      case rest => as_aux_lemma =>
       clear HC112
       try clear c1
       try clear c2
       try clear p2
       try clear c3
       try clear c4
       try clear c5
       try clear c6
       try clear p6
       try clear c7
       try clear c8
       try clear c9
       try clear p9
       try clear q9
       try clear hx9
       try clear qi9
       try clear c10
       try clear c11
       try clear c29
       try clear c29b0
       try clear c29b1
       try clear c29b2
       try clear c30
       try clear c30b0
       try clear c30b1
       try clear c31
       try clear c31b0
       try clear c31b1
       try clear c31b2
       try clear c32
       try clear c32b0
       try clear c32b1
       try clear c32b2
       try clear c33
       try clear c33b0
       try clear c33b1
       try clear c33b2
       try clear c34
       try clear c35
       try clear c36
       try clear c36b0
       try clear c36b1
       try clear c36b2
       try clear c37
       try clear c38
       try clear c39
       try clear c39b0
       try clear c39b1
       try clear c39b2
       try clear c40
       try clear c40b0
       try clear c40b1
       try clear c40b2
       try clear c41
       try clear c42
       try clear c42b0
       try clear c42b1
       try clear c42b2
       try clear c43
       try clear c45
       try clear c45b0
       try clear c45b1
       try clear c45b2
       try clear c46
       try clear c47
       try clear c47b0
       try clear c47b1
       try clear c47b2
       try clear c48
       try clear c48b0
       try clear c48b1
       try clear c48b2
       try clear c49
       try clear c49b0
       try clear c49b1
       try clear c49b2
       try clear c50
       try clear c54
       try clear c54b0
       try clear c54b1
       try clear c54b2
       try clear c55
       try clear c55b0
       try clear c55b1
       try clear c55b2
       try clear c56
       try clear c56b0
       try clear c56b1
       try clear c56b2
       try clear c61
       try clear c63
       try clear p64
       try clear c65
       try clear c65b0
       try clear c66
       try clear c66b0
       try clear c67
       try clear c67b0
       try clear c69
       try clear c69b0
       try clear c69b1
       try clear c70
       try clear c70b0
       try clear c70b1
       try clear c71
       try clear c71b0
       try clear c73
       try clear c73b0
       try clear c74
       try clear c74b0
       try clear c75
       try clear c75b0
       try clear c77
       try clear c77b0
       try clear c78
       try clear c78b0
       try clear c79
       try clear c80
       try clear c80b0
       try clear c81
       try clear c81b0
       try clear c81b1
       try clear c83
       try clear c83b0
       try clear c83b1
       try clear c84
       try clear c84b0
       try clear c84b1
       try clear c84b2
       try clear c85
       try clear c85b0
       try clear c85b1
       try clear c86
       try clear c86b0
       try clear c86b1
       try clear c87
       try clear c87b0
       try clear c87b1
       try clear c89
       try clear c89b0
       try clear c90
       try clear c90b0
       try clear c91
       try clear c91b0
       try clear c92
       try clear c92b0
       try clear c93
       try clear c93b0
       try clear c94
       try clear c94b0
       try clear c95
       try clear c95b0
       try clear c95b1
       try clear p96
       try clear q96
       try clear hx96
       try clear qi96
       try clear c97
       try clear c100
       try clear c101
       try clear c103
       try clear c109
       try clear c110
       try clear c110b0
       try clear c110b1
       try clear c114
       try clear hx963_0
       try clear hx964_0
       try clear hx965_0
       try clear hx967_0
       try clear hx968_0
       try clear hx969_0
       try clear p2
       try clear p6
       try clear p64
       try clear p9
       try clear p96
       try clear p963
       try clear p964
       try clear p965
       try clear p967
       try clear p968
       try clear p969
       try clear q9
       try clear q96
       try clear q963
       try clear q964
       try clear q965
       try clear q967
       try clear q968
       try clear q969
       obtain ⟨kq, x361_111, rfl, HA, HJ111, HO_6, HO_40, HB⟩ := hcut
       cases kq with
       | zero => exact absurd HA.out (by simp [laws_FnCirclesDiffer.j6])
       | succ kj111 =>
        have H := HA.out
        clear HA
        simp only [laws_FnCirclesDiffer.j6] at H
        have HC116 := Aside0.mk H
        clear H
        go_upto_if 361 with (fail)
        go_cut [] (fun wc => ∃ (kq : Nat), Aside0 (laws_FnCirclesDiffer.j7 kq l1 t926 t927 t930 = some r) ∧ Aside0 (kq ≤ kj111) ∧ Aside0 (Kd.R (Kd.int .i64) 3 wc w.heap.size (fun _ => True) (.slice Ao18 t927.length co18) t927) ∧ Aside0 (Below w.heap.size w wc))
        case first => as_aux_lemma =>
         have H := HC116.out
         clear HC116
         by_cases c117 : x361_111 = true
         ·subst c117
          rw [if_pos rfl] at H
          replace H := Option.bind_eq_some_iff.mp H
          obtain ⟨⟨t984, t985⟩, A1180, H⟩ := H
          (try dsimp only at H)
          have A118 := Aside0.mk A1180
          clear A1180
          by_cases c119 : (wrap64 ((wrap64 (t926 - (wrap64 (2 * (t927.length : Int))))) + t930)) > 0
          ·rw [if_pos c119] at H
           have c119b0 : decide (0 < (wrap64 ((wrap64 (t926 - (wrap64 (2 * (t927.length : Int))))) + t930))) = true := decide_eq_true c119
           clear c119
           (first | rw [c119b0] | (simp only [i64_w, i32_w]; rw [c119b0]) | skip)
           by_cases c120 : t985 = true
           ·subst c120
            rw [if_pos rfl] at H
            by_cases c121 : t984 = (wrap64 ((wrap64 (t926 - (wrap64 (2 * (t927.length : Int))))) + t930))
            ·rw [if_pos c121] at H
             have c121b0 : (t984 == (wrap64 ((wrap64 (t926 - (wrap64 (2 * (t927.length : Int))))) + t930))) = true := beq_iff_eq.mpr c121
             have c121b1 : (t984 != (wrap64 ((wrap64 (t926 - (wrap64 (2 * (t927.length : Int))))) + t930))) = false := bne_eq_false_iff_eq.mpr c121
             clear c121
             have H' := Aside0.mk H
             clear H
             obtain ⟨Ao122, co122, eo122⟩ := Kd.R_slice HO_40.out
             subst eo122
             as_aux_lemma =>
              go_wp2_with (first | ((with_reducible refine gate_callee (f := 34) rfl ?_); refine goesA (some 365) Try.func34 #[.int .i64 t926, .slice Ao122 t980.length co122] ?_; (with_reducible refine (impl_LambdaOf.calls kj111 t926 _ _ t980 t984 true _ ?side1 ?side2 A118.out).mono ?_); (case side1 => exact atRC HO_40); (case side2 => exact (Kd.R_reads' HO_40.out).2.1); rintro e w123 ⟨rfl, hb⟩; refine ⟨_, rfl, ?_⟩; replace HO_6 := upR HO_6 hb; replace HO_40 := upR HO_40 hb; replace HB := upB HB hb; (try clear hb); (try clear hb2); (try clear hk); (try clear hi)))
              go_meet
              case rel => exact ⟨_, H', ⟨by have := HJ15.out; have := HJ61.out; have := HJ111.out; first | omega | exact Nat.le_refl _⟩, ⟨atR HO_6⟩, ⟨atB HB⟩⟩
            ·rw [if_neg c121] at H
             have c121b0 : (t984 == (wrap64 ((wrap64 (t926 - (wrap64 (2 * (t927.length : Int))))) + t930))) = false := beq_eq_false_iff_ne.mpr c121
             have c121b1 : (t984 != (wrap64 ((wrap64 (t926 - (wrap64 (2 * (t927.length : Int))))) + t930))) = true := bne_iff_ne.mpr c121
             exact absurd ((Option.some.inj H).trans HT.out) (by decide)
           ·replace c120 := Bool.eq_false_iff.mpr c120
            subst c120
            rw [if_neg (show ¬ (false = true) by decide)] at H
            exact absurd ((Option.some.inj H).trans HT.out) (by decide)
          ·rw [if_neg c119] at H
           have c119b0 : decide (0 < (wrap64 ((wrap64 (t926 - (wrap64 (2 * (t927.length : Int))))) + t930))) = false := decide_eq_false c119
           clear c119
           (first | rw [c119b0] | (simp only [i64_w, i32_w]; rw [c119b0]) | skip)
           have H' := Aside0.mk H
           clear H
           obtain ⟨Ao124, co124, eo124⟩ := Kd.R_slice HO_40.out
           subst eo124
           as_aux_lemma =>
            go_wp2_with (first | ((with_reducible refine gate_callee (f := 34) rfl ?_); refine goesA (some 365) Try.func34 #[.int .i64 t926, .slice Ao124 t980.length co124] ?_; (with_reducible refine (impl_LambdaOf.calls kj111 t926 _ _ t980 t984 t985 _ ?side1 ?side2 A118.out).mono ?_); (case side1 => exact atRC HO_40); (case side2 => exact (Kd.R_reads' HO_40.out).2.1); rintro e w125 ⟨rfl, hb⟩; refine ⟨_, rfl, ?_⟩; replace HO_6 := upR HO_6 hb; replace HO_40 := upR HO_40 hb; replace HB := upB HB hb; (try clear hb); (try clear hb2); (try clear hk); (try clear hi)))
            go_meet
            case rel => exact ⟨_, H', ⟨by have := HJ15.out; have := HJ61.out; have := HJ111.out; first | omega | exact Nat.le_refl _⟩, ⟨atR HO_6⟩, ⟨atB HB⟩⟩
         ·replace c117 := Bool.eq_false_iff.mpr c117
          subst c117
          rw [if_neg (show ¬ (false = true) by decide)] at H
          have H' := Aside0.mk H
          clear H
          as_aux_lemma =>
           go_wp2
           go_meet
           case rel => exact ⟨_, H', ⟨by have := HJ15.out; have := HJ61.out; have := HJ111.out; first | omega | exact Nat.le_refl _⟩, ⟨atR HO_6⟩, ⟨atB HB⟩⟩
        case rest => as_aux_lemma =>
         clear HC116
         try clear c1
         try clear c2
         try clear p2
         try clear c3
         try clear c4
         try clear c5
         try clear c6
         try clear p6
         try clear c7
         try clear c8
         try clear c9
         try clear p9
         try clear q9
         try clear hx9
         try clear qi9
         try clear c10
         try clear c11
         try clear c12
         try clear c29
         try clear c29b0
         try clear c29b1
         try clear c29b2
         try clear c30
         try clear c30b0
         try clear c30b1
         try clear c31
         try clear c31b0
         try clear c31b1
         try clear c31b2
         try clear c32
         try clear c32b0
         try clear c32b1
         try clear c32b2
         try clear c33
         try clear c33b0
         try clear c33b1
         try clear c33b2
         try clear c34
         try clear c35
         try clear c36
         try clear c36b0
         try clear c36b1
         try clear c36b2
         try clear c37
         try clear c38
         try clear c39
         try clear c39b0
         try clear c39b1
         try clear c39b2
         try clear c40
         try clear c40b0
         try clear c40b1
         try clear c40b2
         try clear c41
         try clear c42
         try clear c42b0
         try clear c42b1
         try clear c42b2
         try clear c43
         try clear c45
         try clear c45b0
         try clear c45b1
         try clear c45b2
         try clear c46
         try clear c47
         try clear c47b0
         try clear c47b1
         try clear c47b2
         try clear c48
         try clear c48b0
         try clear c48b1
         try clear c48b2
         try clear c49
         try clear c49b0
         try clear c49b1
         try clear c49b2
         try clear c50
         try clear c54
         try clear c54b0
         try clear c54b1
         try clear c54b2
         try clear c55
         try clear c55b0
         try clear c55b1
         try clear c55b2
         try clear c56
         try clear c56b0
         try clear c56b1
         try clear c56b2
         try clear c61
         try clear c63
         try clear p64
         try clear c65
         try clear c65b0
         try clear c66
         try clear c66b0
         try clear c67
         try clear c67b0
         try clear c69
         try clear c69b0
         try clear c69b1
         try clear c70
         try clear c70b0
         try clear c70b1
         try clear c71
         try clear c71b0
         try clear c73
         try clear c73b0
         try clear c74
         try clear c74b0
         try clear c75
         try clear c75b0
         try clear c77
         try clear c77b0
         try clear c78
         try clear c78b0
         try clear c79
         try clear c80
         try clear c80b0
         try clear c81
         try clear c81b0
         try clear c81b1
         try clear c83
         try clear c83b0
         try clear c83b1
         try clear c84
         try clear c84b0
         try clear c84b1
         try clear c84b2
         try clear c85
         try clear c85b0
         try clear c85b1
         try clear c86
         try clear c86b0
         try clear c86b1
         try clear c87
         try clear c87b0
         try clear c87b1
         try clear c89
         try clear c89b0
         try clear c90
         try clear c90b0
         try clear c91
         try clear c91b0
         try clear c92
         try clear c92b0
         try clear c93
         try clear c93b0
         try clear c94
         try clear c94b0
         try clear c95
         try clear c95b0
         try clear c95b1
         try clear p96
         try clear q96
         try clear hx96
         try clear qi96
         try clear c97
         try clear c100
         try clear c101
         try clear c103
         try clear c109
         try clear c110
         try clear c110b0
         try clear c110b1
         try clear c114
         try clear c117
         try clear c119
         try clear c119b0
         try clear c120
         try clear c121
         try clear c121b0
         try clear c121b1
         try clear hx963_0
         try clear hx964_0
         try clear hx965_0
         try clear hx967_0
         try clear hx968_0
         try clear hx969_0
         try clear p2
         try clear p6
         try clear p64
         try clear p9
         try clear p96
         try clear p963
         try clear p964
         try clear p965
         try clear p967
         try clear p968
         try clear p969
         try clear q9
         try clear q96
         try clear q963
         try clear q964
         try clear q965
         try clear q967
         try clear q968
         try clear q969
         obtain ⟨kq, HA, HJ115, HO_6, HB⟩ := hcut
         cases kq with
         | zero => exact absurd HA.out (by simp [laws_FnCirclesDiffer.j7])
         | succ kj115 =>
          have H := HA.out
          clear HA
          simp only [laws_FnCirclesDiffer.j7] at H
          have H' := Aside0.mk H
          clear H
          as_aux_lemma =>
           go_wp2
           go_loopg [44] kj115 (fun kq v44 w' => ∃ (x44_5 : Int), v44 = .int .i64 x44_5 ∧ Aside0 (laws_FnCirclesDiffer.l3 kq l1 t926 t927 t930 x44_5 = some r) ∧ Aside0 (kq ≤ kj115) ∧ Aside0 (Kd.R (Kd.int .i64) 3 w' w.heap.size (fun _ => True) (.slice Ao18 t927.length co18) t927) ∧ Aside0 (Below w.heap.size w w'))
           case atStart => exact ⟨(1), eqd, H', ⟨Nat.le_refl _⟩, ⟨atR HO_6⟩, ⟨atB HB⟩⟩
           case round => as_aux_lemma =>
            clear H'
            try clear c1
            try clear c2
            try clear p2
            try clear c3
            try clear c4
            try clear c5
            try clear c6
            try clear p6
            try clear c7
            try clear c8
            try clear c9
            try clear p9
            try clear q9
            try clear hx9
            try clear qi9
            try clear c10
            try clear c11
            try clear c12
            try clear c29
            try clear c29b0
            try clear c29b1
            try clear c29b2
            try clear c30
            try clear c30b0
            try clear c30b1
            try clear c31
            try clear c31b0
            try clear c31b1
            try clear c31b2
            try clear c32
            try clear c32b0
            try clear c32b1
            try clear c32b2
            try clear c33
            try clear c33b0
            try clear c33b1
            try clear c33b2
            try clear c34
            try clear c35
            try clear c36
            try clear c36b0
            try clear c36b1
            try clear c36b2
            try clear c37
            try clear c38
            try clear c39
            try clear c39b0
            try clear c39b1
            try clear c39b2
            try clear c40
            try clear c40b0
            try clear c40b1
            try clear c40b2
            try clear c41
            try clear c42
            try clear c42b0
            try clear c42b1
            try clear c42b2
            try clear c43
            try clear c45
            try clear c45b0
            try clear c45b1
            try clear c45b2
            try clear c46
            try clear c47
            try clear c47b0
            try clear c47b1
            try clear c47b2
            try clear c48
            try clear c48b0
            try clear c48b1
            try clear c48b2
            try clear c49
            try clear c49b0
            try clear c49b1
            try clear c49b2
            try clear c50
            try clear c54
            try clear c54b0
            try clear c54b1
            try clear c54b2
            try clear c55
            try clear c55b0
            try clear c55b1
            try clear c55b2
            try clear c56
            try clear c56b0
            try clear c56b1
            try clear c56b2
            try clear c61
            try clear c63
            try clear p64
            try clear c65
            try clear c65b0
            try clear c66
            try clear c66b0
            try clear c67
            try clear c67b0
            try clear c69
            try clear c69b0
            try clear c69b1
            try clear c70
            try clear c70b0
            try clear c70b1
            try clear c71
            try clear c71b0
            try clear c73
            try clear c73b0
            try clear c74
            try clear c74b0
            try clear c75
            try clear c75b0
            try clear c77
            try clear c77b0
            try clear c78
            try clear c78b0
            try clear c79
            try clear c80
            try clear c80b0
            try clear c81
            try clear c81b0
            try clear c81b1
            try clear c83
            try clear c83b0
            try clear c83b1
            try clear c84
            try clear c84b0
            try clear c84b1
            try clear c84b2
            try clear c85
            try clear c85b0
            try clear c85b1
            try clear c86
            try clear c86b0
            try clear c86b1
            try clear c87
            try clear c87b0
            try clear c87b1
            try clear c89
            try clear c89b0
            try clear c90
            try clear c90b0
            try clear c91
            try clear c91b0
            try clear c92
            try clear c92b0
            try clear c93
            try clear c93b0
            try clear c94
            try clear c94b0
            try clear c95
            try clear c95b0
            try clear c95b1
            try clear p96
            try clear q96
            try clear hx96
            try clear qi96
            try clear c97
            try clear c100
            try clear c101
            try clear c103
            try clear c109
            try clear c110
            try clear c110b0
            try clear c110b1
            try clear c114
            try clear c117
            try clear c119
            try clear c119b0
            try clear c120
            try clear c121
            try clear c121b0
            try clear c121b1
            try clear hx963_0
            try clear hx964_0
            try clear hx965_0
            try clear hx967_0
            try clear hx968_0
            try clear hx969_0
            try clear p2
            try clear p6
            try clear p64
            try clear p9
            try clear p96
            try clear p963
            try clear p964
            try clear p965
            try clear p967
            try clear p968
            try clear p969
            try clear q9
            try clear q96
            try clear q963
            try clear q964
            try clear q965
            try clear q967
            try clear q968
            try clear q969
            obtain ⟨x44_5, rfl, HA, HK5, HO_6, HB⟩ := hrel
            cases gk with
            | zero => exact absurd HA.out (by simp [laws_FnCirclesDiffer.l3])
            | succ k5 =>
             have H := HA.out
             clear HA
             simp only [laws_FnCirclesDiffer.l3] at H
             have HC126 := Aside0.mk H
             clear H
             go_upto_region 53 with (fail)
             go_cut [395] (fun v395 wc => ∃ (kq : Nat) (x395_125 : Bool), v395 = .bool x395_125 ∧ Aside0 (laws_FnCirclesDiffer.j9 kq l1 t926 t927 t930 x44_5 x395_125 = some r) ∧ Aside0 (kq ≤ k5) ∧ Aside0 (Kd.R (Kd.int .i64) 3 wc w.heap.size (fun _ => True) (.slice Ao18 t927.length co18) t927) ∧ Aside0 (Below w.heap.size w wc))
             case first => as_aux_lemma =>
              have H := HC126.out
              clear HC126
              by_cases c127 : x44_5 < t926
              ·rw [if_pos c127] at H
               have c127b0 : decide (x44_5 < t926) = true := decide_eq_true c127
               clear c127
               (first | rw [c127b0] | (simp only [i64_w, i32_w]; rw [c127b0]) | skip)
               have H' := Aside0.mk H
               clear H
               as_aux_lemma =>
                go_wp2
                go_meet
                case rel => exact ⟨_, (decide (x44_5 < 6)), eqd, H', ⟨by have := HJ15.out; have := HJ61.out; have := HJ111.out; have := HJ115.out; have := HK5.out; first | omega | exact Nat.le_refl _⟩, ⟨atR HO_6⟩, ⟨atB HB⟩⟩
              ·rw [if_neg c127] at H
               have c127b0 : decide (x44_5 < t926) = false := decide_eq_false c127
               clear c127
               (first | rw [c127b0] | (simp only [i64_w, i32_w]; rw [c127b0]) | skip)
               have H' := Aside0.mk H
               clear H
               as_aux_lemma =>
                go_wp2
                go_meet
                case rel => exact ⟨_, (false), eqd, H', ⟨by have := HJ15.out; have := HJ61.out; have := HJ111.out; have := HJ115.out; have := HK5.out; first | omega | exact Nat.le_refl _⟩, ⟨atR HO_6⟩, ⟨atB HB⟩⟩
             case rest => as_aux_lemma =>
              clear HC126
              try clear c1
              try clear c2
              try clear p2
              try clear c3
              try clear c4
              try clear c5
              try clear c6
              try clear p6
              try clear c7
              try clear c8
              try clear c9
              try clear p9
              try clear q9
              try clear hx9
              try clear qi9
              try clear c10
              try clear c11
              try clear c12
              try clear c29
              try clear c29b0
              try clear c29b1
              try clear c29b2
              try clear c30
              try clear c30b0
              try clear c30b1
              try clear c31
              try clear c31b0
              try clear c31b1
              try clear c31b2
              try clear c32
              try clear c32b0
              try clear c32b1
              try clear c32b2
              try clear c33
              try clear c33b0
              try clear c33b1
              try clear c33b2
              try clear c34
              try clear c35
              try clear c36
              try clear c36b0
              try clear c36b1
              try clear c36b2
              try clear c37
              try clear c38
              try clear c39
              try clear c39b0
              try clear c39b1
              try clear c39b2
              try clear c40
              try clear c40b0
              try clear c40b1
              try clear c40b2
              try clear c41
              try clear c42
              try clear c42b0
              try clear c42b1
              try clear c42b2
              try clear c43
              try clear c45
              try clear c45b0
              try clear c45b1
              try clear c45b2
              try clear c46
              try clear c47
              try clear c47b0
              try clear c47b1
              try clear c47b2
              try clear c48
              try clear c48b0
              try clear c48b1
              try clear c48b2
              try clear c49
              try clear c49b0
              try clear c49b1
              try clear c49b2
              try clear c50
              try clear c54
              try clear c54b0
              try clear c54b1
              try clear c54b2
              try clear c55
              try clear c55b0
              try clear c55b1
              try clear c55b2
              try clear c56
              try clear c56b0
              try clear c56b1
              try clear c56b2
              try clear c61
              try clear c63
              try clear p64
              try clear c65
              try clear c65b0
              try clear c66
              try clear c66b0
              try clear c67
              try clear c67b0
              try clear c69
              try clear c69b0
              try clear c69b1
              try clear c70
              try clear c70b0
              try clear c70b1
              try clear c71
              try clear c71b0
              try clear c73
              try clear c73b0
              try clear c74
              try clear c74b0
              try clear c75
              try clear c75b0
              try clear c77
              try clear c77b0
              try clear c78
              try clear c78b0
              try clear c79
              try clear c80
              try clear c80b0
              try clear c81
              try clear c81b0
              try clear c81b1
              try clear c83
              try clear c83b0
              try clear c83b1
              try clear c84
              try clear c84b0
              try clear c84b1
              try clear c84b2
              try clear c85
              try clear c85b0
              try clear c85b1
              try clear c86
              try clear c86b0
              try clear c86b1
              try clear c87
              try clear c87b0
              try clear c87b1
              try clear c89
              try clear c89b0
              try clear c90
              try clear c90b0
              try clear c91
              try clear c91b0
              try clear c92
              try clear c92b0
              try clear c93
              try clear c93b0
              try clear c94
              try clear c94b0
              try clear c95
              try clear c95b0
              try clear c95b1
              try clear p96
              try clear q96
              try clear hx96
              try clear qi96
              try clear c97
              try clear c100
              try clear c101
              try clear c103
              try clear c109
              try clear c110
              try clear c110b0
              try clear c110b1
              try clear c114
              try clear c117
              try clear c119
              try clear c119b0
              try clear c120
              try clear c121
              try clear c121b0
              try clear c121b1
              try clear c127
              try clear c127b0
              try clear hx963_0
              try clear hx964_0
              try clear hx965_0
              try clear hx967_0
              try clear hx968_0
              try clear hx969_0
              try clear p2
              try clear p6
              try clear p64
              try clear p9
              try clear p96
              try clear p963
              try clear p964
              try clear p965
              try clear p967
              try clear p968
              try clear p969
              try clear q9
              try clear q96
              try clear q963
              try clear q964
              try clear q965
              try clear q967
              try clear q968
              try clear q969
              obtain ⟨kq, x395_125, rfl, HA, HJ125, HO_6, HB⟩ := hcut
              cases kq with
              | zero => exact absurd HA.out (by simp [laws_FnCirclesDiffer.j9])
              | succ kj125 =>
               have H := HA.out
               clear HA
               simp only [laws_FnCirclesDiffer.j9] at H
               by_cases c128 : x395_125 = true
               ·subst c128
                rw [if_pos rfl] at H
                replace H := Option.bind_eq_some_iff.mp H
                obtain ⟨⟨t986, t987⟩, A1290, H⟩ := H
                (try dsimp only at H)
                have A129 := Aside0.mk A1290
                clear A1290
                replace H := Option.bind_eq_some_iff.mp H
                obtain ⟨t990, A1300, H⟩ := H
                (try dsimp only at H)
                have A130 := Aside0.mk A1300
                clear A1300
                by_cases c131 : t990 = 1
                ·rw [if_pos c131] at H
                 have c131b0 : (t990 == 1) = true := beq_iff_eq.mpr c131
                 have c131b1 : (t990 != 1) = false := bne_eq_false_iff_eq.mpr c131
                 clear c131
                 replace H := Option.bind_eq_some_iff.mp H
                 obtain ⟨⟨t991, t992⟩, A1320, H⟩ := H
                 (try dsimp only at H)
                 have A132 := Aside0.mk A1320
                 clear A1320
                 by_cases c133 : t987 = true
                 ·subst c133
                  rw [if_pos rfl] at H
                  by_cases c134 : t992 = true
                  ·subst c134
                   rw [if_pos rfl] at H
                   by_cases c135 : t991 = t930
                   ·rw [if_pos c135] at H
                    have c135b0 : (t991 == t930) = true := beq_iff_eq.mpr c135
                    have c135b1 : (t991 != t930) = false := bne_eq_false_iff_eq.mpr c135
                    clear c135
                    have H' := Aside0.mk H
                    clear H
                    as_aux_lemma =>
                     go_wp2_with (first | ((with_reducible refine gate_callee (f := 51) rfl ?_); refine goesA (some 402) Try.func51 #[.int .i64 t926, .slice Ao18 t927.length co18, .int .i64 x44_5] ?_; (with_reducible refine (impl_TimesSet.calls kj125 t926 _ _ t927 x44_5 t986 true _ ?side1 ?side2 A129.out).mono ?_); (case side1 => exact atRC HO_6); (case side2 => exact (Kd.R_reads' HO_6.out).2.1); rintro e w136 ⟨v988, rfl, ho0, hb⟩; refine ⟨_, rfl, ?_⟩; have HO989 := lowR ho0 HB; replace HO_6 := upR HO_6 hb; replace HB := upB HB hb; (try clear hb); (try clear hb2); (try clear hk); (try clear hi); (try clear ho0)) | ((with_reducible refine gate_callee (f := 52) rfl ?_); refine goesA (some 407) Try.func52 #[.int .i64 x44_5, .int .i64 t926] ?_; (with_reducible refine (laws_zCommon.calls kj125 x44_5 t926 t990 _ A130.out).mono ?_); rintro e w' ⟨rfl, ⟨nd, rfl⟩⟩; refine ⟨_, rfl, ?_⟩; (try (rw [drewN_self w136]; generalize hq_ : World.drewN w136 _ = w136; have n0_ : Aside0 (Kd.R (Kd.int .i64) 3 w136 w.heap.size (fun _ => True) v988 t986) := ⟨by rw [← hq_]; exact (atR HO989)⟩; have n1_ : Aside0 (Kd.R (Kd.int .i64) 3 w136 w.heap.size (fun _ => True) (.slice Ao18 t927.length co18) t927) := ⟨by rw [← hq_]; exact (atR HO_6)⟩; have n2_ : Aside0 (Below w.heap.size w w136) := ⟨by rw [← hq_]; exact (atB HB)⟩; clear HO989 HO_6 HB hq_; have HO989 := n0_; have HO_6 := n1_; have HB := n2_; clear n0_ n1_ n2_)); obtain ⟨Ao137, co137, eo137⟩ := Kd.R_slice HO989.out; subst eo137) | ((with_reducible refine gate_callee (f := 34) rfl ?_); refine goesA (some 412) Try.func34 #[.int .i64 t926, .slice Ao137 t986.length co137] ?_; (with_reducible refine (impl_LambdaOf.calls kj125 t926 _ _ t986 t991 true _ ?side1 ?side2 A132.out).mono ?_); (case side1 => exact atRC HO989); (case side2 => exact (Kd.R_reads' HO989.out).2.1); rintro e w138 ⟨rfl, hb⟩; refine ⟨_, rfl, ?_⟩; replace HO_6 := upR HO_6 hb; replace HO989 := upR HO989 hb; replace HB := upB HB hb; (try clear hb); (try clear hb2); (try clear hk); (try clear hi)))
                     go_roundg kj125
                     case measure => have := HJ15.out; have := HJ61.out; have := HJ111.out; have := HJ115.out; have := HK5.out; have := HJ125.out; omega
                     case rel => exact ⟨(wrap64 (x44_5 + 1)), eqd, H', ⟨by have := HJ15.out; have := HJ61.out; have := HJ111.out; have := HJ115.out; have := HK5.out; have := HJ125.out; omega⟩, ⟨atR HO_6⟩, ⟨atB HB⟩⟩
                   ·rw [if_neg c135] at H
                    have c135b0 : (t991 == t930) = false := beq_eq_false_iff_ne.mpr c135
                    have c135b1 : (t991 != t930) = true := bne_iff_ne.mpr c135
                    exact absurd ((Option.some.inj H).trans HT.out) (by decide)
                  ·replace c134 := Bool.eq_false_iff.mpr c134
                   subst c134
                   rw [if_neg (show ¬ (false = true) by decide)] at H
                   exact absurd ((Option.some.inj H).trans HT.out) (by decide)
                 ·replace c133 := Bool.eq_false_iff.mpr c133
                  subst c133
                  rw [if_neg (show ¬ (false = true) by decide)] at H
                  exact absurd ((Option.some.inj H).trans HT.out) (by decide)
                ·rw [if_neg c131] at H
                 have c131b0 : (t990 == 1) = false := beq_eq_false_iff_ne.mpr c131
                 have c131b1 : (t990 != 1) = true := bne_iff_ne.mpr c131
                 have H' := Aside0.mk H
                 clear H
                 as_aux_lemma =>
                  go_wp2_with (first | ((with_reducible refine gate_callee (f := 51) rfl ?_); refine goesA (some 402) Try.func51 #[.int .i64 t926, .slice Ao18 t927.length co18, .int .i64 x44_5] ?_; (with_reducible refine (impl_TimesSet.calls kj125 t926 _ _ t927 x44_5 t986 t987 _ ?side1 ?side2 A129.out).mono ?_); (case side1 => exact atRC HO_6); (case side2 => exact (Kd.R_reads' HO_6.out).2.1); rintro e w139 ⟨v988, rfl, ho0, hb⟩; refine ⟨_, rfl, ?_⟩; have HO989 := lowR ho0 HB; replace HO_6 := upR HO_6 hb; replace HB := upB HB hb; (try clear hb); (try clear hb2); (try clear hk); (try clear hi); (try clear ho0)) | ((with_reducible refine gate_callee (f := 52) rfl ?_); refine goesA (some 407) Try.func52 #[.int .i64 x44_5, .int .i64 t926] ?_; (with_reducible refine (laws_zCommon.calls kj125 x44_5 t926 t990 _ A130.out).mono ?_); rintro e w' ⟨rfl, ⟨nd, rfl⟩⟩; refine ⟨_, rfl, ?_⟩))
                  go_roundg kj125
                  case measure => have := HJ15.out; have := HJ61.out; have := HJ111.out; have := HJ115.out; have := HK5.out; have := HJ125.out; omega
                  case rel => exact ⟨(wrap64 (x44_5 + 1)), eqd, H', ⟨by have := HJ15.out; have := HJ61.out; have := HJ111.out; have := HJ115.out; have := HK5.out; have := HJ125.out; omega⟩, ⟨atR HO_6⟩, ⟨atB HB⟩⟩
               ·replace c128 := Bool.eq_false_iff.mpr c128
                subst c128
                rw [if_neg (show ¬ (false = true) by decide)] at H
                have H' := Aside0.mk H
                clear H
                as_aux_lemma =>
                 go_wp2
                 go_meet
                 case rel => exact ⟨_, H', ⟨by have := HJ15.out; have := HJ61.out; have := HJ111.out; have := HJ115.out; have := HK5.out; have := HJ125.out; first | omega | exact Nat.le_refl _⟩, ⟨atB HB⟩⟩
     ·rw [if_neg c110] at H
      have c110b0 : ((wrap64 (t930 * (wrap64 (t926 - 1)))) == (wrap64 ((t927.length : Int) * (wrap64 ((t927.length : Int) - 1))))) = false := beq_eq_false_iff_ne.mpr c110
      have c110b1 : ((wrap64 (t930 * (wrap64 (t926 - 1)))) != (wrap64 ((t927.length : Int) * (wrap64 ((t927.length : Int) - 1))))) = true := bne_iff_ne.mpr c110
      (first | rw [c110b0] | (simp only [i64_w, i32_w]; rw [c110b0]) | skip)
      exact absurd ((Option.some.inj H).trans HT.out) (by decide)
    ·replace c109 := Bool.eq_false_iff.mpr c109
     subst c109
     rw [if_neg (show ¬ (false = true) by decide)] at H
     have H' := Aside0.mk H
     clear H
     as_aux_lemma =>
      go_wp2
      go_meet
      case rel => exact ⟨_, H', ⟨by have := HJ15.out; have := HJ61.out; first | omega | exact Nat.le_refl _⟩, ⟨atB HB⟩⟩
   case rest =>
    rename_i z0_ z1_ z2_ z3_ z4_ z5_ z6_ z7_ z8_ z9_ z10_ z11_ z12_ z13_ z14_ z15_ z16_ z17_ z18_ z19_ z20_ z21_ z22_ z23_ z24_ z25_ z26_ z27_ z28_ z29_ z30_ z31_ z32_ z33_ z34_ z35_ z36_ z37_ z38_ z39_ z40_ z41_ z42_ z43_ z44_ z45_ z46_ z47_ z48_ z49_ z50_ z51_ z52_ z53_ z54_ z55_ z56_ z57_ z58_ z59_ z60_ z61_ z62_ z63_ z64_ z65_ z66_ z67_ z68_ z69_ z70_ z71_ z72_ z73_ z74_ z75_ z76_ z77_ z78_ z79_ z80_ z81_ z82_ z83_ z84_ z85_ z86_ z87_ z88_ z89_ z90_ z91_ z92_ z93_ z94_ z95_ z96_ z97_ z98_ z99_ z100_ z101_ z102_ z103_ z104_ z105_ z106_ z107_ z108_ z109_ z110_ z111_ z112_ z113_ z114_ z115_ z116_ z117_ z118_ z119_ z120_ z121_ z122_ z123_ z124_ z125_ z126_ z127_ z128_ z129_ z130_ z131_ z132_ z133_ z134_ z135_ z136_ z137_ z138_ z139_ z140_ z141_ z142_ z143_ z144_ z145_ z146_ z147_ z148_ z149_ z150_ z151_ z152_ z153_ z154_ z155_ z156_ z157_ z158_ z159_ z160_ z161_ z162_ z163_ z164_ z165_ z166_ z167_ z168_ z169_ z170_ z171_ z172_ z173_ z174_ z175_ z176_ z177_ z178_ z179_ z180_ z181_ z182_ z183_ z184_ z185_ z186_ z187_ z188_ z189_ z190_ z191_ z192_ z193_ z194_ z195_ z196_ z197_ z198_ z199_ z200_ z201_ z202_ z203_ z204_ z205_ z206_ z207_ z208_ z209_ z210_ z211_ z212_ z213_ z214_ z215_ z216_ z217_ z218_ z219_ z220_ z221_ z222_ z223_ z224_ z225_ z226_ z227_ z228_ z229_ z230_ z231_ z232_ z233_ z234_ z235_ z236_ z237_ z238_ z239_ z240_ z241_ z242_ z243_ z244_ z245_ z246_ z247_ z248_ z249_ z250_ z251_ z252_ z253_ z254_ z255_ z256_ z257_ z258_ z259_ z260_ z261_ z262_ z263_ z264_ z265_ z266_ z267_ z268_ z269_ z270_ z271_ z272_ z273_ z274_ z275_ z276_ z277_ z278_ z279_ z280_ z281_ z282_ z283_ z284_ z285_ z286_ z287_ z288_ z289_ z290_ z291_ z292_ z293_ z294_ z295_ z296_ z297_ z298_ z299_ z300_ z301_ z302_ z303_ z304_ z305_ z306_ z307_ z308_ z309_ z310_ z311_ z312_ z313_ z314_ z315_ z316_ z317_ z318_ z319_ z320_ z321_ z322_ z323_ z324_ z325_ z326_ z327_ z328_ z329_ z330_ z331_ z332_ z333_ z334_ z335_ z336_ z337_ z338_ z339_ z340_ z341_ z342_ z343_ z344_ z345_ z346_ z347_ z348_ z349_ z350_ z351_ z352_ z353_ z354_ z355_ z356_ z357_ z358_ z359_ z360_ z361_ z362_ z363_ z364_ z365_ z366_ z367_ z368_ z369_ z370_ z371_ z372_ z373_ z374_ z375_ z376_ z377_ z378_ z379_ z380_ z381_ z382_ z383_ z384_ z385_ z386_ z387_ z388_ z389_ z390_ z391_ z392_ z393_ z394_ z395_ z396_ z397_ z398_ z399_ z400_ z401_ z402_ z403_ z404_ z405_ z406_ z407_ z408_ z409_ z410_ z411_ z412_ z413_ z414_ z415_ z416_ z417_ z418_ z419_ z420_ z421_ z422_ z423_ z424_ z425_ z426_ z427_ z428_ z429_ z430_ z431_ z432_ z433_ z434_ z435_ z436_ z437_ z438_ z439_ z440_ z441_ z442_ z443_ z444_ z445_ z446_ z447_ z448_ z449_ z450_ z451_ z452_ z453_ z454_ z455_ z456_ z457_ z458_ z459_
    exact laws_FnCirclesDiffer.rest3 (A0 := A0) (c0 := c0) (l0 := l0) (A1 := A1) (c1 := c1) (l1 := l1) (r := r) (w := w) (HR1 := HR1) (HC1 := HC1) (HT := HT) (t926 := t926) (t927 := t927) (t930 := t930) (t931 := t931) (t932 := t932) (t933 := t933) (t934 := t934) (t935 := t935) (t936 := t936) (t937 := t937) (t939 := t939) (t945 := t945) (t947 := t947) (t951 := t951) (t954 := t954) (t955 := t955) (t956 := t956) (t957 := t957) (Ao18 := Ao18) (co18 := co18) (v940 := v940) (v943 := v943) (v948 := v948) (v952 := v952) (z2_ := z2_) (u27 := u27) (u28 := u28) (u29 := u29) (u30 := u30) (u32 := u32) (u34 := u34) (u35 := u35) (u36 := u36) (u37 := u37) (u38 := u38) (u228 := u228) (u229 := u229) (u230 := u230) (u290 := u290) (u291 := u291) (u292 := u292) (u296 := u296) (u297 := u297) (u298 := u298) (HB := HB) (kj61 := kj61) (HC108 := HC108) (z458_ := z458_) (ez459_ := by rfl) (z459_ := z459_) (wc := wc) (u4 := u4) (u39 := u39) (u40 := u40) (u41 := u41) (u42 := u42) (u43 := u43) (u44 := u44) (u45 := u45) (u46 := u46) (u47 := u47) (u48 := u48) (u68 := u68) (u69 := u69) (u70 := u70) (u71 := u71) (u72 := u72) (u73 := u73) (u74 := u74) (u75 := u75) (u76 := u76) (u77 := u77) (u78 := u78) (u79 := u79) (u80 := u80) (u81 := u81) (u82 := u82) (u83 := u83) (u84 := u84) (u85 := u85) (u86 := u86) (u87 := u87) (u88 := u88) (u89 := u89) (u90 := u90) (u91 := u91) (u92 := u92) (u93 := u93) (u94 := u94) (u95 := u95) (u96 := u96) (u97 := u97) (u98 := u98) (u99 := u99) (u100 := u100) (u101 := u101) (u102 := u102) (u103 := u103) (u104 := u104) (u105 := u105) (u106 := u106) (u107 := u107) (u108 := u108) (u109 := u109) (u110 := u110) (u111 := u111) (u112 := u112) (u113 := u113) (u114 := u114) (u115 := u115) (u116 := u116) (u117 := u117) (u118 := u118) (u119 := u119) (u120 := u120) (u121 := u121) (u122 := u122) (u123 := u123) (u124 := u124) (u125 := u125) (u126 := u126) (u127 := u127) (u128 := u128) (u129 := u129) (u130 := u130) (u131 := u131) (u132 := u132) (u133 := u133) (u134 := u134) (u135 := u135) (u136 := u136) (u137 := u137) (u138 := u138) (u139 := u139) (u140 := u140) (u141 := u141) (u142 := u142) (u143 := u143) (u144 := u144) (u145 := u145) (u146 := u146) (u147 := u147) (u148 := u148) (u149 := u149) (u150 := u150) (u151 := u151) (u152 := u152) (u153 := u153) (u154 := u154) (u155 := u155) (u156 := u156) (u157 := u157) (u158 := u158) (u159 := u159) (u160 := u160) (u161 := u161) (u162 := u162) (u163 := u163) (u164 := u164) (u165 := u165) (u166 := u166) (u167 := u167) (u168 := u168) (u169 := u169) (u170 := u170) (u171 := u171) (u172 := u172) (u173 := u173) (u174 := u174) (u175 := u175) (u176 := u176) (u177 := u177) (u178 := u178) (u179 := u179) (u180 := u180) (u181 := u181) (u182 := u182) (u183 := u183) (u184 := u184) (u185 := u185) (u186 := u186) (u187 := u187) (u188 := u188) (u189 := u189) (u190 := u190) (u191 := u191) (u192 := u192) (u193 := u193) (u194 := u194) (u195 := u195) (u196 := u196) (u197 := u197) (u198 := u198) (u199 := u199) (u200 := u200) (u201 := u201) (u202 := u202) (u203 := u203) (u204 := u204) (u205 := u205) (u206 := u206) (u207 := u207) (u208 := u208) (u209 := u209) (u210 := u210) (u211 := u211) (u212 := u212) (u213 := u213) (u214 := u214) (u215 := u215) (u216 := u216) (u217 := u217) (u218 := u218) (u219 := u219) (u220 := u220) (u221 := u221) (u222 := u222) (u223 := u223) (u224 := u224) (u225 := u225) (u226 := u226) (u227 := u227) (u231 := u231) (u232 := u232) (u233 := u233) (u234 := u234) (u235 := u235) (u236 := u236) (u237 := u237) (u238 := u238) (u239 := u239) (u240 := u240) (u241 := u241) (u242 := u242) (u243 := u243) (u244 := u244) (u245 := u245) (u246 := u246) (u247 := u247) (u248 := u248) (u249 := u249) (u250 := u250) (u251 := u251) (u252 := u252) (u253 := u253) (u254 := u254) (u255 := u255) (u256 := u256) (u257 := u257) (u258 := u258) (u259 := u259) (u260 := u260) (u261 := u261) (u262 := u262) (u263 := u263) (u264 := u264) (u265 := u265) (u266 := u266) (u267 := u267) (u268 := u268) (u269 := u269) (u270 := u270) (u271 := u271) (u272 := u272) (u273 := u273) (u274 := u274) (u275 := u275) (u276 := u276) (u277 := u277) (u278 := u278) (u279 := u279) (u280 := u280) (u281 := u281) (u282 := u282) (u283 := u283) (u284 := u284) (u285 := u285) (u286 := u286) (u287 := u287) (u288 := u288) (u289 := u289) (u293 := u293) (u294 := u294) (u295 := u295) (u299 := u299) (u300 := u300) (u301 := u301) (u302 := u302) (u303 := u303) (u304 := u304) (u305 := u305) (u306 := u306) (u307 := u307) (u308 := u308) (u309 := u309) (u310 := u310) (u311 := u311) (u312 := u312) (u313 := u313) (u314 := u314) (u315 := u315) (u316 := u316) (u317 := u317) (u318 := u318) (u319 := u319) (u320 := u320) (u321 := u321) (u322 := u322) (u323 := u323) (u324 := u324) (u325 := u325) (u326 := u326) (u327 := u327) (u328 := u328) (u329 := u329) (u330 := u330) (u331 := u331) (u332 := u332) (u333 := u333) (u334 := u334) (u335 := u335) (u336 := u336) (u337 := u337) (u338 := u338) (u339 := u339) (u340 := u340) (u341 := u341) (u342 := u342) (u343 := u343) (u344 := u344) (u345 := u345) (u346 := u346) (u347 := u347) (u348 := u348) (u349 := u349) (u350 := u350) (u351 := u351) (u352 := u352) (u353 := u353) (u354 := u354) (u355 := u355) (u356 := u356) (u357 := u357) (u358 := u358) (u359 := u359) (u360 := u360) (u361 := u361) (u362 := u362) (u363 := u363) (u364 := u364) (u365 := u365) (u366 := u366) (u367 := u367) (u368 := u368) (u369 := u369) (u370 := u370) (u371 := u371) (u372 := u372) (u373 := u373) (u374 := u374) (u375 := u375) (u376 := u376) (u377 := u377) (u378 := u378) (u379 := u379) (u380 := u380) (u381 := u381) (u382 := u382) (u383 := u383) (u384 := u384) (u385 := u385) (u386 := u386) (u387 := u387) (u388 := u388) (u389 := u389) (u390 := u390) (u391 := u391) (u392 := u392) (u393 := u393) (u394 := u394) (u395 := u395) (u396 := u396) (u397 := u397) (u398 := u398) (u399 := u399) (u400 := u400) (u401 := u401) (u402 := u402) (u403 := u403) (u404 := u404) (u405 := u405) (u406 := u406) (u407 := u407) (u408 := u408) (u409 := u409) (u410 := u410) (u411 := u411) (u412 := u412) (u413 := u413) (u414 := u414) (u415 := u415) (u416 := u416) (u417 := u417) (u418 := u418) (u419 := u419) (u420 := u420) (u421 := u421) (u422 := u422) (u423 := u423) (u424 := u424) (u425 := u425) (u426 := u426) (u427 := u427) (u428 := u428) (u429 := u429) (u430 := u430) (u431 := u431) (u432 := u432) (u433 := u433) (u434 := u434) (u435 := u435) (u436 := u436) (u437 := u437) (u438 := u438) (u439 := u439) (u440 := u440) (u441 := u441) (u442 := u442) (u443 := u443) (u444 := u444) (u445 := u445) (u446 := u446) (u447 := u447) (u448 := u448) (u449 := u449) (u450 := u450) (u451 := u451) (u452 := u452) (u453 := u453) (u454 := u454) (u455 := u455) (u456 := u456) (u457 := u457) (u458 := u458) (u459 := u459) (u460 := u460) (u461 := u461) (u462 := u462) (u463 := u463) (u464 := u464) (u465 := u465) (u466 := u466) (u467 := u467) (u468 := u468) (u469 := u469) (u470 := u470) (u471 := u471) (u472 := u472) (u473 := u473) (u474 := u474) (u475 := u475) (u476 := u476) (u477 := u477) (u478 := u478) (u479 := u479) (u480 := u480) (u481 := u481) (u482 := u482) (u483 := u483) (u484 := u484) (u485 := u485) (u486 := u486) (u487 := u487) (u488 := u488) (u489 := u489) (u490 := u490) (u491 := u491) (u492 := u492) (u493 := u493) (u494 := u494) (u495 := u495) (u496 := u496) (u497 := u497) (u498 := u498) (u499 := u499) (u500 := u500) (u501 := u501) (u502 := u502) (u503 := u503) (u504 := u504) (u505 := u505) (u506 := u506) (u507 := u507) (u508 := u508) (u509 := u509) (u510 := u510) (u511 := u511) (u512 := u512) (u513 := u513) (u514 := u514) (u515 := u515) (u516 := u516) (u517 := u517) (u518 := u518) (u519 := u519) (u520 := u520) (u521 := u521) (u522 := u522) (u523 := u523) (u524 := u524) (u525 := u525) (u526 := u526) (u527 := u527) (u528 := u528) (u529 := u529) (hcut := hcut)
end Go.Proofs.Ytofjndbpndpjjaa.Fn
