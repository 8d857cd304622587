/- The machine's side and plain lemmas for FnCirclesDiffer: texts of this session, merged by its program (part 5). -/
import Derived.Test.YtofjndbpndpjjaaMFnCirclesDiffer0
import Derived.Test.YtofjndbpndpjjaaMFnCirclesDiffer1
import Derived.Test.YtofjndbpndpjjaaMFnCirclesDiffer2
import Derived.Test.YtofjndbpndpjjaaMFnCirclesDiffer3
import Derived.Test.YtofjndbpndpjjaaMFnCirclesDiffer4
namespace Go.Proofs.Ytofjndbpndpjjaa.Fn
open Go.RowKit Go.Proofs.YtofjndbpndpjjaaW.PrintWords Go.Proofs.YtofjndbpndpjjaaW.PrintLast Go.Proofs.YtofjndbpndpjjaaW.PrintMore
attribute [local go_sem] max2_int min2_int max_two min_two max_three min_three max_four min_four   -- for this text's walks alone
set_option linter.unusedVariables false
set_option linter.unusedSimpArgs false


set_option maxHeartbeats 80000000 in
set_option maxRecDepth 100000 in
theorem laws_FnCirclesDiffer.rest1 (k : Nat) (A0 : Option Go.Addr) (c0 : Nat) (l0 : List Int) (A1 : Option Go.Addr) (c1 : Nat) (l1 : List Int) (r : Bool) (w : Go.World) (HR1 : Go.Proofs.YtofjndbpndpjjaaW.PrintWords.Aside0 ((Go.Proofs.YtofjndbpndpjjaaW.PrintWords.Kd.int Go.IntKind.u8).C w A1 l1.length l1)) (HC1 : Go.Proofs.YtofjndbpndpjjaaW.PrintWords.Aside0 (l1.length ≤ c1)) (HT : Go.Proofs.YtofjndbpndpjjaaW.PrintWords.Aside0 (r = Bool.true)) (t926 : Int) (t927 : List Int) (t930 : Int) (t931 : Bool) (t932 : Int) (t933 : Bool) (t934 : Bool) (t935 : Bool) (t936 : Bool) (t937 : Bool) (t938 : List Int) (t939 : Bool) (t942 : List Int) (t945 : Bool) (t946 : List Int) (t947 : Bool) (t950 : List Int) (t951 : Bool) (t954 : Bool) (t955 : Bool) (t956 : Bool) (t957 : Bool) (HC16 : Go.Proofs.YtofjndbpndpjjaaW.PrintWords.Aside0 ((if (t931 != t933) = Bool.true then Go.Proofs.Ytofjndbpndpjjaa.Fn.laws_FnCirclesDiffer.j0 k l1 t926 t927 t930 t931 t935 t938 t946 t954 Bool.true else if t930 = t932 then if (t935 != t937) = Bool.true then Go.Proofs.Ytofjndbpndpjjaa.Fn.laws_FnCirclesDiffer.j0 k l1 t926 t927 t930 t931 t935 t938 t946 t954 Bool.true else if (t934 != t936) = Bool.true then Go.Proofs.Ytofjndbpndpjjaa.Fn.laws_FnCirclesDiffer.j0 k l1 t926 t927 t930 t931 t935 t938 t946 t954 Bool.true else if (t939 != t945) = Bool.true then Go.Proofs.Ytofjndbpndpjjaa.Fn.laws_FnCirclesDiffer.j0 k l1 t926 t927 t930 t931 t935 t938 t946 t954 Bool.true else (Go.Proofs.Ytofjndbpndpjjaa.Fn.laws_zSame.f k t938 t942).bind fun t958 => if t958 = Bool.true then if (t947 != t951) = Bool.true then Go.Proofs.Ytofjndbpndpjjaa.Fn.laws_FnCirclesDiffer.j0 k l1 t926 t927 t930 t931 t935 t938 t946 t954 Bool.true else (Go.Proofs.Ytofjndbpndpjjaa.Fn.laws_zSame.f k t946 t950).bind fun t959 => if t959 = Bool.true then if (t955 != t957) = Bool.true then Go.Proofs.Ytofjndbpndpjjaa.Fn.laws_FnCirclesDiffer.j0 k l1 t926 t927 t930 t931 t935 t938 t946 t954 Bool.true else if (t954 != t956) = Bool.true then Go.Proofs.Ytofjndbpndpjjaa.Fn.laws_FnCirclesDiffer.j0 k l1 t926 t927 t930 t931 t935 t938 t946 t954 Bool.true else (Go.Proofs.Ytofjndbpndpjjaa.Fn.impl_IsCircleSet.f k t926 t927).bind fun t960 => if (t935 != t960) = Bool.true then Go.Proofs.Ytofjndbpndpjjaa.Fn.laws_FnCirclesDiffer.j0 k l1 t926 t927 t930 t931 t935 t938 t946 t954 Bool.true else (Go.Proofs.Ytofjndbpndpjjaa.Fn.impl_IsCircleSet.f k t926 t927).bind fun t961 => (Go.Proofs.Ytofjndbpndpjjaa.Fn.spec_IsCircleSet.f k t926 t927).bind fun t962 => if (t961 != t962) = Bool.true then Go.Proofs.Ytofjndbpndpjjaa.Fn.laws_FnCirclesDiffer.j0 k l1 t926 t927 t930 t931 t935 t938 t946 t954 Bool.true else if t935 = Bool.true then if (t931 != t934) = Bool.true then Go.Proofs.Ytofjndbpndpjjaa.Fn.laws_FnCirclesDiffer.j0 k l1 t926 t927 t930 t931 t935 t938 t946 t954 Bool.true else if (t939 != t935) = Bool.true then Go.Proofs.Ytofjndbpndpjjaa.Fn.laws_FnCirclesDiffer.j0 k l1 t926 t927 t930 t931 t935 t938 t946 t954 Bool.true else if (t947 != t935) = Bool.true then Go.Proofs.Ytofjndbpndpjjaa.Fn.laws_FnCirclesDiffer.j0 k l1 t926 t927 t930 t931 t935 t938 t946 t954 Bool.true else Go.Proofs.Ytofjndbpndpjjaa.Fn.laws_FnCirclesDiffer.j0 k l1 t926 t927 t930 t931 t935 t938 t946 t954 (t955 != t935) else if (t931 != Bool.false) = Bool.true then Go.Proofs.Ytofjndbpndpjjaa.Fn.laws_FnCirclesDiffer.j0 k l1 t926 t927 t930 t931 t935 t938 t946 t954 Bool.true else if (t939 != t935) = Bool.true then Go.Proofs.Ytofjndbpndpjjaa.Fn.laws_FnCirclesDiffer.j0 k l1 t926 t927 t930 t931 t935 t938 t946 t954 Bool.true else if (t947 != t935) = Bool.true then Go.Proofs.Ytofjndbpndpjjaa.Fn.laws_FnCirclesDiffer.j0 k l1 t926 t927 t930 t931 t935 t938 t946 t954 Bool.true else Go.Proofs.Ytofjndbpndpjjaa.Fn.laws_FnCirclesDiffer.j0 k l1 t926 t927 t930 t931 t935 t938 t946 t954 (t955 != t935) else Go.Proofs.Ytofjndbpndpjjaa.Fn.laws_FnCirclesDiffer.j0 k l1 t926 t927 t930 t931 t935 t938 t946 t954 Bool.true else Go.Proofs.Ytofjndbpndpjjaa.Fn.laws_FnCirclesDiffer.j0 k l1 t926 t927 t930 t931 t935 t938 t946 t954 Bool.true else Go.Proofs.Ytofjndbpndpjjaa.Fn.laws_FnCirclesDiffer.j0 k l1 t926 t927 t930 t931 t935 t938 t946 t954 Bool.true) = Option.some r)) (Ao18 : Option Go.Addr) (co18 : Nat) (v940 : Go.Value) (v943 : Go.Value) (v948 : Go.Value) (v952 : Go.Value) (w28 : Go.World) (HB : Go.Proofs.YtofjndbpndpjjaaW.PrintWords.Aside0 (Go.RowKit.Below w.heap.size w w28)) (z2_ : Go.Act → Go.World → Prop) {Cz3_ : Code} (ez3_ : codeAt [1, 1, 1, 1, 1, 1, 1, 1, 1, 1, 1, 1, 1, 1] (bodyAt Try.f4) = Cz3_) (z3_ : ∀ (a_ : Act) (w_ : World), Code.wp Try.prog Cz3_ (Go.bodyPost Go.Proofs.Try.prog Go.Proofs.Try.f4 fun e w' => e = Go.Ending.returned (Go.Value.bool r) ∧ Go.RowKit.Below w.heap.size w w') a_ w_ → z2_ a_ w_) (z4_ : Go.Act → Go.World → Prop) {Cz5_ : Code} (ez5_ : codeAt [1, 1, 1, 1, 1, 1, 1, 1, 1, 1, 1, 1, 1, 0, 1] (bodyAt Try.f4) = Cz5_) (z5_ : ∀ (a_ : Act) (w_ : World), Code.wp Try.prog Cz5_ (Go.Exit.then z2_ (Go.bodyPost Go.Proofs.Try.prog Go.Proofs.Try.f4 fun e w' => e = Go.Ending.returned (Go.Value.bool r) ∧ Go.RowKit.Below w.heap.size w w')) a_ w_ → z4_ a_ w_) (wc : Go.World) (u68 : Go.Value) (u69 : Go.Value) (u70 : Go.Value) (u71 : Go.Value) (u72 : Go.Value) (u73 : Go.Value) (u74 : Go.Value) (u75 : Go.Value) (u76 : Go.Value) (u77 : Go.Value) (u78 : Go.Value) (u79 : Go.Value) (u80 : Go.Value) (u81 : Go.Value) (u82 : Go.Value) (u83 : Go.Value) (u84 : Go.Value) (u85 : Go.Value) (u86 : Go.Value) (u87 : Go.Value) (u88 : Go.Value) (u89 : Go.Value) (u90 : Go.Value) (u91 : Go.Value) (u92 : Go.Value) (u93 : Go.Value) (u94 : Go.Value) (u95 : Go.Value) (u96 : Go.Value) (u97 : Go.Value) (u98 : Go.Value) (u99 : Go.Value) (u100 : Go.Value) (u101 : Go.Value) (u102 : Go.Value) (u103 : Go.Value) (u104 : Go.Value) (u105 : Go.Value) (u106 : Go.Value) (u107 : Go.Value) (u108 : Go.Value) (u109 : Go.Value) (u110 : Go.Value) (u111 : Go.Value) (u112 : Go.Value) (u113 : Go.Value) (u114 : Go.Value) (u115 : Go.Value) (u116 : Go.Value) (u117 : Go.Value) (u118 : Go.Value) (u119 : Go.Value) (u120 : Go.Value) (u121 : Go.Value) (u122 : Go.Value) (u123 : Go.Value) (u124 : Go.Value) (u125 : Go.Value) (u126 : Go.Value) (u127 : Go.Value) (u128 : Go.Value) (u129 : Go.Value) (u130 : Go.Value) (u131 : Go.Value) (u132 : Go.Value) (u133 : Go.Value) (u134 : Go.Value) (u135 : Go.Value) (u136 : Go.Value) (u137 : Go.Value) (u138 : Go.Value) (u139 : Go.Value) (u140 : Go.Value) (u141 : Go.Value) (u142 : Go.Value) (u143 : Go.Value) (u144 : Go.Value) (u145 : Go.Value) (u146 : Go.Value) (u147 : Go.Value) (u148 : Go.Value) (u149 : Go.Value) (u150 : Go.Value) (u151 : Go.Value) (u152 : Go.Value) (u153 : Go.Value) (u154 : Go.Value) (u155 : Go.Value) (u156 : Go.Value) (u157 : Go.Value) (u158 : Go.Value) (u159 : Go.Value) (u160 : Go.Value) (u161 : Go.Value) (u162 : Go.Value) (u163 : Go.Value) (u164 : Go.Value) (u165 : Go.Value) (u166 : Go.Value) (u167 : Go.Value) (u168 : Go.Value) (u169 : Go.Value) (u170 : Go.Value) (u171 : Go.Value) (u172 : Go.Value) (u173 : Go.Value) (u174 : Go.Value) (u175 : Go.Value) (u176 : Go.Value) (u177 : Go.Value) (u178 : Go.Value) (u179 : Go.Value) (u180 : Go.Value) (u181 : Go.Value) (u182 : Go.Value) (u183 : Go.Value) (u184 : Go.Value) (u185 : Go.Value) (u186 : Go.Value) (u187 : Go.Value) (u188 : Go.Value) (u189 : Go.Value) (u190 : Go.Value) (u191 : Go.Value) (u192 : Go.Value) (u193 : Go.Value) (u194 : Go.Value) (u195 : Go.Value) (u196 : Go.Value) (u197 : Go.Value) (u198 : Go.Value) (u199 : Go.Value) (u200 : Go.Value) (u201 : Go.Value) (u202 : Go.Value) (u203 : Go.Value) (u204 : Go.Value) (u205 : Go.Value) (u206 : Go.Value) (u207 : Go.Value) (u208 : Go.Value) (u209 : Go.Value) (u210 : Go.Value) (u211 : Go.Value) (u212 : Go.Value) (u213 : Go.Value) (u214 : Go.Value) (u215 : Go.Value) (u216 : Go.Value) (u217 : Go.Value) (u218 : Go.Value) (u219 : Go.Value) (u220 : Go.Value) (u221 : Go.Value) (u222 : Go.Value) (u223 : Go.Value) (u224 : Go.Value) (u225 : Go.Value) (u226 : Go.Value) (u227 : Go.Value) (u231 : Go.Value) (u232 : Go.Value) (u233 : Go.Value) (u234 : Go.Value) (u235 : Go.Value) (u236 : Go.Value) (u237 : Go.Value) (u238 : Go.Value) (u239 : Go.Value) (u240 : Go.Value) (u241 : Go.Value) (u242 : Go.Value) (u243 : Go.Value) (u244 : Go.Value) (u245 : Go.Value) (u246 : Go.Value) (u247 : Go.Value) (u248 : Go.Value) (u249 : Go.Value) (u250 : Go.Value) (u251 : Go.Value) (u252 : Go.Value) (u253 : Go.Value) (u254 : Go.Value) (u255 : Go.Value) (u256 : Go.Value) (u257 : Go.Value) (u258 : Go.Value) (u259 : Go.Value) (u260 : Go.Value) (u261 : Go.Value) (u262 : Go.Value) (u263 : Go.Value) (u264 : Go.Value) (u265 : Go.Value) (u266 : Go.Value) (u267 : Go.Value) (u268 : Go.Value) (u269 : Go.Value) (u270 : Go.Value) (u271 : Go.Value) (u272 : Go.Value) (u273 : Go.Value) (u274 : Go.Value) (u275 : Go.Value) (u276 : Go.Value) (u277 : Go.Value) (u278 : Go.Value) (u279 : Go.Value) (u280 : Go.Value) (u281 : Go.Value) (u282 : Go.Value) (u283 : Go.Value) (u284 : Go.Value) (u285 : Go.Value) (u286 : Go.Value) (u287 : Go.Value) (u288 : Go.Value) (u289 : Go.Value) (u293 : Go.Value) (u294 : Go.Value) (u295 : Go.Value) (u299 : Go.Value) (u300 : Go.Value) (u301 : Go.Value) (u302 : Go.Value) (u303 : Go.Value) (u304 : Go.Value) (u305 : Go.Value) (u306 : Go.Value) (u307 : Go.Value) (u308 : Go.Value) (u309 : Go.Value) (u310 : Go.Value) (u311 : Go.Value) (u312 : Go.Value) (u313 : Go.Value) (u314 : Go.Value) (u315 : Go.Value) (u316 : Go.Value) (u317 : Go.Value) (u318 : Go.Value) (u319 : Go.Value) (u320 : Go.Value) (u321 : Go.Value) (u322 : Go.Value) (u323 : Go.Value) (u324 : Go.Value) (u325 : Go.Value) (u326 : Go.Value) (u327 : Go.Value) (u328 : Go.Value) (u329 : Go.Value) (u330 : Go.Value) (u331 : Go.Value) (u332 : Go.Value) (u333 : Go.Value) (u334 : Go.Value) (u335 : Go.Value) (u336 : Go.Value) (u337 : Go.Value) (u338 : Go.Value) (u339 : Go.Value) (u340 : Go.Value) (u341 : Go.Value) (u342 : Go.Value) (u343 : Go.Value) (u344 : Go.Value) (u345 : Go.Value) (u346 : Go.Value) (u347 : Go.Value) (u348 : Go.Value) (u349 : Go.Value) (u350 : Go.Value) (u351 : Go.Value) (u352 : Go.Value) (u353 : Go.Value) (u354 : Go.Value) (u355 : Go.Value) (u356 : Go.Value) (u357 : Go.Value) (u358 : Go.Value) (u359 : Go.Value) (u360 : Go.Value) (u361 : Go.Value) (u362 : Go.Value) (u363 : Go.Value) (u364 : Go.Value) (u365 : Go.Value) (u366 : Go.Value) (u367 : Go.Value) (u368 : Go.Value) (u369 : Go.Value) (u370 : Go.Value) (u371 : Go.Value) (u372 : Go.Value) (u373 : Go.Value) (u374 : Go.Value) (u375 : Go.Value) (u376 : Go.Value) (u377 : Go.Value) (u378 : Go.Value) (u379 : Go.Value) (u380 : Go.Value) (u381 : Go.Value) (u382 : Go.Value) (u383 : Go.Value) (u384 : Go.Value) (u385 : Go.Value) (u386 : Go.Value) (u387 : Go.Value) (u388 : Go.Value) (u389 : Go.Value) (u390 : Go.Value) (u391 : Go.Value) (u392 : Go.Value) (u393 : Go.Value) (u394 : Go.Value) (u395 : Go.Value) (u396 : Go.Value) (u397 : Go.Value) (u398 : Go.Value) (u399 : Go.Value) (u400 : Go.Value) (u401 : Go.Value) (u402 : Go.Value) (u403 : Go.Value) (u404 : Go.Value) (u405 : Go.Value) (u406 : Go.Value) (u407 : Go.Value) (u408 : Go.Value) (u409 : Go.Value) (u410 : Go.Value) (u411 : Go.Value) (u412 : Go.Value) (u413 : Go.Value) (u414 : Go.Value) (u415 : Go.Value) (u416 : Go.Value) (u417 : Go.Value) (u418 : Go.Value) (u419 : Go.Value) (u420 : Go.Value) (u421 : Go.Value) (u422 : Go.Value) (u423 : Go.Value) (u424 : Go.Value) (u425 : Go.Value) (u426 : Go.Value) (u427 : Go.Value) (u428 : Go.Value) (u429 : Go.Value) (u430 : Go.Value) (u431 : Go.Value) (u432 : Go.Value) (u433 : Go.Value) (u434 : Go.Value) (u435 : Go.Value) (u436 : Go.Value) (u437 : Go.Value) (u438 : Go.Value) (u439 : Go.Value) (u440 : Go.Value) (u441 : Go.Value) (u442 : Go.Value) (u443 : Go.Value) (u444 : Go.Value) (u445 : Go.Value) (u446 : Go.Value) (u447 : Go.Value) (u448 : Go.Value) (u449 : Go.Value) (u450 : Go.Value) (u451 : Go.Value) (u452 : Go.Value) (u453 : Go.Value) (u454 : Go.Value) (u455 : Go.Value) (u456 : Go.Value) (u457 : Go.Value) (u458 : Go.Value) (u459 : Go.Value) (u460 : Go.Value) (u461 : Go.Value) (u462 : Go.Value) (u463 : Go.Value) (u464 : Go.Value) (u465 : Go.Value) (u466 : Go.Value) (u467 : Go.Value) (u468 : Go.Value) (u469 : Go.Value) (u470 : Go.Value) (u471 : Go.Value) (u472 : Go.Value) (u473 : Go.Value) (u474 : Go.Value) (u475 : Go.Value) (u476 : Go.Value) (u477 : Go.Value) (u478 : Go.Value) (u479 : Go.Value) (u480 : Go.Value) (u481 : Go.Value) (u482 : Go.Value) (u483 : Go.Value) (u484 : Go.Value) (u485 : Go.Value) (u486 : Go.Value) (u487 : Go.Value) (u488 : Go.Value) (u489 : Go.Value) (u490 : Go.Value) (u491 : Go.Value) (u492 : Go.Value) (u493 : Go.Value) (u494 : Go.Value) (u495 : Go.Value) (u496 : Go.Value) (u497 : Go.Value) (u498 : Go.Value) (u499 : Go.Value) (u500 : Go.Value) (u501 : Go.Value) (u502 : Go.Value) (u503 : Go.Value) (u504 : Go.Value) (u505 : Go.Value) (u506 : Go.Value) (u507 : Go.Value) (u508 : Go.Value) (u509 : Go.Value) (u510 : Go.Value) (u511 : Go.Value) (u512 : Go.Value) (u513 : Go.Value) (u514 : Go.Value) (u515 : Go.Value) (u516 : Go.Value) (u517 : Go.Value) (u518 : Go.Value) (u519 : Go.Value) (u520 : Go.Value) (u521 : Go.Value) (u522 : Go.Value) (u523 : Go.Value) (u524 : Go.Value) (u525 : Go.Value) (u526 : Go.Value) (u527 : Go.Value) (u528 : Go.Value) (u529 : Go.Value) (hcut : ∃ kq x224_15, u224 = Go.Value.bool x224_15 ∧ Go.Proofs.YtofjndbpndpjjaaW.PrintWords.Aside0 (Go.Proofs.Ytofjndbpndpjjaa.Fn.laws_FnCirclesDiffer.j0 kq l1 t926 t927 t930 t931 t935 t938 t946 t954 x224_15 = Option.some r) ∧ Go.Proofs.YtofjndbpndpjjaaW.PrintWords.Aside0 (kq ≤ k) ∧ Go.Proofs.YtofjndbpndpjjaaW.PrintWords.Aside0 ((Go.Proofs.YtofjndbpndpjjaaW.PrintWords.Kd.int Go.IntKind.i64).R (3 : Nat) wc w.heap.size (fun x => True) (Go.Value.slice Ao18 t927.length co18) t927) ∧ Go.Proofs.YtofjndbpndpjjaaW.PrintWords.Aside0 ((Go.Proofs.YtofjndbpndpjjaaW.PrintWords.Kd.int Go.IntKind.i64).R (3 : Nat) wc w.heap.size (fun x => True) v940 t938) ∧ Go.Proofs.YtofjndbpndpjjaaW.PrintWords.Aside0 ((Go.Proofs.YtofjndbpndpjjaaW.PrintWords.Kd.int Go.IntKind.i64).R (3 : Nat) wc w.heap.size (fun x => True) v948 t946) ∧ Go.Proofs.YtofjndbpndpjjaaW.PrintWords.Aside0 (Go.RowKit.Below w.heap.size w wc)) : z4_ { tmps := #[Go.Value.slice A0 l0.length c0, Go.Value.slice A1 l1.length c1, Go.undef, Go.undef, Go.Value.bool Bool.false, Go.Value.int Go.IntKind.i64 t926, Go.Value.slice Ao18 t927.length co18, Go.Value.int Go.IntKind.i64 t930, Go.Value.bool t931, Go.Value.int Go.IntKind.i64 t932, Go.Value.bool t933, Go.Value.bool t934, Go.Value.bool t935, Go.Value.bool t936, Go.Value.bool t937, v940, Go.Value.bool t939, v943, Go.Value.bool t945, v948, Go.Value.bool t947, v952, Go.Value.bool t951, Go.Value.bool t954, Go.Value.bool t955, Go.Value.bool t956, Go.Value.bool t957, Go.undef, Go.undef, Go.undef, Go.undef, Go.undef, Go.undef, Go.undef, Go.undef, Go.undef, Go.undef, Go.undef, Go.undef, Go.undef, Go.undef, Go.undef, Go.undef, Go.undef, Go.undef, Go.undef, Go.undef, Go.undef, Go.undef, Go.undef, Go.undef, Go.undef, Go.undef, Go.undef, Go.undef, Go.undef, Go.undef, Go.undef, Go.undef, Go.undef, Go.undef, Go.undef, Go.undef, Go.undef, Go.undef, Go.undef, Go.undef, Go.undef, u68, u69, u70, u71, u72, u73, u74, u75, u76, u77, u78, u79, u80, u81, u82, u83, u84, u85, u86, u87, u88, u89, u90, u91, u92, u93, u94, u95, u96, u97, u98, u99, u100, u101, u102, u103, u104, u105, u106, u107, u108, u109, u110, u111, u112, u113, u114, u115, u116, u117, u118, u119, u120, u121, u122, u123, u124, u125, u126, u127, u128, u129, u130, u131, u132, u133, u134, u135, u136, u137, u138, u139, u140, u141, u142, u143, u144, u145, u146, u147, u148, u149, u150, u151, u152, u153, u154, u155, u156, u157, u158, u159, u160, u161, u162, u163, u164, u165, u166, u167, u168, u169, u170, u171, u172, u173, u174, u175, u176, u177, u178, u179, u180, u181, u182, u183, u184, u185, u186, u187, u188, u189, u190, u191, u192, u193, u194, u195, u196, u197, u198, u199, u200, u201, u202, u203, u204, u205, u206, u207, u208, u209, u210, u211, u212, u213, u214, u215, u216, u217, u218, u219, u220, u221, u222, u223, u224, u225, u226, u227, Go.undef, Go.undef, Go.undef, u231, u232, u233, u234, u235, u236, u237, u238, u239, u240, u241, u242, u243, u244, u245, u246, u247, u248, u249, u250, u251, u252, u253, u254, u255, u256, u257, u258, u259, u260, u261, u262, u263, u264, u265, u266, u267, u268, u269, u270, u271, u272, u273, u274, u275, u276, u277, u278, u279, u280, u281, u282, u283, u284, u285, u286, u287, u288, u289, Go.undef, Go.undef, Go.undef, u293, u294, u295, Go.undef, Go.undef, Go.undef, u299, u300, u301, u302, u303, u304, u305, u306, u307, u308, u309, u310, u311, u312, u313, u314, u315, u316, u317, u318, u319, u320, u321, u322, u323, u324, u325, u326, u327, u328, u329, u330, u331, u332, u333, u334, u335, u336, u337, u338, u339, u340, u341, u342, u343, u344, u345, u346, u347, u348, u349, u350, u351, u352, u353, u354, u355, u356, u357, u358, u359, u360, u361, u362, u363, u364, u365, u366, u367, u368, u369, u370, u371, u372, u373, u374, u375, u376, u377, u378, u379, u380, u381, u382, u383, u384, u385, u386, u387, u388, u389, u390, u391, u392, u393, u394, u395, u396, u397, u398, u399, u400, u401, u402, u403, u404, u405, u406, u407, u408, u409, u410, u411, u412, u413, u414, u415, u416, u417, u418, u419, u420, u421, u422, u423, u424, u425, u426, u427, u428, u429, u430, u431, u432, u433, u434, u435, u436, u437, u438, u439, u440, u441, u442, u443, u444, u445, u446, u447, u448, u449, u450, u451, u452, u453, u454, u455, u456, u457, u458, u459, u460, u461, u462, u463, u464, u465, u466, u467, u468, u469, u470, u471, u472, u473, u474, u475, u476, u477, u478, u479, u480, u481, u482, u483, u484, u485, u486, u487, u488, u489, u490, u491, u492, u493, u494, u495, u496, u497, u498, u499, u500, u501, u502, u503, u504, u505, u506, u507, u508, u509, u510, u511, u512, u513, u514, u515, u516, u517, u518, u519, u520, u521, u522, u523, u524, u525, u526, u527, u528, u529], defers := [] } wc := by
  conv at ez3_ => (lhs; whnf)
  conv at ez5_ => (lhs; whnf)
  subst ez3_
  subst ez5_
  clear HC16
  try clear c1
  try clear c2
  try clear p2
  try clear c3
  try clear c4
  try clear c5
  try clear c29
  try clear c29b0
  try clear c29b1
  try clear c29b2
  try clear c30
  try clear c30b0
  try clear c30b1
  try clear c31
  try clear c31b0
  try clear c31b1
  try clear c31b2
  try clear c32
  try clear c32b0
  try clear c32b1
  try clear c32b2
  try clear c33
  try clear c33b0
  try clear c33b1
  try clear c33b2
  try clear c34
  try clear c35
  try clear c36
  try clear c36b0
  try clear c36b1
  try clear c36b2
  try clear c37
  try clear c38
  try clear c39
  try clear c39b0
  try clear c39b1
  try clear c39b2
  try clear c40
  try clear c40b0
  try clear c40b1
  try clear c40b2
  try clear c41
  try clear c42
  try clear c42b0
  try clear c42b1
  try clear c42b2
  try clear c43
  try clear c45
  try clear c45b0
  try clear c45b1
  try clear c45b2
  try clear c46
  try clear c47
  try clear c47b0
  try clear c47b1
  try clear c47b2
  try clear c48
  try clear c48b0
  try clear c48b1
  try clear c48b2
  try clear c49
  try clear c49b0
  try clear c49b1
  try clear c49b2
  try clear c54
  try clear c54b0
  try clear c54b1
  try clear c54b2
  try clear c55
  try clear c55b0
  try clear c55b1
  try clear c55b2
  try clear c56
  try clear c56b0
  try clear c56b1
  try clear c56b2
  obtain ⟨kq, x224_15, rfl, HA, HJ15, HO_6, HO_15, HO_19, HB⟩ := hcut
  cases kq with
  | zero => exact absurd HA.out (by simp [laws_FnCirclesDiffer.j0])
  | succ kj15 =>
   have H := HA.out
   clear HA
   simp only [laws_FnCirclesDiffer.j0] at H
   by_cases c61 : x224_15 = true
   ·subst c61
    rw [if_pos rfl] at H
    exact absurd ((Option.some.inj H).trans HT.out) (by decide)
   ·replace c61 := Bool.eq_false_iff.mpr c61
    subst c61
    rw [if_neg (show ¬ (false = true) by decide)] at H
    have HC62 := Aside0.mk H
    clear H
    go_upto_if 225 with (fail)
    go_cut [] (fun wc => ∃ (kq : Nat), Aside0 (laws_FnCirclesDiffer.j5 kq l1 t926 t927 t930 t931 = some r) ∧ Aside0 (kq ≤ kj15) ∧ Aside0 (Kd.R (Kd.int .i64) 3 wc w.heap.size (fun _ => True) (.slice Ao18 t927.length co18) t927) ∧ Aside0 (Below w.heap.size w wc))
    case first => as_aux_lemma =>
     have H := HC62.out
     clear HC62
     by_cases c63 : t935 = true
     ·subst c63
      rw [if_pos rfl] at H
      have H' := Aside0.mk H
      clear H
      obtain ⟨Ao64, co64, eo64⟩ := Kd.R_slice HO_15.out
      subst eo64
      as_aux_lemma =>
       go_wp2
       go_loopg [28, 230] kj15 (fun kq v28 v230 w' => ∃ (x28_2 : Int) (x230_2 : Int), v28 = .int .i64 x28_2 ∧ v230 = .int .i64 x230_2 ∧ Aside0 (laws_FnCirclesDiffer.l0 kq l1 t926 t927 t930 t931 t938 t946 t954 (t927.length : Int) x28_2 t938 (t938.length : Int) x230_2 = some r) ∧ Aside0 (kq ≤ kj15) ∧ Aside0 (Kd.R (Kd.int .i64) 3 w' w.heap.size (fun _ => True) (.slice Ao18 t927.length co18) t927) ∧ Aside0 (Kd.R (Kd.int .i64) 3 w' w.heap.size (fun _ => True) (.slice Ao64 t938.length co64) t938) ∧ Aside0 (Kd.R (Kd.int .i64) 3 w' w.heap.size (fun _ => True) v948 t946) ∧ Aside0 (Kd.R (Kd.int .i64) 3 w' w.heap.size (fun _ => True) (.slice Ao64 t938.length co64) t938) ∧ Aside0 (Below w.heap.size w w'))
       case atStart => exact ⟨(0), (0), eqd, eqd, H', ⟨Nat.le_refl _⟩, ⟨atR HO_6⟩, ⟨atR HO_15⟩, ⟨atR HO_19⟩, ⟨atR HO_15⟩, ⟨atB HB⟩⟩
       case round => as_aux_lemma =>
        clear H'
        try clear c1
        try clear c2
        try clear p2
        try clear c3
        try clear c4
        try clear c5
        try clear c6
        try clear c29
        try clear c29b0
        try clear c29b1
        try clear c29b2
        try clear c30
        try clear c30b0
        try clear c30b1
        try clear c31
        try clear c31b0
        try clear c31b1
        try clear c31b2
        try clear c32
        try clear c32b0
        try clear c32b1
        try clear c32b2
        try clear c33
        try clear c33b0
        try clear c33b1
        try clear c33b2
        try clear c34
        try clear c35
        try clear c36
        try clear c36b0
        try clear c36b1
        try clear c36b2
        try clear c37
        try clear c38
        try clear c39
        try clear c39b0
        try clear c39b1
        try clear c39b2
        try clear c40
        try clear c40b0
        try clear c40b1
        try clear c40b2
        try clear c41
        try clear c42
        try clear c42b0
        try clear c42b1
        try clear c42b2
        try clear c43
        try clear c45
        try clear c45b0
        try clear c45b1
        try clear c45b2
        try clear c46
        try clear c47
        try clear c47b0
        try clear c47b1
        try clear c47b2
        try clear c48
        try clear c48b0
        try clear c48b1
        try clear c48b2
        try clear c49
        try clear c49b0
        try clear c49b1
        try clear c49b2
        try clear c54
        try clear c54b0
        try clear c54b1
        try clear c54b2
        try clear c55
        try clear c55b0
        try clear c55b1
        try clear c55b2
        try clear c56
        try clear c56b0
        try clear c56b1
        try clear c56b2
        try clear c61
        try clear c63
        try clear p2
        obtain ⟨x28_2, x230_2, rfl, rfl, HA, HK2, HO_6, HO_15, HO_19, HO_228, HB⟩ := hrel
        cases gk with
        | zero => exact absurd HA.out (by simp [laws_FnCirclesDiffer.l0])
        | succ k2 =>
         have H := HA.out
         clear HA
         simp only [laws_FnCirclesDiffer.l0] at H
         by_cases c65 : x230_2 < (t938.length : Int)
         ·rw [if_pos c65] at H
          have c65b0 : decide (x230_2 < (t938.length : Int)) = true := decide_eq_true c65
          clear c65
          (first | rw [c65b0] | (simp only [i64_w, i32_w]; rw [c65b0]) | skip)
          by_cases c66 : 0 ≤ x230_2
          ·rw [if_pos c66] at H
           have c66b0 : decide (0 ≤ x230_2) = true := decide_eq_true c66
           clear c66
           by_cases c67 : x230_2 < (t938.length : Int)
           ·rw [if_pos c67] at H
            have c67b0 : decide (x230_2 < (t938.length : Int)) = true := decide_eq_true c67
            clear c67
            have HC68 := Aside0.mk H
            clear H
            have p963 : 0 ≤ (x230_2 : Int) := ofd
            have q963 : x230_2 < (t938.length : Int) := ofd
            obtain ⟨ad963, e963, hx963_0⟩ := Kd.at_int (Kd.R_reads' HO_228.out).2.2 x230_2 p963 q963
            cases e963
            replace p963 := eq_true p963
            replace q963 := eq_true q963
            go_upto_region 22 with (fail)
            go_cut [254] (fun v254 wc => ∃ (kq : Nat) (x254_67 : Bool), v254 = .bool x254_67 ∧ Aside0 (laws_FnCirclesDiffer.j2 kq l1 t926 t927 t930 t931 t938 t946 t954 (t927.length : Int) x28_2 (rd t938 x230_2) t938 (t938.length : Int) x230_2 x254_67 = some r) ∧ Aside0 (kq ≤ k2) ∧ Aside0 (Kd.R (Kd.int .i64) 3 wc w.heap.size (fun _ => True) (.slice Ao18 t927.length co18) t927) ∧ Aside0 (Kd.R (Kd.int .i64) 3 wc w.heap.size (fun _ => True) (.slice (some ad963) t938.length co64) t938) ∧ Aside0 (Kd.R (Kd.int .i64) 3 wc w.heap.size (fun _ => True) v948 t946) ∧ Aside0 (Kd.R (Kd.int .i64) 3 wc w.heap.size (fun _ => True) (.slice (some ad963) t938.length co64) t938) ∧ Aside0 (Below w.heap.size w wc))
            case first => as_aux_lemma =>
             have H := HC68.out
             clear HC68
             by_cases c69 : x230_2 = 0
             ·rw [if_pos c69] at H
              have c69b0 : (x230_2 == 0) = true := beq_iff_eq.mpr c69
              have c69b1 : (x230_2 != 0) = false := bne_eq_false_iff_eq.mpr c69
              clear c69
              (first | rw [c69b0] | (simp only [i64_w, i32_w]; rw [c69b0]) | skip)
              by_cases c70 : (rd t938 x230_2) = 0
              ·rw [if_pos c70] at H
               have c70b0 : ((rd t938 x230_2) == 0) = true := beq_iff_eq.mpr c70
               have c70b1 : ((rd t938 x230_2) != 0) = false := bne_eq_false_iff_eq.mpr c70
               clear c70
               by_cases c71 : x230_2 > 0
               ·rw [if_pos c71] at H
                have c71b0 : decide (0 < x230_2) = true := decide_eq_true c71
                clear c71
                obtain ⟨ji72, hji72⟩ : ∃ j_ : Int, (wrap64 (t926 - x230_2)) = j_ := ⟨_, rfl⟩
                replace H : (if 0 ≤ (ji72) then (if (ji72) < (t938.length : Int) then (laws_FnCirclesDiffer.j2 k2 l1 t926 t927 t930 t931 t938 t946 t954 (t927.length : Int) x28_2 (rd t938 x230_2) t938 (t938.length : Int) x230_2 ((rd t938 x230_2) != (rd t938 (ji72)))) else (none)) else (none)) = some r := by first | (rw [hji72] at H; exact H) | (simp only [hji72] at H ⊢; exact H)
                have hji72w : (IntKind.i64.wrap (t926 - x230_2)) = ji72 := (i64_w _).trans hji72
                by_cases c73 : 0 ≤ (ji72)
                ·rw [if_pos c73] at H
                 have c73b0 : decide (0 ≤ (ji72)) = true := decide_eq_true c73
                 clear c73
                 by_cases c74 : (ji72) < (t938.length : Int)
                 ·rw [if_pos c74] at H
                  have c74b0 : decide ((ji72) < (t938.length : Int)) = true := decide_eq_true c74
                  clear c74
                  have H' := Aside0.mk H
                  clear H
                  have p964 : 0 ≤ ((ji72) : Int) := ofd
                  have q964 : (ji72) < (t938.length : Int) := ofd
                  obtain ⟨ad964, e964, hx964_0⟩ := Kd.at_int (Kd.R_reads' HO_15.out).2.2 (ji72) p964 q964
                  obtain rfl : ad963 = ad964 := (by injection e964)
                  replace p964 := eq_true p964
                  replace q964 := eq_true q964
                  as_aux_lemma =>
                   go_wp2
                   go_meet
                   case rel => exact ⟨_, (((rd t938 x230_2) != (rd t938 (ji72)))), (by first | rfl | (simp; done) | (simp only [← hji72] <;> (first | rfl | simp)) | (simp [*]; done)), H', ⟨by have := HJ15.out; have := HK2.out; first | omega | exact Nat.le_refl _⟩, ⟨atR HO_6⟩, ⟨atR HO_15⟩, ⟨atR HO_19⟩, ⟨atR HO_228⟩, ⟨atB HB⟩⟩
                 ·rw [if_neg c74] at H
                  exact absurd H (by simp)
                ·rw [if_neg c73] at H
                 exact absurd H (by simp)
               ·rw [if_neg c71] at H
                have c71b0 : decide (0 < x230_2) = false := decide_eq_false c71
                clear c71
                have H' := Aside0.mk H
                clear H
                as_aux_lemma =>
                 go_wp2
                 go_meet
                 case rel => exact ⟨_, (false), eqd, H', ⟨by have := HJ15.out; have := HK2.out; first | omega | exact Nat.le_refl _⟩, ⟨atR HO_6⟩, ⟨atR HO_15⟩, ⟨atR HO_19⟩, ⟨atR HO_228⟩, ⟨atB HB⟩⟩
              ·rw [if_neg c70] at H
               have c70b0 : ((rd t938 x230_2) == 0) = false := beq_eq_false_iff_ne.mpr c70
               have c70b1 : ((rd t938 x230_2) != 0) = true := bne_iff_ne.mpr c70
               exact absurd (H.trans (congrArg some HT.out)) (laws_FnCirclesDiffer.j2_no k2 l1 t926 t927 t930 t931 t938 t946 t954 (t927.length : Int) x28_2 (rd t938 x230_2) t938 (t938.length : Int) x230_2)
             ·rw [if_neg c69] at H
              have c69b0 : (x230_2 == 0) = false := beq_eq_false_iff_ne.mpr c69
              have c69b1 : (x230_2 != 0) = true := bne_iff_ne.mpr c69
              (first | rw [c69b0] | (simp only [i64_w, i32_w]; rw [c69b0]) | skip)
              by_cases c75 : x230_2 > 0
              ·rw [if_pos c75] at H
               have c75b0 : decide (0 < x230_2) = true := decide_eq_true c75
               clear c75
               obtain ⟨ji76, hji76⟩ : ∃ j_ : Int, (wrap64 (t926 - x230_2)) = j_ := ⟨_, rfl⟩
               replace H : (if 0 ≤ (ji76) then (if (ji76) < (t938.length : Int) then (laws_FnCirclesDiffer.j2 k2 l1 t926 t927 t930 t931 t938 t946 t954 (t927.length : Int) x28_2 (rd t938 x230_2) t938 (t938.length : Int) x230_2 ((rd t938 x230_2) != (rd t938 (ji76)))) else (none)) else (none)) = some r := by first | (rw [hji76] at H; exact H) | (simp only [hji76] at H ⊢; exact H)
               have hji76w : (IntKind.i64.wrap (t926 - x230_2)) = ji76 := (i64_w _).trans hji76
               by_cases c77 : 0 ≤ (ji76)
               ·rw [if_pos c77] at H
                have c77b0 : decide (0 ≤ (ji76)) = true := decide_eq_true c77
                clear c77
                by_cases c78 : (ji76) < (t938.length : Int)
                ·rw [if_pos c78] at H
                 have c78b0 : decide ((ji76) < (t938.length : Int)) = true := decide_eq_true c78
                 clear c78
                 have H' := Aside0.mk H
                 clear H
                 have p965 : 0 ≤ ((ji76) : Int) := ofd
                 have q965 : (ji76) < (t938.length : Int) := ofd
                 obtain ⟨ad965, e965, hx965_0⟩ := Kd.at_int (Kd.R_reads' HO_15.out).2.2 (ji76) p965 q965
                 obtain rfl : ad963 = ad965 := (by injection e965)
                 replace p965 := eq_true p965
                 replace q965 := eq_true q965
                 as_aux_lemma =>
                  go_wp2
                  go_meet
                  case rel => exact ⟨_, (((rd t938 x230_2) != (rd t938 (ji76)))), (by first | rfl | (simp; done) | (simp only [← hji76] <;> (first | rfl | simp)) | (simp [*]; done)), H', ⟨by have := HJ15.out; have := HK2.out; first | omega | exact Nat.le_refl _⟩, ⟨atR HO_6⟩, ⟨atR HO_15⟩, ⟨atR HO_19⟩, ⟨atR HO_228⟩, ⟨atB HB⟩⟩
                ·rw [if_neg c78] at H
                 exact absurd H (by simp)
               ·rw [if_neg c77] at H
                exact absurd H (by simp)
              ·rw [if_neg c75] at H
               have c75b0 : decide (0 < x230_2) = false := decide_eq_false c75
               clear c75
               have H' := Aside0.mk H
               clear H
               as_aux_lemma =>
                go_wp2
                go_meet
                case rel => exact ⟨_, (false), eqd, H', ⟨by have := HJ15.out; have := HK2.out; first | omega | exact Nat.le_refl _⟩, ⟨atR HO_6⟩, ⟨atR HO_15⟩, ⟨atR HO_19⟩, ⟨atR HO_228⟩, ⟨atB HB⟩⟩
            case rest => as_aux_lemma =>
             clear HC68
             try clear c1
             try clear c2
             try clear p2
             try clear c3
             try clear c4
             try clear c5
             try clear c6
             try clear p6
             try clear c7
             try clear p9
             try clear q9
             try clear hx9
             try clear c29
             try clear c29b0
             try clear c29b1
             try clear c29b2
             try clear c30
             try clear c30b0
             try clear c30b1
             try clear c31
             try clear c31b0
             try clear c31b1
             try clear c31b2
             try clear c32
             try clear c32b0
             try clear c32b1
             try clear c32b2
             try clear c33
             try clear c33b0
             try clear c33b1
             try clear c33b2
             try clear c34
             try clear c35
             try clear c36
             try clear c36b0
             try clear c36b1
             try clear c36b2
             try clear c37
             try clear c38
             try clear c39
             try clear c39b0
             try clear c39b1
             try clear c39b2
             try clear c40
             try clear c40b0
             try clear c40b1
             try clear c40b2
             try clear c41
             try clear c42
             try clear c42b0
             try clear c42b1
             try clear c42b2
             try clear c43
             try clear c45
             try clear c45b0
             try clear c45b1
             try clear c45b2
             try clear c46
             try clear c47
             try clear c47b0
             try clear c47b1
             try clear c47b2
             try clear c48
             try clear c48b0
             try clear c48b1
             try clear c48b2
             try clear c49
             try clear c49b0
             try clear c49b1
             try clear c49b2
             try clear c54
             try clear c54b0
             try clear c54b1
             try clear c54b2
             try clear c55
             try clear c55b0
             try clear c55b1
             try clear c55b2
             try clear c56
             try clear c56b0
             try clear c56b1
             try clear c56b2
             try clear c61
             try clear c63
             try clear p64
             try clear c65
             try clear c65b0
             try clear c66
             try clear c66b0
             try clear c67
             try clear c67b0
             try clear c69
             try clear c69b0
             try clear c69b1
             try clear c70
             try clear c70b0
             try clear c70b1
             try clear c71
             try clear c71b0
             try clear c73
             try clear c73b0
             try clear c74
             try clear c74b0
             try clear c75
             try clear c75b0
             try clear c77
             try clear c77b0
             try clear c78
             try clear c78b0
             try clear hx963_0
             try clear hx964_0
             try clear hx965_0
             try clear p2
             try clear p963
             try clear p964
             try clear p965
             try clear q963
             try clear q964
             try clear q965
             obtain ⟨kq, x254_67, rfl, HA, HJ67, HO_6, HO_15, HO_19, HO_228, HB⟩ := hcut
             cases kq with
             | zero => exact absurd HA.out (by simp [laws_FnCirclesDiffer.j2])
             | succ kj67 =>
              have H := HA.out
              clear HA
              simp only [laws_FnCirclesDiffer.j2] at H
              by_cases c79 : x254_67 = true
              ·subst c79
               rw [if_pos rfl] at H
               exact absurd ((Option.some.inj H).trans HT.out) (by decide)
              ·replace c79 := Bool.eq_false_iff.mpr c79
               subst c79
               rw [if_neg (show ¬ (false = true) by decide)] at H
               by_cases c80 : (rd t938 x230_2) > x28_2
               ·rw [if_pos c80] at H
                have c80b0 : decide (x28_2 < (rd t938 x230_2)) = true := decide_eq_true c80
                clear c80
                have H' := Aside0.mk H
                clear H
                as_aux_lemma =>
                 go_wp2
                 go_roundg kj67
                 case measure => have := HJ15.out; have := HK2.out; have := HJ67.out; omega
                 case rel => exact ⟨((rd t938 x230_2)), (wrap64 (x230_2 + 1)), eqd, eqd, H', ⟨by have := HJ15.out; have := HK2.out; have := HJ67.out; omega⟩, ⟨atR HO_6⟩, ⟨atR HO_15⟩, ⟨atR HO_19⟩, ⟨atR HO_228⟩, ⟨atB HB⟩⟩
               ·rw [if_neg c80] at H
                have c80b0 : decide (x28_2 < (rd t938 x230_2)) = false := decide_eq_false c80
                clear c80
                have H' := Aside0.mk H
                clear H
                as_aux_lemma =>
                 go_wp2
                 go_roundg kj67
                 case measure => have := HJ15.out; have := HK2.out; have := HJ67.out; omega
                 case rel => exact ⟨(x28_2), (wrap64 (x230_2 + 1)), eqd, eqd, H', ⟨by have := HJ15.out; have := HK2.out; have := HJ67.out; omega⟩, ⟨atR HO_6⟩, ⟨atR HO_15⟩, ⟨atR HO_19⟩, ⟨atR HO_228⟩, ⟨atB HB⟩⟩
           ·rw [if_neg c67] at H
            exact absurd H (by simp)
          ·rw [if_neg c66] at H
           exact absurd H (by simp)
         ·rw [if_neg c65] at H
          have c65b0 : decide (x230_2 < (t938.length : Int)) = false := decide_eq_false c65
          clear c65
          (first | rw [c65b0] | (simp only [i64_w, i32_w]; rw [c65b0]) | skip)
          by_cases c81 : (t938.length : Int) = t926
          ·rw [if_pos c81] at H
           have c81b0 : ((t938.length : Int) == t926) = true := beq_iff_eq.mpr c81
           have c81b1 : ((t938.length : Int) != t926) = false := bne_eq_false_iff_eq.mpr c81
           clear c81
           replace H := Option.bind_eq_some_iff.mp H
           obtain ⟨t966, A820, H⟩ := H
           (try dsimp only at H)
           have A82 := Aside0.mk A820
           clear A820
           by_cases c83 : t966 = (wrap64 ((t927.length : Int) * (wrap64 ((t927.length : Int) - 1))))
           ·rw [if_pos c83] at H
            have c83b0 : (t966 == (wrap64 ((t927.length : Int) * (wrap64 ((t927.length : Int) - 1))))) = true := beq_iff_eq.mpr c83
            have c83b1 : (t966 != (wrap64 ((t927.length : Int) * (wrap64 ((t927.length : Int) - 1))))) = false := bne_eq_false_iff_eq.mpr c83
            clear c83
            by_cases c84 : (t954 != (decide (x28_2 ≤ 1))) = true
            ·rw [if_pos c84] at H
             have c84b0 : (t954 != (decide (x28_2 ≤ 1))) = true := c84
             (try (have c84b1 : decide (t954 = (decide (x28_2 ≤ 1))) = false := by simpa using c84))
             (try (have c84b2 : (t954 == (decide (x28_2 ≤ 1))) = false := by simpa using c84))
             (try (have c84b3 : ¬ (t954 = (decide (x28_2 ≤ 1))) := by simpa using c84))
             clear c84
             exact absurd ((Option.some.inj H).trans HT.out) (by decide)
            ·rw [if_neg c84] at H
             have c84b0 : (t954 != (decide (x28_2 ≤ 1))) = false := by simpa using c84
             (try (have c84b1 : decide (t954 = (decide (x28_2 ≤ 1))) = true := by simpa using c84))
             (try (have c84b2 : (t954 == (decide (x28_2 ≤ 1))) = true := by simpa using c84))
             clear c84
             by_cases c85 : (t946.length : Int) < 1
             ·rw [if_pos c85] at H
              have c85b0 : decide ((t946.length : Int) < 1) = true := decide_eq_true c85
              have c85b1 : decide (t946.length < 1) = true := decide_eq_true (by omega)
              clear c85
              exact absurd ((Option.some.inj H).trans HT.out) (by decide)
             ·rw [if_neg c85] at H
              have c85b0 : decide ((t946.length : Int) < 1) = false := decide_eq_false c85
              have c85b1 : decide (t946.length < 1) = false := decide_eq_false (by omega)
              clear c85
              by_cases c86 : 0 < (t946.length : Int)
              ·rw [if_pos c86] at H
               have c86b0 : decide (0 < (t946.length : Int)) = true := decide_eq_true c86
               have c86b1 : decide (0 < t946.length) = true := decide_eq_true (by omega)
               clear c86
               by_cases c87 : (rd t946 0) = 1
               ·rw [if_pos c87] at H
                have c87b0 : ((rd t946 0) == 1) = true := beq_iff_eq.mpr c87
                have c87b1 : ((rd t946 0) != 1) = false := bne_eq_false_iff_eq.mpr c87
                clear c87
                have H' := Aside0.mk H
                clear H
                as_aux_lemma =>
                 go_wp2_with (first | (go_at_call 47; (with_reducible refine (laws_zSum.calls k2 _ _ t938 t966 _ ?side1 ?side2 A82.out).mono ?_); (case side1 => exact atRC HO_15); (case side2 => exact (Kd.R_reads' HO_15.out).2.1); rintro e w' ⟨rfl, ⟨nd, rfl⟩⟩; obtain ⟨Ao88, co88, eo88⟩ := Kd.R_slice HO_19.out; subst eo88; have p967 : 0 ≤ (0 : Int) := (by omega); have q967 : 0 < (t946.length : Int) := ofd; obtain ⟨ad967, e967, hx967_0⟩ := Kd.at_int (Kd.R_reads' HO_19.out).2.2 0 p967 q967; cases e967; have qi967 : (0 < t946.length) = True := eq_true (by omega); (try rw [show ((0 : Int)).toNat = 0 from rfl] at hx967_0); (try rw [Addr.add_zero'] at hx967_0); replace p967 := eq_true p967; replace q967 := eq_true q967))
                 go_loopg [292] k2 (fun kq v292 w' => ∃ (x292_3 : Int), v292 = .int .i64 x292_3 ∧ Aside0 (laws_FnCirclesDiffer.l1 kq l1 t926 t927 t930 t931 t938 t946 t946 (t946.length : Int) x292_3 = some r) ∧ Aside0 (kq ≤ k2) ∧ Aside0 (Kd.R (Kd.int .i64) 3 w' w.heap.size (fun _ => True) (.slice Ao18 t927.length co18) t927) ∧ Aside0 (Kd.R (Kd.int .i64) 3 w' w.heap.size (fun _ => True) (.slice Ao64 t938.length co64) t938) ∧ Aside0 (Kd.R (Kd.int .i64) 3 w' w.heap.size (fun _ => True) (.slice (some ad967) t946.length co88) t946) ∧ Aside0 (Kd.R (Kd.int .i64) 3 w' w.heap.size (fun _ => True) (.slice (some ad967) t946.length co88) t946) ∧ Aside0 (Below w.heap.size w w'))
                 case atStart => exact ⟨(0), eqd, H', ⟨Nat.le_refl _⟩, ⟨atR HO_6⟩, ⟨atR HO_15⟩, ⟨atR HO_19⟩, ⟨atR HO_19⟩, ⟨atB HB⟩⟩
                 case round => as_aux_lemma =>
                  clear H'
                  try clear c1
                  try clear c2
                  try clear p2
                  try clear c3
                  try clear c4
                  try clear c5
                  try clear c6
                  try clear p6
                  try clear c7
                  try clear c8
                  try clear p9
                  try clear q9
                  try clear hx9
                  try clear qi9
                  try clear c29
                  try clear c29b0
                  try clear c29b1
                  try clear c29b2
                  try clear c30
                  try clear c30b0
                  try clear c30b1
                  try clear c31
                  try clear c31b0
                  try clear c31b1
                  try clear c31b2
                  try clear c32
                  try clear c32b0
                  try clear c32b1
                  try clear c32b2
                  try clear c33
                  try clear c33b0
                  try clear c33b1
                  try clear c33b2
                  try clear c34
                  try clear c35
                  try clear c36
                  try clear c36b0
                  try clear c36b1
                  try clear c36b2
                  try clear c37
                  try clear c38
                  try clear c39
                  try clear c39b0
                  try clear c39b1
                  try clear c39b2
                  try clear c40
                  try clear c40b0
                  try clear c40b1
                  try clear c40b2
                  try clear c41
                  try clear c42
                  try clear c42b0
                  try clear c42b1
                  try clear c42b2
                  try clear c43
                  try clear c45
                  try clear c45b0
                  try clear c45b1
                  try clear c45b2
                  try clear c46
                  try clear c47
                  try clear c47b0
                  try clear c47b1
                  try clear c47b2
                  try clear c48
                  try clear c48b0
                  try clear c48b1
                  try clear c48b2
                  try clear c49
                  try clear c49b0
                  try clear c49b1
                  try clear c49b2
                  try clear c54
                  try clear c54b0
                  try clear c54b1
                  try clear c54b2
                  try clear c55
                  try clear c55b0
                  try clear c55b1
                  try clear c55b2
                  try clear c56
                  try clear c56b0
                  try clear c56b1
                  try clear c56b2
                  try clear c61
                  try clear c63
                  try clear p64
                  try clear c65
                  try clear c65b0
                  try clear c66
                  try clear c66b0
                  try clear c67
                  try clear c67b0
                  try clear c69
                  try clear c69b0
                  try clear c69b1
                  try clear c70
                  try clear c70b0
                  try clear c70b1
                  try clear c71
                  try clear c71b0
                  try clear c73
                  try clear c73b0
                  try clear c74
                  try clear c74b0
                  try clear c75
                  try clear c75b0
                  try clear c77
                  try clear c77b0
                  try clear c78
                  try clear c78b0
                  try clear c79
                  try clear c80
                  try clear c80b0
                  try clear c81
                  try clear c81b0
                  try clear c81b1
                  try clear c83
                  try clear c83b0
                  try clear c83b1
                  try clear c84
                  try clear c84b0
                  try clear c84b1
                  try clear c84b2
                  try clear c85
                  try clear c85b0
                  try clear c85b1
                  try clear c86
                  try clear c86b0
                  try clear c86b1
                  try clear c87
                  try clear c87b0
                  try clear c87b1
                  try clear hx963_0
                  try clear hx964_0
                  try clear hx965_0
                  try clear hx967_0
                  try clear p2
                  try clear p6
                  try clear p64
                  try clear p9
                  try clear p963
                  try clear p964
                  try clear p965
                  try clear p967
                  try clear q9
                  try clear q963
                  try clear q964
                  try clear q965
                  try clear q967
                  obtain ⟨x292_3, rfl, HA, HK3, HO_6, HO_15, HO_19, HO_290, HB⟩ := hrel
                  cases gk with
                  | zero => exact absurd HA.out (by simp [laws_FnCirclesDiffer.l1])
                  | succ k3 =>
                   have H := HA.out
                   clear HA
                   simp only [laws_FnCirclesDiffer.l1] at H
                   by_cases c89 : x292_3 < (t946.length : Int)
                   ·rw [if_pos c89] at H
                    have c89b0 : decide (x292_3 < (t946.length : Int)) = true := decide_eq_true c89
                    clear c89
                    by_cases c90 : 0 ≤ x292_3
                    ·rw [if_pos c90] at H
                     have c90b0 : decide (0 ≤ x292_3) = true := decide_eq_true c90
                     clear c90
                     by_cases c91 : x292_3 < (t946.length : Int)
                     ·rw [if_pos c91] at H
                      have c91b0 : decide (x292_3 < (t946.length : Int)) = true := decide_eq_true c91
                      clear c91
                      have H' := Aside0.mk H
                      clear H
                      have p968 : 0 ≤ (x292_3 : Int) := ofd
                      have q968 : x292_3 < (t946.length : Int) := ofd
                      obtain ⟨ad968, e968, hx968_0⟩ := Kd.at_int (Kd.R_reads' HO_290.out).2.2 x292_3 p968 q968
                      obtain rfl : ad967 = ad968 := (by injection e968)
                      replace p968 := eq_true p968
                      replace q968 := eq_true q968
                      as_aux_lemma =>
                       go_wp2
                       go_loopg [298] k3 (fun kq v298 w' => ∃ (x298_4 : Int), v298 = .int .i64 x298_4 ∧ Aside0 (laws_FnCirclesDiffer.l2 kq l1 t926 t927 t930 t931 t938 t946 (rd t946 x292_3) t946 (t946.length : Int) x292_3 t946 (t946.length : Int) x298_4 = some r) ∧ Aside0 (kq ≤ k3) ∧ Aside0 (Kd.R (Kd.int .i64) 3 w' w.heap.size (fun _ => True) (.slice Ao18 t927.length co18) t927) ∧ Aside0 (Kd.R (Kd.int .i64) 3 w' w.heap.size (fun _ => True) (.slice Ao64 t938.length co64) t938) ∧ Aside0 (Kd.R (Kd.int .i64) 3 w' w.heap.size (fun _ => True) (.slice (some ad967) t946.length co88) t946) ∧ Aside0 (Kd.R (Kd.int .i64) 3 w' w.heap.size (fun _ => True) (.slice (some ad967) t946.length co88) t946) ∧ Aside0 (Kd.R (Kd.int .i64) 3 w' w.heap.size (fun _ => True) (.slice (some ad967) t946.length co88) t946) ∧ Aside0 (Below w.heap.size w w'))
                       case atStart => exact ⟨(0), eqd, H', ⟨Nat.le_refl _⟩, ⟨atR HO_6⟩, ⟨atR HO_15⟩, ⟨atR HO_19⟩, ⟨atR HO_290⟩, ⟨atR HO_19⟩, ⟨atB HB⟩⟩
                       case round => as_aux_lemma =>
                        clear H'
                        try clear c1
                        try clear c2
                        try clear p2
                        try clear c3
                        try clear c4
                        try clear c5
                        try clear c6
                        try clear p6
                        try clear c7
                        try clear c8
                        try clear c9
                        try clear p9
                        try clear q9
                        try clear hx9
                        try clear qi9
                        try clear c29
                        try clear c29b0
                        try clear c29b1
                        try clear c29b2
                        try clear c30
                        try clear c30b0
                        try clear c30b1
                        try clear c31
                        try clear c31b0
                        try clear c31b1
                        try clear c31b2
                        try clear c32
                        try clear c32b0
                        try clear c32b1
                        try clear c32b2
                        try clear c33
                        try clear c33b0
                        try clear c33b1
                        try clear c33b2
                        try clear c34
                        try clear c35
                        try clear c36
                        try clear c36b0
                        try clear c36b1
                        try clear c36b2
                        try clear c37
                        try clear c38
                        try clear c39
                        try clear c39b0
                        try clear c39b1
                        try clear c39b2
                        try clear c40
                        try clear c40b0
                        try clear c40b1
                        try clear c40b2
                        try clear c41
                        try clear c42
                        try clear c42b0
                        try clear c42b1
                        try clear c42b2
                        try clear c43
                        try clear c45
                        try clear c45b0
                        try clear c45b1
                        try clear c45b2
                        try clear c46
                        try clear c47
                        try clear c47b0
                        try clear c47b1
                        try clear c47b2
                        try clear c48
                        try clear c48b0
                        try clear c48b1
                        try clear c48b2
                        try clear c49
                        try clear c49b0
                        try clear c49b1
                        try clear c49b2
                        try clear c54
                        try clear c54b0
                        try clear c54b1
                        try clear c54b2
                        try clear c55
                        try clear c55b0
                        try clear c55b1
                        try clear c55b2
                        try clear c56
                        try clear c56b0
                        try clear c56b1
                        try clear c56b2
                        try clear c61
                        try clear c63
                        try clear p64
                        try clear c65
                        try clear c65b0
                        try clear c66
                        try clear c66b0
                        try clear c67
                        try clear c67b0
                        try clear c69
                        try clear c69b0
                        try clear c69b1
                        try clear c70
                        try clear c70b0
                        try clear c70b1
                        try clear c71
                        try clear c71b0
                        try clear c73
                        try clear c73b0
                        try clear c74
                        try clear c74b0
                        try clear c75
                        try clear c75b0
                        try clear c77
                        try clear c77b0
                        try clear c78
                        try clear c78b0
                        try clear c79
                        try clear c80
                        try clear c80b0
                        try clear c81
                        try clear c81b0
                        try clear c81b1
                        try clear c83
                        try clear c83b0
                        try clear c83b1
                        try clear c84
                        try clear c84b0
                        try clear c84b1
                        try clear c84b2
                        try clear c85
                        try clear c85b0
                        try clear c85b1
                        try clear c86
                        try clear c86b0
                        try clear c86b1
                        try clear c87
                        try clear c87b0
                        try clear c87b1
                        try clear c89
                        try clear c89b0
                        try clear c90
                        try clear c90b0
                        try clear c91
                        try clear c91b0
                        try clear hx963_0
                        try clear hx964_0
                        try clear hx965_0
                        try clear hx967_0
                        try clear hx968_0
                        try clear p2
                        try clear p6
                        try clear p64
                        try clear p9
                        try clear p963
                        try clear p964
                        try clear p965
                        try clear p967
                        try clear p968
                        try clear q9
                        try clear q963
                        try clear q964
                        try clear q965
                        try clear q967
                        try clear q968
                        obtain ⟨x298_4, rfl, HA, HK4, HO_6, HO_15, HO_19, HO_290, HO_296, HB⟩ := hrel
                        cases gk with
                        | zero => exact absurd HA.out (by simp [laws_FnCirclesDiffer.l2])
                        | succ k4 =>
                         have H := HA.out
                         clear HA
                         simp only [laws_FnCirclesDiffer.l2] at H
                         by_cases c92 : x298_4 < (t946.length : Int)
                         ·rw [if_pos c92] at H
                          have c92b0 : decide (x298_4 < (t946.length : Int)) = true := decide_eq_true c92
                          clear c92
                          by_cases c93 : 0 ≤ x298_4
                          ·rw [if_pos c93] at H
                           have c93b0 : decide (0 ≤ x298_4) = true := decide_eq_true c93
                           clear c93
                           by_cases c94 : x298_4 < (t946.length : Int)
                           ·rw [if_pos c94] at H
                            have c94b0 : decide (x298_4 < (t946.length : Int)) = true := decide_eq_true c94
                            clear c94
                            by_cases c95 : t926 = 0
                            ·rw [if_pos c95] at H
                             exact absurd H (by simp)
                            ·rw [if_neg c95] at H
                             have c95b0 : (t926 == 0) = false := beq_eq_false_iff_ne.mpr c95
                             have c95b1 : (t926 != 0) = true := bne_iff_ne.mpr c95
                             replace H := Option.bind_eq_some_iff.mp H
                             obtain ⟨t970, A960, H⟩ := H
                             (try dsimp only at H)
                             have A96 := Aside0.mk A960
                             clear A960
                             by_cases c97 : t970 = true
                             ·subst c97
                              rw [if_pos rfl] at H
                              have H' := Aside0.mk H
                              clear H
                              have p969 : 0 ≤ (x298_4 : Int) := ofd
                              have q969 : x298_4 < (t946.length : Int) := ofd
                              obtain ⟨ad969, e969, hx969_0⟩ := Kd.at_int (Kd.R_reads' HO_296.out).2.2 x298_4 p969 q969
                              obtain rfl : ad967 = ad969 := (by injection e969)
                              replace p969 := eq_true p969
                              replace q969 := eq_true q969
                              as_aux_lemma =>
                               go_wp2_with (first | ((with_reducible refine gate_callee (f := 48) rfl ?_); refine goesA (some 308) Try.func48 #[.slice (some ad967) t946.length co88, .int .i64 (Int.tmod (wrap64 ((rd t946 x292_3) * (rd t946 x298_4))) t926)] ?_; (with_reducible refine (laws_zHas.calls k4 _ _ t946 (Int.tmod (wrap64 ((rd t946 x292_3) * (rd t946 x298_4))) t926) true _ ?side1 ?side2 A96.out).mono ?_); (case side1 => exact atRC HO_19); (case side2 => exact (Kd.R_reads' HO_19.out).2.1); rintro e w' ⟨rfl, ⟨nd, rfl⟩⟩; refine ⟨_, rfl, ?_⟩))
                               go_roundg k4
                               case measure => have := HJ15.out; have := HK2.out; have := HK3.out; have := HK4.out; omega
                               case rel => exact ⟨(wrap64 (x298_4 + 1)), eqd, H', ⟨by have := HJ15.out; have := HK2.out; have := HK3.out; have := HK4.out; omega⟩, ⟨atR HO_6⟩, ⟨atR HO_15⟩, ⟨atR HO_19⟩, ⟨atR HO_290⟩, ⟨atR HO_296⟩, ⟨atB HB⟩⟩
                             ·replace c97 := Bool.eq_false_iff.mpr c97
                              subst c97
                              rw [if_neg (show ¬ (false = true) by decide)] at H
                              exact absurd ((Option.some.inj H).trans HT.out) (by decide)
                           ·rw [if_neg c94] at H
                            exact absurd H (by simp)
                          ·rw [if_neg c93] at H
                           exact absurd H (by simp)
                         ·rw [if_neg c92] at H
                          have c92b0 : decide (x298_4 < (t946.length : Int)) = false := decide_eq_false c92
                          clear c92
                          have H' := Aside0.mk H
                          clear H
                          as_aux_lemma =>
                           go_wp2
                           go_roundg k4
                           case measure => have := HJ15.out; have := HK2.out; have := HK3.out; have := HK4.out; omega
                           case rel => exact ⟨(wrap64 (x292_3 + 1)), eqd, H', ⟨by have := HJ15.out; have := HK2.out; have := HK3.out; have := HK4.out; omega⟩, ⟨atR HO_6⟩, ⟨atR HO_15⟩, ⟨atR HO_19⟩, ⟨atR HO_290⟩, ⟨atB HB⟩⟩
                     ·rw [if_neg c91] at H
                      exact absurd H (by simp)
                    ·rw [if_neg c90] at H
                     exact absurd H (by simp)
                   ·rw [if_neg c89] at H
                    have c89b0 : decide (x292_3 < (t946.length : Int)) = false := decide_eq_false c89
                    clear c89
                    replace H := Option.bind_eq_some_iff.mp H
                    obtain ⟨⟨t971, t972⟩, A980, H⟩ := H
                    (try dsimp only at H)
                    have A98 := Aside0.mk A980
                    clear A980
                    replace H := Option.bind_eq_some_iff.mp H
                    obtain ⟨⟨t975, t976⟩, A990, H⟩ := H
                    (try dsimp only at H)
                    have A99 := Aside0.mk A990
                    clear A990
                    by_cases c100 : t972 = true
                    ·subst c100
                     rw [if_pos rfl] at H
                     by_cases c101 : t976 = true
                     ·subst c101
                      rw [if_pos rfl] at H
                      replace H := Option.bind_eq_some_iff.mp H
                      obtain ⟨t979, A1020, H⟩ := H
                      (try dsimp only at H)
                      have A102 := Aside0.mk A1020
                      clear A1020
                      by_cases c103 : t979 = true
                      ·subst c103
                       rw [if_pos rfl] at H
                       have H' := Aside0.mk H
                       clear H
                       as_aux_lemma =>
                        go_wp2_with (first | ((with_reducible refine gate_callee (f := 49) rfl ?_); refine goesA (some 317) Try.func49 #[.int .i64 t926, .slice Ao18 t927.length co18, .int .i64 (wrap64 (Int.tdiv t926 2))] ?_; (with_reducible refine (impl_MoveSet.calls k3 t926 _ _ t927 (wrap64 (Int.tdiv t926 2)) t971 true _ ?side1 ?side2 A98.out).mono ?_); (case side1 => exact atRC HO_6); (case side2 => exact (Kd.R_reads' HO_6.out).2.1); rintro e w104 ⟨v973, rfl, ho0, hb⟩; refine ⟨_, rfl, ?_⟩; have HO974 := lowR ho0 HB; replace HO_6 := upR HO_6 hb; replace HO_15 := upR HO_15 hb; replace HO_19 := upR HO_19 hb; replace HO_290 := upR HO_290 hb; replace HB := upB HB hb; (try clear hb); (try clear hb2); (try clear hk); (try clear hi); (try clear ho0); obtain ⟨Ao105, co105, eo105⟩ := Kd.R_slice HO974.out; subst eo105) | ((with_reducible refine gate_callee (f := 38) rfl ?_); refine goesA (some 323) Try.func38 #[.int .i64 t926, .slice Ao105 t971.length co105] ?_; (with_reducible refine (impl_DifferenceCounts.calls k3 t926 _ _ t971 t975 true _ ?side1 ?side2 A99.out).mono ?_); (case side1 => exact atRC HO974); (case side2 => exact (Kd.R_reads' HO974.out).2.1); rintro e w106 ⟨v977, rfl, ho0, hb⟩; refine ⟨_, rfl, ?_⟩; have HO978 := lowR ho0 HB; replace HO_6 := upR HO_6 hb; replace HO_15 := upR HO_15 hb; replace HO_19 := upR HO_19 hb; replace HO_290 := upR HO_290 hb; replace HO974 := upR HO974 hb; replace HB := upB HB hb; (try clear hb); (try clear hb2); (try clear hk); (try clear hi); (try clear ho0); obtain ⟨Ao107, co107, eo107⟩ := Kd.R_slice HO978.out; subst eo107) | (go_at_call 44; (with_reducible refine (laws_zSame.calls k3 _ _ t975 _ _ t938 true _ ?side1 ?side2 ?side3 ?side4 A102.out).mono ?_); (case side1 => exact atRC HO978); (case side2 => exact (Kd.R_reads' HO978.out).2.1); (case side3 => exact atRC HO_15); (case side4 => exact (Kd.R_reads' HO_15.out).2.1); rintro e w' ⟨rfl, ⟨nd, rfl⟩⟩))
                        go_meet
                        case rel => exact ⟨_, H', ⟨by have := HJ15.out; have := HK2.out; have := HK3.out; first | omega | exact Nat.le_refl _⟩, ⟨atR HO_6⟩, ⟨atB HB⟩⟩
                      ·replace c103 := Bool.eq_false_iff.mpr c103
                       subst c103
                       rw [if_neg (show ¬ (false = true) by decide)] at H
                       exact absurd ((Option.some.inj H).trans HT.out) (by decide)
                     ·replace c101 := Bool.eq_false_iff.mpr c101
                      subst c101
                      rw [if_neg (show ¬ (false = true) by decide)] at H
                      exact absurd ((Option.some.inj H).trans HT.out) (by decide)
                    ·replace c100 := Bool.eq_false_iff.mpr c100
                     subst c100
                     rw [if_neg (show ¬ (false = true) by decide)] at H
                     exact absurd ((Option.some.inj H).trans HT.out) (by decide)
               ·rw [if_neg c87] at H
                have c87b0 : ((rd t946 0) == 1) = false := beq_eq_false_iff_ne.mpr c87
                have c87b1 : ((rd t946 0) != 1) = true := bne_iff_ne.mpr c87
                exact absurd ((Option.some.inj H).trans HT.out) (by decide)
              ·rw [if_neg c86] at H
               exact absurd H (by simp)
           ·rw [if_neg c83] at H
            have c83b0 : (t966 == (wrap64 ((t927.length : Int) * (wrap64 ((t927.length : Int) - 1))))) = false := beq_eq_false_iff_ne.mpr c83
            have c83b1 : (t966 != (wrap64 ((t927.length : Int) * (wrap64 ((t927.length : Int) - 1))))) = true := bne_iff_ne.mpr c83
            exact absurd ((Option.some.inj H).trans HT.out) (by decide)
          ·rw [if_neg c81] at H
           have c81b0 : ((t938.length : Int) == t926) = false := beq_eq_false_iff_ne.mpr c81
           have c81b1 : ((t938.length : Int) != t926) = true := bne_iff_ne.mpr c81
           exact absurd ((Option.some.inj H).trans HT.out) (by decide)
     ·replace c63 := Bool.eq_false_iff.mpr c63
      subst c63
      rw [if_neg (show ¬ (false = true) by decide)] at H
      have H' := Aside0.mk H
      clear H
      as_aux_lemma =>
       go_wp2
       go_meet
       case rel => exact ⟨_, H', ⟨by have := HJ15.out; first | omega | exact Nat.le_refl _⟩, ⟨atR HO_6⟩, ⟨atB HB⟩⟩
    case rest =>
     rename_i z0_ z1_ z2_ z3_ z4_ z5_ z6_ z7_ z8_ z9_ z10_ z11_ z12_ z13_ z14_ z15_ z16_ z17_ z18_ z19_ z20_ z21_ z22_ z23_ z24_ z25_ z26_ z27_ z28_ z29_ z30_ z31_ z32_ z33_ z34_ z35_ z36_ z37_ z38_ z39_ z40_ z41_ z42_ z43_ z44_ z45_ z46_ z47_ z48_ z49_ z50_ z51_ z52_ z53_ z54_ z55_ z56_ z57_ z58_ z59_ z60_ z61_ z62_ z63_ z64_ z65_ z66_ z67_ z68_ z69_ z70_ z71_ z72_ z73_ z74_ z75_ z76_ z77_ z78_ z79_ z80_ z81_ z82_ z83_ z84_ z85_ z86_ z87_ z88_ z89_ z90_ z91_ z92_ z93_ z94_ z95_ z96_ z97_ z98_ z99_ z100_ z101_ z102_ z103_ z104_ z105_ z106_ z107_ z108_ z109_ z110_ z111_ z112_ z113_ z114_ z115_ z116_ z117_ z118_ z119_ z120_ z121_ z122_ z123_ z124_ z125_ z126_ z127_ z128_ z129_ z130_ z131_ z132_ z133_ z134_ z135_ z136_ z137_ z138_ z139_ z140_ z141_ z142_ z143_ z144_ z145_ z146_ z147_ z148_ z149_ z150_ z151_ z152_ z153_ z154_ z155_ z156_ z157_ z158_ z159_ z160_ z161_ z162_ z163_ z164_ z165_ z166_ z167_ z168_ z169_ z170_ z171_ z172_ z173_ z174_ z175_ z176_ z177_ z178_ z179_ z180_ z181_ z182_ z183_ z184_ z185_ z186_ z187_ z188_ z189_ z190_ z191_ z192_ z193_ z194_ z195_ z196_ z197_ z198_ z199_ z200_ z201_ z202_ z203_ z204_ z205_ z206_ z207_ z208_ z209_ z210_ z211_ z212_ z213_ z214_ z215_ z216_ z217_ z218_ z219_ z220_ z221_ z222_ z223_ z224_ z225_ z226_ z227_ z228_ z229_ z230_ z231_ z232_ z233_ z234_ z235_ z236_ z237_ z238_ z239_ z240_ z241_ z242_ z243_ z244_ z245_ z246_ z247_ z248_ z249_ z250_ z251_ z252_ z253_ z254_ z255_ z256_ z257_ z258_ z259_ z260_ z261_ z262_ z263_ z264_ z265_ z266_ z267_ z268_ z269_ z270_ z271_ z272_ z273_ z274_ z275_ z276_ z277_ z278_ z279_ z280_ z281_ z282_ z283_ z284_ z285_ z286_ z287_ z288_ z289_ z290_ z291_ z292_ z293_ z294_ z295_ z296_ z297_ z298_ z299_ z300_ z301_ z302_ z303_ z304_ z305_ z306_ z307_ z308_ z309_ z310_ z311_ z312_ z313_ z314_ z315_ z316_ z317_ z318_ z319_ z320_ z321_ z322_ z323_ z324_ z325_ z326_ z327_ z328_ z329_ z330_ z331_ z332_ z333_ z334_ z335_ z336_ z337_ z338_ z339_ z340_ z341_ z342_ z343_ z344_ z345_ z346_ z347_ z348_ z349_ z350_ z351_ z352_ z353_ z354_ z355_ z356_ z357_ z358_ z359_ z360_ z361_ z362_ z363_ z364_ z365_ z366_ z367_ z368_ z369_ z370_ z371_ z372_ z373_ z374_ z375_ z376_ z377_ z378_ z379_ z380_ z381_ z382_ z383_ z384_ z385_ z386_ z387_ z388_ z389_ z390_ z391_ z392_ z393_ z394_ z395_ z396_ z397_ z398_ z399_ z400_ z401_ z402_ z403_ z404_ z405_ z406_ z407_ z408_ z409_ z410_ z411_ z412_ z413_ z414_ z415_ z416_ z417_ z418_ z419_ z420_ z421_ z422_ z423_ z424_ z425_ z426_ z427_ z428_ z429_ z430_ z431_ z432_ z433_ z434_ z435_ z436_ z437_ z438_ z439_ z440_ z441_ z442_ z443_ z444_ z445_ z446_ z447_ z448_ z449_ z450_ z451_ z452_ z453_ z454_ z455_ z456_ z457_
     exact laws_FnCirclesDiffer.rest2 (k := k) (A0 := A0) (c0 := c0) (l0 := l0) (A1 := A1) (c1 := c1) (l1 := l1) (r := r) (w := w) (HR1 := HR1) (HC1 := HC1) (HT := HT) (t926 := t926) (t927 := t927) (t930 := t930) (t931 := t931) (t932 := t932) (t933 := t933) (t934 := t934) (t935 := t935) (t936 := t936) (t937 := t937) (t938 := t938) (t939 := t939) (t945 := t945) (t946 := t946) (t947 := t947) (t951 := t951) (t954 := t954) (t955 := t955) (t956 := t956) (t957 := t957) (Ao18 := Ao18) (co18 := co18) (v940 := v940) (v943 := v943) (v948 := v948) (v952 := v952) (z1_ := z1_) (HO_6 := HO_6) (HB := HB) (kj15 := kj15) (HJ15 := HJ15) (HC62 := HC62) (z456_ := z456_) (ez457_ := by rfl) (z457_ := z457_) (wc := wc) (u4 := u4) (u27 := u27) (u28 := u28) (u29 := u29) (u30 := u30) (u32 := u32) (u34 := u34) (u35 := u35) (u36 := u36) (u37 := u37) (u38 := u38) (u68 := u68) (u69 := u69) (u70 := u70) (u71 := u71) (u72 := u72) (u73 := u73) (u74 := u74) (u75 := u75) (u76 := u76) (u77 := u77) (u78 := u78) (u79 := u79) (u80 := u80) (u81 := u81) (u82 := u82) (u83 := u83) (u84 := u84) (u85 := u85) (u86 := u86) (u87 := u87) (u88 := u88) (u89 := u89) (u90 := u90) (u91 := u91) (u92 := u92) (u93 := u93) (u94 := u94) (u95 := u95) (u96 := u96) (u97 := u97) (u98 := u98) (u99 := u99) (u100 := u100) (u101 := u101) (u102 := u102) (u103 := u103) (u104 := u104) (u105 := u105) (u106 := u106) (u107 := u107) (u108 := u108) (u109 := u109) (u110 := u110) (u111 := u111) (u112 := u112) (u113 := u113) (u114 := u114) (u115 := u115) (u116 := u116) (u117 := u117) (u118 := u118) (u119 := u119) (u120 := u120) (u121 := u121) (u122 := u122) (u123 := u123) (u124 := u124) (u125 := u125) (u126 := u126) (u127 := u127) (u128 := u128) (u129 := u129) (u130 := u130) (u131 := u131) (u132 := u132) (u133 := u133) (u134 := u134) (u135 := u135) (u136 := u136) (u137 := u137) (u138 := u138) (u139 := u139) (u140 := u140) (u141 := u141) (u142 := u142) (u143 := u143) (u144 := u144) (u145 := u145) (u146 := u146) (u147 := u147) (u148 := u148) (u149 := u149) (u150 := u150) (u151 := u151) (u152 := u152) (u153 := u153) (u154 := u154) (u155 := u155) (u156 := u156) (u157 := u157) (u158 := u158) (u159 := u159) (u160 := u160) (u161 := u161) (u162 := u162) (u163 := u163) (u164 := u164) (u165 := u165) (u166 := u166) (u167 := u167) (u168 := u168) (u169 := u169) (u170 := u170) (u171 := u171) (u172 := u172) (u173 := u173) (u174 := u174) (u175 := u175) (u176 := u176) (u177 := u177) (u178 := u178) (u179 := u179) (u180 := u180) (u181 := u181) (u182 := u182) (u183 := u183) (u184 := u184) (u185 := u185) (u186 := u186) (u187 := u187) (u188 := u188) (u189 := u189) (u190 := u190) (u191 := u191) (u192 := u192) (u193 := u193) (u194 := u194) (u195 := u195) (u196 := u196) (u197 := u197) (u198 := u198) (u199 := u199) (u200 := u200) (u201 := u201) (u202 := u202) (u203 := u203) (u204 := u204) (u205 := u205) (u206 := u206) (u207 := u207) (u208 := u208) (u209 := u209) (u210 := u210) (u211 := u211) (u212 := u212) (u213 := u213) (u214 := u214) (u215 := u215) (u216 := u216) (u217 := u217) (u218 := u218) (u219 := u219) (u220 := u220) (u221 := u221) (u222 := u222) (u223 := u223) (u224 := u224) (u225 := u225) (u226 := u226) (u227 := u227) (u228 := u228) (u229 := u229) (u230 := u230) (u231 := u231) (u232 := u232) (u233 := u233) (u234 := u234) (u235 := u235) (u236 := u236) (u237 := u237) (u238 := u238) (u239 := u239) (u240 := u240) (u241 := u241) (u242 := u242) (u243 := u243) (u244 := u244) (u245 := u245) (u246 := u246) (u247 := u247) (u248 := u248) (u249 := u249) (u250 := u250) (u251 := u251) (u252 := u252) (u253 := u253) (u254 := u254) (u255 := u255) (u256 := u256) (u257 := u257) (u258 := u258) (u259 := u259) (u260 := u260) (u261 := u261) (u262 := u262) (u263 := u263) (u264 := u264) (u265 := u265) (u266 := u266) (u267 := u267) (u268 := u268) (u269 := u269) (u270 := u270) (u271 := u271) (u272 := u272) (u273 := u273) (u274 := u274) (u275 := u275) (u276 := u276) (u277 := u277) (u278 := u278) (u279 := u279) (u280 := u280) (u281 := u281) (u282 := u282) (u283 := u283) (u284 := u284) (u285 := u285) (u286 := u286) (u287 := u287) (u288 := u288) (u289 := u289) (u290 := u290) (u291 := u291) (u292 := u292) (u293 := u293) (u294 := u294) (u295 := u295) (u296 := u296) (u297 := u297) (u298 := u298) (u299 := u299) (u300 := u300) (u301 := u301) (u302 := u302) (u303 := u303) (u304 := u304) (u305 := u305) (u306 := u306) (u307 := u307) (u308 := u308) (u309 := u309) (u310 := u310) (u311 := u311) (u312 := u312) (u313 := u313) (u314 := u314) (u315 := u315) (u316 := u316) (u317 := u317) (u318 := u318) (u319 := u319) (u320 := u320) (u321 := u321) (u322 := u322) (u323 := u323) (u324 := u324) (u325 := u325) (u326 := u326) (u327 := u327) (u328 := u328) (u329 := u329) (u330 := u330) (u331 := u331) (u332 := u332) (u333 := u333) (u334 := u334) (u335 := u335) (u336 := u336) (u337 := u337) (u338 := u338) (u339 := u339) (u340 := u340) (u341 := u341) (u342 := u342) (u343 := u343) (u344 := u344) (u345 := u345) (u346 := u346) (u347 := u347) (u348 := u348) (u349 := u349) (u350 := u350) (u351 := u351) (u352 := u352) (u353 := u353) (u354 := u354) (u355 := u355) (u356 := u356) (u357 := u357) (u358 := u358) (u359 := u359) (u360 := u360) (u361 := u361) (u362 := u362) (u363 := u363) (u364 := u364) (u365 := u365) (u366 := u366) (u367 := u367) (u368 := u368) (u369 := u369) (u370 := u370) (u371 := u371) (u372 := u372) (u373 := u373) (u374 := u374) (u375 := u375) (u376 := u376) (u377 := u377) (u378 := u378) (u379 := u379) (u380 := u380) (u381 := u381) (u382 := u382) (u383 := u383) (u384 := u384) (u385 := u385) (u386 := u386) (u387 := u387) (u388 := u388) (u389 := u389) (u390 := u390) (u391 := u391) (u392 := u392) (u393 := u393) (u394 := u394) (u395 := u395) (u396 := u396) (u397 := u397) (u398 := u398) (u399 := u399) (u400 := u400) (u401 := u401) (u402 := u402) (u403 := u403) (u404 := u404) (u405 := u405) (u406 := u406) (u407 := u407) (u408 := u408) (u409 := u409) (u410 := u410) (u411 := u411) (u412 := u412) (u413 := u413) (u414 := u414) (u415 := u415) (u416 := u416) (u417 := u417) (u418 := u418) (u419 := u419) (u420 := u420) (u421 := u421) (u422 := u422) (u423 := u423) (u424 := u424) (u425 := u425) (u426 := u426) (u427 := u427) (u428 := u428) (u429 := u429) (u430 := u430) (u431 := u431) (u432 := u432) (u433 := u433) (u434 := u434) (u435 := u435) (u436 := u436) (u437 := u437) (u438 := u438) (u439 := u439) (u440 := u440) (u441 := u441) (u442 := u442) (u443 := u443) (u444 := u444) (u445 := u445) (u446 := u446) (u447 := u447) (u448 := u448) (u449 := u449) (u450 := u450) (u451 := u451) (u452 := u452) (u453 := u453) (u454 := u454) (u455 := u455) (u456 := u456) (u457 := u457) (u458 := u458) (u459 := u459) (u460 := u460) (u461 := u461) (u462 := u462) (u463 := u463) (u464 := u464) (u465 := u465) (u466 := u466) (u467 := u467) (u468 := u468) (u469 := u469) (u470 := u470) (u471 := u471) (u472 := u472) (u473 := u473) (u474 := u474) (u475 := u475) (u476 := u476) (u477 := u477) (u478 := u478) (u479 := u479) (u480 := u480) (u481 := u481) (u482 := u482) (u483 := u483) (u484 := u484) (u485 := u485) (u486 := u486) (u487 := u487) (u488 := u488) (u489 := u489) (u490 := u490) (u491 := u491) (u492 := u492) (u493 := u493) (u494 := u494) (u495 := u495) (u496 := u496) (u497 := u497) (u498 := u498) (u499 := u499) (u500 := u500) (u501 := u501) (u502 := u502) (u503 := u503) (u504 := u504) (u505 := u505) (u506 := u506) (u507 := u507) (u508 := u508) (u509 := u509) (u510 := u510) (u511 := u511) (u512 := u512) (u513 := u513) (u514 := u514) (u515 := u515) (u516 := u516) (u517 := u517) (u518 := u518) (u519 := u519) (u520 := u520) (u521 := u521) (u522 := u522) (u523 := u523) (u524 := u524) (u525 := u525) (u526 := u526) (u527 := u527) (u528 := u528) (u529 := u529) (hcut := hcut)
end Go.Proofs.Ytofjndbpndpjjaa.Fn
