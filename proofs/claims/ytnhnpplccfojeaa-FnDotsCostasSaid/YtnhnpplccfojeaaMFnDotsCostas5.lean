/- The machine's side and plain lemmas for FnDotsCostas: texts of this session, merged by its program (part 5). -/
import Derived.Test.YtnhnpplccfojeaaMFnDotsCostas0
import Derived.Test.YtnhnpplccfojeaaMFnDotsCostas1
import Derived.Test.YtnhnpplccfojeaaMFnDotsCostas2
import Derived.Test.YtnhnpplccfojeaaMFnDotsCostas3
import Derived.Test.YtnhnpplccfojeaaMFnDotsCostas4
namespace Go.Proofs.Ytnhnpplccfojeaa.Fn
open Go.RowKit Go.Proofs.YtnhnpplccfojeaaW.PrintWords Go.Proofs.YtnhnpplccfojeaaW.PrintLast Go.Proofs.YtnhnpplccfojeaaW.PrintMore
attribute [local go_sem] max2_int min2_int max_two min_two max_three min_three max_four min_four   -- for this text's walks alone
set_option linter.unusedVariables false
set_option linter.unusedSimpArgs false
set_option maxHeartbeats 80000000 in
set_option maxRecDepth 100000 in
theorem laws_FnDotsCostas.rest3 (k : Nat) (A0 : Option Addr) (c0 : Nat) (l0 : List Int) (A1 : Option Addr) (c1 : Nat) (l1 : List Int) (r : Bool) (w : World) (HR1 : Aside0 ((Kd.int IntKind.u8).C w A1 l1.length l1)) (HC1 : Aside0 (l1.length ≤ c1)) (HT : Aside0 (r = true)) (t1045 : List Int) (t1048 t1049 t1050 t1051 : Bool) (t1052 t1053 t1054 : Int) (t1055 : Bool) (t1056 t1057 t1058 : Int) (t1059 : Bool) (Ao12 : Option Addr) (co12 kj9 : Nat) (HJ9 : Aside0 (kj9 + (1 : Nat) ≤ k)) (z3_2 : World) (u18 u19 : Value) (HB : Aside0 (Below w.heap.size w z3_2)) (kj29 : Nat) (HJ29 : Aside0 (kj29 + (1 : Nat) ≤ kj9)) (HC43 : Aside0 ((if t1049 = true then laws_FnDotsCostas.l0 kj29 l1 t1045 t1048 (0 : Int) (1 : Int) else laws_FnDotsCostas.j5 kj29 l1) = some r)) (z3_442 : Act → World → Prop) {Cz3_443 : Code} (ez3_443 : codeAt [1, 1, 1, 1, 1, 1, 1, 1, 1, 1] (bodyAt Try.f5) = Cz3_443) (z3_443 : ∀ (a_ : Act) (w_ : World), Code.wp Try.prog Cz3_443 (bodyPost Try.prog Try.f5 fun e w' => e = Ending.returned (Value.bool r) ∧ Below w.heap.size w w') a_ w_ → z3_442 a_ w_) (wc : World) (u4 u20 u21 u22 u23 u24 u25 u26 u27 u28 u29 u31 u72 u73 u74 u75 u76 u77 u78 u79 u80 u81 u82 u83 u84 u85 u86 u87 u88 u89 u90 u91 u92 u93 u94 u95 u96 u97 u98 u99 u100 u101 u102 u103 u104 u105 u106 u107 u108 u109 u110 u111 u112 u113 u114 u115 u116 u117 u118 u119 u120 u121 u122 u123 u124 u125 u126 u127 u128 u129 u130 u131 u132 u133 u134 u135 u136 u137 u138 u139 u140 u141 u142 u143 u144 u145 u146 u147 u148 u149 u150 u151 u152 u153 u154 u155 u156 u157 u158 u159 u160 u161 u162 u163 u164 u165 u166 u167 u168 u169 u170 u171 u172 u173 u174 u175 u176 u177 u178 u179 u180 u181 u182 u183 u184 u185 u186 u187 u188 u189 u190 u191 u192 u193 u194 u195 u196 u197 u198 u199 u200 u201 u202 u203 u204 u205 u206 u207 u208 u209 u210 u211 u212 u213 u214 u215 u216 u217 u218 u219 u220 u221 u222 u223 u224 u225 u226 u227 u228 u229 u230 u231 u232 u233 u234 u235 u236 u237 u238 u239 u240 u241 u242 u243 u244 u245 u246 u247 u248 u249 u250 u251 u252 u253 u254 u255 u256 u257 u258 u259 u260 u261 u262 u263 u264 u265 u266 u267 u268 u269 u270 u271 u272 u273 u274 u275 u276 u277 u278 u279 u280 u281 u282 u283 u284 u285 u286 u287 u288 u289 u290 u291 u292 u293 u294 u295 u296 u297 u298 u299 u300 u301 u302 u303 u304 u305 u306 u307 u308 u309 u310 u311 u312 u313 u314 u315 u316 u317 u318 u319 u320 u321 u322 u323 u324 u325 u326 u327 u328 u329 u330 u331 u332 u333 u334 u335 u336 u337 u338 u339 u340 u341 u342 u343 u344 u345 u346 u347 u348 u349 u350 u351 u352 u353 u354 u355 u356 u357 u358 u359 u360 u361 u362 u363 u364 u365 u366 u367 u368 u369 u370 u371 u372 u373 u374 u375 u376 u377 u378 u379 u380 u381 u382 u383 u384 u385 u386 u387 u391 u392 u393 u394 u395 u396 u397 u398 u399 u400 u401 u402 u403 u404 u405 u406 u407 u408 u409 u410 u411 u412 u413 u414 u415 u416 u417 u418 u419 u420 u421 u422 u423 u424 u425 u426 u427 u428 u429 u430 u431 u432 u433 u434 u435 u436 u437 u438 u439 u440 u441 u442 u443 u444 u445 u446 u447 u448 u449 u450 u451 u452 u453 u454 u455 u456 u457 u458 u459 u460 u461 u462 u463 u464 u465 u466 u467 u468 u469 u470 u471 u472 u473 u474 u475 u476 u477 u478 u479 u480 u481 u482 u483 u484 u485 u486 u487 u488 u489 u490 u491 u492 u493 u494 u495 u496 u497 u498 u499 u500 u501 u502 u503 u504 u505 u506 u507 u508 u509 u510 u511 u512 u513 u514 : Value) (hcut : ∃ kq, Aside0 (laws_FnDotsCostas.j5 kq l1 = some r) ∧ Aside0 (kq ≤ kj29) ∧ Aside0 (Below w.heap.size w wc)) : z3_442 { tmps := #[Value.slice A0 l0.length c0, Value.slice A1 l1.length c1, Go.undef, Go.undef, u4, Value.slice Ao12 t1045.length co12, Value.bool t1048, Value.bool t1049, Value.bool t1050, Value.bool t1051, Value.int IntKind.i64 t1052, Value.int IntKind.i64 t1053, Value.int IntKind.i64 t1054, Value.bool t1055, Value.int IntKind.i64 t1056, Value.int IntKind.i64 t1057, Value.int IntKind.i64 t1058, Value.bool t1059, u18, u19, u20, u21, u22, u23, u24, u25, u26, u27, u28, u29, Go.undef, u31, Go.undef, Go.undef, Go.undef, Go.undef, Go.undef, Go.undef, Go.undef, Go.undef, Go.undef, Go.undef, Go.undef, Go.undef, Go.undef, Go.undef, Go.undef, Go.undef, Go.undef, Go.undef, Go.undef, Go.undef, Go.undef, Go.undef, Go.undef, Go.undef, Go.undef, Go.undef, Go.undef, Go.undef, Go.undef, Go.undef, Go.undef, Go.undef, Go.undef, Go.undef, Go.undef, Go.undef, Go.undef, Go.undef, Go.undef, Go.undef, u72, u73, u74, u75, u76, u77, u78, u79, u80, u81, u82, u83, u84, u85, u86, u87, u88, u89, u90, u91, u92, u93, u94, u95, u96, u97, u98, u99, u100, u101, u102, u103, u104, u105, u106, u107, u108, u109, u110, u111, u112, u113, u114, u115, u116, u117, u118, u119, u120, u121, u122, u123, u124, u125, u126, u127, u128, u129, u130, u131, u132, u133, u134, u135, u136, u137, u138, u139, u140, u141, u142, u143, u144, u145, u146, u147, u148, u149, u150, u151, u152, u153, u154, u155, u156, u157, u158, u159, u160, u161, u162, u163, u164, u165, u166, u167, u168, u169, u170, u171, u172, u173, u174, u175, u176, u177, u178, u179, u180, u181, u182, u183, u184, u185, u186, u187, u188, u189, u190, u191, u192, u193, u194, u195, u196, u197, u198, u199, u200, u201, u202, u203, u204, u205, u206, u207, u208, u209, u210, u211, u212, u213, u214, u215, u216, u217, u218, u219, u220, u221, u222, u223, u224, u225, u226, u227, u228, u229, u230, u231, u232, u233, u234, u235, u236, u237, u238, u239, u240, u241, u242, u243, u244, u245, u246, u247, u248, u249, u250, u251, u252, u253, u254, u255, u256, u257, u258, u259, u260, u261, u262, u263, u264, u265, u266, u267, u268, u269, u270, u271, u272, u273, u274, u275, u276, u277, u278, u279, u280, u281, u282, u283, u284, u285, u286, u287, u288, u289, u290, u291, u292, u293, u294, u295, u296, u297, u298, u299, u300, u301, u302, u303, u304, u305, u306, u307, u308, u309, u310, u311, u312, u313, u314, u315, u316, u317, u318, u319, u320, u321, u322, u323, u324, u325, u326, u327, u328, u329, u330, u331, u332, u333, u334, u335, u336, u337, u338, u339, u340, u341, u342, u343, u344, u345, u346, u347, u348, u349, u350, u351, u352, u353, u354, u355, u356, u357, u358, u359, u360, u361, u362, u363, u364, u365, u366, u367, u368, u369, u370, u371, u372, u373, u374, u375, u376, u377, u378, u379, u380, u381, u382, u383, u384, u385, u386, u387, Go.undef, Go.undef, Go.undef, u391, u392, u393, u394, u395, u396, u397, u398, u399, u400, u401, u402, u403, u404, u405, u406, u407, u408, u409, u410, u411, u412, u413, u414, u415, u416, u417, u418, u419, u420, u421, u422, u423, u424, u425, u426, u427, u428, u429, u430, u431, u432, u433, u434, u435, u436, u437, u438, u439, u440, u441, u442, u443, u444, u445, u446, u447, u448, u449, u450, u451, u452, u453, u454, u455, u456, u457, u458, u459, u460, u461, u462, u463, u464, u465, u466, u467, u468, u469, u470, u471, u472, u473, u474, u475, u476, u477, u478, u479, u480, u481, u482, u483, u484, u485, u486, u487, u488, u489, u490, u491, u492, u493, u494, u495, u496, u497, u498, u499, u500, u501, u502, u503, u504, u505, u506, u507, u508, u509, u510, u511, u512, u513, u514], defers := [] } wc := by
  conv at ez3_443 => (lhs; whnf)
  subst ez3_443
  clear HC43
  try clear c1
  try clear p1
  try clear q1
  try clear hx1
  try clear c2
  try clear p2
  try clear c3
  try clear c4
  try clear c5
  try clear c6
  try clear p6
  try clear q6
  try clear c7
  try clear p10
  try clear q10
  try clear hx10
  try clear c17
  try clear c17b0
  try clear c17b1
  try clear c17b2
  try clear c18
  try clear c18b0
  try clear c18b1
  try clear c18b2
  try clear c19
  try clear c19b0
  try clear c19b1
  try clear c19b2
  try clear c20
  try clear c20b0
  try clear c20b1
  try clear c21
  try clear c21b0
  try clear c21b1
  try clear c22
  try clear c22b0
  try clear c22b1
  try clear c24
  try clear c24b0
  try clear c24b1
  try clear c24b2
  try clear c27
  try clear c27b0
  try clear c27b1
  try clear c27b2
  try clear c28
  try clear c29
  try clear c31
  try clear c33
  try clear c34
  try clear c34b0
  try clear c35
  try clear c35b0
  try clear c36
  try clear c36b0
  try clear c37
  try clear c37b0
  try clear c38
  try clear c38b0
  try clear c39
  try clear c39b0
  try clear c40
  try clear c40b0
  try clear c40b1
  try clear c44
  try clear c45
  try clear c45b0
  try clear c47
  try clear c48
  try clear c48b0
  try clear c48b1
  try clear c50
  try clear c50b0
  try clear c50b1
  try clear c51
  try clear c51b0
  try clear c51b1
  try clear c54
  try clear c54b0
  try clear c54b1
  try clear c55
  try clear c55b0
  try clear c55b1
  try clear c57
  try clear c57b0
  try clear c57b1
  try clear c60
  try clear q60
  try clear q61
  try clear c62
  try clear c62b0
  try clear p64
  try clear c65
  try clear c65b0
  try clear c66
  try clear c66b0
  try clear c67
  try clear c67b0
  try clear c68
  try clear c68b0
  try clear c68b1
  try clear c69
  try clear c70
  try clear c70b0
  try clear c70b1
  try clear c71
  try clear c72
  try clear c72b0
  try clear c72b1
  try clear c73
  try clear c73b0
  try clear c74
  try clear c74b0
  try clear c74b1
  try clear c74b2
  try clear hx1067_0
  try clear hx1068_0
  try clear hx1090_0
  try clear p1
  try clear p10
  try clear p1067
  try clear p1068
  try clear p1090
  try clear p2
  try clear p6
  try clear p64
  try clear q060
  try clear q1
  try clear q10
  try clear q1067
  try clear q1068
  try clear q1090
  try clear q6
  try clear q60
  try clear q61
  obtain ⟨kq, HA, HJ42, HB⟩ := hcut
  cases kq with
  | zero => exact absurd HA.out (by simp [laws_FnDotsCostas.j5])
  | succ kj42 =>
   have H := HA.out
   clear HA
   simp only [laws_FnDotsCostas.j5] at H
   replace H := Option.bind_eq_some_iff.mp H
   obtain ⟨t1091, A750, H⟩ := H
   (try dsimp only at H)
   have A75 := Aside0.mk A750
   clear A750
   replace H := Option.bind_eq_some_iff.mp H
   obtain ⟨⟨t1092, t1093⟩, A760, H⟩ := H
   (try dsimp only at H)
   have A76 := Aside0.mk A760
   clear A760
   replace H := Option.bind_eq_some_iff.mp H
   obtain ⟨⟨t1096, t1099⟩, A770, H⟩ := H
   (try dsimp only at H)
   have A77 := Aside0.mk A770
   clear A770
   replace H := Option.bind_eq_some_iff.mp H
   obtain ⟨⟨t1100, t1101⟩, A780, H⟩ := H
   (try dsimp only at H)
   have A78 := Aside0.mk A780
   clear A780
   replace H := Option.bind_eq_some_iff.mp H
   obtain ⟨⟨t1102, t1103⟩, A790, H⟩ := H
   (try dsimp only at H)
   have A79 := Aside0.mk A790
   clear A790
   replace H := Option.bind_eq_some_iff.mp H
   obtain ⟨⟨t1104, t1105⟩, A800, H⟩ := H
   (try dsimp only at H)
   have A80 := Aside0.mk A800
   clear A800
   replace H := Option.bind_eq_some_iff.mp H
   obtain ⟨⟨t1106, t1107⟩, A810, H⟩ := H
   (try dsimp only at H)
   have A81 := Aside0.mk A810
   clear A810
   by_cases c82 : (t1093 != t1099) = true
   ·rw [if_pos c82] at H
    have c82b0 : (t1093 != t1099) = true := c82
    (try (have c82b1 : decide (t1093 = t1099) = false := by simpa using c82))
    (try (have c82b2 : (t1093 == t1099) = false := by simpa using c82))
    (try (have c82b3 : ¬ (t1093 = t1099) := by simpa using c82))
    clear c82
    exact absurd ((Option.some.inj H).trans HT.out) (by decide)
   ·rw [if_neg c82] at H
    have c82b0 : (t1093 != t1099) = false := by simpa using c82
    (try (have c82b1 : decide (t1093 = t1099) = true := by simpa using c82))
    (try (have c82b2 : (t1093 == t1099) = true := by simpa using c82))
    clear c82
    replace H := Option.bind_eq_some_iff.mp H
    obtain ⟨t1108, A830, H⟩ := H
    (try dsimp only at H)
    have A83 := Aside0.mk A830
    clear A830
    by_cases c84 : t1108 = true
    ·subst c84
     rw [if_pos rfl] at H
     by_cases c85 : (t1101 != t1103) = true
     ·rw [if_pos c85] at H
      have c85b0 : (t1101 != t1103) = true := c85
      (try (have c85b1 : decide (t1101 = t1103) = false := by simpa using c85))
      (try (have c85b2 : (t1101 == t1103) = false := by simpa using c85))
      (try (have c85b3 : ¬ (t1101 = t1103) := by simpa using c85))
      clear c85
      exact absurd ((Option.some.inj H).trans HT.out) (by decide)
     ·rw [if_neg c85] at H
      have c85b0 : (t1101 != t1103) = false := by simpa using c85
      (try (have c85b1 : decide (t1101 = t1103) = true := by simpa using c85))
      (try (have c85b2 : (t1101 == t1103) = true := by simpa using c85))
      clear c85
      by_cases c86 : t1100 = t1102
      ·rw [if_pos c86] at H
       have c86b0 : (t1100 == t1102) = true := beq_iff_eq.mpr c86
       have c86b1 : (t1100 != t1102) = false := bne_eq_false_iff_eq.mpr c86
       clear c86
       by_cases c87 : (t1105 != t1107) = true
       ·rw [if_pos c87] at H
        have c87b0 : (t1105 != t1107) = true := c87
        (try (have c87b1 : decide (t1105 = t1107) = false := by simpa using c87))
        (try (have c87b2 : (t1105 == t1107) = false := by simpa using c87))
        (try (have c87b3 : ¬ (t1105 = t1107) := by simpa using c87))
        clear c87
        exact absurd ((Option.some.inj H).trans HT.out) (by decide)
       ·rw [if_neg c87] at H
        have c87b0 : (t1105 != t1107) = false := by simpa using c87
        (try (have c87b1 : decide (t1105 = t1107) = true := by simpa using c87))
        (try (have c87b2 : (t1105 == t1107) = true := by simpa using c87))
        clear c87
        by_cases c88 : t1104 = t1106
        ·rw [if_pos c88] at H
         have c88b0 : (t1104 == t1106) = true := beq_iff_eq.mpr c88
         have c88b1 : (t1104 != t1106) = false := bne_eq_false_iff_eq.mpr c88
         clear c88
         by_cases c89 : (t1101 != t1093) = true
         ·rw [if_pos c89] at H
          have c89b0 : (t1101 != t1093) = true := c89
          (try (have c89b1 : decide (t1101 = t1093) = false := by simpa using c89))
          (try (have c89b2 : (t1101 == t1093) = false := by simpa using c89))
          (try (have c89b3 : ¬ (t1101 = t1093) := by simpa using c89))
          clear c89
          exact absurd ((Option.some.inj H).trans HT.out) (by decide)
         ·rw [if_neg c89] at H
          have c89b0 : (t1101 != t1093) = false := by simpa using c89
          (try (have c89b1 : decide (t1101 = t1093) = true := by simpa using c89))
          (try (have c89b2 : (t1101 == t1093) = true := by simpa using c89))
          clear c89
          by_cases c90 : (t1105 != t1093) = true
          ·rw [if_pos c90] at H
           have c90b0 : (t1105 != t1093) = true := c90
           (try (have c90b1 : decide (t1105 = t1093) = false := by simpa using c90))
           (try (have c90b2 : (t1105 == t1093) = false := by simpa using c90))
           (try (have c90b3 : ¬ (t1105 = t1093) := by simpa using c90))
           clear c90
           exact absurd ((Option.some.inj H).trans HT.out) (by decide)
          ·rw [if_neg c90] at H
           have c90b0 : (t1105 != t1093) = false := by simpa using c90
           (try (have c90b1 : decide (t1105 = t1093) = true := by simpa using c90))
           (try (have c90b2 : (t1105 == t1093) = true := by simpa using c90))
           clear c90
           have HC91 := Aside0.mk H
           clear H
           go_upto_if 355 with (first | (go_at_call 63; (with_reducible refine (spec_DrawAllCostas.calls _ _ l1 t1091 _ ?side1 ?side2 A75.out).mono ?_); (case side1 => repeat (first | exact (Kd.C_below HR1.out HB.out) | (with_reducible refine Kd.C_alloc ?_ _) | (with_reducible refine Kd.C_drewN ?_ _) | (with_reducible refine Kd.C_drew ?_))); (case side2 => exact HC1.out); rintro e w92 ⟨rfl, hb⟩; replace HB := upB HB hb; (try clear hb); (try clear hb2); (try clear hk); (try clear hi)) | (go_at_call 64; (with_reducible refine (impl_AllCostas.calls kj42 t1091 t1092 t1093 _ A76.out).mono ?_); rintro e w93 ⟨v1094, rfl, ho0, hb⟩; have HO1095 := Aside0.mk (Kd.N_lower (Kd.N_mono (ok' := fun k_ => True) (Kd.S_N (Kd.S_bound ho0)) (fun k_ hk_ => trivial)) (szB HB)); replace HB := upB HB hb; (try clear hb); (try clear hb2); (try clear hk); (try clear hi); (try clear ho0)) | (go_at_call 65; (with_reducible refine (spec_AllCostas.calls kj42 t1091 t1096 t1099 _ A77.out).mono ?_); rintro e w94 ⟨v1097, rfl, ho0, hb⟩; have HO1098 := Aside0.mk (Kd.N_lower (Kd.N_mono (ok' := fun k_ => True) ho0 (fun k_ hk_ => trivial)) (szB HB)); replace HO1095 := Aside0.mk (Kd.N_below (by (with_reducible repeat (first | apply Kd.N_alloc | apply Kd.N_drewN | apply Kd.N_drew)); exact HO1095.out) hb); replace HB := upB HB hb; (try clear hb); (try clear hb2); (try clear hk); (try clear hi); (try clear ho0)) | (go_at_call 66; (with_reducible refine (impl_CountCostas.calls kj42 t1091 t1100 t1101 _ A78.out).mono ?_); rintro e w95 ⟨rfl, hb⟩; replace HO1095 := Aside0.mk (Kd.N_below (by (with_reducible repeat (first | apply Kd.N_alloc | apply Kd.N_drewN | apply Kd.N_drew)); exact HO1095.out) hb); replace HO1098 := Aside0.mk (Kd.N_below (by (with_reducible repeat (first | apply Kd.N_alloc | apply Kd.N_drewN | apply Kd.N_drew)); exact HO1098.out) hb); replace HB := upB HB hb; (try clear hb); (try clear hb2); (try clear hk); (try clear hi)) | (go_at_call 67; (with_reducible refine (spec_CountCostas.calls kj42 t1091 t1102 t1103 _ A79.out).mono ?_); rintro e w96 ⟨rfl, hb⟩; replace HO1095 := Aside0.mk (Kd.N_below (by (with_reducible repeat (first | apply Kd.N_alloc | apply Kd.N_drewN | apply Kd.N_drew)); exact HO1095.out) hb); replace HO1098 := Aside0.mk (Kd.N_below (by (with_reducible repeat (first | apply Kd.N_alloc | apply Kd.N_drewN | apply Kd.N_drew)); exact HO1098.out) hb); replace HB := upB HB hb; (try clear hb); (try clear hb2); (try clear hk); (try clear hi)) | (go_at_call 68; (with_reducible refine (impl_CountClasses.calls kj42 t1091 t1104 t1105 _ A80.out).mono ?_); rintro e w97 ⟨rfl, hb⟩; replace HO1095 := Aside0.mk (Kd.N_below (by (with_reducible repeat (first | apply Kd.N_alloc | apply Kd.N_drewN | apply Kd.N_drew)); exact HO1095.out) hb); replace HO1098 := Aside0.mk (Kd.N_below (by (with_reducible repeat (first | apply Kd.N_alloc | apply Kd.N_drewN | apply Kd.N_drew)); exact HO1098.out) hb); replace HB := upB HB hb; (try clear hb); (try clear hb2); (try clear hk); (try clear hi)) | (go_at_call 69; (with_reducible refine (spec_CountClasses.calls kj42 t1091 t1106 t1107 _ A81.out).mono ?_); rintro e w98 ⟨rfl, hb⟩; replace HO1095 := Aside0.mk (Kd.N_below (by (with_reducible repeat (first | apply Kd.N_alloc | apply Kd.N_drewN | apply Kd.N_drew)); exact HO1095.out) hb); replace HO1098 := Aside0.mk (Kd.N_below (by (with_reducible repeat (first | apply Kd.N_alloc | apply Kd.N_drewN | apply Kd.N_drew)); exact HO1098.out) hb); replace HB := upB HB hb; (try clear hb); (try clear hb2); (try clear hk); (try clear hi); obtain ⟨Ao99, co99, eo99⟩ := Kd.N_slice HO1095.out; subst eo99; obtain ⟨Ao100, co100, eo100⟩ := Kd.N_slice HO1098.out; subst eo100) | (go_at_call 70; (with_reducible refine (laws_zRows.calls kj42 _ _ t1092 _ _ t1096 true _ ?side1 ?side2 ?side3 ?side4 A83.out).mono ?_); (case side1 => repeat (first | exact (Kd.N_reads' HO1095.out).2.2 | (with_reducible refine Kd.C_alloc ?_ _) | (with_reducible refine Kd.C_drewN ?_ _) | (with_reducible refine Kd.C_drew ?_))); (case side2 => exact (Kd.N_reads' HO1095.out).2.1); (case side3 => repeat (first | exact (Kd.N_reads' HO1098.out).2.2 | (with_reducible refine Kd.C_alloc ?_ _) | (with_reducible refine Kd.C_drewN ?_ _) | (with_reducible refine Kd.C_drew ?_))); (case side4 => exact (Kd.N_reads' HO1098.out).2.1); rintro e w' ⟨rfl, ⟨nd, rfl⟩⟩; (try first | exact ⟨rfl, _, World.drewN_drewN _ _ _⟩ | exact ⟨rfl, _, Eq.trans (World.drewN_drewN _ _ _) (congrArg (World.drewN _) (Nat.add_assoc _ _ _))⟩)))
           repeat (go_quiet (first | (go_at_call 63; (with_reducible refine (spec_DrawAllCostas.calls _ _ l1 t1091 _ ?side1 ?side2 A75.out).mono ?_); (case side1 => repeat (first | exact (Kd.C_below HR1.out HB.out) | (with_reducible refine Kd.C_alloc ?_ _) | (with_reducible refine Kd.C_drewN ?_ _) | (with_reducible refine Kd.C_drew ?_))); (case side2 => exact HC1.out); rintro e w92 ⟨rfl, hb⟩; replace HB := upB HB hb; (try clear hb); (try clear hb2); (try clear hk); (try clear hi)) | (go_at_call 64; (with_reducible refine (impl_AllCostas.calls kj42 t1091 t1092 t1093 _ A76.out).mono ?_); rintro e w93 ⟨v1094, rfl, ho0, hb⟩; have HO1095 := Aside0.mk (Kd.N_lower (Kd.N_mono (ok' := fun k_ => True) (Kd.S_N (Kd.S_bound ho0)) (fun k_ hk_ => trivial)) (szB HB)); replace HB := upB HB hb; (try clear hb); (try clear hb2); (try clear hk); (try clear hi); (try clear ho0)) | (go_at_call 65; (with_reducible refine (spec_AllCostas.calls kj42 t1091 t1096 t1099 _ A77.out).mono ?_); rintro e w94 ⟨v1097, rfl, ho0, hb⟩; have HO1098 := Aside0.mk (Kd.N_lower (Kd.N_mono (ok' := fun k_ => True) ho0 (fun k_ hk_ => trivial)) (szB HB)); replace HO1095 := Aside0.mk (Kd.N_below (by (with_reducible repeat (first | apply Kd.N_alloc | apply Kd.N_drewN | apply Kd.N_drew)); exact HO1095.out) hb); replace HB := upB HB hb; (try clear hb); (try clear hb2); (try clear hk); (try clear hi); (try clear ho0)) | (go_at_call 66; (with_reducible refine (impl_CountCostas.calls kj42 t1091 t1100 t1101 _ A78.out).mono ?_); rintro e w95 ⟨rfl, hb⟩; replace HO1095 := Aside0.mk (Kd.N_below (by (with_reducible repeat (first | apply Kd.N_alloc | apply Kd.N_drewN | apply Kd.N_drew)); exact HO1095.out) hb); replace HO1098 := Aside0.mk (Kd.N_below (by (with_reducible repeat (first | apply Kd.N_alloc | apply Kd.N_drewN | apply Kd.N_drew)); exact HO1098.out) hb); replace HB := upB HB hb; (try clear hb); (try clear hb2); (try clear hk); (try clear hi)) | (go_at_call 67; (with_reducible refine (spec_CountCostas.calls kj42 t1091 t1102 t1103 _ A79.out).mono ?_); rintro e w96 ⟨rfl, hb⟩; replace HO1095 := Aside0.mk (Kd.N_below (by (with_reducible repeat (first | apply Kd.N_alloc | apply Kd.N_drewN | apply Kd.N_drew)); exact HO1095.out) hb); replace HO1098 := Aside0.mk (Kd.N_below (by (with_reducible repeat (first | apply Kd.N_alloc | apply Kd.N_drewN | apply Kd.N_drew)); exact HO1098.out) hb); replace HB := upB HB hb; (try clear hb); (try clear hb2); (try clear hk); (try clear hi)) | (go_at_call 68; (with_reducible refine (impl_CountClasses.calls kj42 t1091 t1104 t1105 _ A80.out).mono ?_); rintro e w97 ⟨rfl, hb⟩; replace HO1095 := Aside0.mk (Kd.N_below (by (with_reducible repeat (first | apply Kd.N_alloc | apply Kd.N_drewN | apply Kd.N_drew)); exact HO1095.out) hb); replace HO1098 := Aside0.mk (Kd.N_below (by (with_reducible repeat (first | apply Kd.N_alloc | apply Kd.N_drewN | apply Kd.N_drew)); exact HO1098.out) hb); replace HB := upB HB hb; (try clear hb); (try clear hb2); (try clear hk); (try clear hi)) | (go_at_call 69; (with_reducible refine (spec_CountClasses.calls kj42 t1091 t1106 t1107 _ A81.out).mono ?_); rintro e w98 ⟨rfl, hb⟩; replace HO1095 := Aside0.mk (Kd.N_below (by (with_reducible repeat (first | apply Kd.N_alloc | apply Kd.N_drewN | apply Kd.N_drew)); exact HO1095.out) hb); replace HO1098 := Aside0.mk (Kd.N_below (by (with_reducible repeat (first | apply Kd.N_alloc | apply Kd.N_drewN | apply Kd.N_drew)); exact HO1098.out) hb); replace HB := upB HB hb; (try clear hb); (try clear hb2); (try clear hk); (try clear hi); obtain ⟨Ao99, co99, eo99⟩ := Kd.N_slice HO1095.out; subst eo99; obtain ⟨Ao100, co100, eo100⟩ := Kd.N_slice HO1098.out; subst eo100) | (go_at_call 70; (with_reducible refine (laws_zRows.calls kj42 _ _ t1092 _ _ t1096 true _ ?side1 ?side2 ?side3 ?side4 A83.out).mono ?_); (case side1 => repeat (first | exact (Kd.N_reads' HO1095.out).2.2 | (with_reducible refine Kd.C_alloc ?_ _) | (with_reducible refine Kd.C_drewN ?_ _) | (with_reducible refine Kd.C_drew ?_))); (case side2 => exact (Kd.N_reads' HO1095.out).2.1); (case side3 => repeat (first | exact (Kd.N_reads' HO1098.out).2.2 | (with_reducible refine Kd.C_alloc ?_ _) | (with_reducible refine Kd.C_drewN ?_ _) | (with_reducible refine Kd.C_drew ?_))); (case side4 => exact (Kd.N_reads' HO1098.out).2.1); rintro e w' ⟨rfl, ⟨nd, rfl⟩⟩; (try first | exact ⟨rfl, _, World.drewN_drewN _ _ _⟩ | exact ⟨rfl, _, Eq.trans (World.drewN_drewN _ _ _) (congrArg (World.drewN _) (Nat.add_assoc _ _ _))⟩))); go_upto_if 355 with (first | (go_at_call 63; (with_reducible refine (spec_DrawAllCostas.calls _ _ l1 t1091 _ ?side1 ?side2 A75.out).mono ?_); (case side1 => repeat (first | exact (Kd.C_below HR1.out HB.out) | (with_reducible refine Kd.C_alloc ?_ _) | (with_reducible refine Kd.C_drewN ?_ _) | (with_reducible refine Kd.C_drew ?_))); (case side2 => exact HC1.out); rintro e w92 ⟨rfl, hb⟩; replace HB := upB HB hb; (try clear hb); (try clear hb2); (try clear hk); (try clear hi)) | (go_at_call 64; (with_reducible refine (impl_AllCostas.calls kj42 t1091 t1092 t1093 _ A76.out).mono ?_); rintro e w93 ⟨v1094, rfl, ho0, hb⟩; have HO1095 := Aside0.mk (Kd.N_lower (Kd.N_mono (ok' := fun k_ => True) (Kd.S_N (Kd.S_bound ho0)) (fun k_ hk_ => trivial)) (szB HB)); replace HB := upB HB hb; (try clear hb); (try clear hb2); (try clear hk); (try clear hi); (try clear ho0)) | (go_at_call 65; (with_reducible refine (spec_AllCostas.calls kj42 t1091 t1096 t1099 _ A77.out).mono ?_); rintro e w94 ⟨v1097, rfl, ho0, hb⟩; have HO1098 := Aside0.mk (Kd.N_lower (Kd.N_mono (ok' := fun k_ => True) ho0 (fun k_ hk_ => trivial)) (szB HB)); replace HO1095 := Aside0.mk (Kd.N_below (by (with_reducible repeat (first | apply Kd.N_alloc | apply Kd.N_drewN | apply Kd.N_drew)); exact HO1095.out) hb); replace HB := upB HB hb; (try clear hb); (try clear hb2); (try clear hk); (try clear hi); (try clear ho0)) | (go_at_call 66; (with_reducible refine (impl_CountCostas.calls kj42 t1091 t1100 t1101 _ A78.out).mono ?_); rintro e w95 ⟨rfl, hb⟩; replace HO1095 := Aside0.mk (Kd.N_below (by (with_reducible repeat (first | apply Kd.N_alloc | apply Kd.N_drewN | apply Kd.N_drew)); exact HO1095.out) hb); replace HO1098 := Aside0.mk (Kd.N_below (by (with_reducible repeat (first | apply Kd.N_alloc | apply Kd.N_drewN | apply Kd.N_drew)); exact HO1098.out) hb); replace HB := upB HB hb; (try clear hb); (try clear hb2); (try clear hk); (try clear hi)) | (go_at_call 67; (with_reducible refine (spec_CountCostas.calls kj42 t1091 t1102 t1103 _ A79.out).mono ?_); rintro e w96 ⟨rfl, hb⟩; replace HO1095 := Aside0.mk (Kd.N_below (by (with_reducible repeat (first | apply Kd.N_alloc | apply Kd.N_drewN | apply Kd.N_drew)); exact HO1095.out) hb); replace HO1098 := Aside0.mk (Kd.N_below (by (with_reducible repeat (first | apply Kd.N_alloc | apply Kd.N_drewN | apply Kd.N_drew)); exact HO1098.out) hb); replace HB := upB HB hb; (try clear hb); (try clear hb2); (try clear hk); (try clear hi)) | (go_at_call 68; (with_reducible refine (impl_CountClasses.calls kj42 t1091 t1104 t1105 _ A80.out).mono ?_); rintro e w97 ⟨rfl, hb⟩; replace HO1095 := Aside0.mk (Kd.N_below (by (with_reducible repeat (first | apply Kd.N_alloc | apply Kd.N_drewN | apply Kd.N_drew)); exact HO1095.out) hb); replace HO1098 := Aside0.mk (Kd.N_below (by (with_reducible repeat (first | apply Kd.N_alloc | apply Kd.N_drewN | apply Kd.N_drew)); exact HO1098.out) hb); replace HB := upB HB hb; (try clear hb); (try clear hb2); (try clear hk); (try clear hi)) | (go_at_call 69; (with_reducible refine (spec_CountClasses.calls kj42 t1091 t1106 t1107 _ A81.out).mono ?_); rintro e w98 ⟨rfl, hb⟩; replace HO1095 := Aside0.mk (Kd.N_below (by (with_reducible repeat (first | apply Kd.N_alloc | apply Kd.N_drewN | apply Kd.N_drew)); exact HO1095.out) hb); replace HO1098 := Aside0.mk (Kd.N_below (by (with_reducible repeat (first | apply Kd.N_alloc | apply Kd.N_drewN | apply Kd.N_drew)); exact HO1098.out) hb); replace HB := upB HB hb; (try clear hb); (try clear hb2); (try clear hk); (try clear hi); obtain ⟨Ao99, co99, eo99⟩ := Kd.N_slice HO1095.out; subst eo99; obtain ⟨Ao100, co100, eo100⟩ := Kd.N_slice HO1098.out; subst eo100) | (go_at_call 70; (with_reducible refine (laws_zRows.calls kj42 _ _ t1092 _ _ t1096 true _ ?side1 ?side2 ?side3 ?side4 A83.out).mono ?_); (case side1 => repeat (first | exact (Kd.N_reads' HO1095.out).2.2 | (with_reducible refine Kd.C_alloc ?_ _) | (with_reducible refine Kd.C_drewN ?_ _) | (with_reducible refine Kd.C_drew ?_))); (case side2 => exact (Kd.N_reads' HO1095.out).2.1); (case side3 => repeat (first | exact (Kd.N_reads' HO1098.out).2.2 | (with_reducible refine Kd.C_alloc ?_ _) | (with_reducible refine Kd.C_drewN ?_ _) | (with_reducible refine Kd.C_drew ?_))); (case side4 => exact (Kd.N_reads' HO1098.out).2.1); rintro e w' ⟨rfl, ⟨nd, rfl⟩⟩; (try first | exact ⟨rfl, _, World.drewN_drewN _ _ _⟩ | exact ⟨rfl, _, Eq.trans (World.drewN_drewN _ _ _) (congrArg (World.drewN _) (Nat.add_assoc _ _ _))⟩))))
           (try simp only [Act.put, List.setIfInBounds_toArray, List.set_cons_zero, List.set_cons_succ])
           go_cut [] (fun wc => ∃ (kq : Nat), Aside0 (laws_FnDotsCostas.j7 kq l1 = some r) ∧ Aside0 (kq ≤ kj42) ∧ Aside0 (Below w.heap.size w wc))
           case first => as_aux_lemma =>
            have H := HC91.out
            clear HC91
            by_cases c101 : t1093 = true
            ·subst c101
             obtain rfl : t1099 = true := (by simpa using c82b0)
             obtain rfl : t1101 = true := (by simpa using c89b0)
             obtain rfl : t1105 = true := (by simpa using c90b0)
             rw [if_pos rfl] at H
             replace H := Option.bind_eq_some_iff.mp H
             obtain ⟨⟨t1109, t1110⟩, A1020, H⟩ := H
             (try dsimp only at H)
             have A102 := Aside0.mk A1020
             clear A1020
             by_cases c103 : (t1092.length : Int) = t1100
             ·rw [if_pos c103] at H
              have c103b0 : ((t1092.length : Int) == t1100) = true := beq_iff_eq.mpr c103
              have c103b1 : ((t1092.length : Int) != t1100) = false := bne_eq_false_iff_eq.mpr c103
              clear c103
              (first | rw [c103b0] | (simp only [i64_w, i32_w]; rw [c103b0]) | skip)
              by_cases c104 : t1110 = true
              ·subst c104
               rw [if_pos rfl] at H
               by_cases c105 : 0 < (t1092.length : Int)
               ·rw [if_pos c105] at H
                have c105b0 : decide (0 < (t1092.length : Int)) = true := decide_eq_true c105
                have c105b1 : decide (0 < t1092.length) = true := decide_eq_true (by omega)
                clear c105
                replace H := Option.bind_eq_some_iff.mp H
                obtain ⟨t1114, A1060, H⟩ := H
                (try dsimp only at H)
                have A106 := Aside0.mk A1060
                clear A1060
                by_cases c107 : t1114 = true
                ·subst c107
                 rw [if_pos rfl] at H
                 by_cases c108 : t1104 > t1100
                 ·rw [if_pos c108] at H
                  have c108b0 : decide (t1100 < t1104) = true := decide_eq_true c108
                  clear c108
                  exact absurd ((Option.some.inj H).trans HT.out) (by decide)
                 ·rw [if_neg c108] at H
                  have c108b0 : decide (t1100 < t1104) = false := decide_eq_false c108
                  clear c108
                  by_cases c109 : (wrap64 (8 * t1104)) < t1100
                  ·rw [if_pos c109] at H
                   have c109b0 : decide ((wrap64 (8 * t1104)) < t1100) = true := decide_eq_true c109
                   clear c109
                   exact absurd ((Option.some.inj H).trans HT.out) (by decide)
                  ·rw [if_neg c109] at H
                   have c109b0 : decide ((wrap64 (8 * t1104)) < t1100) = false := decide_eq_false c109
                   clear c109
                   have H' := Aside0.mk H
                   clear H
                   as_aux_lemma =>
                    go_wp2_with (first | (go_at_call 71; (with_reducible refine (impl_FirstCostas.calls kj42 t1091 t1109 true _ A102.out).mono ?_); rintro e w110 ⟨v1111, rfl, ho0, hb⟩; have HO1112 := lowR ho0 HB; replace HO1095 := Aside0.mk (Kd.N_below (by (with_reducible repeat (first | apply Kd.N_alloc | apply Kd.N_drewN | apply Kd.N_drew)); exact HO1095.out) hb); replace HO1098 := Aside0.mk (Kd.N_below (by (with_reducible repeat (first | apply Kd.N_alloc | apply Kd.N_drewN | apply Kd.N_drew)); exact HO1098.out) hb); replace HB := upB HB hb; (try clear hb); (try clear hb2); (try clear hk); (try clear hi); (try clear ho0); have p1113 : 0 ≤ (0 : Int) := (by omega); have q1113 : 0 < (t1092.length : Int) := ofd; obtain ⟨ad1113, A1113_0, c1113_0, e1113, hx1113_0, hl1113_0, hi1113_0⟩ := at_L2 (Kd.N_reads' HO1095.out).2.2 0 p1113 q1113; cases e1113; obtain ⟨ce1113, hce1113, hMe1113, hcc1113⟩ := Kd.N_get HO1095.out [] 0 p1113 (by first | exact q1113 | exact of_decide_eq_true (by first | (with_reducible assumption) | assumption) | (have e_ := (Kd.N_reads' HO1095.out).1; omega)); obtain ⟨ua1113_0, uc1113_0, rfl, ul1113_0, ge1113_0⟩ := Kd.FK_slice_open hMe1113; have hv1113_0 := hcc1113 0 _ rfl; rw [Nat.add_zero, show ((Kd.slice 3 (Kd.int .i64))).sz = 1 from rfl, Nat.mul_one] at hv1113_0; replace hv1113_0 := Option.some.inj (hv1113_0.symm.trans hx1113_0); injection hv1113_0 with hva_ hvn_ hvc_; rw [hva_] at ge1113_0; rw [hvc_] at ul1113_0; have HL1113_0 := Aside0.mk (show Kd.V (Kd.int .i64) 3 _ w.heap.size _ _ (rd_L2 t1092 0) from Kd.V_mk ul1113_0 ge1113_0); clear hva_ hvn_ hvc_ ge1113_0 ul1113_0; clear hcc1113 hce1113; have qi1113 : (0 < t1092.length) = True := eq_true (by omega); (try rw [show ((0 : Int)).toNat = 0 from rfl] at hx1113_0); (try rw [Addr.add_zero'] at hx1113_0); have HR1113_0 := Aside0.mk hi1113_0; have HC1113_0 := Aside0.mk hl1113_0; clear hi1113_0 hl1113_0; replace p1113 := eq_true p1113; replace q1113 := eq_true q1113; obtain ⟨Ao111, co111, eo111⟩ := Kd.R_slice HO1112.out; subst eo111) | (go_at_call 72; (with_reducible refine (laws_zSame.calls kj42 _ _ t1109 _ _ (rd_L2 t1092 0) true _ ?side1 ?side2 ?side3 ?side4 A106.out).mono ?_); (case side1 => exact atRC HO1112); (case side2 => exact (Kd.R_reads' HO1112.out).2.1); (case side3 => exact atC HR1113_0); (case side4 => exact HC1113_0.out); rintro e w' ⟨rfl, ⟨nd, rfl⟩⟩; (try first | exact ⟨rfl, _, World.drewN_drewN _ _ _⟩ | exact ⟨rfl, _, Eq.trans (World.drewN_drewN _ _ _) (congrArg (World.drewN _) (Nat.add_assoc _ _ _))⟩)))
                    repeat (go_quiet (first | (go_at_call 71; (with_reducible refine (impl_FirstCostas.calls kj42 t1091 t1109 true _ A102.out).mono ?_); rintro e w110 ⟨v1111, rfl, ho0, hb⟩; have HO1112 := lowR ho0 HB; replace HO1095 := Aside0.mk (Kd.N_below (by (with_reducible repeat (first | apply Kd.N_alloc | apply Kd.N_drewN | apply Kd.N_drew)); exact HO1095.out) hb); replace HO1098 := Aside0.mk (Kd.N_below (by (with_reducible repeat (first | apply Kd.N_alloc | apply Kd.N_drewN | apply Kd.N_drew)); exact HO1098.out) hb); replace HB := upB HB hb; (try clear hb); (try clear hb2); (try clear hk); (try clear hi); (try clear ho0); have p1113 : 0 ≤ (0 : Int) := (by omega); have q1113 : 0 < (t1092.length : Int) := ofd; obtain ⟨ad1113, A1113_0, c1113_0, e1113, hx1113_0, hl1113_0, hi1113_0⟩ := at_L2 (Kd.N_reads' HO1095.out).2.2 0 p1113 q1113; cases e1113; obtain ⟨ce1113, hce1113, hMe1113, hcc1113⟩ := Kd.N_get HO1095.out [] 0 p1113 (by first | exact q1113 | exact of_decide_eq_true (by first | (with_reducible assumption) | assumption) | (have e_ := (Kd.N_reads' HO1095.out).1; omega)); obtain ⟨ua1113_0, uc1113_0, rfl, ul1113_0, ge1113_0⟩ := Kd.FK_slice_open hMe1113; have hv1113_0 := hcc1113 0 _ rfl; rw [Nat.add_zero, show ((Kd.slice 3 (Kd.int .i64))).sz = 1 from rfl, Nat.mul_one] at hv1113_0; replace hv1113_0 := Option.some.inj (hv1113_0.symm.trans hx1113_0); injection hv1113_0 with hva_ hvn_ hvc_; rw [hva_] at ge1113_0; rw [hvc_] at ul1113_0; have HL1113_0 := Aside0.mk (show Kd.V (Kd.int .i64) 3 _ w.heap.size _ _ (rd_L2 t1092 0) from Kd.V_mk ul1113_0 ge1113_0); clear hva_ hvn_ hvc_ ge1113_0 ul1113_0; clear hcc1113 hce1113; have qi1113 : (0 < t1092.length) = True := eq_true (by omega); (try rw [show ((0 : Int)).toNat = 0 from rfl] at hx1113_0); (try rw [Addr.add_zero'] at hx1113_0); have HR1113_0 := Aside0.mk hi1113_0; have HC1113_0 := Aside0.mk hl1113_0; clear hi1113_0 hl1113_0; replace p1113 := eq_true p1113; replace q1113 := eq_true q1113; obtain ⟨Ao111, co111, eo111⟩ := Kd.R_slice HO1112.out; subst eo111) | (go_at_call 72; (with_reducible refine (laws_zSame.calls kj42 _ _ t1109 _ _ (rd_L2 t1092 0) true _ ?side1 ?side2 ?side3 ?side4 A106.out).mono ?_); (case side1 => exact atRC HO1112); (case side2 => exact (Kd.R_reads' HO1112.out).2.1); (case side3 => exact atC HR1113_0); (case side4 => exact HC1113_0.out); rintro e w' ⟨rfl, ⟨nd, rfl⟩⟩; (try first | exact ⟨rfl, _, World.drewN_drewN _ _ _⟩ | exact ⟨rfl, _, Eq.trans (World.drewN_drewN _ _ _) (congrArg (World.drewN _) (Nat.add_assoc _ _ _))⟩))); try go_wp2_with (first | (go_at_call 71; (with_reducible refine (impl_FirstCostas.calls kj42 t1091 t1109 true _ A102.out).mono ?_); rintro e w110 ⟨v1111, rfl, ho0, hb⟩; have HO1112 := lowR ho0 HB; replace HO1095 := Aside0.mk (Kd.N_below (by (with_reducible repeat (first | apply Kd.N_alloc | apply Kd.N_drewN | apply Kd.N_drew)); exact HO1095.out) hb); replace HO1098 := Aside0.mk (Kd.N_below (by (with_reducible repeat (first | apply Kd.N_alloc | apply Kd.N_drewN | apply Kd.N_drew)); exact HO1098.out) hb); replace HB := upB HB hb; (try clear hb); (try clear hb2); (try clear hk); (try clear hi); (try clear ho0); have p1113 : 0 ≤ (0 : Int) := (by omega); have q1113 : 0 < (t1092.length : Int) := ofd; obtain ⟨ad1113, A1113_0, c1113_0, e1113, hx1113_0, hl1113_0, hi1113_0⟩ := at_L2 (Kd.N_reads' HO1095.out).2.2 0 p1113 q1113; cases e1113; obtain ⟨ce1113, hce1113, hMe1113, hcc1113⟩ := Kd.N_get HO1095.out [] 0 p1113 (by first | exact q1113 | exact of_decide_eq_true (by first | (with_reducible assumption) | assumption) | (have e_ := (Kd.N_reads' HO1095.out).1; omega)); obtain ⟨ua1113_0, uc1113_0, rfl, ul1113_0, ge1113_0⟩ := Kd.FK_slice_open hMe1113; have hv1113_0 := hcc1113 0 _ rfl; rw [Nat.add_zero, show ((Kd.slice 3 (Kd.int .i64))).sz = 1 from rfl, Nat.mul_one] at hv1113_0; replace hv1113_0 := Option.some.inj (hv1113_0.symm.trans hx1113_0); injection hv1113_0 with hva_ hvn_ hvc_; rw [hva_] at ge1113_0; rw [hvc_] at ul1113_0; have HL1113_0 := Aside0.mk (show Kd.V (Kd.int .i64) 3 _ w.heap.size _ _ (rd_L2 t1092 0) from Kd.V_mk ul1113_0 ge1113_0); clear hva_ hvn_ hvc_ ge1113_0 ul1113_0; clear hcc1113 hce1113; have qi1113 : (0 < t1092.length) = True := eq_true (by omega); (try rw [show ((0 : Int)).toNat = 0 from rfl] at hx1113_0); (try rw [Addr.add_zero'] at hx1113_0); have HR1113_0 := Aside0.mk hi1113_0; have HC1113_0 := Aside0.mk hl1113_0; clear hi1113_0 hl1113_0; replace p1113 := eq_true p1113; replace q1113 := eq_true q1113; obtain ⟨Ao111, co111, eo111⟩ := Kd.R_slice HO1112.out; subst eo111) | (go_at_call 72; (with_reducible refine (laws_zSame.calls kj42 _ _ t1109 _ _ (rd_L2 t1092 0) true _ ?side1 ?side2 ?side3 ?side4 A106.out).mono ?_); (case side1 => exact atRC HO1112); (case side2 => exact (Kd.R_reads' HO1112.out).2.1); (case side3 => exact atC HR1113_0); (case side4 => exact HC1113_0.out); rintro e w' ⟨rfl, ⟨nd, rfl⟩⟩; (try first | exact ⟨rfl, _, World.drewN_drewN _ _ _⟩ | exact ⟨rfl, _, Eq.trans (World.drewN_drewN _ _ _) (congrArg (World.drewN _) (Nat.add_assoc _ _ _))⟩))))
                    go_loopg [47, 390] kj42 (fun kq v47 v390 w' => ∃ (x47_4 : Int) (x390_4 : Int), v47 = .int .i64 x47_4 ∧ v390 = .int .i64 x390_4 ∧ Aside0 (laws_FnDotsCostas.l3 kq l1 t1092 t1104 x47_4 t1092 (t1092.length : Int) x390_4 = some r) ∧ Aside0 (kq ≤ kj42) ∧ Aside0 (Kd.N (Kd.slice 3 (Kd.int .i64)) 24 w' w.heap.size (fun _ => True) (.slice (some ad1113) t1092.length co99) t1092) ∧ Aside0 (Kd.N (Kd.slice 3 (Kd.int .i64)) 24 w' w.heap.size (fun _ => True) (.slice (some ad1113) t1092.length co99) t1092) ∧ Aside0 (Kd.C (Kd.int .i64) w' A1113_0 (rd_L2 t1092 0).length (rd_L2 t1092 0)) ∧ Aside0 (Below w.heap.size w w'))
                    case atStart => exact ⟨(0), (0), eqd, eqd, H', ⟨Nat.le_refl _⟩, ⟨by (with_reducible repeat (first | apply Kd.N_alloc | apply Kd.N_drewN | apply Kd.N_drew)); exact HO1095.out⟩, ⟨by (with_reducible repeat (first | apply Kd.N_alloc | apply Kd.N_drewN | apply Kd.N_drew)); exact HO1095.out⟩, ⟨atC HR1113_0⟩, ⟨atB HB⟩⟩
                    case round => as_aux_lemma =>
                     clear H'
                     try clear c1
                     try clear p1
                     try clear q1
                     try clear hx1
                     try clear qi1
                     try clear c2
                     try clear p2
                     try clear c3
                     try clear c4
                     try clear c5
                     try clear c6
                     try clear p6
                     try clear q6
                     try clear c7
                     try clear c8
                     try clear c9
                     try clear c10
                     try clear p10
                     try clear q10
                     try clear hx10
                     try clear c11
                     try clear p11
                     try clear q11
                     try clear hx11
                     try clear qi11
                     try clear c17
                     try clear c17b0
                     try clear c17b1
                     try clear c17b2
                     try clear c18
                     try clear c18b0
                     try clear c18b1
                     try clear c18b2
                     try clear c19
                     try clear c19b0
                     try clear c19b1
                     try clear c19b2
                     try clear c20
                     try clear c20b0
                     try clear c20b1
                     try clear c21
                     try clear c21b0
                     try clear c21b1
                     try clear c22
                     try clear c22b0
                     try clear c22b1
                     try clear c24
                     try clear c24b0
                     try clear c24b1
                     try clear c24b2
                     try clear c27
                     try clear c27b0
                     try clear c27b1
                     try clear c27b2
                     try clear c28
                     try clear c29
                     try clear c31
                     try clear c33
                     try clear c34
                     try clear c34b0
                     try clear c35
                     try clear c35b0
                     try clear c36
                     try clear c36b0
                     try clear c37
                     try clear c37b0
                     try clear c38
                     try clear c38b0
                     try clear c39
                     try clear c39b0
                     try clear c40
                     try clear c40b0
                     try clear c40b1
                     try clear c44
                     try clear c45
                     try clear c45b0
                     try clear c47
                     try clear c48
                     try clear c48b0
                     try clear c48b1
                     try clear c50
                     try clear c50b0
                     try clear c50b1
                     try clear c51
                     try clear c51b0
                     try clear c51b1
                     try clear c54
                     try clear c54b0
                     try clear c54b1
                     try clear c55
                     try clear c55b0
                     try clear c55b1
                     try clear c57
                     try clear c57b0
                     try clear c57b1
                     try clear c60
                     try clear q60
                     try clear q61
                     try clear c62
                     try clear c62b0
                     try clear p64
                     try clear c65
                     try clear c65b0
                     try clear c66
                     try clear c66b0
                     try clear c67
                     try clear c67b0
                     try clear c68
                     try clear c68b0
                     try clear c68b1
                     try clear c69
                     try clear c70
                     try clear c70b0
                     try clear c70b1
                     try clear c71
                     try clear c72
                     try clear c72b0
                     try clear c72b1
                     try clear c73
                     try clear c73b0
                     try clear c74
                     try clear c74b0
                     try clear c74b1
                     try clear c74b2
                     try clear c82
                     try clear c82b0
                     try clear c82b1
                     try clear c82b2
                     try clear c84
                     try clear c85
                     try clear c85b0
                     try clear c85b1
                     try clear c85b2
                     try clear c86
                     try clear c86b0
                     try clear c86b1
                     try clear c87
                     try clear c87b0
                     try clear c87b1
                     try clear c87b2
                     try clear c88
                     try clear c88b0
                     try clear c88b1
                     try clear c89
                     try clear c89b0
                     try clear c89b1
                     try clear c89b2
                     try clear c90
                     try clear c90b0
                     try clear c90b1
                     try clear c90b2
                     try clear c101
                     try clear c103
                     try clear c103b0
                     try clear c103b1
                     try clear c104
                     try clear c105
                     try clear c105b0
                     try clear c105b1
                     try clear p106
                     try clear q106
                     try clear hx106
                     try clear c107
                     try clear c108
                     try clear c108b0
                     try clear c109
                     try clear c109b0
                     try clear p109
                     try clear q109
                     try clear hx109
                     try clear c111
                     try clear p111
                     try clear q111
                     try clear hx111
                     try clear qi111
                     try clear hx1067_0
                     try clear hx1068_0
                     try clear hx1090_0
                     try clear hx1113_0
                     try clear p1
                     try clear p10
                     try clear p1067
                     try clear p1068
                     try clear p1090
                     try clear p1113
                     try clear p2
                     try clear p6
                     try clear p64
                     try clear q060
                     try clear q1
                     try clear q10
                     try clear q1067
                     try clear q1068
                     try clear q1090
                     try clear q1113
                     try clear q6
                     try clear q60
                     try clear q61
                     obtain ⟨x47_4, x390_4, rfl, rfl, HA, HK4, HO_33, HO_388, HR1113_0, HB⟩ := hrel
                     cases gk with
                     | zero => exact absurd HA.out (by simp [laws_FnDotsCostas.l3])
                     | succ k4 =>
                      have H := HA.out
                      clear HA
                      simp only [laws_FnDotsCostas.l3] at H
                      by_cases c112 : x390_4 < (t1092.length : Int)
                      ·rw [if_pos c112] at H
                       have c112b0 : decide (x390_4 < (t1092.length : Int)) = true := decide_eq_true c112
                       clear c112
                       by_cases c113 : 0 ≤ x390_4
                       ·rw [if_pos c113] at H
                        have c113b0 : decide (0 ≤ x390_4) = true := decide_eq_true c113
                        clear c113
                        by_cases c114 : x390_4 < (t1092.length : Int)
                        ·rw [if_pos c114] at H
                         have c114b0 : decide (x390_4 < (t1092.length : Int)) = true := decide_eq_true c114
                         clear c114
                         replace H := Option.bind_eq_some_iff.mp H
                         obtain ⟨⟨t1116, t1117⟩, A1150, H⟩ := H
                         (try dsimp only at H)
                         have A115 := Aside0.mk A1150
                         clear A1150
                         replace H := Option.bind_eq_some_iff.mp H
                         obtain ⟨⟨t1118, t1119⟩, A1160, H⟩ := H
                         (try dsimp only at H)
                         have A116 := Aside0.mk A1160
                         clear A1160
                         by_cases c117 : t1117 = true
                         ·subst c117
                          rw [if_pos rfl] at H
                          by_cases c118 : t1116 = true
                          ·subst c118
                           rw [if_pos rfl] at H
                           by_cases c119 : t1119 = true
                           ·subst c119
                            rw [if_pos rfl] at H
                            by_cases c120 : x390_4 > 0
                            ·rw [if_pos c120] at H
                             have c120b0 : decide (0 < x390_4) = true := decide_eq_true c120
                             clear c120
                             obtain ⟨ji121, hji121⟩ : ∃ j_ : Int, (wrap64 (x390_4 - 1)) = j_ := ⟨_, rfl⟩
                             replace H : (if 0 ≤ (ji121) then (if (ji121) < (t1092.length : Int) then ((laws_zLess.f k4 (rd_L2 t1092 (ji121)) (rd_L2 t1092 x390_4)).bind fun t1123 => (if t1123 = true then ((laws_zSame.f k4 t1118 (rd_L2 t1092 x390_4)).bind fun t1124 => (if t1124 = true then (laws_FnDotsCostas.l3 k4 l1 t1092 t1104 (wrap64 (x47_4 + 1)) t1092 (t1092.length : Int) (wrap64 (x390_4 + 1))) else (laws_FnDotsCostas.l3 k4 l1 t1092 t1104 x47_4 t1092 (t1092.length : Int) (wrap64 (x390_4 + 1))))) else (some false))) else (none)) else (none)) = some r := by first | (rw [hji121] at H; exact H) | (simp only [hji121] at H ⊢; exact H)
                             (try rw [hji121] at A115)
                             (try rw [hji121] at A116)
                             have hji121w : (IntKind.i64.wrap (x390_4 - 1)) = ji121 := (i64_w _).trans hji121
                             by_cases c122 : 0 ≤ (ji121)
                             ·rw [if_pos c122] at H
                              have c122b0 : decide (0 ≤ (ji121)) = true := decide_eq_true c122
                              clear c122
                              by_cases c123 : (ji121) < (t1092.length : Int)
                              ·rw [if_pos c123] at H
                               have c123b0 : decide ((ji121) < (t1092.length : Int)) = true := decide_eq_true c123
                               clear c123
                               replace H := Option.bind_eq_some_iff.mp H
                               obtain ⟨t1123, A1240, H⟩ := H
                               (try dsimp only at H)
                               have A124 := Aside0.mk A1240
                               clear A1240
                               by_cases c125 : t1123 = true
                               ·subst c125
                                rw [if_pos rfl] at H
                                replace H := Option.bind_eq_some_iff.mp H
                                obtain ⟨t1124, A1260, H⟩ := H
                                (try dsimp only at H)
                                have A126 := Aside0.mk A1260
                                clear A1260
                                by_cases c127 : t1124 = true
                                ·subst c127
                                 rw [if_pos rfl] at H
                                 have H' := Aside0.mk H
                                 clear H
                                 have p1115 : 0 ≤ (x390_4 : Int) := ofd
                                 have q1115 : x390_4 < (t1092.length : Int) := ofd
                                 obtain ⟨ad1115, A1115_0, c1115_0, e1115, hx1115_0, hl1115_0, hi1115_0⟩ := at_L2 (Kd.N_reads' HO_388.out).2.2 x390_4 p1115 q1115
                                 obtain rfl : ad1113 = ad1115 := (by injection e1115)
                                 obtain ⟨ce1115, hce1115, hMe1115, hcc1115⟩ := Kd.N_get HO_388.out [] x390_4 p1115 (by first | exact q1115 | exact of_decide_eq_true (by first | (with_reducible assumption) | assumption) | (have e_ := (Kd.N_reads' HO_388.out).1; omega))
                                 obtain ⟨ua1115_0, uc1115_0, rfl, ul1115_0, ge1115_0⟩ := Kd.FK_slice_open hMe1115
                                 have hv1115_0 := hcc1115 0 _ rfl
                                 rw [Nat.add_zero, show ((Kd.slice 3 (Kd.int .i64))).sz = 1 from rfl, Nat.mul_one] at hv1115_0
                                 replace hv1115_0 := Option.some.inj (hv1115_0.symm.trans hx1115_0)
                                 injection hv1115_0 with hva_ hvn_ hvc_
                                 rw [hva_] at ge1115_0
                                 rw [hvc_] at ul1115_0
                                 have HL1115_0 := Aside0.mk (show Kd.V (Kd.int .i64) 3 _ w.heap.size _ _ (rd_L2 t1092 x390_4) from Kd.V_mk ul1115_0 ge1115_0)
                                 clear hva_ hvn_ hvc_ ge1115_0 ul1115_0
                                 clear hcc1115 hce1115
                                 have HR1115_0 := Aside0.mk hi1115_0
                                 have HC1115_0 := Aside0.mk hl1115_0
                                 clear hi1115_0 hl1115_0
                                 replace p1115 := eq_true p1115
                                 replace q1115 := eq_true q1115
                                 have q1115m := q1115; (try rw [List.length_drop] at q1115m); (try rw [List.drop_one] at q1115m)
                                 as_aux_lemma =>
                                  go_wp2_with (first | (go_at_call 54; (with_reducible refine (impl_IsCostas.calls k4 _ _ (rd_L2 t1092 x390_4) true true _ ?side1 ?side2 A115.out).mono ?_); (case side1 => exact atC HR1115_0); (case side2 => exact HC1115_0.out); rintro e w128 ⟨rfl, hb⟩; replace HO_33 := Aside0.mk (Kd.N_below (by (with_reducible repeat (first | apply Kd.N_alloc | apply Kd.N_drewN | apply Kd.N_drew)); exact HO_33.out) hb); replace HO_388 := Aside0.mk (Kd.N_below (by (with_reducible repeat (first | apply Kd.N_alloc | apply Kd.N_drewN | apply Kd.N_drew)); exact HO_388.out) hb); replace HL1115_0 := Aside0.mk (Kd.V_below (by (with_reducible repeat (first | apply Kd.V_alloc | apply Kd.V_drewN | apply Kd.V_drew)); exact HL1115_0.out) hb); replace HR1113_0 := upC HR1113_0 hb; replace HR1115_0 := upC HR1115_0 hb; replace HB := upB HB hb; (try clear hb); (try clear hb2); (try clear hk); (try clear hi)) | (go_at_call 73; (with_reducible refine (impl_LeastDots.calls k4 _ _ (rd_L2 t1092 x390_4) t1118 true _ ?side1 ?side2 A116.out).mono ?_); (case side1 => exact atC HR1115_0); (case side2 => exact HC1115_0.out); rintro e w129 ⟨v1120, rfl, ho0, hb⟩; have HO1121 := lowR ho0 HB; replace HO_33 := Aside0.mk (Kd.N_below (by (with_reducible repeat (first | apply Kd.N_alloc | apply Kd.N_drewN | apply Kd.N_drew)); exact HO_33.out) hb); replace HO_388 := Aside0.mk (Kd.N_below (by (with_reducible repeat (first | apply Kd.N_alloc | apply Kd.N_drewN | apply Kd.N_drew)); exact HO_388.out) hb); replace HL1115_0 := Aside0.mk (Kd.V_below (by (with_reducible repeat (first | apply Kd.V_alloc | apply Kd.V_drewN | apply Kd.V_drew)); exact HL1115_0.out) hb); replace HR1113_0 := upC HR1113_0 hb; replace HR1115_0 := upC HR1115_0 hb; replace HB := upB HB hb; (try clear hb); (try clear hb2); (try clear hk); (try clear hi); (try clear ho0); have p1122 : 0 ≤ ((ji121) : Int) := ofd; have q1122 : (ji121) < (t1092.length : Int) := ofd; obtain ⟨ad1122, A1122_0, c1122_0, e1122, hx1122_0, hl1122_0, hi1122_0⟩ := at_L2 (Kd.N_reads' HO_33.out).2.2 (ji121) p1122 q1122; obtain rfl : ad1113 = ad1122 := (by injection e1122); obtain ⟨ce1122, hce1122, hMe1122, hcc1122⟩ := Kd.N_get HO_33.out [] (ji121) p1122 (by first | exact q1122 | exact of_decide_eq_true (by first | (with_reducible assumption) | assumption) | (have e_ := (Kd.N_reads' HO_33.out).1; omega)); obtain ⟨ua1122_0, uc1122_0, rfl, ul1122_0, ge1122_0⟩ := Kd.FK_slice_open hMe1122; have hv1122_0 := hcc1122 0 _ rfl; rw [Nat.add_zero, show ((Kd.slice 3 (Kd.int .i64))).sz = 1 from rfl, Nat.mul_one] at hv1122_0; replace hv1122_0 := Option.some.inj (hv1122_0.symm.trans hx1122_0); injection hv1122_0 with hva_ hvn_ hvc_; rw [hva_] at ge1122_0; rw [hvc_] at ul1122_0; have HL1122_0 := Aside0.mk (show Kd.V (Kd.int .i64) 3 _ w.heap.size _ _ (rd_L2 t1092 (ji121)) from Kd.V_mk ul1122_0 ge1122_0); clear hva_ hvn_ hvc_ ge1122_0 ul1122_0; clear hcc1122 hce1122; have HR1122_0 := Aside0.mk hi1122_0; have HC1122_0 := Aside0.mk hl1122_0; clear hi1122_0 hl1122_0; replace p1122 := eq_true p1122; replace q1122 := eq_true q1122) | (go_at_call 74; (with_reducible refine (laws_zLess.calls k4 _ _ (rd_L2 t1092 (ji121)) _ _ (rd_L2 t1092 x390_4) true _ ?side1 ?side2 ?side3 ?side4 A124.out).mono ?_); (case side1 => exact atC HR1122_0); (case side2 => exact HC1122_0.out); (case side3 => exact atC HR1115_0); (case side4 => exact HC1115_0.out); rintro e w' ⟨rfl, ⟨nd, rfl⟩⟩; (try first | exact ⟨rfl, _, World.drewN_drewN _ _ _⟩ | exact ⟨rfl, _, Eq.trans (World.drewN_drewN _ _ _) (congrArg (World.drewN _) (Nat.add_assoc _ _ _))⟩); obtain ⟨Ao130, co130, eo130⟩ := Kd.R_slice HO1121.out; subst eo130) | (go_at_call 72; (with_reducible refine (laws_zSame.calls k4 _ _ t1118 _ _ (rd_L2 t1092 x390_4) true _ ?side1 ?side2 ?side3 ?side4 A126.out).mono ?_); (case side1 => exact atRC HO1121); (case side2 => exact (Kd.R_reads' HO1121.out).2.1); (case side3 => exact atC HR1115_0); (case side4 => exact HC1115_0.out); rintro e w' ⟨rfl, ⟨nd, rfl⟩⟩; (try first | exact ⟨rfl, _, World.drewN_drewN _ _ _⟩ | exact ⟨rfl, _, Eq.trans (World.drewN_drewN _ _ _) (congrArg (World.drewN _) (Nat.add_assoc _ _ _))⟩)))
                                  repeat (go_quiet (first | (go_at_call 54; (with_reducible refine (impl_IsCostas.calls k4 _ _ (rd_L2 t1092 x390_4) true true _ ?side1 ?side2 A115.out).mono ?_); (case side1 => exact atC HR1115_0); (case side2 => exact HC1115_0.out); rintro e w128 ⟨rfl, hb⟩; replace HO_33 := Aside0.mk (Kd.N_below (by (with_reducible repeat (first | apply Kd.N_alloc | apply Kd.N_drewN | apply Kd.N_drew)); exact HO_33.out) hb); replace HO_388 := Aside0.mk (Kd.N_below (by (with_reducible repeat (first | apply Kd.N_alloc | apply Kd.N_drewN | apply Kd.N_drew)); exact HO_388.out) hb); replace HL1115_0 := Aside0.mk (Kd.V_below (by (with_reducible repeat (first | apply Kd.V_alloc | apply Kd.V_drewN | apply Kd.V_drew)); exact HL1115_0.out) hb); replace HR1113_0 := upC HR1113_0 hb; replace HR1115_0 := upC HR1115_0 hb; replace HB := upB HB hb; (try clear hb); (try clear hb2); (try clear hk); (try clear hi)) | (go_at_call 73; (with_reducible refine (impl_LeastDots.calls k4 _ _ (rd_L2 t1092 x390_4) t1118 true _ ?side1 ?side2 A116.out).mono ?_); (case side1 => exact atC HR1115_0); (case side2 => exact HC1115_0.out); rintro e w129 ⟨v1120, rfl, ho0, hb⟩; have HO1121 := lowR ho0 HB; replace HO_33 := Aside0.mk (Kd.N_below (by (with_reducible repeat (first | apply Kd.N_alloc | apply Kd.N_drewN | apply Kd.N_drew)); exact HO_33.out) hb); replace HO_388 := Aside0.mk (Kd.N_below (by (with_reducible repeat (first | apply Kd.N_alloc | apply Kd.N_drewN | apply Kd.N_drew)); exact HO_388.out) hb); replace HL1115_0 := Aside0.mk (Kd.V_below (by (with_reducible repeat (first | apply Kd.V_alloc | apply Kd.V_drewN | apply Kd.V_drew)); exact HL1115_0.out) hb); replace HR1113_0 := upC HR1113_0 hb; replace HR1115_0 := upC HR1115_0 hb; replace HB := upB HB hb; (try clear hb); (try clear hb2); (try clear hk); (try clear hi); (try clear ho0); have p1122 : 0 ≤ ((ji121) : Int) := ofd; have q1122 : (ji121) < (t1092.length : Int) := ofd; obtain ⟨ad1122, A1122_0, c1122_0, e1122, hx1122_0, hl1122_0, hi1122_0⟩ := at_L2 (Kd.N_reads' HO_33.out).2.2 (ji121) p1122 q1122; obtain rfl : ad1113 = ad1122 := (by injection e1122); obtain ⟨ce1122, hce1122, hMe1122, hcc1122⟩ := Kd.N_get HO_33.out [] (ji121) p1122 (by first | exact q1122 | exact of_decide_eq_true (by first | (with_reducible assumption) | assumption) | (have e_ := (Kd.N_reads' HO_33.out).1; omega)); obtain ⟨ua1122_0, uc1122_0, rfl, ul1122_0, ge1122_0⟩ := Kd.FK_slice_open hMe1122; have hv1122_0 := hcc1122 0 _ rfl; rw [Nat.add_zero, show ((Kd.slice 3 (Kd.int .i64))).sz = 1 from rfl, Nat.mul_one] at hv1122_0; replace hv1122_0 := Option.some.inj (hv1122_0.symm.trans hx1122_0); injection hv1122_0 with hva_ hvn_ hvc_; rw [hva_] at ge1122_0; rw [hvc_] at ul1122_0; have HL1122_0 := Aside0.mk (show Kd.V (Kd.int .i64) 3 _ w.heap.size _ _ (rd_L2 t1092 (ji121)) from Kd.V_mk ul1122_0 ge1122_0); clear hva_ hvn_ hvc_ ge1122_0 ul1122_0; clear hcc1122 hce1122; have HR1122_0 := Aside0.mk hi1122_0; have HC1122_0 := Aside0.mk hl1122_0; clear hi1122_0 hl1122_0; replace p1122 := eq_true p1122; replace q1122 := eq_true q1122) | (go_at_call 74; (with_reducible refine (laws_zLess.calls k4 _ _ (rd_L2 t1092 (ji121)) _ _ (rd_L2 t1092 x390_4) true _ ?side1 ?side2 ?side3 ?side4 A124.out).mono ?_); (case side1 => exact atC HR1122_0); (case side2 => exact HC1122_0.out); (case side3 => exact atC HR1115_0); (case side4 => exact HC1115_0.out); rintro e w' ⟨rfl, ⟨nd, rfl⟩⟩; (try first | exact ⟨rfl, _, World.drewN_drewN _ _ _⟩ | exact ⟨rfl, _, Eq.trans (World.drewN_drewN _ _ _) (congrArg (World.drewN _) (Nat.add_assoc _ _ _))⟩); obtain ⟨Ao130, co130, eo130⟩ := Kd.R_slice HO1121.out; subst eo130) | (go_at_call 72; (with_reducible refine (laws_zSame.calls k4 _ _ t1118 _ _ (rd_L2 t1092 x390_4) true _ ?side1 ?side2 ?side3 ?side4 A126.out).mono ?_); (case side1 => exact atRC HO1121); (case side2 => exact (Kd.R_reads' HO1121.out).2.1); (case side3 => exact atC HR1115_0); (case side4 => exact HC1115_0.out); rintro e w' ⟨rfl, ⟨nd, rfl⟩⟩; (try first | exact ⟨rfl, _, World.drewN_drewN _ _ _⟩ | exact ⟨rfl, _, Eq.trans (World.drewN_drewN _ _ _) (congrArg (World.drewN _) (Nat.add_assoc _ _ _))⟩))); try go_wp2_with (first | (go_at_call 54; (with_reducible refine (impl_IsCostas.calls k4 _ _ (rd_L2 t1092 x390_4) true true _ ?side1 ?side2 A115.out).mono ?_); (case side1 => exact atC HR1115_0); (case side2 => exact HC1115_0.out); rintro e w128 ⟨rfl, hb⟩; replace HO_33 := Aside0.mk (Kd.N_below (by (with_reducible repeat (first | apply Kd.N_alloc | apply Kd.N_drewN | apply Kd.N_drew)); exact HO_33.out) hb); replace HO_388 := Aside0.mk (Kd.N_below (by (with_reducible repeat (first | apply Kd.N_alloc | apply Kd.N_drewN | apply Kd.N_drew)); exact HO_388.out) hb); replace HL1115_0 := Aside0.mk (Kd.V_below (by (with_reducible repeat (first | apply Kd.V_alloc | apply Kd.V_drewN | apply Kd.V_drew)); exact HL1115_0.out) hb); replace HR1113_0 := upC HR1113_0 hb; replace HR1115_0 := upC HR1115_0 hb; replace HB := upB HB hb; (try clear hb); (try clear hb2); (try clear hk); (try clear hi)) | (go_at_call 73; (with_reducible refine (impl_LeastDots.calls k4 _ _ (rd_L2 t1092 x390_4) t1118 true _ ?side1 ?side2 A116.out).mono ?_); (case side1 => exact atC HR1115_0); (case side2 => exact HC1115_0.out); rintro e w129 ⟨v1120, rfl, ho0, hb⟩; have HO1121 := lowR ho0 HB; replace HO_33 := Aside0.mk (Kd.N_below (by (with_reducible repeat (first | apply Kd.N_alloc | apply Kd.N_drewN | apply Kd.N_drew)); exact HO_33.out) hb); replace HO_388 := Aside0.mk (Kd.N_below (by (with_reducible repeat (first | apply Kd.N_alloc | apply Kd.N_drewN | apply Kd.N_drew)); exact HO_388.out) hb); replace HL1115_0 := Aside0.mk (Kd.V_below (by (with_reducible repeat (first | apply Kd.V_alloc | apply Kd.V_drewN | apply Kd.V_drew)); exact HL1115_0.out) hb); replace HR1113_0 := upC HR1113_0 hb; replace HR1115_0 := upC HR1115_0 hb; replace HB := upB HB hb; (try clear hb); (try clear hb2); (try clear hk); (try clear hi); (try clear ho0); have p1122 : 0 ≤ ((ji121) : Int) := ofd; have q1122 : (ji121) < (t1092.length : Int) := ofd; obtain ⟨ad1122, A1122_0, c1122_0, e1122, hx1122_0, hl1122_0, hi1122_0⟩ := at_L2 (Kd.N_reads' HO_33.out).2.2 (ji121) p1122 q1122; obtain rfl : ad1113 = ad1122 := (by injection e1122); obtain ⟨ce1122, hce1122, hMe1122, hcc1122⟩ := Kd.N_get HO_33.out [] (ji121) p1122 (by first | exact q1122 | exact of_decide_eq_true (by first | (with_reducible assumption) | assumption) | (have e_ := (Kd.N_reads' HO_33.out).1; omega)); obtain ⟨ua1122_0, uc1122_0, rfl, ul1122_0, ge1122_0⟩ := Kd.FK_slice_open hMe1122; have hv1122_0 := hcc1122 0 _ rfl; rw [Nat.add_zero, show ((Kd.slice 3 (Kd.int .i64))).sz = 1 from rfl, Nat.mul_one] at hv1122_0; replace hv1122_0 := Option.some.inj (hv1122_0.symm.trans hx1122_0); injection hv1122_0 with hva_ hvn_ hvc_; rw [hva_] at ge1122_0; rw [hvc_] at ul1122_0; have HL1122_0 := Aside0.mk (show Kd.V (Kd.int .i64) 3 _ w.heap.size _ _ (rd_L2 t1092 (ji121)) from Kd.V_mk ul1122_0 ge1122_0); clear hva_ hvn_ hvc_ ge1122_0 ul1122_0; clear hcc1122 hce1122; have HR1122_0 := Aside0.mk hi1122_0; have HC1122_0 := Aside0.mk hl1122_0; clear hi1122_0 hl1122_0; replace p1122 := eq_true p1122; replace q1122 := eq_true q1122) | (go_at_call 74; (with_reducible refine (laws_zLess.calls k4 _ _ (rd_L2 t1092 (ji121)) _ _ (rd_L2 t1092 x390_4) true _ ?side1 ?side2 ?side3 ?side4 A124.out).mono ?_); (case side1 => exact atC HR1122_0); (case side2 => exact HC1122_0.out); (case side3 => exact atC HR1115_0); (case side4 => exact HC1115_0.out); rintro e w' ⟨rfl, ⟨nd, rfl⟩⟩; (try first | exact ⟨rfl, _, World.drewN_drewN _ _ _⟩ | exact ⟨rfl, _, Eq.trans (World.drewN_drewN _ _ _) (congrArg (World.drewN _) (Nat.add_assoc _ _ _))⟩); obtain ⟨Ao130, co130, eo130⟩ := Kd.R_slice HO1121.out; subst eo130) | (go_at_call 72; (with_reducible refine (laws_zSame.calls k4 _ _ t1118 _ _ (rd_L2 t1092 x390_4) true _ ?side1 ?side2 ?side3 ?side4 A126.out).mono ?_); (case side1 => exact atRC HO1121); (case side2 => exact (Kd.R_reads' HO1121.out).2.1); (case side3 => exact atC HR1115_0); (case side4 => exact HC1115_0.out); rintro e w' ⟨rfl, ⟨nd, rfl⟩⟩; (try first | exact ⟨rfl, _, World.drewN_drewN _ _ _⟩ | exact ⟨rfl, _, Eq.trans (World.drewN_drewN _ _ _) (congrArg (World.drewN _) (Nat.add_assoc _ _ _))⟩))))
                                  first | go_roundg k4 | ((try subst hji121); go_roundg k4)
                                  case measure => have := HJ9.out; have := HJ29.out; have := HJ42.out; have := HK4.out; omega
                                  case rel => exact ⟨(wrap64 (x47_4 + 1)), (wrap64 (x390_4 + 1)), eqd, eqd, H', ⟨by have := HJ9.out; have := HJ29.out; have := HJ42.out; have := HK4.out; omega⟩, ⟨by (with_reducible repeat (first | apply Kd.N_alloc | apply Kd.N_drewN | apply Kd.N_drew)); exact HO_33.out⟩, ⟨by (with_reducible repeat (first | apply Kd.N_alloc | apply Kd.N_drewN | apply Kd.N_drew)); exact HO_388.out⟩, ⟨atC HR1113_0⟩, ⟨atB HB⟩⟩
                                ·replace c127 := Bool.eq_false_iff.mpr c127
                                 subst c127
                                 rw [if_neg (show ¬ (false = true) by decide)] at H
                                 have H' := Aside0.mk H
                                 clear H
                                 have p1115 : 0 ≤ (x390_4 : Int) := ofd
                                 have q1115 : x390_4 < (t1092.length : Int) := ofd
                                 obtain ⟨ad1115, A1115_0, c1115_0, e1115, hx1115_0, hl1115_0, hi1115_0⟩ := at_L2 (Kd.N_reads' HO_388.out).2.2 x390_4 p1115 q1115
                                 obtain rfl : ad1113 = ad1115 := (by injection e1115)
                                 obtain ⟨ce1115, hce1115, hMe1115, hcc1115⟩ := Kd.N_get HO_388.out [] x390_4 p1115 (by first | exact q1115 | exact of_decide_eq_true (by first | (with_reducible assumption) | assumption) | (have e_ := (Kd.N_reads' HO_388.out).1; omega))
                                 obtain ⟨ua1115_0, uc1115_0, rfl, ul1115_0, ge1115_0⟩ := Kd.FK_slice_open hMe1115
                                 have hv1115_0 := hcc1115 0 _ rfl
                                 rw [Nat.add_zero, show ((Kd.slice 3 (Kd.int .i64))).sz = 1 from rfl, Nat.mul_one] at hv1115_0
                                 replace hv1115_0 := Option.some.inj (hv1115_0.symm.trans hx1115_0)
                                 injection hv1115_0 with hva_ hvn_ hvc_
                                 rw [hva_] at ge1115_0
                                 rw [hvc_] at ul1115_0
                                 have HL1115_0 := Aside0.mk (show Kd.V (Kd.int .i64) 3 _ w.heap.size _ _ (rd_L2 t1092 x390_4) from Kd.V_mk ul1115_0 ge1115_0)
                                 clear hva_ hvn_ hvc_ ge1115_0 ul1115_0
                                 clear hcc1115 hce1115
                                 have HR1115_0 := Aside0.mk hi1115_0
                                 have HC1115_0 := Aside0.mk hl1115_0
                                 clear hi1115_0 hl1115_0
                                 replace p1115 := eq_true p1115
                                 replace q1115 := eq_true q1115
                                 have q1115m := q1115; (try rw [List.length_drop] at q1115m); (try rw [List.drop_one] at q1115m)
                                 as_aux_lemma =>
                                  go_wp2_with (first | (go_at_call 54; (with_reducible refine (impl_IsCostas.calls k4 _ _ (rd_L2 t1092 x390_4) true true _ ?side1 ?side2 A115.out).mono ?_); (case side1 => exact atC HR1115_0); (case side2 => exact HC1115_0.out); rintro e w131 ⟨rfl, hb⟩; replace HO_33 := Aside0.mk (Kd.N_below (by (with_reducible repeat (first | apply Kd.N_alloc | apply Kd.N_drewN | apply Kd.N_drew)); exact HO_33.out) hb); replace HO_388 := Aside0.mk (Kd.N_below (by (with_reducible repeat (first | apply Kd.N_alloc | apply Kd.N_drewN | apply Kd.N_drew)); exact HO_388.out) hb); replace HL1115_0 := Aside0.mk (Kd.V_below (by (with_reducible repeat (first | apply Kd.V_alloc | apply Kd.V_drewN | apply Kd.V_drew)); exact HL1115_0.out) hb); replace HR1113_0 := upC HR1113_0 hb; replace HR1115_0 := upC HR1115_0 hb; replace HB := upB HB hb; (try clear hb); (try clear hb2); (try clear hk); (try clear hi)) | (go_at_call 73; (with_reducible refine (impl_LeastDots.calls k4 _ _ (rd_L2 t1092 x390_4) t1118 true _ ?side1 ?side2 A116.out).mono ?_); (case side1 => exact atC HR1115_0); (case side2 => exact HC1115_0.out); rintro e w132 ⟨v1120, rfl, ho0, hb⟩; have HO1121 := lowR ho0 HB; replace HO_33 := Aside0.mk (Kd.N_below (by (with_reducible repeat (first | apply Kd.N_alloc | apply Kd.N_drewN | apply Kd.N_drew)); exact HO_33.out) hb); replace HO_388 := Aside0.mk (Kd.N_below (by (with_reducible repeat (first | apply Kd.N_alloc | apply Kd.N_drewN | apply Kd.N_drew)); exact HO_388.out) hb); replace HL1115_0 := Aside0.mk (Kd.V_below (by (with_reducible repeat (first | apply Kd.V_alloc | apply Kd.V_drewN | apply Kd.V_drew)); exact HL1115_0.out) hb); replace HR1113_0 := upC HR1113_0 hb; replace HR1115_0 := upC HR1115_0 hb; replace HB := upB HB hb; (try clear hb); (try clear hb2); (try clear hk); (try clear hi); (try clear ho0); have p1122 : 0 ≤ ((ji121) : Int) := ofd; have q1122 : (ji121) < (t1092.length : Int) := ofd; obtain ⟨ad1122, A1122_0, c1122_0, e1122, hx1122_0, hl1122_0, hi1122_0⟩ := at_L2 (Kd.N_reads' HO_33.out).2.2 (ji121) p1122 q1122; obtain rfl : ad1113 = ad1122 := (by injection e1122); obtain ⟨ce1122, hce1122, hMe1122, hcc1122⟩ := Kd.N_get HO_33.out [] (ji121) p1122 (by first | exact q1122 | exact of_decide_eq_true (by first | (with_reducible assumption) | assumption) | (have e_ := (Kd.N_reads' HO_33.out).1; omega)); obtain ⟨ua1122_0, uc1122_0, rfl, ul1122_0, ge1122_0⟩ := Kd.FK_slice_open hMe1122; have hv1122_0 := hcc1122 0 _ rfl; rw [Nat.add_zero, show ((Kd.slice 3 (Kd.int .i64))).sz = 1 from rfl, Nat.mul_one] at hv1122_0; replace hv1122_0 := Option.some.inj (hv1122_0.symm.trans hx1122_0); injection hv1122_0 with hva_ hvn_ hvc_; rw [hva_] at ge1122_0; rw [hvc_] at ul1122_0; have HL1122_0 := Aside0.mk (show Kd.V (Kd.int .i64) 3 _ w.heap.size _ _ (rd_L2 t1092 (ji121)) from Kd.V_mk ul1122_0 ge1122_0); clear hva_ hvn_ hvc_ ge1122_0 ul1122_0; clear hcc1122 hce1122; have HR1122_0 := Aside0.mk hi1122_0; have HC1122_0 := Aside0.mk hl1122_0; clear hi1122_0 hl1122_0; replace p1122 := eq_true p1122; replace q1122 := eq_true q1122) | (go_at_call 74; (with_reducible refine (laws_zLess.calls k4 _ _ (rd_L2 t1092 (ji121)) _ _ (rd_L2 t1092 x390_4) true _ ?side1 ?side2 ?side3 ?side4 A124.out).mono ?_); (case side1 => exact atC HR1122_0); (case side2 => exact HC1122_0.out); (case side3 => exact atC HR1115_0); (case side4 => exact HC1115_0.out); rintro e w' ⟨rfl, ⟨nd, rfl⟩⟩; (try first | exact ⟨rfl, _, World.drewN_drewN _ _ _⟩ | exact ⟨rfl, _, Eq.trans (World.drewN_drewN _ _ _) (congrArg (World.drewN _) (Nat.add_assoc _ _ _))⟩); obtain ⟨Ao133, co133, eo133⟩ := Kd.R_slice HO1121.out; subst eo133) | (go_at_call 72; (with_reducible refine (laws_zSame.calls k4 _ _ t1118 _ _ (rd_L2 t1092 x390_4) false _ ?side1 ?side2 ?side3 ?side4 A126.out).mono ?_); (case side1 => exact atRC HO1121); (case side2 => exact (Kd.R_reads' HO1121.out).2.1); (case side3 => exact atC HR1115_0); (case side4 => exact HC1115_0.out); rintro e w' ⟨rfl, ⟨nd, rfl⟩⟩; (try first | exact ⟨rfl, _, World.drewN_drewN _ _ _⟩ | exact ⟨rfl, _, Eq.trans (World.drewN_drewN _ _ _) (congrArg (World.drewN _) (Nat.add_assoc _ _ _))⟩)))
                                  repeat (go_quiet (first | (go_at_call 54; (with_reducible refine (impl_IsCostas.calls k4 _ _ (rd_L2 t1092 x390_4) true true _ ?side1 ?side2 A115.out).mono ?_); (case side1 => exact atC HR1115_0); (case side2 => exact HC1115_0.out); rintro e w131 ⟨rfl, hb⟩; replace HO_33 := Aside0.mk (Kd.N_below (by (with_reducible repeat (first | apply Kd.N_alloc | apply Kd.N_drewN | apply Kd.N_drew)); exact HO_33.out) hb); replace HO_388 := Aside0.mk (Kd.N_below (by (with_reducible repeat (first | apply Kd.N_alloc | apply Kd.N_drewN | apply Kd.N_drew)); exact HO_388.out) hb); replace HL1115_0 := Aside0.mk (Kd.V_below (by (with_reducible repeat (first | apply Kd.V_alloc | apply Kd.V_drewN | apply Kd.V_drew)); exact HL1115_0.out) hb); replace HR1113_0 := upC HR1113_0 hb; replace HR1115_0 := upC HR1115_0 hb; replace HB := upB HB hb; (try clear hb); (try clear hb2); (try clear hk); (try clear hi)) | (go_at_call 73; (with_reducible refine (impl_LeastDots.calls k4 _ _ (rd_L2 t1092 x390_4) t1118 true _ ?side1 ?side2 A116.out).mono ?_); (case side1 => exact atC HR1115_0); (case side2 => exact HC1115_0.out); rintro e w132 ⟨v1120, rfl, ho0, hb⟩; have HO1121 := lowR ho0 HB; replace HO_33 := Aside0.mk (Kd.N_below (by (with_reducible repeat (first | apply Kd.N_alloc | apply Kd.N_drewN | apply Kd.N_drew)); exact HO_33.out) hb); replace HO_388 := Aside0.mk (Kd.N_below (by (with_reducible repeat (first | apply Kd.N_alloc | apply Kd.N_drewN | apply Kd.N_drew)); exact HO_388.out) hb); replace HL1115_0 := Aside0.mk (Kd.V_below (by (with_reducible repeat (first | apply Kd.V_alloc | apply Kd.V_drewN | apply Kd.V_drew)); exact HL1115_0.out) hb); replace HR1113_0 := upC HR1113_0 hb; replace HR1115_0 := upC HR1115_0 hb; replace HB := upB HB hb; (try clear hb); (try clear hb2); (try clear hk); (try clear hi); (try clear ho0); have p1122 : 0 ≤ ((ji121) : Int) := ofd; have q1122 : (ji121) < (t1092.length : Int) := ofd; obtain ⟨ad1122, A1122_0, c1122_0, e1122, hx1122_0, hl1122_0, hi1122_0⟩ := at_L2 (Kd.N_reads' HO_33.out).2.2 (ji121) p1122 q1122; obtain rfl : ad1113 = ad1122 := (by injection e1122); obtain ⟨ce1122, hce1122, hMe1122, hcc1122⟩ := Kd.N_get HO_33.out [] (ji121) p1122 (by first | exact q1122 | exact of_decide_eq_true (by first | (with_reducible assumption) | assumption) | (have e_ := (Kd.N_reads' HO_33.out).1; omega)); obtain ⟨ua1122_0, uc1122_0, rfl, ul1122_0, ge1122_0⟩ := Kd.FK_slice_open hMe1122; have hv1122_0 := hcc1122 0 _ rfl; rw [Nat.add_zero, show ((Kd.slice 3 (Kd.int .i64))).sz = 1 from rfl, Nat.mul_one] at hv1122_0; replace hv1122_0 := Option.some.inj (hv1122_0.symm.trans hx1122_0); injection hv1122_0 with hva_ hvn_ hvc_; rw [hva_] at ge1122_0; rw [hvc_] at ul1122_0; have HL1122_0 := Aside0.mk (show Kd.V (Kd.int .i64) 3 _ w.heap.size _ _ (rd_L2 t1092 (ji121)) from Kd.V_mk ul1122_0 ge1122_0); clear hva_ hvn_ hvc_ ge1122_0 ul1122_0; clear hcc1122 hce1122; have HR1122_0 := Aside0.mk hi1122_0; have HC1122_0 := Aside0.mk hl1122_0; clear hi1122_0 hl1122_0; replace p1122 := eq_true p1122; replace q1122 := eq_true q1122) | (go_at_call 74; (with_reducible refine (laws_zLess.calls k4 _ _ (rd_L2 t1092 (ji121)) _ _ (rd_L2 t1092 x390_4) true _ ?side1 ?side2 ?side3 ?side4 A124.out).mono ?_); (case side1 => exact atC HR1122_0); (case side2 => exact HC1122_0.out); (case side3 => exact atC HR1115_0); (case side4 => exact HC1115_0.out); rintro e w' ⟨rfl, ⟨nd, rfl⟩⟩; (try first | exact ⟨rfl, _, World.drewN_drewN _ _ _⟩ | exact ⟨rfl, _, Eq.trans (World.drewN_drewN _ _ _) (congrArg (World.drewN _) (Nat.add_assoc _ _ _))⟩); obtain ⟨Ao133, co133, eo133⟩ := Kd.R_slice HO1121.out; subst eo133) | (go_at_call 72; (with_reducible refine (laws_zSame.calls k4 _ _ t1118 _ _ (rd_L2 t1092 x390_4) false _ ?side1 ?side2 ?side3 ?side4 A126.out).mono ?_); (case side1 => exact atRC HO1121); (case side2 => exact (Kd.R_reads' HO1121.out).2.1); (case side3 => exact atC HR1115_0); (case side4 => exact HC1115_0.out); rintro e w' ⟨rfl, ⟨nd, rfl⟩⟩; (try first | exact ⟨rfl, _, World.drewN_drewN _ _ _⟩ | exact ⟨rfl, _, Eq.trans (World.drewN_drewN _ _ _) (congrArg (World.drewN _) (Nat.add_assoc _ _ _))⟩))); try go_wp2_with (first | (go_at_call 54; (with_reducible refine (impl_IsCostas.calls k4 _ _ (rd_L2 t1092 x390_4) true true _ ?side1 ?side2 A115.out).mono ?_); (case side1 => exact atC HR1115_0); (case side2 => exact HC1115_0.out); rintro e w131 ⟨rfl, hb⟩; replace HO_33 := Aside0.mk (Kd.N_below (by (with_reducible repeat (first | apply Kd.N_alloc | apply Kd.N_drewN | apply Kd.N_drew)); exact HO_33.out) hb); replace HO_388 := Aside0.mk (Kd.N_below (by (with_reducible repeat (first | apply Kd.N_alloc | apply Kd.N_drewN | apply Kd.N_drew)); exact HO_388.out) hb); replace HL1115_0 := Aside0.mk (Kd.V_below (by (with_reducible repeat (first | apply Kd.V_alloc | apply Kd.V_drewN | apply Kd.V_drew)); exact HL1115_0.out) hb); replace HR1113_0 := upC HR1113_0 hb; replace HR1115_0 := upC HR1115_0 hb; replace HB := upB HB hb; (try clear hb); (try clear hb2); (try clear hk); (try clear hi)) | (go_at_call 73; (with_reducible refine (impl_LeastDots.calls k4 _ _ (rd_L2 t1092 x390_4) t1118 true _ ?side1 ?side2 A116.out).mono ?_); (case side1 => exact atC HR1115_0); (case side2 => exact HC1115_0.out); rintro e w132 ⟨v1120, rfl, ho0, hb⟩; have HO1121 := lowR ho0 HB; replace HO_33 := Aside0.mk (Kd.N_below (by (with_reducible repeat (first | apply Kd.N_alloc | apply Kd.N_drewN | apply Kd.N_drew)); exact HO_33.out) hb); replace HO_388 := Aside0.mk (Kd.N_below (by (with_reducible repeat (first | apply Kd.N_alloc | apply Kd.N_drewN | apply Kd.N_drew)); exact HO_388.out) hb); replace HL1115_0 := Aside0.mk (Kd.V_below (by (with_reducible repeat (first | apply Kd.V_alloc | apply Kd.V_drewN | apply Kd.V_drew)); exact HL1115_0.out) hb); replace HR1113_0 := upC HR1113_0 hb; replace HR1115_0 := upC HR1115_0 hb; replace HB := upB HB hb; (try clear hb); (try clear hb2); (try clear hk); (try clear hi); (try clear ho0); have p1122 : 0 ≤ ((ji121) : Int) := ofd; have q1122 : (ji121) < (t1092.length : Int) := ofd; obtain ⟨ad1122, A1122_0, c1122_0, e1122, hx1122_0, hl1122_0, hi1122_0⟩ := at_L2 (Kd.N_reads' HO_33.out).2.2 (ji121) p1122 q1122; obtain rfl : ad1113 = ad1122 := (by injection e1122); obtain ⟨ce1122, hce1122, hMe1122, hcc1122⟩ := Kd.N_get HO_33.out [] (ji121) p1122 (by first | exact q1122 | exact of_decide_eq_true (by first | (with_reducible assumption) | assumption) | (have e_ := (Kd.N_reads' HO_33.out).1; omega)); obtain ⟨ua1122_0, uc1122_0, rfl, ul1122_0, ge1122_0⟩ := Kd.FK_slice_open hMe1122; have hv1122_0 := hcc1122 0 _ rfl; rw [Nat.add_zero, show ((Kd.slice 3 (Kd.int .i64))).sz = 1 from rfl, Nat.mul_one] at hv1122_0; replace hv1122_0 := Option.some.inj (hv1122_0.symm.trans hx1122_0); injection hv1122_0 with hva_ hvn_ hvc_; rw [hva_] at ge1122_0; rw [hvc_] at ul1122_0; have HL1122_0 := Aside0.mk (show Kd.V (Kd.int .i64) 3 _ w.heap.size _ _ (rd_L2 t1092 (ji121)) from Kd.V_mk ul1122_0 ge1122_0); clear hva_ hvn_ hvc_ ge1122_0 ul1122_0; clear hcc1122 hce1122; have HR1122_0 := Aside0.mk hi1122_0; have HC1122_0 := Aside0.mk hl1122_0; clear hi1122_0 hl1122_0; replace p1122 := eq_true p1122; replace q1122 := eq_true q1122) | (go_at_call 74; (with_reducible refine (laws_zLess.calls k4 _ _ (rd_L2 t1092 (ji121)) _ _ (rd_L2 t1092 x390_4) true _ ?side1 ?side2 ?side3 ?side4 A124.out).mono ?_); (case side1 => exact atC HR1122_0); (case side2 => exact HC1122_0.out); (case side3 => exact atC HR1115_0); (case side4 => exact HC1115_0.out); rintro e w' ⟨rfl, ⟨nd, rfl⟩⟩; (try first | exact ⟨rfl, _, World.drewN_drewN _ _ _⟩ | exact ⟨rfl, _, Eq.trans (World.drewN_drewN _ _ _) (congrArg (World.drewN _) (Nat.add_assoc _ _ _))⟩); obtain ⟨Ao133, co133, eo133⟩ := Kd.R_slice HO1121.out; subst eo133) | (go_at_call 72; (with_reducible refine (laws_zSame.calls k4 _ _ t1118 _ _ (rd_L2 t1092 x390_4) false _ ?side1 ?side2 ?side3 ?side4 A126.out).mono ?_); (case side1 => exact atRC HO1121); (case side2 => exact (Kd.R_reads' HO1121.out).2.1); (case side3 => exact atC HR1115_0); (case side4 => exact HC1115_0.out); rintro e w' ⟨rfl, ⟨nd, rfl⟩⟩; (try first | exact ⟨rfl, _, World.drewN_drewN _ _ _⟩ | exact ⟨rfl, _, Eq.trans (World.drewN_drewN _ _ _) (congrArg (World.drewN _) (Nat.add_assoc _ _ _))⟩))))
                                  first | go_roundg k4 | ((try subst hji121); go_roundg k4)
                                  case measure => have := HJ9.out; have := HJ29.out; have := HJ42.out; have := HK4.out; omega
                                  case rel => exact ⟨(x47_4), (wrap64 (x390_4 + 1)), eqd, eqd, H', ⟨by have := HJ9.out; have := HJ29.out; have := HJ42.out; have := HK4.out; omega⟩, ⟨by (with_reducible repeat (first | apply Kd.N_alloc | apply Kd.N_drewN | apply Kd.N_drew)); exact HO_33.out⟩, ⟨by (with_reducible repeat (first | apply Kd.N_alloc | apply Kd.N_drewN | apply Kd.N_drew)); exact HO_388.out⟩, ⟨atC HR1113_0⟩, ⟨atB HB⟩⟩
                               ·replace c125 := Bool.eq_false_iff.mpr c125
                                subst c125
                                rw [if_neg (show ¬ (false = true) by decide)] at H
                                exact absurd ((Option.some.inj H).trans HT.out) (by decide)
                              ·rw [if_neg c123] at H
                               exact absurd H (by simp)
                             ·rw [if_neg c122] at H
                              exact absurd H (by simp)
                            ·rw [if_neg c120] at H
                             have c120b0 : decide (0 < x390_4) = false := decide_eq_false c120
                             clear c120
                             replace H := Option.bind_eq_some_iff.mp H
                             obtain ⟨t1125, A1340, H⟩ := H
                             (try dsimp only at H)
                             have A134 := Aside0.mk A1340
                             clear A1340
                             by_cases c135 : t1125 = true
                             ·subst c135
                              rw [if_pos rfl] at H
                              have H' := Aside0.mk H
                              clear H
                              have p1115 : 0 ≤ (x390_4 : Int) := ofd
                              have q1115 : x390_4 < (t1092.length : Int) := ofd
                              obtain ⟨ad1115, A1115_0, c1115_0, e1115, hx1115_0, hl1115_0, hi1115_0⟩ := at_L2 (Kd.N_reads' HO_388.out).2.2 x390_4 p1115 q1115
                              obtain rfl : ad1113 = ad1115 := (by injection e1115)
                              obtain ⟨ce1115, hce1115, hMe1115, hcc1115⟩ := Kd.N_get HO_388.out [] x390_4 p1115 (by first | exact q1115 | exact of_decide_eq_true (by first | (with_reducible assumption) | assumption) | (have e_ := (Kd.N_reads' HO_388.out).1; omega))
                              obtain ⟨ua1115_0, uc1115_0, rfl, ul1115_0, ge1115_0⟩ := Kd.FK_slice_open hMe1115
                              have hv1115_0 := hcc1115 0 _ rfl
                              rw [Nat.add_zero, show ((Kd.slice 3 (Kd.int .i64))).sz = 1 from rfl, Nat.mul_one] at hv1115_0
                              replace hv1115_0 := Option.some.inj (hv1115_0.symm.trans hx1115_0)
                              injection hv1115_0 with hva_ hvn_ hvc_
                              rw [hva_] at ge1115_0
                              rw [hvc_] at ul1115_0
                              have HL1115_0 := Aside0.mk (show Kd.V (Kd.int .i64) 3 _ w.heap.size _ _ (rd_L2 t1092 x390_4) from Kd.V_mk ul1115_0 ge1115_0)
                              clear hva_ hvn_ hvc_ ge1115_0 ul1115_0
                              clear hcc1115 hce1115
                              have HR1115_0 := Aside0.mk hi1115_0
                              have HC1115_0 := Aside0.mk hl1115_0
                              clear hi1115_0 hl1115_0
                              replace p1115 := eq_true p1115
                              replace q1115 := eq_true q1115
                              have q1115m := q1115; (try rw [List.length_drop] at q1115m); (try rw [List.drop_one] at q1115m)
                              as_aux_lemma =>
                               go_wp2_with (first | (go_at_call 54; (with_reducible refine (impl_IsCostas.calls k4 _ _ (rd_L2 t1092 x390_4) true true _ ?side1 ?side2 A115.out).mono ?_); (case side1 => exact atC HR1115_0); (case side2 => exact HC1115_0.out); rintro e w136 ⟨rfl, hb⟩; replace HO_33 := Aside0.mk (Kd.N_below (by (with_reducible repeat (first | apply Kd.N_alloc | apply Kd.N_drewN | apply Kd.N_drew)); exact HO_33.out) hb); replace HO_388 := Aside0.mk (Kd.N_below (by (with_reducible repeat (first | apply Kd.N_alloc | apply Kd.N_drewN | apply Kd.N_drew)); exact HO_388.out) hb); replace HL1115_0 := Aside0.mk (Kd.V_below (by (with_reducible repeat (first | apply Kd.V_alloc | apply Kd.V_drewN | apply Kd.V_drew)); exact HL1115_0.out) hb); replace HR1113_0 := upC HR1113_0 hb; replace HR1115_0 := upC HR1115_0 hb; replace HB := upB HB hb; (try clear hb); (try clear hb2); (try clear hk); (try clear hi)) | (go_at_call 73; (with_reducible refine (impl_LeastDots.calls k4 _ _ (rd_L2 t1092 x390_4) t1118 true _ ?side1 ?side2 A116.out).mono ?_); (case side1 => exact atC HR1115_0); (case side2 => exact HC1115_0.out); rintro e w137 ⟨v1120, rfl, ho0, hb⟩; have HO1121 := lowR ho0 HB; replace HO_33 := Aside0.mk (Kd.N_below (by (with_reducible repeat (first | apply Kd.N_alloc | apply Kd.N_drewN | apply Kd.N_drew)); exact HO_33.out) hb); replace HO_388 := Aside0.mk (Kd.N_below (by (with_reducible repeat (first | apply Kd.N_alloc | apply Kd.N_drewN | apply Kd.N_drew)); exact HO_388.out) hb); replace HL1115_0 := Aside0.mk (Kd.V_below (by (with_reducible repeat (first | apply Kd.V_alloc | apply Kd.V_drewN | apply Kd.V_drew)); exact HL1115_0.out) hb); replace HR1113_0 := upC HR1113_0 hb; replace HR1115_0 := upC HR1115_0 hb; replace HB := upB HB hb; (try clear hb); (try clear hb2); (try clear hk); (try clear hi); (try clear ho0); obtain ⟨Ao138, co138, eo138⟩ := Kd.R_slice HO1121.out; subst eo138) | (go_at_call 72; (with_reducible refine (laws_zSame.calls k4 _ _ t1118 _ _ (rd_L2 t1092 x390_4) true _ ?side1 ?side2 ?side3 ?side4 A134.out).mono ?_); (case side1 => exact atRC HO1121); (case side2 => exact (Kd.R_reads' HO1121.out).2.1); (case side3 => exact atC HR1115_0); (case side4 => exact HC1115_0.out); rintro e w' ⟨rfl, ⟨nd, rfl⟩⟩; (try first | exact ⟨rfl, _, World.drewN_drewN _ _ _⟩ | exact ⟨rfl, _, Eq.trans (World.drewN_drewN _ _ _) (congrArg (World.drewN _) (Nat.add_assoc _ _ _))⟩)))
                               repeat (go_quiet (first | (go_at_call 54; (with_reducible refine (impl_IsCostas.calls k4 _ _ (rd_L2 t1092 x390_4) true true _ ?side1 ?side2 A115.out).mono ?_); (case side1 => exact atC HR1115_0); (case side2 => exact HC1115_0.out); rintro e w136 ⟨rfl, hb⟩; replace HO_33 := Aside0.mk (Kd.N_below (by (with_reducible repeat (first | apply Kd.N_alloc | apply Kd.N_drewN | apply Kd.N_drew)); exact HO_33.out) hb); replace HO_388 := Aside0.mk (Kd.N_below (by (with_reducible repeat (first | apply Kd.N_alloc | apply Kd.N_drewN | apply Kd.N_drew)); exact HO_388.out) hb); replace HL1115_0 := Aside0.mk (Kd.V_below (by (with_reducible repeat (first | apply Kd.V_alloc | apply Kd.V_drewN | apply Kd.V_drew)); exact HL1115_0.out) hb); replace HR1113_0 := upC HR1113_0 hb; replace HR1115_0 := upC HR1115_0 hb; replace HB := upB HB hb; (try clear hb); (try clear hb2); (try clear hk); (try clear hi)) | (go_at_call 73; (with_reducible refine (impl_LeastDots.calls k4 _ _ (rd_L2 t1092 x390_4) t1118 true _ ?side1 ?side2 A116.out).mono ?_); (case side1 => exact atC HR1115_0); (case side2 => exact HC1115_0.out); rintro e w137 ⟨v1120, rfl, ho0, hb⟩; have HO1121 := lowR ho0 HB; replace HO_33 := Aside0.mk (Kd.N_below (by (with_reducible repeat (first | apply Kd.N_alloc | apply Kd.N_drewN | apply Kd.N_drew)); exact HO_33.out) hb); replace HO_388 := Aside0.mk (Kd.N_below (by (with_reducible repeat (first | apply Kd.N_alloc | apply Kd.N_drewN | apply Kd.N_drew)); exact HO_388.out) hb); replace HL1115_0 := Aside0.mk (Kd.V_below (by (with_reducible repeat (first | apply Kd.V_alloc | apply Kd.V_drewN | apply Kd.V_drew)); exact HL1115_0.out) hb); replace HR1113_0 := upC HR1113_0 hb; replace HR1115_0 := upC HR1115_0 hb; replace HB := upB HB hb; (try clear hb); (try clear hb2); (try clear hk); (try clear hi); (try clear ho0); obtain ⟨Ao138, co138, eo138⟩ := Kd.R_slice HO1121.out; subst eo138) | (go_at_call 72; (with_reducible refine (laws_zSame.calls k4 _ _ t1118 _ _ (rd_L2 t1092 x390_4) true _ ?side1 ?side2 ?side3 ?side4 A134.out).mono ?_); (case side1 => exact atRC HO1121); (case side2 => exact (Kd.R_reads' HO1121.out).2.1); (case side3 => exact atC HR1115_0); (case side4 => exact HC1115_0.out); rintro e w' ⟨rfl, ⟨nd, rfl⟩⟩; (try first | exact ⟨rfl, _, World.drewN_drewN _ _ _⟩ | exact ⟨rfl, _, Eq.trans (World.drewN_drewN _ _ _) (congrArg (World.drewN _) (Nat.add_assoc _ _ _))⟩))); try go_wp2_with (first | (go_at_call 54; (with_reducible refine (impl_IsCostas.calls k4 _ _ (rd_L2 t1092 x390_4) true true _ ?side1 ?side2 A115.out).mono ?_); (case side1 => exact atC HR1115_0); (case side2 => exact HC1115_0.out); rintro e w136 ⟨rfl, hb⟩; replace HO_33 := Aside0.mk (Kd.N_below (by (with_reducible repeat (first | apply Kd.N_alloc | apply Kd.N_drewN | apply Kd.N_drew)); exact HO_33.out) hb); replace HO_388 := Aside0.mk (Kd.N_below (by (with_reducible repeat (first | apply Kd.N_alloc | apply Kd.N_drewN | apply Kd.N_drew)); exact HO_388.out) hb); replace HL1115_0 := Aside0.mk (Kd.V_below (by (with_reducible repeat (first | apply Kd.V_alloc | apply Kd.V_drewN | apply Kd.V_drew)); exact HL1115_0.out) hb); replace HR1113_0 := upC HR1113_0 hb; replace HR1115_0 := upC HR1115_0 hb; replace HB := upB HB hb; (try clear hb); (try clear hb2); (try clear hk); (try clear hi)) | (go_at_call 73; (with_reducible refine (impl_LeastDots.calls k4 _ _ (rd_L2 t1092 x390_4) t1118 true _ ?side1 ?side2 A116.out).mono ?_); (case side1 => exact atC HR1115_0); (case side2 => exact HC1115_0.out); rintro e w137 ⟨v1120, rfl, ho0, hb⟩; have HO1121 := lowR ho0 HB; replace HO_33 := Aside0.mk (Kd.N_below (by (with_reducible repeat (first | apply Kd.N_alloc | apply Kd.N_drewN | apply Kd.N_drew)); exact HO_33.out) hb); replace HO_388 := Aside0.mk (Kd.N_below (by (with_reducible repeat (first | apply Kd.N_alloc | apply Kd.N_drewN | apply Kd.N_drew)); exact HO_388.out) hb); replace HL1115_0 := Aside0.mk (Kd.V_below (by (with_reducible repeat (first | apply Kd.V_alloc | apply Kd.V_drewN | apply Kd.V_drew)); exact HL1115_0.out) hb); replace HR1113_0 := upC HR1113_0 hb; replace HR1115_0 := upC HR1115_0 hb; replace HB := upB HB hb; (try clear hb); (try clear hb2); (try clear hk); (try clear hi); (try clear ho0); obtain ⟨Ao138, co138, eo138⟩ := Kd.R_slice HO1121.out; subst eo138) | (go_at_call 72; (with_reducible refine (laws_zSame.calls k4 _ _ t1118 _ _ (rd_L2 t1092 x390_4) true _ ?side1 ?side2 ?side3 ?side4 A134.out).mono ?_); (case side1 => exact atRC HO1121); (case side2 => exact (Kd.R_reads' HO1121.out).2.1); (case side3 => exact atC HR1115_0); (case side4 => exact HC1115_0.out); rintro e w' ⟨rfl, ⟨nd, rfl⟩⟩; (try first | exact ⟨rfl, _, World.drewN_drewN _ _ _⟩ | exact ⟨rfl, _, Eq.trans (World.drewN_drewN _ _ _) (congrArg (World.drewN _) (Nat.add_assoc _ _ _))⟩))))
                               go_roundg k4
                               case measure => have := HJ9.out; have := HJ29.out; have := HJ42.out; have := HK4.out; omega
                               case rel => exact ⟨(wrap64 (x47_4 + 1)), (wrap64 (x390_4 + 1)), eqd, eqd, H', ⟨by have := HJ9.out; have := HJ29.out; have := HJ42.out; have := HK4.out; omega⟩, ⟨by (with_reducible repeat (first | apply Kd.N_alloc | apply Kd.N_drewN | apply Kd.N_drew)); exact HO_33.out⟩, ⟨by (with_reducible repeat (first | apply Kd.N_alloc | apply Kd.N_drewN | apply Kd.N_drew)); exact HO_388.out⟩, ⟨atC HR1113_0⟩, ⟨atB HB⟩⟩
                             ·replace c135 := Bool.eq_false_iff.mpr c135
                              subst c135
                              rw [if_neg (show ¬ (false = true) by decide)] at H
                              have H' := Aside0.mk H
                              clear H
                              have p1115 : 0 ≤ (x390_4 : Int) := ofd
                              have q1115 : x390_4 < (t1092.length : Int) := ofd
                              obtain ⟨ad1115, A1115_0, c1115_0, e1115, hx1115_0, hl1115_0, hi1115_0⟩ := at_L2 (Kd.N_reads' HO_388.out).2.2 x390_4 p1115 q1115
                              obtain rfl : ad1113 = ad1115 := (by injection e1115)
                              obtain ⟨ce1115, hce1115, hMe1115, hcc1115⟩ := Kd.N_get HO_388.out [] x390_4 p1115 (by first | exact q1115 | exact of_decide_eq_true (by first | (with_reducible assumption) | assumption) | (have e_ := (Kd.N_reads' HO_388.out).1; omega))
                              obtain ⟨ua1115_0, uc1115_0, rfl, ul1115_0, ge1115_0⟩ := Kd.FK_slice_open hMe1115
                              have hv1115_0 := hcc1115 0 _ rfl
                              rw [Nat.add_zero, show ((Kd.slice 3 (Kd.int .i64))).sz = 1 from rfl, Nat.mul_one] at hv1115_0
                              replace hv1115_0 := Option.some.inj (hv1115_0.symm.trans hx1115_0)
                              injection hv1115_0 with hva_ hvn_ hvc_
                              rw [hva_] at ge1115_0
                              rw [hvc_] at ul1115_0
                              have HL1115_0 := Aside0.mk (show Kd.V (Kd.int .i64) 3 _ w.heap.size _ _ (rd_L2 t1092 x390_4) from Kd.V_mk ul1115_0 ge1115_0)
                              clear hva_ hvn_ hvc_ ge1115_0 ul1115_0
                              clear hcc1115 hce1115
                              have HR1115_0 := Aside0.mk hi1115_0
                              have HC1115_0 := Aside0.mk hl1115_0
                              clear hi1115_0 hl1115_0
                              replace p1115 := eq_true p1115
                              replace q1115 := eq_true q1115
                              have q1115m := q1115; (try rw [List.length_drop] at q1115m); (try rw [List.drop_one] at q1115m)
                              as_aux_lemma =>
                               go_wp2_with (first | (go_at_call 54; (with_reducible refine (impl_IsCostas.calls k4 _ _ (rd_L2 t1092 x390_4) true true _ ?side1 ?side2 A115.out).mono ?_); (case side1 => exact atC HR1115_0); (case side2 => exact HC1115_0.out); rintro e w139 ⟨rfl, hb⟩; replace HO_33 := Aside0.mk (Kd.N_below (by (with_reducible repeat (first | apply Kd.N_alloc | apply Kd.N_drewN | apply Kd.N_drew)); exact HO_33.out) hb); replace HO_388 := Aside0.mk (Kd.N_below (by (with_reducible repeat (first | apply Kd.N_alloc | apply Kd.N_drewN | apply Kd.N_drew)); exact HO_388.out) hb); replace HL1115_0 := Aside0.mk (Kd.V_below (by (with_reducible repeat (first | apply Kd.V_alloc | apply Kd.V_drewN | apply Kd.V_drew)); exact HL1115_0.out) hb); replace HR1113_0 := upC HR1113_0 hb; replace HR1115_0 := upC HR1115_0 hb; replace HB := upB HB hb; (try clear hb); (try clear hb2); (try clear hk); (try clear hi)) | (go_at_call 73; (with_reducible refine (impl_LeastDots.calls k4 _ _ (rd_L2 t1092 x390_4) t1118 true _ ?side1 ?side2 A116.out).mono ?_); (case side1 => exact atC HR1115_0); (case side2 => exact HC1115_0.out); rintro e w140 ⟨v1120, rfl, ho0, hb⟩; have HO1121 := lowR ho0 HB; replace HO_33 := Aside0.mk (Kd.N_below (by (with_reducible repeat (first | apply Kd.N_alloc | apply Kd.N_drewN | apply Kd.N_drew)); exact HO_33.out) hb); replace HO_388 := Aside0.mk (Kd.N_below (by (with_reducible repeat (first | apply Kd.N_alloc | apply Kd.N_drewN | apply Kd.N_drew)); exact HO_388.out) hb); replace HL1115_0 := Aside0.mk (Kd.V_below (by (with_reducible repeat (first | apply Kd.V_alloc | apply Kd.V_drewN | apply Kd.V_drew)); exact HL1115_0.out) hb); replace HR1113_0 := upC HR1113_0 hb; replace HR1115_0 := upC HR1115_0 hb; replace HB := upB HB hb; (try clear hb); (try clear hb2); (try clear hk); (try clear hi); (try clear ho0); obtain ⟨Ao141, co141, eo141⟩ := Kd.R_slice HO1121.out; subst eo141) | (go_at_call 72; (with_reducible refine (laws_zSame.calls k4 _ _ t1118 _ _ (rd_L2 t1092 x390_4) false _ ?side1 ?side2 ?side3 ?side4 A134.out).mono ?_); (case side1 => exact atRC HO1121); (case side2 => exact (Kd.R_reads' HO1121.out).2.1); (case side3 => exact atC HR1115_0); (case side4 => exact HC1115_0.out); rintro e w' ⟨rfl, ⟨nd, rfl⟩⟩; (try first | exact ⟨rfl, _, World.drewN_drewN _ _ _⟩ | exact ⟨rfl, _, Eq.trans (World.drewN_drewN _ _ _) (congrArg (World.drewN _) (Nat.add_assoc _ _ _))⟩)))
                               repeat (go_quiet (first | (go_at_call 54; (with_reducible refine (impl_IsCostas.calls k4 _ _ (rd_L2 t1092 x390_4) true true _ ?side1 ?side2 A115.out).mono ?_); (case side1 => exact atC HR1115_0); (case side2 => exact HC1115_0.out); rintro e w139 ⟨rfl, hb⟩; replace HO_33 := Aside0.mk (Kd.N_below (by (with_reducible repeat (first | apply Kd.N_alloc | apply Kd.N_drewN | apply Kd.N_drew)); exact HO_33.out) hb); replace HO_388 := Aside0.mk (Kd.N_below (by (with_reducible repeat (first | apply Kd.N_alloc | apply Kd.N_drewN | apply Kd.N_drew)); exact HO_388.out) hb); replace HL1115_0 := Aside0.mk (Kd.V_below (by (with_reducible repeat (first | apply Kd.V_alloc | apply Kd.V_drewN | apply Kd.V_drew)); exact HL1115_0.out) hb); replace HR1113_0 := upC HR1113_0 hb; replace HR1115_0 := upC HR1115_0 hb; replace HB := upB HB hb; (try clear hb); (try clear hb2); (try clear hk); (try clear hi)) | (go_at_call 73; (with_reducible refine (impl_LeastDots.calls k4 _ _ (rd_L2 t1092 x390_4) t1118 true _ ?side1 ?side2 A116.out).mono ?_); (case side1 => exact atC HR1115_0); (case side2 => exact HC1115_0.out); rintro e w140 ⟨v1120, rfl, ho0, hb⟩; have HO1121 := lowR ho0 HB; replace HO_33 := Aside0.mk (Kd.N_below (by (with_reducible repeat (first | apply Kd.N_alloc | apply Kd.N_drewN | apply Kd.N_drew)); exact HO_33.out) hb); replace HO_388 := Aside0.mk (Kd.N_below (by (with_reducible repeat (first | apply Kd.N_alloc | apply Kd.N_drewN | apply Kd.N_drew)); exact HO_388.out) hb); replace HL1115_0 := Aside0.mk (Kd.V_below (by (with_reducible repeat (first | apply Kd.V_alloc | apply Kd.V_drewN | apply Kd.V_drew)); exact HL1115_0.out) hb); replace HR1113_0 := upC HR1113_0 hb; replace HR1115_0 := upC HR1115_0 hb; replace HB := upB HB hb; (try clear hb); (try clear hb2); (try clear hk); (try clear hi); (try clear ho0); obtain ⟨Ao141, co141, eo141⟩ := Kd.R_slice HO1121.out; subst eo141) | (go_at_call 72; (with_reducible refine (laws_zSame.calls k4 _ _ t1118 _ _ (rd_L2 t1092 x390_4) false _ ?side1 ?side2 ?side3 ?side4 A134.out).mono ?_); (case side1 => exact atRC HO1121); (case side2 => exact (Kd.R_reads' HO1121.out).2.1); (case side3 => exact atC HR1115_0); (case side4 => exact HC1115_0.out); rintro e w' ⟨rfl, ⟨nd, rfl⟩⟩; (try first | exact ⟨rfl, _, World.drewN_drewN _ _ _⟩ | exact ⟨rfl, _, Eq.trans (World.drewN_drewN _ _ _) (congrArg (World.drewN _) (Nat.add_assoc _ _ _))⟩))); try go_wp2_with (first | (go_at_call 54; (with_reducible refine (impl_IsCostas.calls k4 _ _ (rd_L2 t1092 x390_4) true true _ ?side1 ?side2 A115.out).mono ?_); (case side1 => exact atC HR1115_0); (case side2 => exact HC1115_0.out); rintro e w139 ⟨rfl, hb⟩; replace HO_33 := Aside0.mk (Kd.N_below (by (with_reducible repeat (first | apply Kd.N_alloc | apply Kd.N_drewN | apply Kd.N_drew)); exact HO_33.out) hb); replace HO_388 := Aside0.mk (Kd.N_below (by (with_reducible repeat (first | apply Kd.N_alloc | apply Kd.N_drewN | apply Kd.N_drew)); exact HO_388.out) hb); replace HL1115_0 := Aside0.mk (Kd.V_below (by (with_reducible repeat (first | apply Kd.V_alloc | apply Kd.V_drewN | apply Kd.V_drew)); exact HL1115_0.out) hb); replace HR1113_0 := upC HR1113_0 hb; replace HR1115_0 := upC HR1115_0 hb; replace HB := upB HB hb; (try clear hb); (try clear hb2); (try clear hk); (try clear hi)) | (go_at_call 73; (with_reducible refine (impl_LeastDots.calls k4 _ _ (rd_L2 t1092 x390_4) t1118 true _ ?side1 ?side2 A116.out).mono ?_); (case side1 => exact atC HR1115_0); (case side2 => exact HC1115_0.out); rintro e w140 ⟨v1120, rfl, ho0, hb⟩; have HO1121 := lowR ho0 HB; replace HO_33 := Aside0.mk (Kd.N_below (by (with_reducible repeat (first | apply Kd.N_alloc | apply Kd.N_drewN | apply Kd.N_drew)); exact HO_33.out) hb); replace HO_388 := Aside0.mk (Kd.N_below (by (with_reducible repeat (first | apply Kd.N_alloc | apply Kd.N_drewN | apply Kd.N_drew)); exact HO_388.out) hb); replace HL1115_0 := Aside0.mk (Kd.V_below (by (with_reducible repeat (first | apply Kd.V_alloc | apply Kd.V_drewN | apply Kd.V_drew)); exact HL1115_0.out) hb); replace HR1113_0 := upC HR1113_0 hb; replace HR1115_0 := upC HR1115_0 hb; replace HB := upB HB hb; (try clear hb); (try clear hb2); (try clear hk); (try clear hi); (try clear ho0); obtain ⟨Ao141, co141, eo141⟩ := Kd.R_slice HO1121.out; subst eo141) | (go_at_call 72; (with_reducible refine (laws_zSame.calls k4 _ _ t1118 _ _ (rd_L2 t1092 x390_4) false _ ?side1 ?side2 ?side3 ?side4 A134.out).mono ?_); (case side1 => exact atRC HO1121); (case side2 => exact (Kd.R_reads' HO1121.out).2.1); (case side3 => exact atC HR1115_0); (case side4 => exact HC1115_0.out); rintro e w' ⟨rfl, ⟨nd, rfl⟩⟩; (try first | exact ⟨rfl, _, World.drewN_drewN _ _ _⟩ | exact ⟨rfl, _, Eq.trans (World.drewN_drewN _ _ _) (congrArg (World.drewN _) (Nat.add_assoc _ _ _))⟩))))
                               go_roundg k4
                               case measure => have := HJ9.out; have := HJ29.out; have := HJ42.out; have := HK4.out; omega
                               case rel => exact ⟨(x47_4), (wrap64 (x390_4 + 1)), eqd, eqd, H', ⟨by have := HJ9.out; have := HJ29.out; have := HJ42.out; have := HK4.out; omega⟩, ⟨by (with_reducible repeat (first | apply Kd.N_alloc | apply Kd.N_drewN | apply Kd.N_drew)); exact HO_33.out⟩, ⟨by (with_reducible repeat (first | apply Kd.N_alloc | apply Kd.N_drewN | apply Kd.N_drew)); exact HO_388.out⟩, ⟨atC HR1113_0⟩, ⟨atB HB⟩⟩
                           ·replace c119 := Bool.eq_false_iff.mpr c119
                            subst c119
                            rw [if_neg (show ¬ (false = true) by decide)] at H
                            exact absurd ((Option.some.inj H).trans HT.out) (by decide)
                          ·replace c118 := Bool.eq_false_iff.mpr c118
                           subst c118
                           rw [if_neg (show ¬ (false = true) by decide)] at H
                           exact absurd ((Option.some.inj H).trans HT.out) (by decide)
                         ·replace c117 := Bool.eq_false_iff.mpr c117
                          subst c117
                          rw [if_neg (show ¬ (false = true) by decide)] at H
                          exact absurd ((Option.some.inj H).trans HT.out) (by decide)
                        ·rw [if_neg c114] at H
                         exact absurd H (by simp)
                       ·rw [if_neg c113] at H
                        exact absurd H (by simp)
                      ·rw [if_neg c112] at H
                       have c112b0 : decide (x390_4 < (t1092.length : Int)) = false := decide_eq_false c112
                       clear c112
                       by_cases c142 : x47_4 = t1104
                       ·rw [if_pos c142] at H
                        have c142b0 : (x47_4 == t1104) = true := beq_iff_eq.mpr c142
                        have c142b1 : (x47_4 != t1104) = false := bne_eq_false_iff_eq.mpr c142
                        clear c142
                        have H' := Aside0.mk H
                        clear H
                        as_aux_lemma =>
                         go_wp2
                         repeat (go_quiet (fail); try go_wp2)
                         go_meet
                         case rel => exact ⟨_, H', ⟨by have := HJ9.out; have := HJ29.out; have := HJ42.out; have := HK4.out; first | omega | exact Nat.le_refl _⟩, ⟨atB HB⟩⟩
                       ·rw [if_neg c142] at H
                        have c142b0 : (x47_4 == t1104) = false := beq_eq_false_iff_ne.mpr c142
                        have c142b1 : (x47_4 != t1104) = true := bne_iff_ne.mpr c142
                        exact absurd ((Option.some.inj H).trans HT.out) (by decide)
                ·replace c107 := Bool.eq_false_iff.mpr c107
                 subst c107
                 rw [if_neg (show ¬ (false = true) by decide)] at H
                 exact absurd ((Option.some.inj H).trans HT.out) (by decide)
               ·rw [if_neg c105] at H
                exact absurd H (by simp)
              ·replace c104 := Bool.eq_false_iff.mpr c104
               subst c104
               rw [if_neg (show ¬ (false = true) by decide)] at H
               exact absurd ((Option.some.inj H).trans HT.out) (by decide)
             ·rw [if_neg c103] at H
              have c103b0 : ((t1092.length : Int) == t1100) = false := beq_eq_false_iff_ne.mpr c103
              have c103b1 : ((t1092.length : Int) != t1100) = true := bne_iff_ne.mpr c103
              (first | rw [c103b0] | (simp only [i64_w, i32_w]; rw [c103b0]) | skip)
              exact absurd ((Option.some.inj H).trans HT.out) (by decide)
            ·replace c101 := Bool.eq_false_iff.mpr c101
             subst c101
             obtain rfl : t1099 = false := (by simpa using c82b0)
             obtain rfl : t1101 = false := (by simpa using c89b0)
             obtain rfl : t1105 = false := (by simpa using c90b0)
             rw [if_neg (show ¬ (false = true) by decide)] at H
             have H' := Aside0.mk H
             clear H
             as_aux_lemma =>
              go_wp2
              repeat (go_quiet (fail); try go_wp2)
              go_meet
              case rel => exact ⟨_, H', ⟨by have := HJ9.out; have := HJ29.out; have := HJ42.out; first | omega | exact Nat.le_refl _⟩, ⟨atB HB⟩⟩
           case rest =>
            rename_i z4_0 z4_1 z4_2 z4_3 z4_4 z4_5 z4_6 z4_7 z4_8 z4_9 z4_10 z4_11 z4_12 z4_13 z4_14 z4_15 z4_16 z4_17 z4_18 z4_19 z4_20 z4_21 z4_22 z4_23 z4_24 z4_25 z4_26 z4_27 z4_28 z4_29 z4_30 z4_31 z4_32 z4_33 z4_34 z4_35 z4_36 z4_37 z4_38 z4_39 z4_40 z4_41 z4_42 z4_43 z4_44 z4_45 z4_46 z4_47 z4_48 z4_49 z4_50 z4_51 z4_52 z4_53 z4_54 z4_55 z4_56 z4_57 z4_58 z4_59 z4_60 z4_61 z4_62 z4_63 z4_64 z4_65 z4_66 z4_67 z4_68 z4_69 z4_70 z4_71 z4_72 z4_73 z4_74 z4_75 z4_76 z4_77 z4_78 z4_79 z4_80 z4_81 z4_82 z4_83 z4_84 z4_85 z4_86 z4_87 z4_88 z4_89 z4_90 z4_91 z4_92 z4_93 z4_94 z4_95 z4_96 z4_97 z4_98 z4_99 z4_100 z4_101 z4_102 z4_103 z4_104 z4_105 z4_106 z4_107 z4_108 z4_109 z4_110 z4_111 z4_112 z4_113 z4_114 z4_115 z4_116 z4_117 z4_118 z4_119 z4_120 z4_121 z4_122 z4_123 z4_124 z4_125 z4_126 z4_127 z4_128 z4_129 z4_130 z4_131 z4_132 z4_133 z4_134 z4_135 z4_136 z4_137 z4_138 z4_139 z4_140 z4_141 z4_142 z4_143 z4_144 z4_145 z4_146 z4_147 z4_148 z4_149 z4_150 z4_151 z4_152 z4_153 z4_154 z4_155 z4_156 z4_157 z4_158 z4_159 z4_160 z4_161 z4_162 z4_163 z4_164 z4_165 z4_166 z4_167 z4_168 z4_169 z4_170 z4_171 z4_172 z4_173 z4_174 z4_175 z4_176 z4_177 z4_178 z4_179 z4_180 z4_181 z4_182 z4_183 z4_184 z4_185 z4_186 z4_187 z4_188 z4_189 z4_190 z4_191 z4_192 z4_193 z4_194 z4_195 z4_196 z4_197 z4_198 z4_199 z4_200 z4_201 z4_202 z4_203 z4_204 z4_205 z4_206 z4_207 z4_208 z4_209 z4_210 z4_211 z4_212 z4_213 z4_214 z4_215 z4_216 z4_217 z4_218 z4_219 z4_220 z4_221 z4_222 z4_223 z4_224 z4_225 z4_226 z4_227 z4_228 z4_229 z4_230 z4_231 z4_232 z4_233 z4_234 z4_235 z4_236 z4_237 z4_238 z4_239 z4_240 z4_241 z4_242 z4_243 z4_244 z4_245 z4_246 z4_247 z4_248 z4_249 z4_250 z4_251 z4_252 z4_253 z4_254 z4_255 z4_256 z4_257 z4_258 z4_259 z4_260 z4_261 z4_262 z4_263 z4_264 z4_265 z4_266 z4_267 z4_268 z4_269 z4_270 z4_271 z4_272 z4_273 z4_274 z4_275 z4_276 z4_277 z4_278 z4_279 z4_280 z4_281 z4_282 z4_283 z4_284 z4_285 z4_286 z4_287 z4_288 z4_289 z4_290 z4_291 z4_292 z4_293 z4_294 z4_295 z4_296 z4_297 z4_298 z4_299 z4_300 z4_301 z4_302 z4_303 z4_304 z4_305 z4_306 z4_307 z4_308 z4_309 z4_310 z4_311 z4_312 z4_313 z4_314 z4_315 z4_316 z4_317 z4_318 z4_319 z4_320 z4_321 z4_322 z4_323 z4_324 z4_325 z4_326 z4_327 z4_328 z4_329 z4_330 z4_331 z4_332 z4_333 z4_334 z4_335 z4_336 z4_337 z4_338 z4_339 z4_340 z4_341 z4_342 z4_343 z4_344 z4_345 z4_346 z4_347 z4_348 z4_349 z4_350 z4_351 z4_352 z4_353 z4_354 z4_355 z4_356 z4_357 z4_358 z4_359 z4_360 z4_361 z4_362 z4_363 z4_364 z4_365 z4_366 z4_367 z4_368 z4_369 z4_370 z4_371 z4_372 z4_373 z4_374 z4_375 z4_376 z4_377 z4_378 z4_379 z4_380 z4_381 z4_382 z4_383 z4_384 z4_385 z4_386 z4_387 z4_388 z4_389 z4_390 z4_391 z4_392 z4_393 z4_394 z4_395 z4_396 z4_397 z4_398 z4_399 z4_400 z4_401 z4_402 z4_403 z4_404 z4_405 z4_406 z4_407 z4_408 z4_409 z4_410 z4_411 z4_412 z4_413 z4_414 z4_415 z4_416 z4_417 z4_418 z4_419 z4_420 z4_421 z4_422 z4_423 z4_424 z4_425 z4_426 z4_427 z4_428 z4_429 z4_430 z4_431 z4_432 z4_433 z4_434 z4_435 z4_436 z4_437 z4_438 z4_439 z4_440 z4_441 z4_442
            exact laws_FnDotsCostas.rest4 A0 c0 l0 A1 c1 l1 r w HR1 HC1 HT t1045 t1048 t1049 t1050 t1051 t1052 t1053 t1054 t1055 t1056 t1057 t1058 t1059 Ao12 co12 u18 u19 u20 u21 u22 u23 u24 u25 u26 u27 u28 u29 u31 u248 u249 u250 kj42 t1091 t1092 t1093 t1096 t1099 t1100 t1101 t1102 t1103 t1104 t1105 t1106 t1107 c82b0 c82b1 c82b2 c85b0 c85b1 c85b2 c86b0 c86b1 c87b0 c87b1 c87b2 c88b0 c88b1 c89b0 c89b1 c89b2 c90b0 c90b1 c90b2 HC91 w98 HB Ao99 co99 Ao100 co100 z4_441 (by rfl) z4_442 wc u4 u45 u46 u47 u48 u49 u50 u51 u52 u53 u72 u73 u74 u75 u76 u77 u78 u79 u80 u81 u82 u83 u84 u85 u86 u87 u88 u89 u90 u91 u92 u93 u94 u95 u96 u97 u98 u99 u100 u101 u102 u103 u104 u105 u106 u107 u108 u109 u110 u111 u112 u113 u114 u115 u116 u117 u118 u119 u120 u121 u122 u123 u124 u125 u126 u127 u128 u129 u130 u131 u132 u133 u134 u135 u136 u137 u138 u139 u140 u141 u142 u143 u144 u145 u146 u147 u148 u149 u150 u151 u152 u153 u154 u155 u156 u157 u158 u159 u160 u161 u162 u163 u164 u165 u166 u167 u168 u169 u170 u171 u172 u173 u174 u175 u176 u177 u178 u179 u180 u181 u182 u183 u184 u185 u186 u187 u188 u189 u190 u191 u192 u193 u194 u195 u196 u197 u198 u199 u200 u201 u202 u203 u204 u205 u206 u207 u208 u209 u210 u211 u212 u213 u214 u215 u216 u217 u218 u219 u220 u221 u222 u223 u224 u225 u226 u227 u228 u229 u230 u231 u232 u233 u234 u235 u236 u237 u238 u239 u240 u241 u242 u243 u244 u245 u246 u247 u251 u252 u253 u254 u255 u256 u257 u258 u259 u260 u261 u262 u263 u264 u265 u266 u267 u268 u269 u270 u271 u272 u273 u274 u275 u276 u277 u278 u279 u280 u281 u282 u283 u284 u285 u286 u287 u288 u289 u290 u291 u292 u293 u294 u295 u296 u297 u298 u299 u300 u301 u302 u303 u304 u305 u306 u307 u308 u309 u310 u311 u312 u313 u314 u315 u316 u317 u318 u319 u320 u321 u322 u323 u324 u325 u326 u327 u328 u329 u330 u331 u332 u333 u334 u335 u336 u337 u338 u339 u340 u341 u342 u343 u344 u345 u346 u347 u348 u349 u350 u351 u352 u353 u354 u355 u356 u357 u358 u359 u360 u361 u362 u363 u364 u365 u366 u367 u368 u369 u370 u371 u372 u373 u374 u375 u376 u377 u378 u379 u380 u381 u382 u383 u384 u385 u386 u387 u388 u389 u390 u391 u392 u393 u394 u395 u396 u397 u398 u399 u400 u401 u402 u403 u404 u405 u406 u407 u408 u409 u410 u411 u412 u413 u414 u415 u416 u417 u418 u419 u420 u421 u422 u423 u424 u425 u426 u427 u428 u429 u430 u431 u432 u433 u434 u435 u436 u437 u438 u439 u440 u441 u442 u443 u444 u445 u446 u447 u448 u449 u450 u451 u452 u453 u454 u455 u456 u457 u458 u459 u460 u461 u462 u463 u464 u465 u466 u467 u468 u469 u470 u471 u472 u473 u474 u475 u476 u477 u478 u479 u480 u481 u482 u483 u484 u485 u486 u487 u488 u489 u490 u491 u492 u493 u494 u495 u496 u497 u498 u499 u500 u501 u502 u503 u504 u505 u506 u507 u508 u509 u510 u511 u512 u513 u514 hcut
        ·rw [if_neg c88] at H
         have c88b0 : (t1104 == t1106) = false := beq_eq_false_iff_ne.mpr c88
         have c88b1 : (t1104 != t1106) = true := bne_iff_ne.mpr c88
         exact absurd ((Option.some.inj H).trans HT.out) (by decide)
      ·rw [if_neg c86] at H
       have c86b0 : (t1100 == t1102) = false := beq_eq_false_iff_ne.mpr c86
       have c86b1 : (t1100 != t1102) = true := bne_iff_ne.mpr c86
       exact absurd ((Option.some.inj H).trans HT.out) (by decide)
    ·replace c84 := Bool.eq_false_iff.mpr c84
     subst c84
     rw [if_neg (show ¬ (false = true) by decide)] at H
     exact absurd ((Option.some.inj H).trans HT.out) (by decide)
end Go.Proofs.Ytnhnpplccfojeaa.Fn
