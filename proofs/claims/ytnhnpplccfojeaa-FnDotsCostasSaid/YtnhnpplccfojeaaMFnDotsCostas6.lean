/- The machine's side and plain lemmas for FnDotsCostas: texts of this session, merged by its program (part 6). -/
import Derived.Test.YtnhnpplccfojeaaMFnDotsCostas0
import Derived.Test.YtnhnpplccfojeaaMFnDotsCostas1
import Derived.Test.YtnhnpplccfojeaaMFnDotsCostas2
import Derived.Test.YtnhnpplccfojeaaMFnDotsCostas3
import Derived.Test.YtnhnpplccfojeaaMFnDotsCostas4
import Derived.Test.YtnhnpplccfojeaaMFnDotsCostas5
namespace Go.Proofs.Ytnhnpplccfojeaa.Fn
open Go.RowKit Go.Proofs.YtnhnpplccfojeaaW.PrintWords Go.Proofs.YtnhnpplccfojeaaW.PrintLast Go.Proofs.YtnhnpplccfojeaaW.PrintMore
attribute [local go_sem] max2_int min2_int max_two min_two max_three min_three max_four min_four   -- for this text's walks alone
set_option linter.unusedVariables false
set_option linter.unusedSimpArgs false
set_option maxHeartbeats 80000000 in
set_option maxRecDepth 100000 in
theorem laws_FnDotsCostas.rest2 (k : Nat) (A0 : Option Addr) (c0 : Nat) (l0 : List Int) (A1 : Option Addr) (c1 : Nat) (l1 : List Int) (r : Bool) (w : World) (HR1 : Aside0 ((Kd.int IntKind.u8).C w A1 l1.length l1)) (HC1 : Aside0 (l1.length ≤ c1)) (HT : Aside0 (r = true)) (t1045 : List Int) (t1048 t1049 t1050 t1051 : Bool) (t1052 t1053 t1054 : Int) (t1055 : Bool) (t1056 t1057 t1058 : Int) (t1059 : Bool) (Ao12 : Option Addr) (co12 : Nat) (z2_1 : World) (HO_5 : Aside0 ((Kd.int IntKind.i64).R (3 : Nat) z2_1 w.heap.size (fun x => True) (Value.slice Ao12 t1045.length co12) t1045)) (HB : Aside0 (Below w.heap.size w z2_1)) (kj9 : Nat) (HJ9 : Aside0 (kj9 + (1 : Nat) ≤ k)) (HC30 : Aside0 ((if t1055 = true then (impl_DifferencesOf.f kj9 t1045 t1052).bind fun bt1063 => if bt1063.snd = true then if t1053 ≥ t1054 then some false else if t1054 ≥ (↑bt1063.fst.length : Int) then some false else if (0 : Int) ≤ t1053 then if t1053 < (↑bt1063.fst.length : Int) then if (0 : Int) ≤ t1054 then if t1054 < (↑bt1063.fst.length : Int) then if rd bt1063.fst t1053 = rd bt1063.fst t1054 then laws_FnDotsCostas.j1 kj9 l1 t1045 t1048 t1049 else some false else Option.none else Option.none else Option.none else Option.none else some false else laws_FnDotsCostas.j1 kj9 l1 t1045 t1048 t1049) = some r)) (z2_440 : Act → World → Prop) {Cz2_441 : Code} (ez2_441 : codeAt [1, 1, 1, 1, 1, 1, 1, 1, 1] (bodyAt Try.f5) = Cz2_441) (z2_441 : ∀ (a_ : Act) (w_ : World), Code.wp Try.prog Cz2_441 (bodyPost Try.prog Try.f5 fun e w' => e = Ending.returned (Value.bool r) ∧ Below w.heap.size w w') a_ w_ → z2_440 a_ w_) (wc : World) (u4 u18 u19 u72 u73 u74 u75 u76 u77 u78 u79 u80 u81 u82 u83 u84 u85 u86 u87 u88 u89 u90 u91 u92 u93 u94 u95 u96 u97 u98 u99 u100 u101 u102 u103 u104 u105 u106 u107 u108 u109 u110 u111 u112 u113 u114 u115 u116 u117 u118 u119 u120 u121 u122 u123 u124 u125 u126 u127 u128 u129 u130 u131 u132 u133 u134 u135 u136 u137 u138 u139 u140 u141 u142 u143 u144 u145 u146 u147 u148 u149 u150 u151 u152 u153 u154 u155 u156 u157 u158 u159 u160 u161 u162 u163 u164 u165 u166 u167 u168 u169 u170 u171 u172 u173 u174 u175 u176 u177 u178 u179 u180 u181 u182 u183 u184 u185 u186 u187 u188 u189 u190 u191 u192 u193 u194 u195 u196 u197 u198 u199 u200 u201 u202 u203 u204 u205 u206 u207 u208 u209 u210 u211 u212 u213 u214 u215 u216 u217 u218 u219 u220 u221 u222 u223 u224 u225 u226 u227 u228 u229 u230 u231 u232 u233 u234 u235 u236 u237 u238 u239 u240 u241 u242 u243 u244 u245 u246 u247 u251 u252 u253 u254 u255 u256 u257 u258 u259 u260 u261 u262 u263 u264 u265 u266 u267 u268 u269 u270 u271 u272 u273 u274 u275 u276 u277 u278 u279 u280 u281 u282 u283 u284 u285 u286 u287 u288 u289 u290 u291 u292 u293 u294 u295 u296 u297 u298 u299 u300 u301 u302 u303 u304 u305 u306 u307 u308 u309 u310 u311 u312 u313 u314 u315 u316 u317 u318 u319 u320 u321 u322 u323 u324 u325 u326 u327 u328 u329 u330 u331 u332 u333 u334 u335 u336 u337 u338 u339 u340 u341 u342 u343 u344 u345 u346 u347 u348 u349 u350 u351 u352 u353 u354 u355 u356 u357 u358 u359 u360 u361 u362 u363 u364 u365 u366 u367 u368 u369 u370 u371 u372 u373 u374 u375 u376 u377 u378 u379 u380 u381 u382 u383 u384 u385 u386 u387 u391 u392 u393 u394 u395 u396 u397 u398 u399 u400 u401 u402 u403 u404 u405 u406 u407 u408 u409 u410 u411 u412 u413 u414 u415 u416 u417 u418 u419 u420 u421 u422 u423 u424 u425 u426 u427 u428 u429 u430 u431 u432 u433 u434 u435 u436 u437 u438 u439 u440 u441 u442 u443 u444 u445 u446 u447 u448 u449 u450 u451 u452 u453 u454 u455 u456 u457 u458 u459 u460 u461 u462 u463 u464 u465 u466 u467 u468 u469 u470 u471 u472 u473 u474 u475 u476 u477 u478 u479 u480 u481 u482 u483 u484 u485 u486 u487 u488 u489 u490 u491 u492 u493 u494 u495 u496 u497 u498 u499 u500 u501 u502 u503 u504 u505 u506 u507 u508 u509 u510 u511 u512 u513 u514 : Value) (hcut : ∃ kq, Aside0 (laws_FnDotsCostas.j1 kq l1 t1045 t1048 t1049 = some r) ∧ Aside0 (kq ≤ kj9) ∧ Aside0 ((Kd.int IntKind.i64).R (3 : Nat) wc w.heap.size (fun x => True) (Value.slice Ao12 t1045.length co12) t1045) ∧ Aside0 (Below w.heap.size w wc)) : z2_440 { tmps := #[Value.slice A0 l0.length c0, Value.slice A1 l1.length c1, Go.undef, Go.undef, u4, Value.slice Ao12 t1045.length co12, Value.bool t1048, Value.bool t1049, Value.bool t1050, Value.bool t1051, Value.int IntKind.i64 t1052, Value.int IntKind.i64 t1053, Value.int IntKind.i64 t1054, Value.bool t1055, Value.int IntKind.i64 t1056, Value.int IntKind.i64 t1057, Value.int IntKind.i64 t1058, Value.bool t1059, u18, u19, Go.undef, Go.undef, Go.undef, Go.undef, Go.undef, Go.undef, Go.undef, Go.undef, Go.undef, Go.undef, Go.undef, Go.undef, Go.undef, Go.undef, Go.undef, Go.undef, Go.undef, Go.undef, Go.undef, Go.undef, Go.undef, Go.undef, Go.undef, Go.undef, Go.undef, Go.undef, Go.undef, Go.undef, Go.undef, Go.undef, Go.undef, Go.undef, Go.undef, Go.undef, Go.undef, Go.undef, Go.undef, Go.undef, Go.undef, Go.undef, Go.undef, Go.undef, Go.undef, Go.undef, Go.undef, Go.undef, Go.undef, Go.undef, Go.undef, Go.undef, Go.undef, Go.undef, u72, u73, u74, u75, u76, u77, u78, u79, u80, u81, u82, u83, u84, u85, u86, u87, u88, u89, u90, u91, u92, u93, u94, u95, u96, u97, u98, u99, u100, u101, u102, u103, u104, u105, u106, u107, u108, u109, u110, u111, u112, u113, u114, u115, u116, u117, u118, u119, u120, u121, u122, u123, u124, u125, u126, u127, u128, u129, u130, u131, u132, u133, u134, u135, u136, u137, u138, u139, u140, u141, u142, u143, u144, u145, u146, u147, u148, u149, u150, u151, u152, u153, u154, u155, u156, u157, u158, u159, u160, u161, u162, u163, u164, u165, u166, u167, u168, u169, u170, u171, u172, u173, u174, u175, u176, u177, u178, u179, u180, u181, u182, u183, u184, u185, u186, u187, u188, u189, u190, u191, u192, u193, u194, u195, u196, u197, u198, u199, u200, u201, u202, u203, u204, u205, u206, u207, u208, u209, u210, u211, u212, u213, u214, u215, u216, u217, u218, u219, u220, u221, u222, u223, u224, u225, u226, u227, u228, u229, u230, u231, u232, u233, u234, u235, u236, u237, u238, u239, u240, u241, u242, u243, u244, u245, u246, u247, Go.undef, Go.undef, Go.undef, u251, u252, u253, u254, u255, u256, u257, u258, u259, u260, u261, u262, u263, u264, u265, u266, u267, u268, u269, u270, u271, u272, u273, u274, u275, u276, u277, u278, u279, u280, u281, u282, u283, u284, u285, u286, u287, u288, u289, u290, u291, u292, u293, u294, u295, u296, u297, u298, u299, u300, u301, u302, u303, u304, u305, u306, u307, u308, u309, u310, u311, u312, u313, u314, u315, u316, u317, u318, u319, u320, u321, u322, u323, u324, u325, u326, u327, u328, u329, u330, u331, u332, u333, u334, u335, u336, u337, u338, u339, u340, u341, u342, u343, u344, u345, u346, u347, u348, u349, u350, u351, u352, u353, u354, u355, u356, u357, u358, u359, u360, u361, u362, u363, u364, u365, u366, u367, u368, u369, u370, u371, u372, u373, u374, u375, u376, u377, u378, u379, u380, u381, u382, u383, u384, u385, u386, u387, Go.undef, Go.undef, Go.undef, u391, u392, u393, u394, u395, u396, u397, u398, u399, u400, u401, u402, u403, u404, u405, u406, u407, u408, u409, u410, u411, u412, u413, u414, u415, u416, u417, u418, u419, u420, u421, u422, u423, u424, u425, u426, u427, u428, u429, u430, u431, u432, u433, u434, u435, u436, u437, u438, u439, u440, u441, u442, u443, u444, u445, u446, u447, u448, u449, u450, u451, u452, u453, u454, u455, u456, u457, u458, u459, u460, u461, u462, u463, u464, u465, u466, u467, u468, u469, u470, u471, u472, u473, u474, u475, u476, u477, u478, u479, u480, u481, u482, u483, u484, u485, u486, u487, u488, u489, u490, u491, u492, u493, u494, u495, u496, u497, u498, u499, u500, u501, u502, u503, u504, u505, u506, u507, u508, u509, u510, u511, u512, u513, u514], defers := [] } wc := by
  conv at ez2_441 => (lhs; whnf)
  subst ez2_441
  clear HC30
  try clear c1
  try clear p1
  try clear q1
  try clear hx1
  try clear c2
  try clear p2
  try clear c3
  try clear c4
  try clear c5
  try clear p10
  try clear q10
  try clear hx10
  try clear c17
  try clear c17b0
  try clear c17b1
  try clear c17b2
  try clear c18
  try clear c18b0
  try clear c18b1
  try clear c18b2
  try clear c19
  try clear c19b0
  try clear c19b1
  try clear c19b2
  try clear c20
  try clear c20b0
  try clear c20b1
  try clear c21
  try clear c21b0
  try clear c21b1
  try clear c22
  try clear c22b0
  try clear c22b1
  try clear c24
  try clear c24b0
  try clear c24b1
  try clear c24b2
  try clear c27
  try clear c27b0
  try clear c27b1
  try clear c27b2
  try clear c28
  try clear c29
  try clear c31
  try clear c33
  try clear c34
  try clear c34b0
  try clear c35
  try clear c35b0
  try clear c36
  try clear c36b0
  try clear c37
  try clear c37b0
  try clear c38
  try clear c38b0
  try clear c39
  try clear c39b0
  try clear c40
  try clear c40b0
  try clear c40b1
  try clear hx1067_0
  try clear hx1068_0
  try clear p1067
  try clear p1068
  try clear p2
  try clear q1067
  try clear q1068
  obtain ⟨kq, HA, HJ29, HO_5, HB⟩ := hcut
  cases kq with
  | zero => exact absurd HA.out (by simp [laws_FnDotsCostas.j1])
  | succ kj29 =>
   have H := HA.out
   clear HA
   simp only [laws_FnDotsCostas.j1] at H
   have HC43 := Aside0.mk H
   clear H
   go_upto_if 182 with (fail)
   repeat (go_quiet (fail); go_upto_if 182 with (fail))
   go_cut [] (fun wc => ∃ (kq : Nat), Aside0 (laws_FnDotsCostas.j5 kq l1 = some r) ∧ Aside0 (kq ≤ kj29) ∧ Aside0 (Below w.heap.size w wc))
   case first => as_aux_lemma =>
    have H := HC43.out
    clear HC43
    by_cases c44 : t1049 = true
    ·subst c44
     rw [if_pos rfl] at H
     have H' := Aside0.mk H
     clear H
     as_aux_lemma =>
      go_wp2
      repeat (go_quiet (fail); try go_wp2)
      go_loopg [20, 21] kj29 (fun kq v20 v21 w' => ∃ (x20_3 : Int) (x21_3 : Int), v20 = .int .i64 x20_3 ∧ v21 = .int .i64 x21_3 ∧ Aside0 (laws_FnDotsCostas.l0 kq l1 t1045 t1048 x20_3 x21_3 = some r) ∧ Aside0 (kq ≤ kj29) ∧ Aside0 (Kd.R (Kd.int .i64) 3 w' w.heap.size (fun _ => True) (.slice Ao12 t1045.length co12) t1045) ∧ Aside0 (Below w.heap.size w w'))
      case atStart => exact ⟨(0), (1), eqd, eqd, H', ⟨Nat.le_refl _⟩, ⟨atR HO_5⟩, ⟨atB HB⟩⟩
      case round => as_aux_lemma =>
       clear H'
       try clear c1
       try clear p1
       try clear q1
       try clear hx1
       try clear c2
       try clear p2
       try clear c3
       try clear c4
       try clear c5
       try clear p10
       try clear q10
       try clear hx10
       try clear c17
       try clear c17b0
       try clear c17b1
       try clear c17b2
       try clear c18
       try clear c18b0
       try clear c18b1
       try clear c18b2
       try clear c19
       try clear c19b0
       try clear c19b1
       try clear c19b2
       try clear c20
       try clear c20b0
       try clear c20b1
       try clear c21
       try clear c21b0
       try clear c21b1
       try clear c22
       try clear c22b0
       try clear c22b1
       try clear c24
       try clear c24b0
       try clear c24b1
       try clear c24b2
       try clear c27
       try clear c27b0
       try clear c27b1
       try clear c27b2
       try clear c28
       try clear c29
       try clear c31
       try clear c33
       try clear c34
       try clear c34b0
       try clear c35
       try clear c35b0
       try clear c36
       try clear c36b0
       try clear c37
       try clear c37b0
       try clear c38
       try clear c38b0
       try clear c39
       try clear c39b0
       try clear c40
       try clear c40b0
       try clear c40b1
       try clear c44
       try clear hx1067_0
       try clear hx1068_0
       try clear p1
       try clear p10
       try clear p1067
       try clear p1068
       try clear p2
       try clear q1
       try clear q10
       try clear q1067
       try clear q1068
       obtain ⟨x20_3, x21_3, rfl, rfl, HA, HK3, HO_5, HB⟩ := hrel
       cases gk with
       | zero => exact absurd HA.out (by simp [laws_FnDotsCostas.l0])
       | succ k3 =>
        have H := HA.out
        clear HA
        simp only [laws_FnDotsCostas.l0] at H
        by_cases c45 : x21_3 < (t1045.length : Int)
        ·rw [if_pos c45] at H
         have c45b0 : decide (x21_3 < (t1045.length : Int)) = true := decide_eq_true c45
         clear c45
         (first | rw [c45b0] | (simp only [i64_w, i32_w]; rw [c45b0]) | skip)
         replace H := Option.bind_eq_some_iff.mp H
         obtain ⟨⟨t1069, t1070⟩, A460, H⟩ := H
         (try dsimp only at H)
         have A46 := Aside0.mk A460
         clear A460
         by_cases c47 : t1070 = true
         ·subst c47
          rw [if_pos rfl] at H
          by_cases c48 : (t1069.length : Int) = (wrap64 ((t1045.length : Int) - x21_3))
          ·rw [if_pos c48] at H
           have c48b0 : ((t1069.length : Int) == (wrap64 ((t1045.length : Int) - x21_3))) = true := beq_iff_eq.mpr c48
           have c48b1 : ((t1069.length : Int) != (wrap64 ((t1045.length : Int) - x21_3))) = false := bne_eq_false_iff_eq.mpr c48
           clear c48
           replace H := Option.bind_eq_some_iff.mp H
           obtain ⟨t1073, A490, H⟩ := H
           (try dsimp only at H)
           have A49 := Aside0.mk A490
           clear A490
           by_cases c50 : 0 ≤ x21_3
           ·rw [if_pos c50] at H
            have c50b0 := eq_true c50
            have c50b1 : decide (0 ≤ x21_3) = true := decide_eq_true c50
            clear c50
            by_cases c51 : x21_3 ≤ (t1045.length : Int)
            ·rw [if_pos c51] at H
             have c51b0 := eq_true c51
             have c51b1 : decide (x21_3 ≤ (t1045.length : Int)) = true := decide_eq_true c51
             clear c51
             obtain ⟨y1074, hy1074⟩ : ∃ y_ : List Int, y_ = (t1045.drop (x21_3 : Int).toNat) := ⟨_, rfl⟩
             replace H : ((laws_zSum.f k3 y1074).bind fun t1079 => (if 0 ≤ (wrap64 ((t1045.length : Int) - x21_3)) then (if (wrap64 ((t1045.length : Int) - x21_3)) ≤ (t1045.length : Int) then ((laws_zSum.f k3 (t1045.take ((wrap64 ((t1045.length : Int) - x21_3)) : Int).toNat)).bind fun t1085 => (if t1073 = (wrap64 (t1079 - t1085)) then (laws_FnDotsCostas.l1 k3 l1 t1045 t1048 x20_3 x21_3 t1069 (wrap64 (-(t1045.length : Int)))) else (some false))) else (none)) else (none))) = some r := by first | (rw [hy1074]; with_reducible exact H) | (have H2_ := (Option.bind_some _ _).symm.trans H; rw [hy1074]; with_reducible exact H2_) | (have H2_ := (Option.bind_some _ _).symm.trans H; with_reducible exact H2_) | with_reducible exact H | (rw [hy1074]; exact H) | exact H
             have Ny1074 := Aside0.mk hy1074
             clear hy1074
             replace H := Option.bind_eq_some_iff.mp H
             obtain ⟨t1079, A520, H⟩ := H
             (try dsimp only at H)
             have A52 := Aside0.mk A520
             clear A520
             obtain ⟨ji53, hji53⟩ : ∃ j_ : Int, (wrap64 ((t1045.length : Int) - x21_3)) = j_ := ⟨_, rfl⟩
             replace H : (if 0 ≤ (ji53) then (if (ji53) ≤ (t1045.length : Int) then ((laws_zSum.f k3 (t1045.take ((ji53) : Int).toNat)).bind fun t1085 => (if t1073 = (wrap64 (t1079 - t1085)) then (laws_FnDotsCostas.l1 k3 l1 t1045 t1048 x20_3 x21_3 t1069 (wrap64 (-(t1045.length : Int)))) else (some false))) else (none)) else (none)) = some r := by first | (rw [hji53] at H; exact H) | (simp only [hji53] at H ⊢; exact H)
             (try rw [hji53] at c48b0)
             (try rw [hji53] at c48b1)
             (try rw [hji53] at A46)
             (try rw [hji53] at A49)
             (try rw [hji53] at A52)
             have hji53w : (IntKind.i64.wrap ((t1045.length : Int) - x21_3)) = ji53 := (i64_w _).trans hji53
             by_cases c54 : 0 ≤ (ji53)
             ·rw [if_pos c54] at H
              have c54b0 := eq_true c54
              have c54b1 : decide (0 ≤ (ji53)) = true := decide_eq_true c54
              clear c54
              by_cases c55 : (ji53) ≤ (t1045.length : Int)
              ·rw [if_pos c55] at H
               have c55b0 := eq_true c55
               have c55b1 : decide ((ji53) ≤ (t1045.length : Int)) = true := decide_eq_true c55
               clear c55
               obtain ⟨y1080, hy1080⟩ : ∃ y_ : List Int, y_ = (t1045.take ((ji53) : Int).toNat) := ⟨_, rfl⟩
               replace H : ((laws_zSum.f k3 y1080).bind fun t1085 => (if t1073 = (wrap64 (t1079 - t1085)) then (laws_FnDotsCostas.l1 k3 l1 t1045 t1048 x20_3 x21_3 t1069 (wrap64 (-(t1045.length : Int)))) else (some false))) = some r := by first | (rw [hy1080]; with_reducible exact H) | (have H2_ := (Option.bind_some _ _).symm.trans H; rw [hy1080]; with_reducible exact H2_) | (have H2_ := (Option.bind_some _ _).symm.trans H; with_reducible exact H2_) | with_reducible exact H | (rw [hy1080]; exact H) | exact H
               have Ny1080 := Aside0.mk hy1080
               clear hy1080
               replace H := Option.bind_eq_some_iff.mp H
               obtain ⟨t1085, A560, H⟩ := H
               (try dsimp only at H)
               have A56 := Aside0.mk A560
               clear A560
               by_cases c57 : t1073 = (wrap64 (t1079 - t1085))
               ·rw [if_pos c57] at H
                have c57b0 : (t1073 == (wrap64 (t1079 - t1085))) = true := beq_iff_eq.mpr c57
                have c57b1 : (t1073 != (wrap64 (t1079 - t1085))) = false := bne_eq_false_iff_eq.mpr c57
                clear c57
                have H' := Aside0.mk H
                clear H
                as_aux_lemma =>
                 go_wp2_with (first | (go_at_call 60; (with_reducible refine (impl_DifferencesOf.calls k3 _ _ t1045 x21_3 t1069 true _ ?side1 ?side2 A46.out).mono ?_); (case side1 => exact atRC HO_5); (case side2 => exact (Kd.R_reads' HO_5.out).2.1); rintro e w58 ⟨v1071, rfl, ho0, hb⟩; have HO1072 := lowR ho0 HB; replace HO_5 := upR HO_5 hb; replace HB := upB HB hb; (try clear hb); (try clear hb2); (try clear hk); (try clear hi); (try clear ho0); obtain ⟨Ao59, co59, eo59⟩ := Kd.R_slice HO1072.out; subst eo59; have q60 : (x21_3 : Int) ≤ ((t1045.length : Int) : Int) := ofd; obtain ⟨i060, hi060, _, hsz60, _⟩ := info_parts info3; have hroom60 : t1045.length ≤ co12 := (Kd.R_reads' HO_5.out).2.1; have hC60 : Kd.F (Kd.int .i64) _ _ Ao12 t1045.length t1045 := (Kd.V_at (base := w.heap.size) (Kd.R_V (HO_5.out))).2.2; have q060 : (0 : Int) ≤ (x21_3 : Int) := ofd; have hcut60 := cut_from (P := Try.prog) 24 3 .i64 Try.underlying24 hi060 1 hsz60 Ao12 t1045.length co12 x21_3 q060 q60; have hr60 := Kd.F_cut (m := (x21_3 : Int).toNat) (c := co12) hC60 (by omega) hroom60; obtain ⟨A60, hA60⟩ : ∃ A1, A1 = (if co12 = (x21_3 : Int).toNat then Ao12 else (Ao12 : Option Addr).map (·.add ((x21_3 : Int).toNat * 1))) := ⟨_, rfl⟩; obtain ⟨c60, hc60⟩ : ∃ c1, c1 = co12 - (x21_3 : Int).toNat := ⟨_, rfl⟩; have hy60 : y1074.length = t1045.length - (x21_3 : Int).toNat := (by rw [Ny1074.out, List.length_drop] <;> omega); rw [show (t1045).drop (x21_3 : Int).toNat = y1074 from Ny1074.out.symm] at hr60; replace hr60 : Kd.F (Kd.int .i64) _ _ A60 y1074.length y1074 := (by rw [hA60]; exact hr60); rw [← hy60, ← hA60, ← hc60] at hcut60; have HO1078 := Aside0.mk (show Kd.V (Kd.int .i64) 3 _ w.heap.size _ (.slice A60 y1074.length c60) y1074 from Kd.V_mk (by rw [hy60, hc60]; exact Nat.sub_le_sub_right hroom60 _) hr60); have HC1078 := Aside0.mk (show y1074.length ≤ c60 from by rw [hy60, hc60]; exact Nat.sub_le_sub_right hroom60 _); clear hr60 hC60 hroom60 hi060 hsz60 hc60; have KY60 := Aside0.mk hy60; have KA60 := Aside0.mk hA60; clear hy60 hA60; replace q60 := eq_true q60; have q61 : ((ji53) : Int) ≤ ((t1045.length : Int) : Int) := ofd; obtain ⟨i061, hi061, _, hsz61, _⟩ := info_parts info3; have hroom61 : t1045.length ≤ co12 := (Kd.R_reads' HO_5.out).2.1; have hC61 : Kd.F (Kd.int .i64) _ _ Ao12 t1045.length t1045 := (Kd.V_at (base := w.heap.size) (Kd.R_V (HO_5.out))).2.2; have hcut61 := cut_to (P := Try.prog) 24 3 .i64 Try.underlying24 hi061 Ao12 t1045.length co12 (ji53) (of_decide_eq_true (by first | (with_reducible assumption) | assumption)) q61 hroom61; have hr61 := Kd.F_take (m := ((ji53) : Int).toNat) hC61 (by omega); have hy61 : y1080.length = ((ji53) : Int).toNat := (by rw [Ny1080.out, List.length_take]; omega); rw [← Ny1080.out] at hr61; rw [← hy61] at hcut61; have HO1084 := Aside0.mk (show Kd.V (Kd.int .i64) 3 _ w.heap.size _ (.slice Ao12 y1080.length co12) y1080 from Kd.V_mk (by omega) hr61); have HC1084 := Aside0.mk (show y1080.length ≤ co12 from by omega); clear hr61 hC61 hroom61 hi061 hsz61; have KY61 := Aside0.mk hy61; clear hy61; replace q61 := eq_true q61) | (go_at_call 61; (with_reducible refine (laws_zSum.calls k3 _ _ t1069 t1073 _ ?side1 ?side2 A49.out).mono ?_); (case side1 => exact atRC HO1072); (case side2 => exact (Kd.R_reads' HO1072.out).2.1); rintro e w' ⟨rfl, ⟨nd, rfl⟩⟩; (try first | exact ⟨rfl, _, World.drewN_drewN _ _ _⟩ | exact ⟨rfl, _, Eq.trans (World.drewN_drewN _ _ _) (congrArg (World.drewN _) (Nat.add_assoc _ _ _))⟩)) | (go_at_call 61; (with_reducible refine (laws_zSum.calls k3 _ _ y1074 t1079 _ ?side1 ?side2 A52.out).mono ?_); (case side1 => repeat (first | exact (Kd.V_reads' HO1078.out).2.2 | (with_reducible refine Kd.C_alloc ?_ _) | (with_reducible refine Kd.C_drewN ?_ _) | (with_reducible refine Kd.C_drew ?_))); (case side2 => exact (Kd.V_reads' HO1078.out).2.1); rintro e w' ⟨rfl, ⟨nd, rfl⟩⟩; (try first | exact ⟨rfl, _, World.drewN_drewN _ _ _⟩ | exact ⟨rfl, _, Eq.trans (World.drewN_drewN _ _ _) (congrArg (World.drewN _) (Nat.add_assoc _ _ _))⟩)) | (go_at_call 61; (with_reducible refine (laws_zSum.calls k3 _ _ y1080 t1085 _ ?side1 ?side2 A56.out).mono ?_); (case side1 => repeat (first | exact (Kd.V_reads' HO1084.out).2.2 | (with_reducible refine Kd.C_alloc ?_ _) | (with_reducible refine Kd.C_drewN ?_ _) | (with_reducible refine Kd.C_drew ?_))); (case side2 => exact (Kd.V_reads' HO1084.out).2.1); rintro e w' ⟨rfl, ⟨nd, rfl⟩⟩; (try first | exact ⟨rfl, _, World.drewN_drewN _ _ _⟩ | exact ⟨rfl, _, Eq.trans (World.drewN_drewN _ _ _) (congrArg (World.drewN _) (Nat.add_assoc _ _ _))⟩)))
                 repeat (go_quiet (first | (go_at_call 60; (with_reducible refine (impl_DifferencesOf.calls k3 _ _ t1045 x21_3 t1069 true _ ?side1 ?side2 A46.out).mono ?_); (case side1 => exact atRC HO_5); (case side2 => exact (Kd.R_reads' HO_5.out).2.1); rintro e w58 ⟨v1071, rfl, ho0, hb⟩; have HO1072 := lowR ho0 HB; replace HO_5 := upR HO_5 hb; replace HB := upB HB hb; (try clear hb); (try clear hb2); (try clear hk); (try clear hi); (try clear ho0); obtain ⟨Ao59, co59, eo59⟩ := Kd.R_slice HO1072.out; subst eo59; have q60 : (x21_3 : Int) ≤ ((t1045.length : Int) : Int) := ofd; obtain ⟨i060, hi060, _, hsz60, _⟩ := info_parts info3; have hroom60 : t1045.length ≤ co12 := (Kd.R_reads' HO_5.out).2.1; have hC60 : Kd.F (Kd.int .i64) _ _ Ao12 t1045.length t1045 := (Kd.V_at (base := w.heap.size) (Kd.R_V (HO_5.out))).2.2; have q060 : (0 : Int) ≤ (x21_3 : Int) := ofd; have hcut60 := cut_from (P := Try.prog) 24 3 .i64 Try.underlying24 hi060 1 hsz60 Ao12 t1045.length co12 x21_3 q060 q60; have hr60 := Kd.F_cut (m := (x21_3 : Int).toNat) (c := co12) hC60 (by omega) hroom60; obtain ⟨A60, hA60⟩ : ∃ A1, A1 = (if co12 = (x21_3 : Int).toNat then Ao12 else (Ao12 : Option Addr).map (·.add ((x21_3 : Int).toNat * 1))) := ⟨_, rfl⟩; obtain ⟨c60, hc60⟩ : ∃ c1, c1 = co12 - (x21_3 : Int).toNat := ⟨_, rfl⟩; have hy60 : y1074.length = t1045.length - (x21_3 : Int).toNat := (by rw [Ny1074.out, List.length_drop] <;> omega); rw [show (t1045).drop (x21_3 : Int).toNat = y1074 from Ny1074.out.symm] at hr60; replace hr60 : Kd.F (Kd.int .i64) _ _ A60 y1074.length y1074 := (by rw [hA60]; exact hr60); rw [← hy60, ← hA60, ← hc60] at hcut60; have HO1078 := Aside0.mk (show Kd.V (Kd.int .i64) 3 _ w.heap.size _ (.slice A60 y1074.length c60) y1074 from Kd.V_mk (by rw [hy60, hc60]; exact Nat.sub_le_sub_right hroom60 _) hr60); have HC1078 := Aside0.mk (show y1074.length ≤ c60 from by rw [hy60, hc60]; exact Nat.sub_le_sub_right hroom60 _); clear hr60 hC60 hroom60 hi060 hsz60 hc60; have KY60 := Aside0.mk hy60; have KA60 := Aside0.mk hA60; clear hy60 hA60; replace q60 := eq_true q60; have q61 : ((ji53) : Int) ≤ ((t1045.length : Int) : Int) := ofd; obtain ⟨i061, hi061, _, hsz61, _⟩ := info_parts info3; have hroom61 : t1045.length ≤ co12 := (Kd.R_reads' HO_5.out).2.1; have hC61 : Kd.F (Kd.int .i64) _ _ Ao12 t1045.length t1045 := (Kd.V_at (base := w.heap.size) (Kd.R_V (HO_5.out))).2.2; have hcut61 := cut_to (P := Try.prog) 24 3 .i64 Try.underlying24 hi061 Ao12 t1045.length co12 (ji53) (of_decide_eq_true (by first | (with_reducible assumption) | assumption)) q61 hroom61; have hr61 := Kd.F_take (m := ((ji53) : Int).toNat) hC61 (by omega); have hy61 : y1080.length = ((ji53) : Int).toNat := (by rw [Ny1080.out, List.length_take]; omega); rw [← Ny1080.out] at hr61; rw [← hy61] at hcut61; have HO1084 := Aside0.mk (show Kd.V (Kd.int .i64) 3 _ w.heap.size _ (.slice Ao12 y1080.length co12) y1080 from Kd.V_mk (by omega) hr61); have HC1084 := Aside0.mk (show y1080.length ≤ co12 from by omega); clear hr61 hC61 hroom61 hi061 hsz61; have KY61 := Aside0.mk hy61; clear hy61; replace q61 := eq_true q61) | (go_at_call 61; (with_reducible refine (laws_zSum.calls k3 _ _ t1069 t1073 _ ?side1 ?side2 A49.out).mono ?_); (case side1 => exact atRC HO1072); (case side2 => exact (Kd.R_reads' HO1072.out).2.1); rintro e w' ⟨rfl, ⟨nd, rfl⟩⟩; (try first | exact ⟨rfl, _, World.drewN_drewN _ _ _⟩ | exact ⟨rfl, _, Eq.trans (World.drewN_drewN _ _ _) (congrArg (World.drewN _) (Nat.add_assoc _ _ _))⟩)) | (go_at_call 61; (with_reducible refine (laws_zSum.calls k3 _ _ y1074 t1079 _ ?side1 ?side2 A52.out).mono ?_); (case side1 => repeat (first | exact (Kd.V_reads' HO1078.out).2.2 | (with_reducible refine Kd.C_alloc ?_ _) | (with_reducible refine Kd.C_drewN ?_ _) | (with_reducible refine Kd.C_drew ?_))); (case side2 => exact (Kd.V_reads' HO1078.out).2.1); rintro e w' ⟨rfl, ⟨nd, rfl⟩⟩; (try first | exact ⟨rfl, _, World.drewN_drewN _ _ _⟩ | exact ⟨rfl, _, Eq.trans (World.drewN_drewN _ _ _) (congrArg (World.drewN _) (Nat.add_assoc _ _ _))⟩)) | (go_at_call 61; (with_reducible refine (laws_zSum.calls k3 _ _ y1080 t1085 _ ?side1 ?side2 A56.out).mono ?_); (case side1 => repeat (first | exact (Kd.V_reads' HO1084.out).2.2 | (with_reducible refine Kd.C_alloc ?_ _) | (with_reducible refine Kd.C_drewN ?_ _) | (with_reducible refine Kd.C_drew ?_))); (case side2 => exact (Kd.V_reads' HO1084.out).2.1); rintro e w' ⟨rfl, ⟨nd, rfl⟩⟩; (try first | exact ⟨rfl, _, World.drewN_drewN _ _ _⟩ | exact ⟨rfl, _, Eq.trans (World.drewN_drewN _ _ _) (congrArg (World.drewN _) (Nat.add_assoc _ _ _))⟩))); try go_wp2_with (first | (go_at_call 60; (with_reducible refine (impl_DifferencesOf.calls k3 _ _ t1045 x21_3 t1069 true _ ?side1 ?side2 A46.out).mono ?_); (case side1 => exact atRC HO_5); (case side2 => exact (Kd.R_reads' HO_5.out).2.1); rintro e w58 ⟨v1071, rfl, ho0, hb⟩; have HO1072 := lowR ho0 HB; replace HO_5 := upR HO_5 hb; replace HB := upB HB hb; (try clear hb); (try clear hb2); (try clear hk); (try clear hi); (try clear ho0); obtain ⟨Ao59, co59, eo59⟩ := Kd.R_slice HO1072.out; subst eo59; have q60 : (x21_3 : Int) ≤ ((t1045.length : Int) : Int) := ofd; obtain ⟨i060, hi060, _, hsz60, _⟩ := info_parts info3; have hroom60 : t1045.length ≤ co12 := (Kd.R_reads' HO_5.out).2.1; have hC60 : Kd.F (Kd.int .i64) _ _ Ao12 t1045.length t1045 := (Kd.V_at (base := w.heap.size) (Kd.R_V (HO_5.out))).2.2; have q060 : (0 : Int) ≤ (x21_3 : Int) := ofd; have hcut60 := cut_from (P := Try.prog) 24 3 .i64 Try.underlying24 hi060 1 hsz60 Ao12 t1045.length co12 x21_3 q060 q60; have hr60 := Kd.F_cut (m := (x21_3 : Int).toNat) (c := co12) hC60 (by omega) hroom60; obtain ⟨A60, hA60⟩ : ∃ A1, A1 = (if co12 = (x21_3 : Int).toNat then Ao12 else (Ao12 : Option Addr).map (·.add ((x21_3 : Int).toNat * 1))) := ⟨_, rfl⟩; obtain ⟨c60, hc60⟩ : ∃ c1, c1 = co12 - (x21_3 : Int).toNat := ⟨_, rfl⟩; have hy60 : y1074.length = t1045.length - (x21_3 : Int).toNat := (by rw [Ny1074.out, List.length_drop] <;> omega); rw [show (t1045).drop (x21_3 : Int).toNat = y1074 from Ny1074.out.symm] at hr60; replace hr60 : Kd.F (Kd.int .i64) _ _ A60 y1074.length y1074 := (by rw [hA60]; exact hr60); rw [← hy60, ← hA60, ← hc60] at hcut60; have HO1078 := Aside0.mk (show Kd.V (Kd.int .i64) 3 _ w.heap.size _ (.slice A60 y1074.length c60) y1074 from Kd.V_mk (by rw [hy60, hc60]; exact Nat.sub_le_sub_right hroom60 _) hr60); have HC1078 := Aside0.mk (show y1074.length ≤ c60 from by rw [hy60, hc60]; exact Nat.sub_le_sub_right hroom60 _); clear hr60 hC60 hroom60 hi060 hsz60 hc60; have KY60 := Aside0.mk hy60; have KA60 := Aside0.mk hA60; clear hy60 hA60; replace q60 := eq_true q60; have q61 : ((ji53) : Int) ≤ ((t1045.length : Int) : Int) := ofd; obtain ⟨i061, hi061, _, hsz61, _⟩ := info_parts info3; have hroom61 : t1045.length ≤ co12 := (Kd.R_reads' HO_5.out).2.1; have hC61 : Kd.F (Kd.int .i64) _ _ Ao12 t1045.length t1045 := (Kd.V_at (base := w.heap.size) (Kd.R_V (HO_5.out))).2.2; have hcut61 := cut_to (P := Try.prog) 24 3 .i64 Try.underlying24 hi061 Ao12 t1045.length co12 (ji53) (of_decide_eq_true (by first | (with_reducible assumption) | assumption)) q61 hroom61; have hr61 := Kd.F_take (m := ((ji53) : Int).toNat) hC61 (by omega); have hy61 : y1080.length = ((ji53) : Int).toNat := (by rw [Ny1080.out, List.length_take]; omega); rw [← Ny1080.out] at hr61; rw [← hy61] at hcut61; have HO1084 := Aside0.mk (show Kd.V (Kd.int .i64) 3 _ w.heap.size _ (.slice Ao12 y1080.length co12) y1080 from Kd.V_mk (by omega) hr61); have HC1084 := Aside0.mk (show y1080.length ≤ co12 from by omega); clear hr61 hC61 hroom61 hi061 hsz61; have KY61 := Aside0.mk hy61; clear hy61; replace q61 := eq_true q61) | (go_at_call 61; (with_reducible refine (laws_zSum.calls k3 _ _ t1069 t1073 _ ?side1 ?side2 A49.out).mono ?_); (case side1 => exact atRC HO1072); (case side2 => exact (Kd.R_reads' HO1072.out).2.1); rintro e w' ⟨rfl, ⟨nd, rfl⟩⟩; (try first | exact ⟨rfl, _, World.drewN_drewN _ _ _⟩ | exact ⟨rfl, _, Eq.trans (World.drewN_drewN _ _ _) (congrArg (World.drewN _) (Nat.add_assoc _ _ _))⟩)) | (go_at_call 61; (with_reducible refine (laws_zSum.calls k3 _ _ y1074 t1079 _ ?side1 ?side2 A52.out).mono ?_); (case side1 => repeat (first | exact (Kd.V_reads' HO1078.out).2.2 | (with_reducible refine Kd.C_alloc ?_ _) | (with_reducible refine Kd.C_drewN ?_ _) | (with_reducible refine Kd.C_drew ?_))); (case side2 => exact (Kd.V_reads' HO1078.out).2.1); rintro e w' ⟨rfl, ⟨nd, rfl⟩⟩; (try first | exact ⟨rfl, _, World.drewN_drewN _ _ _⟩ | exact ⟨rfl, _, Eq.trans (World.drewN_drewN _ _ _) (congrArg (World.drewN _) (Nat.add_assoc _ _ _))⟩)) | (go_at_call 61; (with_reducible refine (laws_zSum.calls k3 _ _ y1080 t1085 _ ?side1 ?side2 A56.out).mono ?_); (case side1 => repeat (first | exact (Kd.V_reads' HO1084.out).2.2 | (with_reducible refine Kd.C_alloc ?_ _) | (with_reducible refine Kd.C_drewN ?_ _) | (with_reducible refine Kd.C_drew ?_))); (case side2 => exact (Kd.V_reads' HO1084.out).2.1); rintro e w' ⟨rfl, ⟨nd, rfl⟩⟩; (try first | exact ⟨rfl, _, World.drewN_drewN _ _ _⟩ | exact ⟨rfl, _, Eq.trans (World.drewN_drewN _ _ _) (congrArg (World.drewN _) (Nat.add_assoc _ _ _))⟩))))
                 go_loopg [20, 24] k3 (fun kq v20 v24 w' => ∃ (x20_4 : Int) (x24_4 : Int), v20 = .int .i64 x20_4 ∧ v24 = .int .i64 x24_4 ∧ Aside0 (laws_FnDotsCostas.l1 kq l1 t1045 t1048 x20_4 x21_3 t1069 x24_4 = some r) ∧ Aside0 (kq ≤ k3) ∧ Aside0 (Kd.R (Kd.int .i64) 3 w' w.heap.size (fun _ => True) (.slice Ao12 t1045.length co12) t1045) ∧ Aside0 (Kd.R (Kd.int .i64) 3 w' w.heap.size (fun _ => True) (.slice Ao59 t1069.length co59) t1069) ∧ Aside0 (Below w.heap.size w w'))
                 case atStart => exact ⟨(x20_3), (wrap64 (-(t1045.length : Int))), eqd, eqd, H', ⟨Nat.le_refl _⟩, ⟨atR HO_5⟩, ⟨atR HO1072⟩, ⟨atB HB⟩⟩
                 case round => as_aux_lemma =>
                  clear H'
                  try clear c1
                  try clear p1
                  try clear q1
                  try clear hx1
                  try clear c2
                  try clear p2
                  try clear c3
                  try clear c4
                  try clear c5
                  try clear c6
                  try clear p6
                  try clear q6
                  try clear p10
                  try clear q10
                  try clear hx10
                  try clear c17
                  try clear c17b0
                  try clear c17b1
                  try clear c17b2
                  try clear c18
                  try clear c18b0
                  try clear c18b1
                  try clear c18b2
                  try clear c19
                  try clear c19b0
                  try clear c19b1
                  try clear c19b2
                  try clear c20
                  try clear c20b0
                  try clear c20b1
                  try clear c21
                  try clear c21b0
                  try clear c21b1
                  try clear c22
                  try clear c22b0
                  try clear c22b1
                  try clear c24
                  try clear c24b0
                  try clear c24b1
                  try clear c24b2
                  try clear c27
                  try clear c27b0
                  try clear c27b1
                  try clear c27b2
                  try clear c28
                  try clear c29
                  try clear c31
                  try clear c33
                  try clear c34
                  try clear c34b0
                  try clear c35
                  try clear c35b0
                  try clear c36
                  try clear c36b0
                  try clear c37
                  try clear c37b0
                  try clear c38
                  try clear c38b0
                  try clear c39
                  try clear c39b0
                  try clear c40
                  try clear c40b0
                  try clear c40b1
                  try clear c44
                  try clear c45
                  try clear c45b0
                  try clear c47
                  try clear c48
                  try clear c48b0
                  try clear c48b1
                  try clear c50
                  try clear c50b0
                  try clear c50b1
                  try clear c51
                  try clear c51b0
                  try clear c51b1
                  try clear c54
                  try clear c54b0
                  try clear c54b1
                  try clear c55
                  try clear c55b0
                  try clear c55b1
                  try clear c57
                  try clear c57b0
                  try clear c57b1
                  try clear c60
                  try clear q60
                  try clear q61
                  try clear hx1067_0
                  try clear hx1068_0
                  try clear p1
                  try clear p10
                  try clear p1067
                  try clear p1068
                  try clear p2
                  try clear q060
                  try clear q1
                  try clear q10
                  try clear q1067
                  try clear q1068
                  try clear q60
                  try clear q61
                  obtain ⟨x20_4, x24_4, rfl, rfl, HA, HK4, HO_5, HO_22, HB⟩ := hrel
                  cases gk with
                  | zero => exact absurd HA.out (by simp [laws_FnDotsCostas.l1])
                  | succ k4 =>
                   have H := HA.out
                   clear HA
                   simp only [laws_FnDotsCostas.l1] at H
                   by_cases c62 : x24_4 ≤ (t1045.length : Int)
                   ·rw [if_pos c62] at H
                    have c62b0 : decide (x24_4 ≤ (t1045.length : Int)) = true := decide_eq_true c62
                    clear c62
                    replace H := Option.bind_eq_some_iff.mp H
                    obtain ⟨⟨t1086, t1087⟩, A630, H⟩ := H
                    (try dsimp only at H)
                    have A63 := Aside0.mk A630
                    clear A630
                    replace H := Option.bind_eq_some_iff.mp H
                    obtain ⟨⟨t1088, t1089⟩, A640, H⟩ := H
                    (try dsimp only at H)
                    have A64 := Aside0.mk A640
                    clear A640
                    have H' := Aside0.mk H
                    clear H
                    as_aux_lemma =>
                     go_wp2_with (first | (go_at_call 62; (with_reducible refine (impl_EchoAt.calls k4 _ _ t1045 x21_3 x24_4 t1086 t1087 _ ?side1 ?side2 A63.out).mono ?_); (case side1 => exact atRC HO_5); (case side2 => exact (Kd.R_reads' HO_5.out).2.1); rintro e w' ⟨rfl, ⟨nd, rfl⟩⟩; (try first | exact ⟨rfl, _, World.drewN_drewN _ _ _⟩ | exact ⟨rfl, _, Eq.trans (World.drewN_drewN _ _ _) (congrArg (World.drewN _) (Nat.add_assoc _ _ _))⟩)) | (go_at_call 62; (with_reducible refine (impl_EchoAt.calls k4 _ _ t1045 (wrap64 (-x21_3)) (wrap64 (-x24_4)) t1088 t1089 _ ?side1 ?side2 A64.out).mono ?_); (case side1 => exact atRC HO_5); (case side2 => exact (Kd.R_reads' HO_5.out).2.1); rintro e w' ⟨rfl, ⟨nd, rfl⟩⟩; (try first | exact ⟨rfl, _, World.drewN_drewN _ _ _⟩ | exact ⟨rfl, _, Eq.trans (World.drewN_drewN _ _ _) (congrArg (World.drewN _) (Nat.add_assoc _ _ _))⟩)))
                     repeat (go_quiet (first | (go_at_call 62; (with_reducible refine (impl_EchoAt.calls k4 _ _ t1045 x21_3 x24_4 t1086 t1087 _ ?side1 ?side2 A63.out).mono ?_); (case side1 => exact atRC HO_5); (case side2 => exact (Kd.R_reads' HO_5.out).2.1); rintro e w' ⟨rfl, ⟨nd, rfl⟩⟩; (try first | exact ⟨rfl, _, World.drewN_drewN _ _ _⟩ | exact ⟨rfl, _, Eq.trans (World.drewN_drewN _ _ _) (congrArg (World.drewN _) (Nat.add_assoc _ _ _))⟩)) | (go_at_call 62; (with_reducible refine (impl_EchoAt.calls k4 _ _ t1045 (wrap64 (-x21_3)) (wrap64 (-x24_4)) t1088 t1089 _ ?side1 ?side2 A64.out).mono ?_); (case side1 => exact atRC HO_5); (case side2 => exact (Kd.R_reads' HO_5.out).2.1); rintro e w' ⟨rfl, ⟨nd, rfl⟩⟩; (try first | exact ⟨rfl, _, World.drewN_drewN _ _ _⟩ | exact ⟨rfl, _, Eq.trans (World.drewN_drewN _ _ _) (congrArg (World.drewN _) (Nat.add_assoc _ _ _))⟩))); try go_wp2_with (first | (go_at_call 62; (with_reducible refine (impl_EchoAt.calls k4 _ _ t1045 x21_3 x24_4 t1086 t1087 _ ?side1 ?side2 A63.out).mono ?_); (case side1 => exact atRC HO_5); (case side2 => exact (Kd.R_reads' HO_5.out).2.1); rintro e w' ⟨rfl, ⟨nd, rfl⟩⟩; (try first | exact ⟨rfl, _, World.drewN_drewN _ _ _⟩ | exact ⟨rfl, _, Eq.trans (World.drewN_drewN _ _ _) (congrArg (World.drewN _) (Nat.add_assoc _ _ _))⟩)) | (go_at_call 62; (with_reducible refine (impl_EchoAt.calls k4 _ _ t1045 (wrap64 (-x21_3)) (wrap64 (-x24_4)) t1088 t1089 _ ?side1 ?side2 A64.out).mono ?_); (case side1 => exact atRC HO_5); (case side2 => exact (Kd.R_reads' HO_5.out).2.1); rintro e w' ⟨rfl, ⟨nd, rfl⟩⟩; (try first | exact ⟨rfl, _, World.drewN_drewN _ _ _⟩ | exact ⟨rfl, _, Eq.trans (World.drewN_drewN _ _ _) (congrArg (World.drewN _) (Nat.add_assoc _ _ _))⟩))))
                     go_loopg [29, 250] k4 (fun kq v29 v250 w' => ∃ (x29_5 : Int) (x250_5 : Int), v29 = .int .i64 x29_5 ∧ v250 = .int .i64 x250_5 ∧ Aside0 (laws_FnDotsCostas.l2 kq l1 t1045 t1048 x20_4 x21_3 t1069 x24_4 t1086 t1087 t1088 t1089 x29_5 t1069 (t1069.length : Int) x250_5 = some r) ∧ Aside0 (kq ≤ k4) ∧ Aside0 (Kd.R (Kd.int .i64) 3 w' w.heap.size (fun _ => True) (.slice Ao12 t1045.length co12) t1045) ∧ Aside0 (Kd.R (Kd.int .i64) 3 w' w.heap.size (fun _ => True) (.slice Ao59 t1069.length co59) t1069) ∧ Aside0 (Kd.R (Kd.int .i64) 3 w' w.heap.size (fun _ => True) (.slice Ao59 t1069.length co59) t1069) ∧ Aside0 (Below w.heap.size w w'))
                     case atStart => exact ⟨(0), (0), eqd, eqd, H', ⟨Nat.le_refl _⟩, ⟨atR HO_5⟩, ⟨atR HO_22⟩, ⟨atR HO_22⟩, ⟨atB HB⟩⟩
                     case round => as_aux_lemma =>
                      clear H'
                      try clear c1
                      try clear p1
                      try clear q1
                      try clear hx1
                      try clear c2
                      try clear p2
                      try clear c3
                      try clear c4
                      try clear c5
                      try clear c6
                      try clear p6
                      try clear q6
                      try clear p10
                      try clear q10
                      try clear hx10
                      try clear c17
                      try clear c17b0
                      try clear c17b1
                      try clear c17b2
                      try clear c18
                      try clear c18b0
                      try clear c18b1
                      try clear c18b2
                      try clear c19
                      try clear c19b0
                      try clear c19b1
                      try clear c19b2
                      try clear c20
                      try clear c20b0
                      try clear c20b1
                      try clear c21
                      try clear c21b0
                      try clear c21b1
                      try clear c22
                      try clear c22b0
                      try clear c22b1
                      try clear c24
                      try clear c24b0
                      try clear c24b1
                      try clear c24b2
                      try clear c27
                      try clear c27b0
                      try clear c27b1
                      try clear c27b2
                      try clear c28
                      try clear c29
                      try clear c31
                      try clear c33
                      try clear c34
                      try clear c34b0
                      try clear c35
                      try clear c35b0
                      try clear c36
                      try clear c36b0
                      try clear c37
                      try clear c37b0
                      try clear c38
                      try clear c38b0
                      try clear c39
                      try clear c39b0
                      try clear c40
                      try clear c40b0
                      try clear c40b1
                      try clear c44
                      try clear c45
                      try clear c45b0
                      try clear c47
                      try clear c48
                      try clear c48b0
                      try clear c48b1
                      try clear c50
                      try clear c50b0
                      try clear c50b1
                      try clear c51
                      try clear c51b0
                      try clear c51b1
                      try clear c54
                      try clear c54b0
                      try clear c54b1
                      try clear c55
                      try clear c55b0
                      try clear c55b1
                      try clear c57
                      try clear c57b0
                      try clear c57b1
                      try clear c60
                      try clear q60
                      try clear q61
                      try clear c62
                      try clear c62b0
                      try clear p64
                      try clear hx1067_0
                      try clear hx1068_0
                      try clear p1
                      try clear p10
                      try clear p1067
                      try clear p1068
                      try clear p2
                      try clear p6
                      try clear q060
                      try clear q1
                      try clear q10
                      try clear q1067
                      try clear q1068
                      try clear q6
                      try clear q60
                      try clear q61
                      obtain ⟨x29_5, x250_5, rfl, rfl, HA, HK5, HO_5, HO_22, HO_248, HB⟩ := hrel
                      cases gk with
                      | zero => exact absurd HA.out (by simp [laws_FnDotsCostas.l2])
                      | succ k5 =>
                       have H := HA.out
                       clear HA
                       simp only [laws_FnDotsCostas.l2] at H
                       by_cases c65 : x250_5 < (t1069.length : Int)
                       ·rw [if_pos c65] at H
                        have c65b0 : decide (x250_5 < (t1069.length : Int)) = true := decide_eq_true c65
                        clear c65
                        by_cases c66 : 0 ≤ x250_5
                        ·rw [if_pos c66] at H
                         have c66b0 : decide (0 ≤ x250_5) = true := decide_eq_true c66
                         clear c66
                         by_cases c67 : x250_5 < (t1069.length : Int)
                         ·rw [if_pos c67] at H
                          have c67b0 : decide (x250_5 < (t1069.length : Int)) = true := decide_eq_true c67
                          clear c67
                          by_cases c68 : (rd t1069 x250_5) = x24_4
                          ·rw [if_pos c68] at H
                           have c68b0 : ((rd t1069 x250_5) == x24_4) = true := beq_iff_eq.mpr c68
                           have c68b1 : ((rd t1069 x250_5) != x24_4) = false := bne_eq_false_iff_eq.mpr c68
                           clear c68
                           have H' := Aside0.mk H
                           clear H
                           have p1090 : 0 ≤ (x250_5 : Int) := ofd
                           have q1090 : x250_5 < (t1069.length : Int) := ofd
                           obtain ⟨ad1090, e1090, hx1090_0⟩ := Kd.at_int (Kd.R_reads' HO_248.out).2.2 x250_5 p1090 q1090
                           cases e1090
                           replace p1090 := eq_true p1090
                           replace q1090 := eq_true q1090
                           have q1090m := q1090; (try rw [List.length_drop] at q1090m); (try rw [List.drop_one] at q1090m)
                           as_aux_lemma =>
                            go_wp2
                            repeat (go_quiet (fail); try go_wp2)
                            first | go_roundg k5 | ((try subst hji53); go_roundg k5)
                            case measure => have := HJ9.out; have := HJ29.out; have := HK3.out; have := HK4.out; have := HK5.out; omega
                            case rel => exact ⟨(wrap64 (x29_5 + 1)), (wrap64 (x250_5 + 1)), eqd, eqd, H', ⟨by have := HJ9.out; have := HJ29.out; have := HK3.out; have := HK4.out; have := HK5.out; omega⟩, ⟨atR HO_5⟩, ⟨atR HO_22⟩, ⟨atR HO_248⟩, ⟨atB HB⟩⟩
                          ·rw [if_neg c68] at H
                           have c68b0 : ((rd t1069 x250_5) == x24_4) = false := beq_eq_false_iff_ne.mpr c68
                           have c68b1 : ((rd t1069 x250_5) != x24_4) = true := bne_iff_ne.mpr c68
                           have H' := Aside0.mk H
                           clear H
                           have p1090 : 0 ≤ (x250_5 : Int) := ofd
                           have q1090 : x250_5 < (t1069.length : Int) := ofd
                           obtain ⟨ad1090, e1090, hx1090_0⟩ := Kd.at_int (Kd.R_reads' HO_248.out).2.2 x250_5 p1090 q1090
                           cases e1090
                           replace p1090 := eq_true p1090
                           replace q1090 := eq_true q1090
                           have q1090m := q1090; (try rw [List.length_drop] at q1090m); (try rw [List.drop_one] at q1090m)
                           as_aux_lemma =>
                            go_wp2
                            repeat (go_quiet (fail); try go_wp2)
                            first | go_roundg k5 | ((try subst hji53); go_roundg k5)
                            case measure => have := HJ9.out; have := HJ29.out; have := HK3.out; have := HK4.out; have := HK5.out; omega
                            case rel => exact ⟨(x29_5), (wrap64 (x250_5 + 1)), eqd, eqd, H', ⟨by have := HJ9.out; have := HJ29.out; have := HK3.out; have := HK4.out; have := HK5.out; omega⟩, ⟨atR HO_5⟩, ⟨atR HO_22⟩, ⟨atR HO_248⟩, ⟨atB HB⟩⟩
                         ·rw [if_neg c67] at H
                          exact absurd H (by simp)
                        ·rw [if_neg c66] at H
                         exact absurd H (by simp)
                       ·rw [if_neg c65] at H
                        have c65b0 : decide (x250_5 < (t1069.length : Int)) = false := decide_eq_false c65
                        clear c65
                        by_cases c69 : t1087 = true
                        ·subst c69
                         rw [if_pos rfl] at H
                         by_cases c70 : t1086 = x29_5
                         ·rw [if_pos c70] at H
                          have c70b0 : (t1086 == x29_5) = true := beq_iff_eq.mpr c70
                          have c70b1 : (t1086 != x29_5) = false := bne_eq_false_iff_eq.mpr c70
                          clear c70
                          by_cases c71 : t1089 = true
                          ·subst c71
                           rw [if_pos rfl] at H
                           by_cases c72 : t1088 = t1086
                           ·rw [if_pos c72] at H
                            have c72b0 : (t1088 == t1086) = true := beq_iff_eq.mpr c72
                            have c72b1 : (t1088 != t1086) = false := bne_eq_false_iff_eq.mpr c72
                            clear c72
                            by_cases c73 : t1086 > x20_4
                            ·rw [if_pos c73] at H
                             have c73b0 : decide (x20_4 < t1086) = true := decide_eq_true c73
                             clear c73
                             have H' := Aside0.mk H
                             clear H
                             as_aux_lemma =>
                              go_wp2
                              repeat (go_quiet (fail); try go_wp2)
                              first | go_roundg k5 | ((try subst hji53); go_roundg k5)
                              case measure => have := HJ9.out; have := HJ29.out; have := HK3.out; have := HK4.out; have := HK5.out; omega
                              case rel => exact ⟨(t1086), (wrap64 (x24_4 + 1)), eqd, eqd, H', ⟨by have := HJ9.out; have := HJ29.out; have := HK3.out; have := HK4.out; have := HK5.out; omega⟩, ⟨atR HO_5⟩, ⟨atR HO_22⟩, ⟨atB HB⟩⟩
                            ·rw [if_neg c73] at H
                             have c73b0 : decide (x20_4 < t1086) = false := decide_eq_false c73
                             clear c73
                             have H' := Aside0.mk H
                             clear H
                             as_aux_lemma =>
                              go_wp2
                              repeat (go_quiet (fail); try go_wp2)
                              first | go_roundg k5 | ((try subst hji53); go_roundg k5)
                              case measure => have := HJ9.out; have := HJ29.out; have := HK3.out; have := HK4.out; have := HK5.out; omega
                              case rel => exact ⟨(x20_4), (wrap64 (x24_4 + 1)), eqd, eqd, H', ⟨by have := HJ9.out; have := HJ29.out; have := HK3.out; have := HK4.out; have := HK5.out; omega⟩, ⟨atR HO_5⟩, ⟨atR HO_22⟩, ⟨atB HB⟩⟩
                           ·rw [if_neg c72] at H
                            have c72b0 : (t1088 == t1086) = false := beq_eq_false_iff_ne.mpr c72
                            have c72b1 : (t1088 != t1086) = true := bne_iff_ne.mpr c72
                            exact absurd ((Option.some.inj H).trans HT.out) (by decide)
                          ·replace c71 := Bool.eq_false_iff.mpr c71
                           subst c71
                           rw [if_neg (show ¬ (false = true) by decide)] at H
                           exact absurd ((Option.some.inj H).trans HT.out) (by decide)
                         ·rw [if_neg c70] at H
                          have c70b0 : (t1086 == x29_5) = false := beq_eq_false_iff_ne.mpr c70
                          have c70b1 : (t1086 != x29_5) = true := bne_iff_ne.mpr c70
                          exact absurd ((Option.some.inj H).trans HT.out) (by decide)
                        ·replace c69 := Bool.eq_false_iff.mpr c69
                         subst c69
                         rw [if_neg (show ¬ (false = true) by decide)] at H
                         exact absurd ((Option.some.inj H).trans HT.out) (by decide)
                   ·rw [if_neg c62] at H
                    have c62b0 : decide (x24_4 ≤ (t1045.length : Int)) = false := decide_eq_false c62
                    clear c62
                    have H' := Aside0.mk H
                    clear H
                    as_aux_lemma =>
                     go_wp2
                     repeat (go_quiet (fail); try go_wp2)
                     first | go_roundg k4 | ((try subst hji53); go_roundg k4)
                     case measure => have := HJ9.out; have := HJ29.out; have := HK3.out; have := HK4.out; omega
                     case rel => exact ⟨(x20_4), (wrap64 (x21_3 + 1)), eqd, eqd, H', ⟨by have := HJ9.out; have := HJ29.out; have := HK3.out; have := HK4.out; omega⟩, ⟨atR HO_5⟩, ⟨atB HB⟩⟩
               ·rw [if_neg c57] at H
                have c57b0 : (t1073 == (wrap64 (t1079 - t1085))) = false := beq_eq_false_iff_ne.mpr c57
                have c57b1 : (t1073 != (wrap64 (t1079 - t1085))) = true := bne_iff_ne.mpr c57
                exact absurd ((Option.some.inj H).trans HT.out) (by decide)
              ·rw [if_neg c55] at H
               exact absurd H (by simp)
             ·rw [if_neg c54] at H
              exact absurd H (by simp)
            ·rw [if_neg c51] at H
             exact absurd H (by simp)
           ·rw [if_neg c50] at H
            exact absurd H (by simp)
          ·rw [if_neg c48] at H
           have c48b0 : ((t1069.length : Int) == (wrap64 ((t1045.length : Int) - x21_3))) = false := beq_eq_false_iff_ne.mpr c48
           have c48b1 : ((t1069.length : Int) != (wrap64 ((t1045.length : Int) - x21_3))) = true := bne_iff_ne.mpr c48
           exact absurd ((Option.some.inj H).trans HT.out) (by decide)
         ·replace c47 := Bool.eq_false_iff.mpr c47
          subst c47
          rw [if_neg (show ¬ (false = true) by decide)] at H
          exact absurd ((Option.some.inj H).trans HT.out) (by decide)
        ·rw [if_neg c45] at H
         have c45b0 : decide (x21_3 < (t1045.length : Int)) = false := decide_eq_false c45
         clear c45
         (first | rw [c45b0] | (simp only [i64_w, i32_w]; rw [c45b0]) | skip)
         by_cases c74 : (t1048 != (decide (x20_3 ≤ 1))) = true
         ·rw [if_pos c74] at H
          have c74b0 : (t1048 != (decide (x20_3 ≤ 1))) = true := c74
          (try (have c74b1 : decide (t1048 = (decide (x20_3 ≤ 1))) = false := by simpa using c74))
          (try (have c74b2 : (t1048 == (decide (x20_3 ≤ 1))) = false := by simpa using c74))
          (try (have c74b3 : ¬ (t1048 = (decide (x20_3 ≤ 1))) := by simpa using c74))
          clear c74
          exact absurd ((Option.some.inj H).trans HT.out) (by decide)
         ·rw [if_neg c74] at H
          have c74b0 : (t1048 != (decide (x20_3 ≤ 1))) = false := by simpa using c74
          (try (have c74b1 : decide (t1048 = (decide (x20_3 ≤ 1))) = true := by simpa using c74))
          (try (have c74b2 : (t1048 == (decide (x20_3 ≤ 1))) = true := by simpa using c74))
          clear c74
          have H' := Aside0.mk H
          clear H
          as_aux_lemma =>
           go_wp2
           repeat (go_quiet (fail); try go_wp2)
           go_meet
           case rel => exact ⟨_, H', ⟨by have := HJ9.out; have := HJ29.out; have := HK3.out; first | omega | exact Nat.le_refl _⟩, ⟨atB HB⟩⟩
    ·replace c44 := Bool.eq_false_iff.mpr c44
     subst c44
     rw [if_neg (show ¬ (false = true) by decide)] at H
     have H' := Aside0.mk H
     clear H
     as_aux_lemma =>
      go_wp2
      repeat (go_quiet (fail); try go_wp2)
      go_meet
      case rel => exact ⟨_, H', ⟨by have := HJ9.out; have := HJ29.out; first | omega | exact Nat.le_refl _⟩, ⟨atB HB⟩⟩
   case rest =>
    rename_i z3_0 z3_1 z3_2 z3_3 z3_4 z3_5 z3_6 z3_7 z3_8 z3_9 z3_10 z3_11 z3_12 z3_13 z3_14 z3_15 z3_16 z3_17 z3_18 z3_19 z3_20 z3_21 z3_22 z3_23 z3_24 z3_25 z3_26 z3_27 z3_28 z3_29 z3_30 z3_31 z3_32 z3_33 z3_34 z3_35 z3_36 z3_37 z3_38 z3_39 z3_40 z3_41 z3_42 z3_43 z3_44 z3_45 z3_46 z3_47 z3_48 z3_49 z3_50 z3_51 z3_52 z3_53 z3_54 z3_55 z3_56 z3_57 z3_58 z3_59 z3_60 z3_61 z3_62 z3_63 z3_64 z3_65 z3_66 z3_67 z3_68 z3_69 z3_70 z3_71 z3_72 z3_73 z3_74 z3_75 z3_76 z3_77 z3_78 z3_79 z3_80 z3_81 z3_82 z3_83 z3_84 z3_85 z3_86 z3_87 z3_88 z3_89 z3_90 z3_91 z3_92 z3_93 z3_94 z3_95 z3_96 z3_97 z3_98 z3_99 z3_100 z3_101 z3_102 z3_103 z3_104 z3_105 z3_106 z3_107 z3_108 z3_109 z3_110 z3_111 z3_112 z3_113 z3_114 z3_115 z3_116 z3_117 z3_118 z3_119 z3_120 z3_121 z3_122 z3_123 z3_124 z3_125 z3_126 z3_127 z3_128 z3_129 z3_130 z3_131 z3_132 z3_133 z3_134 z3_135 z3_136 z3_137 z3_138 z3_139 z3_140 z3_141 z3_142 z3_143 z3_144 z3_145 z3_146 z3_147 z3_148 z3_149 z3_150 z3_151 z3_152 z3_153 z3_154 z3_155 z3_156 z3_157 z3_158 z3_159 z3_160 z3_161 z3_162 z3_163 z3_164 z3_165 z3_166 z3_167 z3_168 z3_169 z3_170 z3_171 z3_172 z3_173 z3_174 z3_175 z3_176 z3_177 z3_178 z3_179 z3_180 z3_181 z3_182 z3_183 z3_184 z3_185 z3_186 z3_187 z3_188 z3_189 z3_190 z3_191 z3_192 z3_193 z3_194 z3_195 z3_196 z3_197 z3_198 z3_199 z3_200 z3_201 z3_202 z3_203 z3_204 z3_205 z3_206 z3_207 z3_208 z3_209 z3_210 z3_211 z3_212 z3_213 z3_214 z3_215 z3_216 z3_217 z3_218 z3_219 z3_220 z3_221 z3_222 z3_223 z3_224 z3_225 z3_226 z3_227 z3_228 z3_229 z3_230 z3_231 z3_232 z3_233 z3_234 z3_235 z3_236 z3_237 z3_238 z3_239 z3_240 z3_241 z3_242 z3_243 z3_244 z3_245 z3_246 z3_247 z3_248 z3_249 z3_250 z3_251 z3_252 z3_253 z3_254 z3_255 z3_256 z3_257 z3_258 z3_259 z3_260 z3_261 z3_262 z3_263 z3_264 z3_265 z3_266 z3_267 z3_268 z3_269 z3_270 z3_271 z3_272 z3_273 z3_274 z3_275 z3_276 z3_277 z3_278 z3_279 z3_280 z3_281 z3_282 z3_283 z3_284 z3_285 z3_286 z3_287 z3_288 z3_289 z3_290 z3_291 z3_292 z3_293 z3_294 z3_295 z3_296 z3_297 z3_298 z3_299 z3_300 z3_301 z3_302 z3_303 z3_304 z3_305 z3_306 z3_307 z3_308 z3_309 z3_310 z3_311 z3_312 z3_313 z3_314 z3_315 z3_316 z3_317 z3_318 z3_319 z3_320 z3_321 z3_322 z3_323 z3_324 z3_325 z3_326 z3_327 z3_328 z3_329 z3_330 z3_331 z3_332 z3_333 z3_334 z3_335 z3_336 z3_337 z3_338 z3_339 z3_340 z3_341 z3_342 z3_343 z3_344 z3_345 z3_346 z3_347 z3_348 z3_349 z3_350 z3_351 z3_352 z3_353 z3_354 z3_355 z3_356 z3_357 z3_358 z3_359 z3_360 z3_361 z3_362 z3_363 z3_364 z3_365 z3_366 z3_367 z3_368 z3_369 z3_370 z3_371 z3_372 z3_373 z3_374 z3_375 z3_376 z3_377 z3_378 z3_379 z3_380 z3_381 z3_382 z3_383 z3_384 z3_385 z3_386 z3_387 z3_388 z3_389 z3_390 z3_391 z3_392 z3_393 z3_394 z3_395 z3_396 z3_397 z3_398 z3_399 z3_400 z3_401 z3_402 z3_403 z3_404 z3_405 z3_406 z3_407 z3_408 z3_409 z3_410 z3_411 z3_412 z3_413 z3_414 z3_415 z3_416 z3_417 z3_418 z3_419 z3_420 z3_421 z3_422 z3_423 z3_424 z3_425 z3_426 z3_427 z3_428 z3_429 z3_430 z3_431 z3_432 z3_433 z3_434 z3_435 z3_436 z3_437 z3_438 z3_439 z3_440 z3_441 z3_442 z3_443
    exact laws_FnDotsCostas.rest3 k A0 c0 l0 A1 c1 l1 r w HR1 HC1 HT t1045 t1048 t1049 t1050 t1051 t1052 t1053 t1054 t1055 t1056 t1057 t1058 t1059 Ao12 co12 kj9 HJ9 z3_2 u18 u19 HB kj29 HJ29 HC43 z3_442 (by rfl) z3_443 wc u4 u20 u21 u22 u23 u24 u25 u26 u27 u28 u29 u31 u72 u73 u74 u75 u76 u77 u78 u79 u80 u81 u82 u83 u84 u85 u86 u87 u88 u89 u90 u91 u92 u93 u94 u95 u96 u97 u98 u99 u100 u101 u102 u103 u104 u105 u106 u107 u108 u109 u110 u111 u112 u113 u114 u115 u116 u117 u118 u119 u120 u121 u122 u123 u124 u125 u126 u127 u128 u129 u130 u131 u132 u133 u134 u135 u136 u137 u138 u139 u140 u141 u142 u143 u144 u145 u146 u147 u148 u149 u150 u151 u152 u153 u154 u155 u156 u157 u158 u159 u160 u161 u162 u163 u164 u165 u166 u167 u168 u169 u170 u171 u172 u173 u174 u175 u176 u177 u178 u179 u180 u181 u182 u183 u184 u185 u186 u187 u188 u189 u190 u191 u192 u193 u194 u195 u196 u197 u198 u199 u200 u201 u202 u203 u204 u205 u206 u207 u208 u209 u210 u211 u212 u213 u214 u215 u216 u217 u218 u219 u220 u221 u222 u223 u224 u225 u226 u227 u228 u229 u230 u231 u232 u233 u234 u235 u236 u237 u238 u239 u240 u241 u242 u243 u244 u245 u246 u247 u248 u249 u250 u251 u252 u253 u254 u255 u256 u257 u258 u259 u260 u261 u262 u263 u264 u265 u266 u267 u268 u269 u270 u271 u272 u273 u274 u275 u276 u277 u278 u279 u280 u281 u282 u283 u284 u285 u286 u287 u288 u289 u290 u291 u292 u293 u294 u295 u296 u297 u298 u299 u300 u301 u302 u303 u304 u305 u306 u307 u308 u309 u310 u311 u312 u313 u314 u315 u316 u317 u318 u319 u320 u321 u322 u323 u324 u325 u326 u327 u328 u329 u330 u331 u332 u333 u334 u335 u336 u337 u338 u339 u340 u341 u342 u343 u344 u345 u346 u347 u348 u349 u350 u351 u352 u353 u354 u355 u356 u357 u358 u359 u360 u361 u362 u363 u364 u365 u366 u367 u368 u369 u370 u371 u372 u373 u374 u375 u376 u377 u378 u379 u380 u381 u382 u383 u384 u385 u386 u387 u391 u392 u393 u394 u395 u396 u397 u398 u399 u400 u401 u402 u403 u404 u405 u406 u407 u408 u409 u410 u411 u412 u413 u414 u415 u416 u417 u418 u419 u420 u421 u422 u423 u424 u425 u426 u427 u428 u429 u430 u431 u432 u433 u434 u435 u436 u437 u438 u439 u440 u441 u442 u443 u444 u445 u446 u447 u448 u449 u450 u451 u452 u453 u454 u455 u456 u457 u458 u459 u460 u461 u462 u463 u464 u465 u466 u467 u468 u469 u470 u471 u472 u473 u474 u475 u476 u477 u478 u479 u480 u481 u482 u483 u484 u485 u486 u487 u488 u489 u490 u491 u492 u493 u494 u495 u496 u497 u498 u499 u500 u501 u502 u503 u504 u505 u506 u507 u508 u509 u510 u511 u512 u513 u514 hcut
end Go.Proofs.Ytnhnpplccfojeaa.Fn
