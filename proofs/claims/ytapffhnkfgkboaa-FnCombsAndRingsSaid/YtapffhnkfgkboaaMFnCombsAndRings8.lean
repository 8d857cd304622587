/- The machine's side and plain lemmas for FnCombsAndRings: texts of this session, merged by its program (part 8). -/
import Derived.Test.YtapffhnkfgkboaaMFnCombsAndRings0
import Derived.Test.YtapffhnkfgkboaaMFnCombsAndRings1
import Derived.Test.YtapffhnkfgkboaaMFnCombsAndRings2
import Derived.Test.YtapffhnkfgkboaaMFnCombsAndRings3
import Derived.Test.YtapffhnkfgkboaaMFnCombsAndRings4
import Derived.Test.YtapffhnkfgkboaaMFnCombsAndRings5
import Derived.Test.YtapffhnkfgkboaaMFnCombsAndRings6
import Derived.Test.YtapffhnkfgkboaaMFnCombsAndRings7
set_option maxHeartbeats 80000000
set_option maxRecDepth 100000
namespace Go.Proofs.Ytapffhnkfgkboaa.Fn
open Go.RowKit Go.Proofs.YtapffhnkfgkboaaW.PrintWords Go.Proofs.YtapffhnkfgkboaaW.PrintLast Go.Proofs.YtapffhnkfgkboaaW.PrintMore
attribute [local go_sem] max2_int min2_int max_two min_two max_three min_three max_four min_four
set_option linter.unusedVariables false
set_option linter.unusedSimpArgs false
theorem Zaa.rest1 (k : Nat) (A0 : Option Addr) (c0 : Nat) (l0 : List Int) (A1 : Option Addr) (c1 : Nat) (l1 : List Int) (r : Bool) (w : World) (HR1 : Aside0 ((Kd.int IntKind.u8).C w A1 l1.length l1)) (HC1 : Aside0 (l1.length ≤ c1)) (HT : Aside0 (r = true)) (t640 t643 : List Int) (t644 : Bool) (t647 : List Int) (t648 : Bool) (t651 : List Int) (t652 : Bool) (t655 : List Int) (t656 : Bool) (c10b0 : (t644 != t648) = false) (c10b1 : decide (t644 = t648) = true) (c10b2 : (t644 == t648) = true) (c13b0 : (t652 != t656) = false) (c13b1 : decide (t652 = t656) = true) (c13b2 : (t652 == t656) = true) (c16b0 : (t652 != t644) = false) (c16b1 : decide (t652 = t644) = true) (c16b2 : (t652 == t644) = true) (HC17 : Aside0 ((if t644 = true then (Zbq.f k t651 t643).bind fun bt661 => (Zaf.f k t651).bind fun bt663 => (Zap.f k t651 t643).bind fun bt665 => if bt661.snd = true then if bt661.fst = true then if bt663.snd = true then if bt663.fst = true then if (bt665.snd != decide ((↑t651.length : Int) > (1 : Int))) = true then some false else if bt665.snd = true then if bt665.fst < (0 : Int) then some false else if bt665.fst ≥ wrap64 ((↑t651.length : Int) - (1 : Int)) then some false else Zaa.j0 k l1 else Zaa.j0 k l1 else some false else some false else some false else some false else Zaa.j0 k l1) = some r)) (Ao19 : Option Addr) (co19 : Nat) (w23 : World) (HB : Aside0 (Below w.heap.size w w23)) (Ao24 : Option Addr) (co24 : Nat) (Ao25 : Option Addr) (co25 : Nat) (Ao26 : Option Addr) (co26 : Nat) (Ao27 : Option Addr) (co27 : Nat) (z1_3 : Act → World → Prop) {Cz1_4 : Code} (ez1_4 : codeAt [1, 1, 1, 1, 1, 1, 1, 1, 1] (bodyAt Try.f3) = Cz1_4) (z1_4 : ∀ (a_ : Act) (w_ : World), Code.wp Try.prog Cz1_4 (bodyPost Try.prog Try.f3 fun e w' => e = Ending.returned (Value.bool r) ∧ Below w.heap.size w w') a_ w_ → z1_3 a_ w_) (wc : World) (u4 u14 u15 u16 u17 u18 u19 u66 u67 u68 u69 u70 u71 u72 u73 u74 u75 u76 u77 u78 u79 u80 u81 u82 u83 u84 u85 u86 u87 u88 u89 u90 u91 u92 u93 u94 u95 u96 u97 u98 u99 u100 u101 u102 u103 u104 u105 u106 u107 u108 u109 u110 u111 u112 u113 u114 u115 u116 u117 u118 u119 u120 u121 u122 u123 u124 u125 u126 u127 u128 u129 u130 u131 u132 u133 u134 u135 u136 u137 u138 u139 u140 u141 u142 u143 u144 u145 u146 u147 u148 u149 u150 u151 u152 u153 u154 u155 u156 u157 u158 u159 u160 u161 u162 u163 u164 u165 u166 u167 u168 u169 u170 u171 u172 u173 u174 u175 u176 u177 u178 u179 u180 u181 u182 u183 u184 u185 u186 u187 u188 u189 u190 u191 u192 u193 u194 u195 u196 u197 u198 u199 u200 u201 u202 u203 u204 u205 u206 u207 u208 u209 u210 u211 u212 u213 u214 u215 u216 u217 u218 u219 u220 u221 u222 u223 u224 u225 u226 u227 u228 u229 u230 u231 u232 u233 u234 u235 u236 u237 u238 u239 u240 u241 u242 u243 u244 u245 u246 u247 u248 u249 u250 u251 u252 u253 u254 u255 u256 u257 u258 u259 u260 u261 u262 u263 u264 u265 u266 u267 u268 u269 u270 u271 u272 u273 u274 u275 u276 u277 u278 u279 u280 u281 u282 u283 u284 u285 u286 u287 u288 u289 u290 u291 u292 u293 u294 u295 u296 u297 u298 u299 u300 u301 u302 u303 u304 u305 u306 u307 u308 u309 u310 u311 u312 u313 u314 u315 u316 u317 u318 u319 u320 u321 u322 u323 u324 u325 u326 u327 u328 u329 u330 u331 u332 u333 u334 u335 u336 u337 u338 u339 u340 u341 u342 u343 u344 u345 u346 u347 u348 u349 u350 u351 u352 u353 u354 u355 u356 u357 u358 u359 u360 u361 u362 u363 u364 u365 u366 u367 u368 u369 u370 u371 u372 u373 u374 u375 u376 u377 u378 u379 u380 u381 u382 u383 u384 u385 u386 u387 u388 u389 u390 u391 u392 u393 u394 u395 u396 u397 u398 u399 u403 u404 u405 u406 u407 u408 u409 u410 u411 u412 u413 u414 u415 u416 u417 u418 u419 u420 u421 u422 u423 u424 u425 u426 u427 u428 u429 u430 u431 u432 u433 u434 u435 u436 u437 u438 u439 u440 u441 u442 u443 u444 u445 u446 u447 u448 u449 u450 u451 u452 u453 u454 u455 u456 u457 u458 u459 u460 u461 u462 u463 u464 u465 u466 u467 u468 u469 u470 u471 u472 u473 u474 u475 u476 u477 u478 u479 u480 u481 u482 u483 u484 u485 u486 u487 u488 u489 u490 u491 u492 u493 u494 u495 u496 u497 u498 u499 u500 u501 u502 u503 u504 u505 : Value) (hcut : ∃ kq, Aside0 (Zaa.j0 kq l1 = some r) ∧ Aside0 (kq ≤ k) ∧ Aside0 (Below w.heap.size w wc)) : z1_3 { tmps := #[Value.slice A0 l0.length c0, Value.slice A1 l1.length c1, Go.undef, Go.undef, u4, Value.slice Ao19 t640.length co19, Value.slice Ao24 t643.length co24, Value.bool t644, Value.slice Ao25 t647.length co25, Value.bool t648, Value.slice Ao26 t651.length co26, Value.bool t652, Value.slice Ao27 t655.length co27, Value.bool t656, u14, u15, u16, u17, u18, u19, Go.undef, Go.undef, Go.undef, Go.undef, Go.undef, Go.undef, Go.undef, Go.undef, Go.undef, Go.undef, Go.undef, Go.undef, Go.undef, Go.undef, Go.undef, Go.undef, Go.undef, Go.undef, Go.undef, Go.undef, Go.undef, Go.undef, Go.undef, Go.undef, Go.undef, Go.undef, Go.undef, Go.undef, Go.undef, Go.undef, Go.undef, Go.undef, Go.undef, Go.undef, Go.undef, Go.undef, Go.undef, Go.undef, Go.undef, Go.undef, Go.undef, Go.undef, Go.undef, Go.undef, Go.undef, Go.undef, u66, u67, u68, u69, u70, u71, u72, u73, u74, u75, u76, u77, u78, u79, u80, u81, u82, u83, u84, u85, u86, u87, u88, u89, u90, u91, u92, u93, u94, u95, u96, u97, u98, u99, u100, u101, u102, u103, u104, u105, u106, u107, u108, u109, u110, u111, u112, u113, u114, u115, u116, u117, u118, u119, u120, u121, u122, u123, u124, u125, u126, u127, u128, u129, u130, u131, u132, u133, u134, u135, u136, u137, u138, u139, u140, u141, u142, u143, u144, u145, u146, u147, u148, u149, u150, u151, u152, u153, u154, u155, u156, u157, u158, u159, u160, u161, u162, u163, u164, u165, u166, u167, u168, u169, u170, u171, u172, u173, u174, u175, u176, u177, u178, u179, u180, u181, u182, u183, u184, u185, u186, u187, u188, u189, u190, u191, u192, u193, u194, u195, u196, u197, u198, u199, u200, u201, u202, u203, u204, u205, u206, u207, u208, u209, u210, u211, u212, u213, u214, u215, u216, u217, u218, u219, u220, u221, u222, u223, u224, u225, u226, u227, u228, u229, u230, u231, u232, u233, u234, u235, u236, u237, u238, u239, u240, u241, u242, u243, u244, u245, u246, u247, u248, u249, u250, u251, u252, u253, u254, u255, u256, u257, u258, u259, u260, u261, u262, u263, u264, u265, u266, u267, u268, u269, u270, u271, u272, u273, u274, u275, u276, u277, u278, u279, u280, u281, u282, u283, u284, u285, u286, u287, u288, u289, u290, u291, u292, u293, u294, u295, u296, u297, u298, u299, u300, u301, u302, u303, u304, u305, u306, u307, u308, u309, u310, u311, u312, u313, u314, u315, u316, u317, u318, u319, u320, u321, u322, u323, u324, u325, u326, u327, u328, u329, u330, u331, u332, u333, u334, u335, u336, u337, u338, u339, u340, u341, u342, u343, u344, u345, u346, u347, u348, u349, u350, u351, u352, u353, u354, u355, u356, u357, u358, u359, u360, u361, u362, u363, u364, u365, u366, u367, u368, u369, u370, u371, u372, u373, u374, u375, u376, u377, u378, u379, u380, u381, u382, u383, u384, u385, u386, u387, u388, u389, u390, u391, u392, u393, u394, u395, u396, u397, u398, u399, Go.undef, Go.undef, Go.undef, u403, u404, u405, u406, u407, u408, u409, u410, u411, u412, u413, u414, u415, u416, u417, u418, u419, u420, u421, u422, u423, u424, u425, u426, u427, u428, u429, u430, u431, u432, u433, u434, u435, u436, u437, u438, u439, u440, u441, u442, u443, u444, u445, u446, u447, u448, u449, u450, u451, u452, u453, u454, u455, u456, u457, u458, u459, u460, u461, u462, u463, u464, u465, u466, u467, u468, u469, u470, u471, u472, u473, u474, u475, u476, u477, u478, u479, u480, u481, u482, u483, u484, u485, u486, u487, u488, u489, u490, u491, u492, u493, u494, u495, u496, u497, u498, u499, u500, u501, u502, u503, u504, u505], defers := [] } wc := by
  conv at ez1_4 => (lhs; whnf)
  subst ez1_4
  clear HC17
  try clear c1
  try clear c10b0
  try clear c10b1
  try clear c10b2
  try clear c13b0
  try clear c13b1
  try clear c13b2
  try clear c16b0
  try clear c16b1
  try clear c16b2
  obtain ⟨kq, HA, HJ16, HB⟩ := hcut
  cases kq with
  | zero => exact absurd HA.out (by simp [Zaa.j0])
  | succ kj16 =>
   have H := HA.out
   clear HA
   simp only [Zaa.j0] at H
   obtain ⟨t667, A46, H⟩ := bs_ H
   (try dsimp only at H)
   replace H := Option.bind_eq_some_iff.mp H
   obtain ⟨⟨t668, t669⟩, A470, H⟩ := H
   (try dsimp only at H)
   have A47 := Aside0.mk A470
   clear A470
   replace H := Option.bind_eq_some_iff.mp H
   obtain ⟨⟨t672, t673⟩, A480, H⟩ := H
   (try dsimp only at H)
   have A48 := Aside0.mk A480
   clear A480
   replace H := Option.bind_eq_some_iff.mp H
   obtain ⟨⟨t676, t677⟩, A490, H⟩ := H
   (try dsimp only at H)
   have A49 := Aside0.mk A490
   clear A490
   replace H := Option.bind_eq_some_iff.mp H
   obtain ⟨⟨t680, t681⟩, A500, H⟩ := H
   (try dsimp only at H)
   have A50 := Aside0.mk A500
   clear A500
   by_cases c51 : (t669 != t673) = true
   ·rw [if_pos c51] at H
    have c51b0 : (t669 != t673) = true := c51
    (try (have c51b1 : decide (t669 = t673) = false := by simpa using c51))
    (try (have c51b2 : (t669 == t673) = false := by simpa using c51))
    (try (have c51b3 : ¬ (t669 = t673) := by simpa using c51))
    clear c51
    exact absurd ((Option.some.inj H).trans HT.out) (by decide)
   rw [if_neg c51] at H
   have c51b0 : (t669 != t673) = false := by simpa using c51
   (try (have c51b1 : decide (t669 = t673) = true := by simpa using c51))
   (try (have c51b2 : (t669 == t673) = true := by simpa using c51))
   clear c51
   obtain ⟨t684, A52, H⟩ := bs_ H
   (try dsimp only at H)
   by_cases c53 : t684 = true
   rotate_left
   ·replace c53 := Bool.eq_false_iff.mpr c53
    subst c53
    rw [if_neg (show ¬ (false = true) by decide)] at H
    exact absurd ((Option.some.inj H).trans HT.out) (by decide)
   subst c53
   rw [if_pos rfl] at H
   by_cases c54 : (t677 != t681) = true
   ·rw [if_pos c54] at H
    have c54b0 : (t677 != t681) = true := c54
    (try (have c54b1 : decide (t677 = t681) = false := by simpa using c54))
    (try (have c54b2 : (t677 == t681) = false := by simpa using c54))
    (try (have c54b3 : ¬ (t677 = t681) := by simpa using c54))
    clear c54
    exact absurd ((Option.some.inj H).trans HT.out) (by decide)
   rw [if_neg c54] at H
   have c54b0 : (t677 != t681) = false := by simpa using c54
   (try (have c54b1 : decide (t677 = t681) = true := by simpa using c54))
   (try (have c54b2 : (t677 == t681) = true := by simpa using c54))
   clear c54
   obtain ⟨t685, A55, H⟩ := bs_ H
   (try dsimp only at H)
   by_cases c56 : t685 = true
   rotate_left
   ·replace c56 := Bool.eq_false_iff.mpr c56
    subst c56
    rw [if_neg (show ¬ (false = true) by decide)] at H
    exact absurd ((Option.some.inj H).trans HT.out) (by decide)
   subst c56
   rw [if_pos rfl] at H
   by_cases c57 : (t669 != t677) = true
   ·rw [if_pos c57] at H
    have c57b0 : (t669 != t677) = true := c57
    (try (have c57b1 : decide (t669 = t677) = false := by simpa using c57))
    (try (have c57b2 : (t669 == t677) = false := by simpa using c57))
    (try (have c57b3 : ¬ (t669 = t677) := by simpa using c57))
    clear c57
    exact absurd ((Option.some.inj H).trans HT.out) (by decide)
   rw [if_neg c57] at H
   have c57b0 : (t669 != t677) = false := by simpa using c57
   (try (have c57b1 : decide (t669 = t677) = true := by simpa using c57))
   (try (have c57b2 : (t669 == t677) = true := by simpa using c57))
   clear c57
   have HC58 := Aside0.mk H
   clear H
   go_upto_if 216 with (first | (go_at_call 14; (with_reducible refine (Zct.calls _ _ l1 t667 _ ?side1 ?side2 A46.out).mono ?_); (case side1 => repeat (first | exact (Kd.C_below HR1.out HB.out) | (with_reducible refine Kd.C_alloc ?_ _) | (with_reducible refine Kd.C_drewN ?_ _) | (with_reducible refine Kd.C_drew ?_))); (case side2 => exact HC1.out); rintro e w59 ⟨rfl, hb⟩; replace HB := upB HB hb) | (go_at_call 15; (with_reducible refine (Zbn.calls kj16 t667 t668 t669 _ A47.out).mono ?_); rintro e w60 ⟨v670, rfl, ho0, hb⟩; have HO671 := lowR ho0 HB; replace HB := upB HB hb) | (go_at_call 16; (with_reducible refine (Zbm.calls kj16 t667 t672 t673 _ A48.out).mono ?_); rintro e w61 ⟨v674, rfl, ho0, hb⟩; have HO675 := Aside0.mk (Kd.R_lower (Kd.R_new' ho0 (ltR HO671)) (szB HB)); replace HO671 := eldRR HO671 ho0 hb; replace HB := upB HB hb) | (go_at_call 17; (with_reducible refine (Zcw.calls t667 t676 t677 _ A49.out).mono ?_); rintro e w62 ⟨v678, rfl, ho0, hb⟩; have HO679 := Aside0.mk (Kd.R_lower (Kd.R_new' (Kd.R_new' ho0 (ltR HO671)) (ltR HO675)) (szB HB)); replace HO671 := eldRR HO671 ho0 hb; replace HO675 := eldRR HO675 ho0 hb; replace HB := upB HB hb) | (go_at_call 18; (with_reducible refine (Zcx.calls t667 t680 t681 _ A50.out).mono ?_); rintro e w63 ⟨v682, rfl, ho0, hb⟩; have HO683 := Aside0.mk (Kd.R_lower (Kd.R_new' (Kd.R_new' (Kd.R_new' ho0 (ltR HO671)) (ltR HO675)) (ltR HO679)) (szB HB)); replace HO671 := eldRR HO671 ho0 hb; replace HO675 := eldRR HO675 ho0 hb; replace HO679 := eldRR HO679 ho0 hb; replace HB := upB HB hb; obtain ⟨Ao64, co64, eo64⟩ := Kd.R_slice HO671.out; subst eo64; obtain ⟨Ao65, co65, eo65⟩ := Kd.R_slice HO675.out; subst eo65) | (go_at_call 10; (with_reducible refine (Zam.calls kj16 _ _ t668 _ _ t672 true _ ?side1 ?side2 ?side3 ?side4 A52.out).mono ?_); (case side1 => exact atRC HO671); (case side2 => exact (Kd.R_reads' HO671.out).2.1); (case side3 => exact atRC HO675); (case side4 => exact (Kd.R_reads' HO675.out).2.1); rintro e w' ⟨rfl, ⟨nd, rfl⟩⟩; (try first | exact ⟨rfl, _, World.drewN_drewN _ _ _⟩ | exact ⟨rfl, _, Eq.trans (World.drewN_drewN _ _ _) (congrArg (World.drewN _) (Nat.add_assoc _ _ _))⟩); obtain ⟨Ao66, co66, eo66⟩ := Kd.R_slice HO679.out; subst eo66; obtain ⟨Ao67, co67, eo67⟩ := Kd.R_slice HO683.out; subst eo67) | (go_at_call 10; (with_reducible refine (Zam.calls kj16 _ _ t676 _ _ t680 true _ ?side1 ?side2 ?side3 ?side4 A55.out).mono ?_); (case side1 => exact atRC HO679); (case side2 => exact (Kd.R_reads' HO679.out).2.1); (case side3 => exact atRC HO683); (case side4 => exact (Kd.R_reads' HO683.out).2.1); rintro e w' ⟨rfl, ⟨nd, rfl⟩⟩; (try first | exact ⟨rfl, _, World.drewN_drewN _ _ _⟩ | exact ⟨rfl, _, Eq.trans (World.drewN_drewN _ _ _) (congrArg (World.drewN _) (Nat.add_assoc _ _ _))⟩)))
   repeat (go_quiet (first | (go_at_call 14; (with_reducible refine (Zct.calls _ _ l1 t667 _ ?side1 ?side2 A46.out).mono ?_); (case side1 => repeat (first | exact (Kd.C_below HR1.out HB.out) | (with_reducible refine Kd.C_alloc ?_ _) | (with_reducible refine Kd.C_drewN ?_ _) | (with_reducible refine Kd.C_drew ?_))); (case side2 => exact HC1.out); rintro e w59 ⟨rfl, hb⟩; replace HB := upB HB hb) | (go_at_call 15; (with_reducible refine (Zbn.calls kj16 t667 t668 t669 _ A47.out).mono ?_); rintro e w60 ⟨v670, rfl, ho0, hb⟩; have HO671 := lowR ho0 HB; replace HB := upB HB hb) | (go_at_call 16; (with_reducible refine (Zbm.calls kj16 t667 t672 t673 _ A48.out).mono ?_); rintro e w61 ⟨v674, rfl, ho0, hb⟩; have HO675 := Aside0.mk (Kd.R_lower (Kd.R_new' ho0 (ltR HO671)) (szB HB)); replace HO671 := eldRR HO671 ho0 hb; replace HB := upB HB hb) | (go_at_call 17; (with_reducible refine (Zcw.calls t667 t676 t677 _ A49.out).mono ?_); rintro e w62 ⟨v678, rfl, ho0, hb⟩; have HO679 := Aside0.mk (Kd.R_lower (Kd.R_new' (Kd.R_new' ho0 (ltR HO671)) (ltR HO675)) (szB HB)); replace HO671 := eldRR HO671 ho0 hb; replace HO675 := eldRR HO675 ho0 hb; replace HB := upB HB hb) | (go_at_call 18; (with_reducible refine (Zcx.calls t667 t680 t681 _ A50.out).mono ?_); rintro e w63 ⟨v682, rfl, ho0, hb⟩; have HO683 := Aside0.mk (Kd.R_lower (Kd.R_new' (Kd.R_new' (Kd.R_new' ho0 (ltR HO671)) (ltR HO675)) (ltR HO679)) (szB HB)); replace HO671 := eldRR HO671 ho0 hb; replace HO675 := eldRR HO675 ho0 hb; replace HO679 := eldRR HO679 ho0 hb; replace HB := upB HB hb; obtain ⟨Ao64, co64, eo64⟩ := Kd.R_slice HO671.out; subst eo64; obtain ⟨Ao65, co65, eo65⟩ := Kd.R_slice HO675.out; subst eo65) | (go_at_call 10; (with_reducible refine (Zam.calls kj16 _ _ t668 _ _ t672 true _ ?side1 ?side2 ?side3 ?side4 A52.out).mono ?_); (case side1 => exact atRC HO671); (case side2 => exact (Kd.R_reads' HO671.out).2.1); (case side3 => exact atRC HO675); (case side4 => exact (Kd.R_reads' HO675.out).2.1); rintro e w' ⟨rfl, ⟨nd, rfl⟩⟩; (try first | exact ⟨rfl, _, World.drewN_drewN _ _ _⟩ | exact ⟨rfl, _, Eq.trans (World.drewN_drewN _ _ _) (congrArg (World.drewN _) (Nat.add_assoc _ _ _))⟩); obtain ⟨Ao66, co66, eo66⟩ := Kd.R_slice HO679.out; subst eo66; obtain ⟨Ao67, co67, eo67⟩ := Kd.R_slice HO683.out; subst eo67) | (go_at_call 10; (with_reducible refine (Zam.calls kj16 _ _ t676 _ _ t680 true _ ?side1 ?side2 ?side3 ?side4 A55.out).mono ?_); (case side1 => exact atRC HO679); (case side2 => exact (Kd.R_reads' HO679.out).2.1); (case side3 => exact atRC HO683); (case side4 => exact (Kd.R_reads' HO683.out).2.1); rintro e w' ⟨rfl, ⟨nd, rfl⟩⟩; (try first | exact ⟨rfl, _, World.drewN_drewN _ _ _⟩ | exact ⟨rfl, _, Eq.trans (World.drewN_drewN _ _ _) (congrArg (World.drewN _) (Nat.add_assoc _ _ _))⟩))); go_upto_if 216 with (first | (go_at_call 14; (with_reducible refine (Zct.calls _ _ l1 t667 _ ?side1 ?side2 A46.out).mono ?_); (case side1 => repeat (first | exact (Kd.C_below HR1.out HB.out) | (with_reducible refine Kd.C_alloc ?_ _) | (with_reducible refine Kd.C_drewN ?_ _) | (with_reducible refine Kd.C_drew ?_))); (case side2 => exact HC1.out); rintro e w59 ⟨rfl, hb⟩; replace HB := upB HB hb) | (go_at_call 15; (with_reducible refine (Zbn.calls kj16 t667 t668 t669 _ A47.out).mono ?_); rintro e w60 ⟨v670, rfl, ho0, hb⟩; have HO671 := lowR ho0 HB; replace HB := upB HB hb) | (go_at_call 16; (with_reducible refine (Zbm.calls kj16 t667 t672 t673 _ A48.out).mono ?_); rintro e w61 ⟨v674, rfl, ho0, hb⟩; have HO675 := Aside0.mk (Kd.R_lower (Kd.R_new' ho0 (ltR HO671)) (szB HB)); replace HO671 := eldRR HO671 ho0 hb; replace HB := upB HB hb) | (go_at_call 17; (with_reducible refine (Zcw.calls t667 t676 t677 _ A49.out).mono ?_); rintro e w62 ⟨v678, rfl, ho0, hb⟩; have HO679 := Aside0.mk (Kd.R_lower (Kd.R_new' (Kd.R_new' ho0 (ltR HO671)) (ltR HO675)) (szB HB)); replace HO671 := eldRR HO671 ho0 hb; replace HO675 := eldRR HO675 ho0 hb; replace HB := upB HB hb) | (go_at_call 18; (with_reducible refine (Zcx.calls t667 t680 t681 _ A50.out).mono ?_); rintro e w63 ⟨v682, rfl, ho0, hb⟩; have HO683 := Aside0.mk (Kd.R_lower (Kd.R_new' (Kd.R_new' (Kd.R_new' ho0 (ltR HO671)) (ltR HO675)) (ltR HO679)) (szB HB)); replace HO671 := eldRR HO671 ho0 hb; replace HO675 := eldRR HO675 ho0 hb; replace HO679 := eldRR HO679 ho0 hb; replace HB := upB HB hb; obtain ⟨Ao64, co64, eo64⟩ := Kd.R_slice HO671.out; subst eo64; obtain ⟨Ao65, co65, eo65⟩ := Kd.R_slice HO675.out; subst eo65) | (go_at_call 10; (with_reducible refine (Zam.calls kj16 _ _ t668 _ _ t672 true _ ?side1 ?side2 ?side3 ?side4 A52.out).mono ?_); (case side1 => exact atRC HO671); (case side2 => exact (Kd.R_reads' HO671.out).2.1); (case side3 => exact atRC HO675); (case side4 => exact (Kd.R_reads' HO675.out).2.1); rintro e w' ⟨rfl, ⟨nd, rfl⟩⟩; (try first | exact ⟨rfl, _, World.drewN_drewN _ _ _⟩ | exact ⟨rfl, _, Eq.trans (World.drewN_drewN _ _ _) (congrArg (World.drewN _) (Nat.add_assoc _ _ _))⟩); obtain ⟨Ao66, co66, eo66⟩ := Kd.R_slice HO679.out; subst eo66; obtain ⟨Ao67, co67, eo67⟩ := Kd.R_slice HO683.out; subst eo67) | (go_at_call 10; (with_reducible refine (Zam.calls kj16 _ _ t676 _ _ t680 true _ ?side1 ?side2 ?side3 ?side4 A55.out).mono ?_); (case side1 => exact atRC HO679); (case side2 => exact (Kd.R_reads' HO679.out).2.1); (case side3 => exact atRC HO683); (case side4 => exact (Kd.R_reads' HO683.out).2.1); rintro e w' ⟨rfl, ⟨nd, rfl⟩⟩; (try first | exact ⟨rfl, _, World.drewN_drewN _ _ _⟩ | exact ⟨rfl, _, Eq.trans (World.drewN_drewN _ _ _) (congrArg (World.drewN _) (Nat.add_assoc _ _ _))⟩))))
   (try simp only [Act.put, List.setIfInBounds_toArray, List.set_cons_zero, List.set_cons_succ])
   go_cut [] (fun wc => ∃ (kq : Nat), Aside0 (Zaa.j3 kq l1 = some r) ∧ Aside0 (kq ≤ kj16) ∧ Aside0 (Below w.heap.size w wc))
   case first => as_aux_lemma =>
    have H := HC58.out
    clear HC58
    by_cases c68 : t669 = true
    rotate_left
    ·replace c68 := Bool.eq_false_iff.mpr c68
     subst c68
     obtain rfl : t673 = false := (by simpa using c51b0)
     obtain rfl : t677 = false := (by simpa using c57b0)
     rw [if_neg (show ¬ (false = true) by decide)] at H
     have H' := Aside0.mk H
     clear H
     as_aux_lemma =>
      go_wp2
      repeat (go_quiet (fail); try go_wp2)
      go_meet
      case rel => exact ⟨_, H', ⟨by have := HJ16.out; first | omega | exact Nat.le_refl _⟩, ⟨atB HB⟩⟩
    subst c68
    obtain rfl : t673 = true := (by simpa using c51b0)
    obtain rfl : t677 = true := (by simpa using c57b0)
    rw [if_pos rfl] at H
    replace H := Option.bind_eq_some_iff.mp H
    obtain ⟨⟨t686, t687⟩, A690, H⟩ := H
    (try dsimp only at H)
    have A69 := Aside0.mk A690
    clear A690
    replace H := Option.bind_eq_some_iff.mp H
    obtain ⟨⟨t688, t689⟩, A700, H⟩ := H
    (try dsimp only at H)
    have A70 := Aside0.mk A700
    clear A700
    by_cases c71 : (t668.length : Int) = t667
    rotate_left
    ·rw [if_neg c71] at H
     have c71b0 : ((t668.length : Int) == t667) = false := beq_eq_false_iff_ne.mpr c71
     have c71b1 : ((t668.length : Int) != t667) = true := bne_iff_ne.mpr c71
     (first | rw [c71b0] | (simp only [i64_w, i32_w]; rw [c71b0]) | skip)
     exact absurd ((Option.some.inj H).trans HT.out) (by decide)
    rw [if_pos c71] at H
    have c71b0 : ((t668.length : Int) == t667) = true := beq_iff_eq.mpr c71
    have c71b1 : ((t668.length : Int) != t667) = false := bne_eq_false_iff_eq.mpr c71
    clear c71
    (first | rw [c71b0] | (simp only [i64_w, i32_w]; rw [c71b0]) | skip)
    by_cases c72 : (t676.length : Int) = t667
    rotate_left
    ·rw [if_neg c72] at H
     have c72b0 : ((t676.length : Int) == t667) = false := beq_eq_false_iff_ne.mpr c72
     have c72b1 : ((t676.length : Int) != t667) = true := bne_iff_ne.mpr c72
     exact absurd ((Option.some.inj H).trans HT.out) (by decide)
    rw [if_pos c72] at H
    have c72b0 : ((t676.length : Int) == t667) = true := beq_iff_eq.mpr c72
    have c72b1 : ((t676.length : Int) != t667) = false := bne_eq_false_iff_eq.mpr c72
    clear c72
    obtain ⟨t690, A73, H⟩ := bs_ H
    (try dsimp only at H)
    by_cases c74 : t690 = true
    rotate_left
    ·replace c74 := Bool.eq_false_iff.mpr c74
     subst c74
     rw [if_neg (show ¬ (false = true) by decide)] at H
     exact absurd ((Option.some.inj H).trans HT.out) (by decide)
    subst c74
    rw [if_pos rfl] at H
    obtain ⟨t691, A75, H⟩ := bs_ H
    (try dsimp only at H)
    by_cases c76 : t691 = true
    rotate_left
    ·replace c76 := Bool.eq_false_iff.mpr c76
     subst c76
     rw [if_neg (show ¬ (false = true) by decide)] at H
     exact absurd ((Option.some.inj H).trans HT.out) (by decide)
    subst c76
    rw [if_pos rfl] at H
    by_cases c77 : t687 = true
    rotate_left
    ·replace c77 := Bool.eq_false_iff.mpr c77
     subst c77
     rw [if_neg (show ¬ (false = true) by decide)] at H
     exact absurd ((Option.some.inj H).trans HT.out) (by decide)
    subst c77
    rw [if_pos rfl] at H
    by_cases c78 : t686 = true
    rotate_left
    ·replace c78 := Bool.eq_false_iff.mpr c78
     subst c78
     rw [if_neg (show ¬ (false = true) by decide)] at H
     exact absurd ((Option.some.inj H).trans HT.out) (by decide)
    subst c78
    rw [if_pos rfl] at H
    by_cases c79 : t689 = true
    rotate_left
    ·replace c79 := Bool.eq_false_iff.mpr c79
     subst c79
     rw [if_neg (show ¬ (false = true) by decide)] at H
     exact absurd ((Option.some.inj H).trans HT.out) (by decide)
    subst c79
    rw [if_pos rfl] at H
    by_cases c80 : t688 = true
    rotate_left
    ·replace c80 := Bool.eq_false_iff.mpr c80
     subst c80
     rw [if_neg (show ¬ (false = true) by decide)] at H
     exact absurd ((Option.some.inj H).trans HT.out) (by decide)
    subst c80
    rw [if_pos rfl] at H
    have HC81 := Aside0.mk H
    clear H
    go_upto_region 28 with (first | (go_at_call 12; (with_reducible refine (Zaf.calls kj16 _ _ t668 true true _ ?side1 ?side2 A69.out).mono ?_); (case side1 => exact atRC HO671); (case side2 => exact (Kd.R_reads' HO671.out).2.1); rintro e w82 ⟨rfl, hb⟩; replace HO671 := upR HO671 hb; replace HO675 := upR HO675 hb; replace HO679 := upR HO679 hb; replace HO683 := upR HO683 hb; replace HB := upB HB hb) | (go_at_call 12; (with_reducible refine (Zaf.calls kj16 _ _ t676 true true _ ?side1 ?side2 A70.out).mono ?_); (case side1 => exact atRC HO679); (case side2 => exact (Kd.R_reads' HO679.out).2.1); rintro e w83 ⟨rfl, hb⟩; replace HO671 := upR HO671 hb; replace HO675 := upR HO675 hb; replace HO679 := upR HO679 hb; replace HO683 := upR HO683 hb; replace HB := upB HB hb) | (go_at_call 19; (with_reducible refine (Zag.calls kj16 _ _ t668 true _ ?side1 ?side2 A73.out).mono ?_); (case side1 => exact atRC HO671); (case side2 => exact (Kd.R_reads' HO671.out).2.1); rintro e w' ⟨rfl, ⟨nd, rfl⟩⟩; (try first | exact ⟨rfl, _, World.drewN_drewN _ _ _⟩ | exact ⟨rfl, _, Eq.trans (World.drewN_drewN _ _ _) (congrArg (World.drewN _) (Nat.add_assoc _ _ _))⟩)) | (go_at_call 19; (with_reducible refine (Zag.calls kj16 _ _ t676 true _ ?side1 ?side2 A75.out).mono ?_); (case side1 => exact atRC HO679); (case side2 => exact (Kd.R_reads' HO679.out).2.1); rintro e w' ⟨rfl, ⟨nd, rfl⟩⟩; (try first | exact ⟨rfl, _, World.drewN_drewN _ _ _⟩ | exact ⟨rfl, _, Eq.trans (World.drewN_drewN _ _ _) (congrArg (World.drewN _) (Nat.add_assoc _ _ _))⟩)))
    repeat (go_quiet (first | (go_at_call 12; (with_reducible refine (Zaf.calls kj16 _ _ t668 true true _ ?side1 ?side2 A69.out).mono ?_); (case side1 => exact atRC HO671); (case side2 => exact (Kd.R_reads' HO671.out).2.1); rintro e w82 ⟨rfl, hb⟩; replace HO671 := upR HO671 hb; replace HO675 := upR HO675 hb; replace HO679 := upR HO679 hb; replace HO683 := upR HO683 hb; replace HB := upB HB hb) | (go_at_call 12; (with_reducible refine (Zaf.calls kj16 _ _ t676 true true _ ?side1 ?side2 A70.out).mono ?_); (case side1 => exact atRC HO679); (case side2 => exact (Kd.R_reads' HO679.out).2.1); rintro e w83 ⟨rfl, hb⟩; replace HO671 := upR HO671 hb; replace HO675 := upR HO675 hb; replace HO679 := upR HO679 hb; replace HO683 := upR HO683 hb; replace HB := upB HB hb) | (go_at_call 19; (with_reducible refine (Zag.calls kj16 _ _ t668 true _ ?side1 ?side2 A73.out).mono ?_); (case side1 => exact atRC HO671); (case side2 => exact (Kd.R_reads' HO671.out).2.1); rintro e w' ⟨rfl, ⟨nd, rfl⟩⟩; (try first | exact ⟨rfl, _, World.drewN_drewN _ _ _⟩ | exact ⟨rfl, _, Eq.trans (World.drewN_drewN _ _ _) (congrArg (World.drewN _) (Nat.add_assoc _ _ _))⟩)) | (go_at_call 19; (with_reducible refine (Zag.calls kj16 _ _ t676 true _ ?side1 ?side2 A75.out).mono ?_); (case side1 => exact atRC HO679); (case side2 => exact (Kd.R_reads' HO679.out).2.1); rintro e w' ⟨rfl, ⟨nd, rfl⟩⟩; (try first | exact ⟨rfl, _, World.drewN_drewN _ _ _⟩ | exact ⟨rfl, _, Eq.trans (World.drewN_drewN _ _ _) (congrArg (World.drewN _) (Nat.add_assoc _ _ _))⟩))); go_upto_region 28 with (first | (go_at_call 12; (with_reducible refine (Zaf.calls kj16 _ _ t668 true true _ ?side1 ?side2 A69.out).mono ?_); (case side1 => exact atRC HO671); (case side2 => exact (Kd.R_reads' HO671.out).2.1); rintro e w82 ⟨rfl, hb⟩; replace HO671 := upR HO671 hb; replace HO675 := upR HO675 hb; replace HO679 := upR HO679 hb; replace HO683 := upR HO683 hb; replace HB := upB HB hb) | (go_at_call 12; (with_reducible refine (Zaf.calls kj16 _ _ t676 true true _ ?side1 ?side2 A70.out).mono ?_); (case side1 => exact atRC HO679); (case side2 => exact (Kd.R_reads' HO679.out).2.1); rintro e w83 ⟨rfl, hb⟩; replace HO671 := upR HO671 hb; replace HO675 := upR HO675 hb; replace HO679 := upR HO679 hb; replace HO683 := upR HO683 hb; replace HB := upB HB hb) | (go_at_call 19; (with_reducible refine (Zag.calls kj16 _ _ t668 true _ ?side1 ?side2 A73.out).mono ?_); (case side1 => exact atRC HO671); (case side2 => exact (Kd.R_reads' HO671.out).2.1); rintro e w' ⟨rfl, ⟨nd, rfl⟩⟩; (try first | exact ⟨rfl, _, World.drewN_drewN _ _ _⟩ | exact ⟨rfl, _, Eq.trans (World.drewN_drewN _ _ _) (congrArg (World.drewN _) (Nat.add_assoc _ _ _))⟩)) | (go_at_call 19; (with_reducible refine (Zag.calls kj16 _ _ t676 true _ ?side1 ?side2 A75.out).mono ?_); (case side1 => exact atRC HO679); (case side2 => exact (Kd.R_reads' HO679.out).2.1); rintro e w' ⟨rfl, ⟨nd, rfl⟩⟩; (try first | exact ⟨rfl, _, World.drewN_drewN _ _ _⟩ | exact ⟨rfl, _, Eq.trans (World.drewN_drewN _ _ _) (congrArg (World.drewN _) (Nat.add_assoc _ _ _))⟩))))
    (try simp only [Act.put, List.setIfInBounds_toArray, List.set_cons_zero, List.set_cons_succ])
    go_cut [268] (fun v268 wc => ∃ (kq : Nat) (x268_80 : Bool), v268 = .bool x268_80 ∧ Aside0 (Zaa.j1 kq l1 t667 t676 x268_80 = some r) ∧ Aside0 (kq ≤ kj16) ∧ Aside0 (Kd.R (Kd.int .i64) 3 wc w.heap.size (fun _ => True) (.slice Ao66 t676.length co66) t676) ∧ Aside0 (Below w.heap.size w wc))
    case first => as_aux_lemma =>
     have H := HC81.out
     clear HC81
     by_cases c84 : t667 ≥ 3
     rotate_left
     ·rw [if_neg c84] at H
      have c84b0 := decide_eq_false c84
      clear c84
      (first | rw [c84b0] | (simp only [i64_w, i32_w]; rw [c84b0]) | skip)
      have H' := Aside0.mk H
      clear H
      as_aux_lemma =>
       go_wp2
       repeat (go_quiet (fail); try go_wp2)
       go_meet
       case rel => exact ⟨_, (false), eqd, H', ⟨by have := HJ16.out; first | omega | exact Nat.le_refl _⟩, ⟨by (with_reducible repeat (first | apply Kd.R_alloc | apply Kd.R_drewN | apply Kd.R_drew)); exact Kd.R_mono HO679.out (fun _ hk => trivial)⟩, ⟨atB HB⟩⟩
     rw [if_pos c84] at H
     have c84b0 := decide_eq_true c84
     clear c84
     (first | rw [c84b0] | (simp only [i64_w, i32_w]; rw [c84b0]) | skip)
     have H' := Aside0.mk H
     clear H
     as_aux_lemma =>
      go_wp2
      repeat (go_quiet (fail); try go_wp2)
      go_meet
      case rel => exact ⟨_, (decide (t667 ≤ 6)), eqd, H', ⟨by have := HJ16.out; first | omega | exact Nat.le_refl _⟩, ⟨by (with_reducible repeat (first | apply Kd.R_alloc | apply Kd.R_drewN | apply Kd.R_drew)); exact Kd.R_mono HO679.out (fun _ hk => trivial)⟩, ⟨atB HB⟩⟩
    case rest => as_aux_lemma =>
     clear HC81
     try clear c51b0
     try clear c51b1
     try clear c51b2
     try clear c53
     try clear c54b0
     try clear c54b1
     try clear c54b2
     try clear c56
     try clear c57b0
     try clear c57b1
     try clear c57b2
     try clear c68
     try clear c71b0
     try clear c71b1
     try clear c72b0
     try clear c72b1
     try clear c74
     try clear c76
     try clear c77
     try clear c78
     try clear c79
     try clear c80
     obtain ⟨kq, x268_80, rfl, HA, HJ80, HO_25, HB⟩ := hcut
     cases kq with
     | zero => exact absurd HA.out (by simp [Zaa.j1])
     | succ kj80 =>
      have H := HA.out
      clear HA
      simp only [Zaa.j1] at H
      by_cases c85 : x268_80 = true
      rotate_left
      ·replace c85 := Bool.eq_false_iff.mpr c85
       subst c85
       rw [if_neg (show ¬ (false = true) by decide)] at H
       have H' := Aside0.mk H
       clear H
       as_aux_lemma =>
        go_wp2
        repeat (go_quiet (fail); try go_wp2)
        go_meet
        case rel => exact ⟨_, H', ⟨by have := HJ16.out; have := HJ80.out; first | omega | exact Nat.le_refl _⟩, ⟨atB HB⟩⟩
      subst c85
      rw [if_pos rfl] at H
      replace H := Option.bind_eq_some_iff.mp H
      obtain ⟨⟨t692, t693⟩, A860, H⟩ := H
      (try dsimp only at H)
      have A86 := Aside0.mk A860
      clear A860
      have H' := Aside0.mk H
      clear H
      as_aux_lemma =>
       go_wp2_with (first | (go_at_call 20; (with_reducible refine (Zbz.calls kj80 _ _ t676 t692 t693 _ ?side1 ?side2 A86.out).mono ?_); (case side1 => exact atRC HO_25); (case side2 => exact (Kd.R_reads' HO_25.out).2.1); rintro e w87 ⟨rfl, hb⟩; replace HO_25 := upR HO_25 hb; replace HB := upB HB hb))
       repeat (go_quiet (first | (go_at_call 20; (with_reducible refine (Zbz.calls kj80 _ _ t676 t692 t693 _ ?side1 ?side2 A86.out).mono ?_); (case side1 => exact atRC HO_25); (case side2 => exact (Kd.R_reads' HO_25.out).2.1); rintro e w87 ⟨rfl, hb⟩; replace HO_25 := upR HO_25 hb; replace HB := upB HB hb)); try go_wp2_with (first | (go_at_call 20; (with_reducible refine (Zbz.calls kj80 _ _ t676 t692 t693 _ ?side1 ?side2 A86.out).mono ?_); (case side1 => exact atRC HO_25); (case side2 => exact (Kd.R_reads' HO_25.out).2.1); rintro e w87 ⟨rfl, hb⟩; replace HO_25 := upR HO_25 hb; replace HB := upB HB hb)))
       go_loopg [35, 36] kj80 (fun kq v35 v36 w' => ∃ (x35_3 : Int) (x36_3 : Int), v35 = .int .i64 x35_3 ∧ v36 = .int .i64 x36_3 ∧ Aside0 (Zaa.l0 kq l1 t667 t692 t693 x35_3 x36_3 = some r) ∧ Aside0 (kq ≤ kj80) ∧ Aside0 (Below w.heap.size w w'))
       case atStart => exact ⟨(2), (2), eqd, eqd, H', ⟨Nat.le_refl _⟩, ⟨atB HB⟩⟩
       case round => as_aux_lemma =>
        clear H'
        try clear c85
        obtain ⟨x35_3, x36_3, rfl, rfl, HA, HK3, HB⟩ := hrel
        cases gk with
        | zero => exact absurd HA.out (by simp [Zaa.l0])
        | succ k3 =>
         have H := HA.out
         clear HA
         simp only [Zaa.l0] at H
         by_cases c88 : x36_3 < t667
         ·rw [if_pos c88] at H
          have c88b0 := decide_eq_true c88
          clear c88
          have H' := Aside0.mk H
          clear H
          as_aux_lemma =>
           go_wp2
           repeat (go_quiet (fail); try go_wp2)
           go_roundg k3
           case measure => have := HJ16.out; have := HJ80.out; have := HK3.out; omega
           case rel => exact ⟨(wrap64 (x35_3 * x36_3)), (wrap64 (x36_3 + 1)), eqd, eqd, H', ⟨by have := HJ16.out; have := HJ80.out; have := HK3.out; omega⟩, ⟨atB HB⟩⟩
         rw [if_neg c88] at H
         have c88b0 := decide_eq_false c88
         clear c88
         by_cases c89 : t693 = true
         rotate_left
         ·replace c89 := Bool.eq_false_iff.mpr c89
          subst c89
          rw [if_neg (show ¬ (false = true) by decide)] at H
          exact absurd ((Option.some.inj H).trans HT.out) (by decide)
         subst c89
         rw [if_pos rfl] at H
         by_cases c90 : t692 = x35_3
         rotate_left
         ·rw [if_neg c90] at H
          have c90b0 : (t692 == x35_3) = false := beq_eq_false_iff_ne.mpr c90
          have c90b1 : (t692 != x35_3) = true := bne_iff_ne.mpr c90
          exact absurd ((Option.some.inj H).trans HT.out) (by decide)
         rw [if_pos c90] at H
         have c90b0 : (t692 == x35_3) = true := beq_iff_eq.mpr c90
         have c90b1 : (t692 != x35_3) = false := bne_eq_false_iff_eq.mpr c90
         clear c90
         have H' := Aside0.mk H
         clear H
         as_aux_lemma =>
          go_wp2
          repeat (go_quiet (fail); try go_wp2)
          go_meet
          case rel => exact ⟨_, H', ⟨by have := HJ16.out; have := HJ80.out; have := HK3.out; first | omega | exact Nat.le_refl _⟩, ⟨atB HB⟩⟩
   case rest =>
    rename_i z2_0 z2_1 z2_2 z2_3 z2_4 z2_5 z2_6 z2_7 z2_8 z2_9 z2_10 z2_11 z2_12 z2_13 z2_14 z2_15 z2_16 z2_17 z2_18 z2_19 z2_20 z2_21 z2_22 z2_23 z2_24 z2_25 z2_26 z2_27 z2_28 z2_29 z2_30 z2_31 z2_32 z2_33 z2_34 z2_35 z2_36 z2_37 z2_38 z2_39 z2_40 z2_41 z2_42 z2_43 z2_44 z2_45 z2_46 z2_47 z2_48 z2_49 z2_50 z2_51 z2_52 z2_53 z2_54 z2_55 z2_56 z2_57 z2_58 z2_59 z2_60 z2_61 z2_62 z2_63 z2_64 z2_65 z2_66 z2_67 z2_68 z2_69 z2_70 z2_71 z2_72 z2_73 z2_74 z2_75 z2_76 z2_77 z2_78 z2_79 z2_80 z2_81 z2_82 z2_83 z2_84 z2_85 z2_86 z2_87 z2_88 z2_89 z2_90 z2_91 z2_92 z2_93 z2_94 z2_95 z2_96 z2_97 z2_98 z2_99 z2_100 z2_101 z2_102 z2_103 z2_104 z2_105 z2_106 z2_107 z2_108 z2_109 z2_110 z2_111 z2_112 z2_113 z2_114 z2_115 z2_116 z2_117 z2_118 z2_119 z2_120 z2_121 z2_122 z2_123 z2_124 z2_125 z2_126 z2_127 z2_128 z2_129 z2_130 z2_131 z2_132 z2_133 z2_134 z2_135 z2_136 z2_137 z2_138 z2_139 z2_140 z2_141 z2_142 z2_143 z2_144 z2_145 z2_146 z2_147 z2_148 z2_149 z2_150 z2_151 z2_152 z2_153 z2_154 z2_155 z2_156 z2_157 z2_158 z2_159 z2_160 z2_161 z2_162 z2_163 z2_164 z2_165 z2_166 z2_167 z2_168 z2_169 z2_170 z2_171 z2_172 z2_173 z2_174 z2_175 z2_176 z2_177 z2_178 z2_179 z2_180 z2_181 z2_182 z2_183 z2_184 z2_185 z2_186 z2_187 z2_188 z2_189 z2_190 z2_191 z2_192 z2_193 z2_194 z2_195 z2_196 z2_197 z2_198 z2_199 z2_200 z2_201 z2_202 z2_203 z2_204 z2_205 z2_206 z2_207 z2_208 z2_209 z2_210 z2_211 z2_212 z2_213 z2_214 z2_215 z2_216 z2_217 z2_218 z2_219 z2_220 z2_221 z2_222 z2_223 z2_224 z2_225 z2_226 z2_227 z2_228 z2_229 z2_230 z2_231 z2_232 z2_233 z2_234 z2_235 z2_236 z2_237 z2_238 z2_239 z2_240 z2_241 z2_242 z2_243 z2_244 z2_245 z2_246 z2_247 z2_248 z2_249 z2_250 z2_251 z2_252 z2_253 z2_254 z2_255 z2_256 z2_257 z2_258 z2_259 z2_260 z2_261 z2_262 z2_263 z2_264 z2_265 z2_266 z2_267 z2_268 z2_269 z2_270 z2_271 z2_272 z2_273 z2_274 z2_275 z2_276 z2_277 z2_278 z2_279 z2_280 z2_281 z2_282 z2_283 z2_284 z2_285 z2_286 z2_287 z2_288 z2_289 z2_290 z2_291 z2_292 z2_293 z2_294 z2_295 z2_296 z2_297 z2_298 z2_299 z2_300 z2_301 z2_302 z2_303 z2_304 z2_305 z2_306 z2_307 z2_308 z2_309 z2_310 z2_311 z2_312 z2_313 z2_314 z2_315 z2_316 z2_317 z2_318 z2_319 z2_320 z2_321 z2_322 z2_323 z2_324 z2_325 z2_326 z2_327 z2_328 z2_329 z2_330 z2_331 z2_332 z2_333 z2_334 z2_335 z2_336 z2_337 z2_338 z2_339 z2_340 z2_341 z2_342 z2_343 z2_344 z2_345 z2_346 z2_347 z2_348 z2_349 z2_350 z2_351 z2_352 z2_353 z2_354 z2_355 z2_356 z2_357 z2_358 z2_359 z2_360 z2_361 z2_362 z2_363 z2_364 z2_365 z2_366 z2_367 z2_368 z2_369 z2_370 z2_371 z2_372 z2_373 z2_374 z2_375 z2_376 z2_377 z2_378 z2_379 z2_380 z2_381 z2_382 z2_383 z2_384 z2_385 z2_386 z2_387 z2_388 z2_389 z2_390 z2_391 z2_392 z2_393 z2_394 z2_395 z2_396 z2_397 z2_398 z2_399 z2_400 z2_401 z2_402 z2_403 z2_404 z2_405 z2_406 z2_407 z2_408 z2_409 z2_410 z2_411 z2_412 z2_413 z2_414 z2_415 z2_416 z2_417 z2_418 z2_419 z2_420 z2_421 z2_422 z2_423 z2_424 z2_425 z2_426 z2_427 z2_428 z2_429 z2_430 z2_431 z2_432 z2_433 z2_434 z2_435 z2_436 z2_437 z2_438 z2_439 z2_440 z2_441 z2_442 z2_443
    exact Zaa.rest2 k A0 c0 l0 A1 c1 l1 r w HR1 HC1 HT t640 t643 t644 t647 t648 t651 t652 t655 t656 Ao19 co19 Ao24 co24 Ao25 co25 Ao26 co26 Ao27 co27 u14 u15 u16 u17 u18 u19 kj16 HJ16 t667 t668 t669 t672 t673 t676 t677 t680 t681 c51b0 c51b1 c51b2 c54b0 c54b1 c54b2 c57b0 c57b1 c57b2 HC58 w63 HB Ao64 co64 Ao65 co65 Ao66 co66 Ao67 co67 z2_442 (by rfl) z2_443 wc u4 u29 u30 u31 u32 u33 u34 u35 u36 u66 u67 u68 u69 u70 u71 u72 u73 u74 u75 u76 u77 u78 u79 u80 u81 u82 u83 u84 u85 u86 u87 u88 u89 u90 u91 u92 u93 u94 u95 u96 u97 u98 u99 u100 u101 u102 u103 u104 u105 u106 u107 u108 u109 u110 u111 u112 u113 u114 u115 u116 u117 u118 u119 u120 u121 u122 u123 u124 u125 u126 u127 u128 u129 u130 u131 u132 u133 u134 u135 u136 u137 u138 u139 u140 u141 u142 u143 u144 u145 u146 u147 u148 u149 u150 u151 u152 u153 u154 u155 u156 u157 u158 u159 u160 u161 u162 u163 u164 u165 u166 u167 u168 u169 u170 u171 u172 u173 u174 u175 u176 u177 u178 u179 u180 u181 u182 u183 u184 u185 u186 u187 u188 u189 u190 u191 u192 u193 u194 u195 u196 u197 u198 u199 u200 u201 u202 u203 u204 u205 u206 u207 u208 u209 u210 u211 u212 u213 u214 u215 u216 u217 u218 u219 u220 u221 u222 u223 u224 u225 u226 u227 u228 u229 u230 u231 u232 u233 u234 u235 u236 u237 u238 u239 u240 u241 u242 u243 u244 u245 u246 u247 u248 u249 u250 u251 u252 u253 u254 u255 u256 u257 u258 u259 u260 u261 u262 u263 u264 u265 u266 u267 u268 u269 u270 u271 u272 u273 u274 u275 u276 u277 u278 u279 u280 u281 u282 u283 u284 u285 u286 u287 u288 u289 u290 u291 u292 u293 u294 u295 u296 u297 u298 u299 u300 u301 u302 u303 u304 u305 u306 u307 u308 u309 u310 u311 u312 u313 u314 u315 u316 u317 u318 u319 u320 u321 u322 u323 u324 u325 u326 u327 u328 u329 u330 u331 u332 u333 u334 u335 u336 u337 u338 u339 u340 u341 u342 u343 u344 u345 u346 u347 u348 u349 u350 u351 u352 u353 u354 u355 u356 u357 u358 u359 u360 u361 u362 u363 u364 u365 u366 u367 u368 u369 u370 u371 u372 u373 u374 u375 u376 u377 u378 u379 u380 u381 u382 u383 u384 u385 u386 u387 u388 u389 u390 u391 u392 u393 u394 u395 u396 u397 u398 u399 u403 u404 u405 u406 u407 u408 u409 u410 u411 u412 u413 u414 u415 u416 u417 u418 u419 u420 u421 u422 u423 u424 u425 u426 u427 u428 u429 u430 u431 u432 u433 u434 u435 u436 u437 u438 u439 u440 u441 u442 u443 u444 u445 u446 u447 u448 u449 u450 u451 u452 u453 u454 u455 u456 u457 u458 u459 u460 u461 u462 u463 u464 u465 u466 u467 u468 u469 u470 u471 u472 u473 u474 u475 u476 u477 u478 u479 u480 u481 u482 u483 u484 u485 u486 u487 u488 u489 u490 u491 u492 u493 u494 u495 u496 u497 u498 u499 u500 u501 u502 u503 u504 u505 hcut
end Go.Proofs.Ytapffhnkfgkboaa.Fn
