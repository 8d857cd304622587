/- The machine's side and plain lemmas for FnTreesLabelled: texts of this session, merged by its program (part 5). -/
import Derived.Test.YtnhnpplccfojeaaMFnTreesLabelled0
import Derived.Test.YtnhnpplccfojeaaMFnTreesLabelled1
import Derived.Test.YtnhnpplccfojeaaMFnTreesLabelled2
import Derived.Test.YtnhnpplccfojeaaMFnTreesLabelled3
import Derived.Test.YtnhnpplccfojeaaMFnTreesLabelled4
set_option maxHeartbeats 80000000
set_option maxRecDepth 100000
namespace Go.Proofs.Ytnhnpplccfojeaa.Fn
open Go.RowKit Go.Proofs.YtnhnpplccfojeaaW.PrintWords Go.Proofs.YtnhnpplccfojeaaW.PrintLast Go.Proofs.YtnhnpplccfojeaaW.PrintMore
attribute [local go_sem] max2_int min2_int max_two min_two max_three min_three max_four min_four
set_option linter.unusedVariables false
set_option linter.unusedSimpArgs false
theorem Zaa.rest2 (k : Nat) (A0 : Option Addr) (c0 : Nat) (l0 : List Int) (A1 : Option Addr) (c1 : Nat) (l1 : List Int) (r : Bool) (w : World) (HR1 : Aside0 ((Kd.int IntKind.u8).C w A1 l1.length l1)) (HC1 : Aside0 (l1.length ≤ c1)) (HT : Aside0 (r = true)) (t340 t341 : List Int) (t346 t347 t348 t349 : Bool) (t350 : List Int) (t351 t355 t358 t359 t360 t361 : Bool) (t362 : Int) (t363 : Bool) (t364 : Int) (t365 : Bool) (t366 : List (List Int)) (t367 t371 : Bool) (Ao18 : Option Addr) (co18 : Nat) (Ao19 : Option Addr) (co19 : Nat) (v352 v356 v368 v372 : Value) (z2_1 : World) (HO_5 : Aside0 ((Kd.int IntKind.i64).R (3 : Nat) z2_1 w.heap.size (fun x => True) (Value.slice Ao18 t340.length co18) t340)) (HO_6 : Aside0 ((Kd.int IntKind.i64).R (3 : Nat) z2_1 w.heap.size (fun x => True) (Value.slice Ao19 t341.length co19) t341)) (HO_11 : Aside0 ((Kd.int IntKind.i64).R (3 : Nat) z2_1 w.heap.size (fun x => True) v352 t350)) (HO_23 : Aside0 ((Kd.slice (3 : Nat) (Kd.int IntKind.i64)).S (24 : Nat) z2_1 w.heap.size (fun x => True) v368 t366)) (HB : Aside0 (Below w.heap.size w z2_1)) (kj15 : Nat) (HJ15 : Aside0 (kj15 + (1 : Nat) ≤ k)) (HC81 : Aside0 ((if t367 = true then if (↑t366.length : Int) = wrap64 ((↑t340.length : Int) - (1 : Int)) then Zaa.l0 kj15 l1 t340 t341 t346 t347 t350 t362 t363 t366 t366 (↑t366.length : Int) (0 : Int) else some false else Zaa.j2 kj15 l1 t340 t341 t346 t347 t350 t362 t363 t366) = some r)) (z2_409 : Act → World → Prop) {Cz2_410 : Code} (ez2_410 : codeAt [1, 1, 1, 1, 1, 1, 1, 1, 1, 1, 1, 1, 1, 1, 1] (bodyAt Try.f3) = Cz2_410) (z2_410 : ∀ (a_ : Act) (w_ : World), Code.wp Try.prog Cz2_410 (bodyPost Try.prog Try.f3 fun e w' => e = Ending.returned (Value.bool r) ∧ Below w.heap.size w w') a_ w_ → z2_409 a_ w_) (wc : World) (u4 u27 u28 u53 u54 u55 u56 u57 u58 u59 u60 u61 u62 u63 u64 u65 u66 u67 u68 u69 u70 u71 u72 u73 u74 u75 u76 u77 u78 u79 u80 u81 u82 u83 u84 u85 u86 u87 u88 u89 u90 u91 u92 u93 u94 u95 u96 u97 u98 u99 u100 u101 u102 u103 u104 u105 u106 u107 u108 u109 u110 u111 u112 u113 u114 u115 u116 u117 u118 u119 u120 u121 u122 u123 u124 u125 u126 u127 u128 u129 u130 u131 u132 u133 u134 u135 u136 u137 u138 u139 u140 u141 u142 u143 u144 u145 u146 u147 u148 u149 u150 u151 u152 u153 u154 u155 u156 u157 u158 u159 u160 u161 u162 u163 u164 u165 u166 u167 u168 u169 u170 u171 u172 u173 u174 u175 u176 u177 u178 u179 u180 u181 u182 u183 u184 u185 u186 u187 u188 u189 u190 u191 u192 u193 u194 u195 u196 u197 u198 u199 u200 u201 u202 u203 u204 u205 u206 u207 u208 u209 u210 u211 u212 u213 u214 u215 u216 u217 u218 u219 u220 u221 u222 u223 u224 u225 u226 u227 u228 u229 u230 u231 u232 u233 u234 u235 u236 u237 u238 u239 u240 u241 u242 u243 u244 u245 u246 u247 u248 u249 u250 u251 u252 u253 u254 u255 u256 u257 u258 u259 u260 u261 u262 u263 u264 u265 u266 u267 u268 u269 u270 u271 u272 u273 u274 u275 u276 u277 u278 u279 u280 u281 u282 u283 u284 u285 u286 u287 u288 u289 u290 u291 u292 u293 u294 u295 u296 u297 u298 u299 u300 u301 u302 u303 u304 u305 u306 u307 u308 u309 u310 u311 u312 u313 u314 u315 u316 u320 u321 u322 u323 u324 u325 u326 u327 u328 u329 u330 u331 u332 u333 u334 u335 u336 u337 u338 u339 u340 u341 u342 u343 u344 u345 u346 u347 u348 u349 u350 u351 u352 u353 u354 u355 u356 u357 u358 u359 u360 u361 u362 u363 u364 u365 u366 u367 u368 u369 u370 u371 u372 u373 u374 u375 u376 u377 u378 u379 u380 u381 u382 u383 u384 u385 u386 u387 u388 u389 u390 u391 u392 u393 u394 u395 u396 u397 u398 u399 u400 u401 u402 u403 u404 u405 u406 u407 u408 u409 u410 u411 u412 u413 u414 u415 u416 u417 u418 u419 u420 u421 u422 u423 u424 u425 u426 u427 u428 u429 u430 u431 u432 u433 u434 u435 u436 u437 u438 u439 u440 u441 u442 u443 u444 u445 u446 u447 u448 u449 u450 u451 u452 u453 u454 u455 u456 u457 u458 u459 u460 u461 u462 u463 u464 : Value) (hcut : ∃ kq, Aside0 (Zaa.j2 kq l1 t340 t341 t346 t347 t350 t362 t363 t366 = some r) ∧ Aside0 (kq ≤ kj15) ∧ Aside0 ((Kd.int IntKind.i64).R (3 : Nat) wc w.heap.size (fun x => True) (Value.slice Ao18 t340.length co18) t340) ∧ Aside0 ((Kd.int IntKind.i64).R (3 : Nat) wc w.heap.size (fun x => True) (Value.slice Ao19 t341.length co19) t341) ∧ Aside0 ((Kd.int IntKind.i64).R (3 : Nat) wc w.heap.size (fun x => True) v352 t350) ∧ Aside0 ((Kd.slice (3 : Nat) (Kd.int IntKind.i64)).S (24 : Nat) wc w.heap.size (fun x => True) v368 t366) ∧ Aside0 (Below w.heap.size w wc)) : z2_409 { tmps := #[Value.slice A0 l0.length c0, Value.slice A1 l1.length c1, Go.undef, Go.undef, u4, Value.slice Ao18 t340.length co18, Value.slice Ao19 t341.length co19, Value.bool t346, Value.bool t347, Value.bool t348, Value.bool t349, v352, Value.bool t351, v356, Value.bool t355, Value.bool t358, Value.bool t359, Value.bool t360, Value.bool t361, Value.int IntKind.i64 t362, Value.bool t363, Value.int IntKind.i64 t364, Value.bool t365, v368, Value.bool t367, v372, Value.bool t371, u27, u28, Go.undef, Go.undef, Go.undef, Go.undef, Go.undef, Go.undef, Go.undef, Go.undef, Go.undef, Go.undef, Go.undef, Go.undef, Go.undef, Go.undef, Go.undef, Go.undef, Go.undef, Go.undef, Go.undef, Go.undef, Go.undef, Go.undef, Go.undef, Go.undef, u53, u54, u55, u56, u57, u58, u59, u60, u61, u62, u63, u64, u65, u66, u67, u68, u69, u70, u71, u72, u73, u74, u75, u76, u77, u78, u79, u80, u81, u82, u83, u84, u85, u86, u87, u88, u89, u90, u91, u92, u93, u94, u95, u96, u97, u98, u99, u100, u101, u102, u103, u104, u105, u106, u107, u108, u109, u110, u111, u112, u113, u114, u115, u116, u117, u118, u119, u120, u121, u122, u123, u124, u125, u126, u127, u128, u129, u130, u131, u132, u133, u134, u135, u136, u137, u138, u139, u140, u141, u142, u143, u144, u145, u146, u147, u148, u149, u150, u151, u152, u153, u154, u155, u156, u157, u158, u159, u160, u161, u162, u163, u164, u165, u166, u167, u168, u169, u170, u171, u172, u173, u174, u175, u176, u177, u178, u179, u180, u181, u182, u183, u184, u185, u186, u187, u188, u189, u190, u191, u192, u193, u194, u195, u196, u197, u198, u199, u200, u201, u202, u203, u204, u205, u206, u207, u208, u209, u210, u211, u212, u213, u214, u215, u216, u217, u218, u219, u220, u221, u222, u223, u224, u225, u226, u227, u228, u229, u230, u231, u232, u233, u234, u235, u236, u237, u238, u239, u240, u241, u242, u243, u244, u245, u246, u247, u248, u249, u250, u251, u252, u253, u254, u255, u256, u257, u258, u259, u260, u261, u262, u263, u264, u265, u266, u267, u268, u269, u270, u271, u272, u273, u274, u275, u276, u277, u278, u279, u280, u281, u282, u283, u284, u285, u286, u287, u288, u289, u290, u291, u292, u293, u294, u295, u296, u297, u298, u299, u300, u301, u302, u303, u304, u305, u306, u307, u308, u309, u310, u311, u312, u313, u314, u315, u316, Go.undef, Go.undef, Go.undef, u320, u321, u322, u323, u324, u325, u326, u327, u328, u329, u330, u331, u332, u333, u334, u335, u336, u337, u338, u339, u340, u341, u342, u343, u344, u345, u346, u347, u348, u349, u350, u351, u352, u353, u354, u355, u356, u357, u358, u359, u360, u361, u362, u363, u364, u365, u366, u367, u368, u369, u370, u371, u372, u373, u374, u375, u376, u377, u378, u379, u380, u381, u382, u383, u384, u385, u386, u387, u388, u389, u390, u391, u392, u393, u394, u395, u396, u397, u398, u399, u400, u401, u402, u403, u404, u405, u406, u407, u408, u409, u410, u411, u412, u413, u414, u415, u416, u417, u418, u419, u420, u421, u422, u423, u424, u425, u426, u427, u428, u429, u430, u431, u432, u433, u434, u435, u436, u437, u438, u439, u440, u441, u442, u443, u444, u445, u446, u447, u448, u449, u450, u451, u452, u453, u454, u455, u456, u457, u458, u459, u460, u461, u462, u463, u464], defers := [] } wc := by
  conv at ez2_410 => (lhs; whnf)
  subst ez2_410
  clear HC81
  try clear c1
  obtain ⟨kq, HA, HJ80, HO_5, HO_6, HO_11, HO_23, HB⟩ := hcut
  cases kq with
  | zero => exact absurd HA.out (by simp [Zaa.j2])
  | succ kj80 =>
   have H := HA.out
   clear HA
   simp only [Zaa.j2] at H
   have HC98 := Aside0.mk H
   clear H
   go_upto_if 256 with (fail)
   go_cut [] (fun wc => ∃ (kq : Nat), Aside0 (Zaa.j5 kq l1 = some r) ∧ Aside0 (kq ≤ kj80) ∧ Aside0 (Below w.heap.size w wc))
   case first => as_aux_lemma =>
    have H := HC98.out
    clear HC98
    by_cases c99 : t347 = true
    rotate_left
    ·replace c99 := Bool.eq_false_iff.mpr c99
     subst c99
     rw [if_neg (show ¬ (false = true) by decide)] at H
     have H' := Aside0.mk H
     clear H
     as_aux_lemma =>
      go_wp2
      go_meet
      case rel => exact ⟨_, H', ⟨by have := HJ15.out; have := HJ80.out; first | omega | exact Nat.le_refl _⟩, ⟨atB HB⟩⟩
    subst c99
    rw [if_pos rfl] at H
    replace H := Option.bind_eq_some_iff.mp H
    obtain ⟨⟨t385, t386⟩, A1000, H⟩ := H
    (try dsimp only at H)
    have A100 := Aside0.mk A1000
    clear A1000
    replace H := Option.bind_eq_some_iff.mp H
    obtain ⟨⟨t389, t390⟩, A1010, H⟩ := H
    (try dsimp only at H)
    have A101 := Aside0.mk A1010
    clear A1010
    replace H := Option.bind_eq_some_iff.mp H
    obtain ⟨⟨t391, t392⟩, A1020, H⟩ := H
    (try dsimp only at H)
    have A102 := Aside0.mk A1020
    clear A1020
    by_cases c103 : (t350.length : Int) = (wrap64 ((t341.length : Int) - 1))
    rotate_left
    ·rw [if_neg c103] at H
     have c103b0 : ((t350.length : Int) == (wrap64 ((t341.length : Int) - 1))) = false := beq_eq_false_iff_ne.mpr c103
     have c103b1 : ((t350.length : Int) != (wrap64 ((t341.length : Int) - 1))) = true := bne_iff_ne.mpr c103
     (first | rw [c103b0] | (simp only [i64_w, i32_w]; rw [c103b0]) | skip)
     exact absurd ((Option.some.inj H).trans HT.out) (by decide)
    rw [if_pos c103] at H
    have c103b0 : ((t350.length : Int) == (wrap64 ((t341.length : Int) - 1))) = true := beq_iff_eq.mpr c103
    have c103b1 : ((t350.length : Int) != (wrap64 ((t341.length : Int) - 1))) = false := bne_eq_false_iff_eq.mpr c103
    clear c103
    (first | rw [c103b0] | (simp only [i64_w, i32_w]; rw [c103b0]) | skip)
    by_cases c104 : t386 = true
    rotate_left
    ·replace c104 := Bool.eq_false_iff.mpr c104
     subst c104
     rw [if_neg (show ¬ (false = true) by decide)] at H
     exact absurd ((Option.some.inj H).trans HT.out) (by decide)
    subst c104
    rw [if_pos rfl] at H
    by_cases c105 : t390 = true
    rotate_left
    ·replace c105 := Bool.eq_false_iff.mpr c105
     subst c105
     rw [if_neg (show ¬ (false = true) by decide)] at H
     exact absurd ((Option.some.inj H).trans HT.out) (by decide)
    subst c105
    rw [if_pos rfl] at H
    by_cases c106 : (t389 != t346) = true
    ·rw [if_pos c106] at H
     have c106b0 : (t389 != t346) = true := c106
     (try (have c106b1 : decide (t389 = t346) = false := by simpa using c106))
     (try (have c106b2 : (t389 == t346) = false := by simpa using c106))
     (try (have c106b3 : ¬ (t389 = t346) := by simpa using c106))
     clear c106
     exact absurd ((Option.some.inj H).trans HT.out) (by decide)
    rw [if_neg c106] at H
    have c106b0 : (t389 != t346) = false := by simpa using c106
    (try (have c106b1 : decide (t389 = t346) = true := by simpa using c106))
    (try (have c106b2 : (t389 == t346) = true := by simpa using c106))
    clear c106
    by_cases c107 : t392 = true
    rotate_left
    ·replace c107 := Bool.eq_false_iff.mpr c107
     subst c107
     rw [if_neg (show ¬ (false = true) by decide)] at H
     exact absurd ((Option.some.inj H).trans HT.out) (by decide)
    subst c107
    rw [if_pos rfl] at H
    replace H := bs_ H
    obtain ⟨t395, A108, H⟩ := H
    (try dsimp only at H)
    by_cases c109 : t395 = true
    rotate_left
    ·replace c109 := Bool.eq_false_iff.mpr c109
     subst c109
     rw [if_neg (show ¬ (false = true) by decide)] at H
     exact absurd ((Option.some.inj H).trans HT.out) (by decide)
    subst c109
    rw [if_pos rfl] at H
    have H' := Aside0.mk H
    clear H
    as_aux_lemma =>
     go_wp2_with (first | ((with_reducible refine gate_callee (f := 22) rfl ?_); refine goesA (some 261) Try.func22 #[.slice Ao19 t341.length co19] ?_; (with_reducible refine (Zab.calls kj80 _ _ t341 t385 true _ ?side1 ?side2 A100.out).mono ?_); (case side1 => exact atRC HO_6); (case side2 => exact (Kd.R_reads' HO_6.out).2.1); rintro e w110 ⟨v387, rfl, ho0, hb⟩; refine ⟨_, rfl, ?_⟩; have HO388 := lowR ho0 HB; replace HO_5 := upR HO_5 hb; replace HO_6 := upR HO_6 hb; replace HO_11 := upR HO_11 hb; replace HO_23 := upS HO_23 hb; replace HB := upB HB hb; obtain ⟨Ao111, co111, eo111⟩ := Kd.R_slice HO388.out; subst eo111) | ((with_reducible refine gate_callee (f := 8) rfl ?_); refine goesA (some 267) Try.func8 #[.slice Ao18 t340.length co18, .slice Ao111 t385.length co111] ?_; (with_reducible refine (Zat.calls kj80 _ _ t340 _ _ t385 t389 true _ ?side1 ?side2 ?side3 ?side4 A101.out).mono ?_); (case side1 => exact atRC HO_5); (case side2 => exact (Kd.R_reads' HO_5.out).2.1); (case side3 => exact atRC HO388); (case side4 => exact (Kd.R_reads' HO388.out).2.1); rintro e w112 ⟨rfl, hb⟩; refine ⟨_, rfl, ?_⟩; replace HO_5 := upR HO_5 hb; replace HO_6 := upR HO_6 hb; replace HO_11 := upR HO_11 hb; replace HO_23 := upS HO_23 hb; replace HO388 := upR HO388 hb; replace HB := upB HB hb) | ((with_reducible refine gate_callee (f := 22) rfl ?_); refine goesA (some 272) Try.func22 #[.slice Ao111 t385.length co111] ?_; (with_reducible refine (Zab.calls kj80 _ _ t385 t391 true _ ?side1 ?side2 A102.out).mono ?_); (case side1 => exact atRC HO388); (case side2 => exact (Kd.R_reads' HO388.out).2.1); rintro e w113 ⟨v393, rfl, ho0, hb⟩; refine ⟨_, rfl, ?_⟩; have HO394 := lowR ho0 HB; replace HO_5 := upR HO_5 hb; replace HO_6 := upR HO_6 hb; replace HO_11 := upR HO_11 hb; replace HO_23 := upS HO_23 hb; replace HO388 := upR HO388 hb; replace HB := upB HB hb; obtain ⟨Ao114, co114, eo114⟩ := Kd.R_slice HO_11.out; subst eo114; obtain ⟨Ao115, co115, eo115⟩ := Kd.R_slice HO394.out; subst eo115) | (go_at_call 18; (with_reducible refine (Zaq.calls kj80 _ _ t391 _ _ t341 true _ ?side1 ?side2 ?side3 ?side4 A108.out).mono ?_); (case side1 => exact atRC HO394); (case side2 => exact (Kd.R_reads' HO394.out).2.1); (case side3 => exact atRC HO_6); (case side4 => exact (Kd.R_reads' HO_6.out).2.1); rintro e w' ⟨rfl, ⟨nd, rfl⟩⟩))
     go_loopg [36, 37] kj80 (fun kq v36 v37 w' => ∃ (x36_3 : Bool) (x37_3 : Int), v36 = .bool x36_3 ∧ v37 = .int .i64 x37_3 ∧ Aside0 (Zaa.l1 kq l1 t341 t346 t350 t362 t363 t366 (t341.length : Int) x36_3 x37_3 = some r) ∧ Aside0 (kq ≤ kj80) ∧ Aside0 (Kd.R (Kd.int .i64) 3 w' w.heap.size (fun _ => True) (.slice Ao19 t341.length co19) t341) ∧ Aside0 (Kd.R (Kd.int .i64) 3 w' w.heap.size (fun _ => True) (.slice Ao114 t350.length co114) t350) ∧ Aside0 (Kd.S (Kd.slice 3 (Kd.int .i64)) 24 w' w.heap.size (fun _ => True) v368 t366) ∧ Aside0 (Below w.heap.size w w'))
     case atStart => exact ⟨(true), (1), eqd, eqd, H', ⟨Nat.le_refl _⟩, ⟨atR HO_6⟩, ⟨atR HO_11⟩, ⟨atS HO_23⟩, ⟨atB HB⟩⟩
     case round => as_aux_lemma =>
      clear H'
      try clear c99
      try clear c103b0
      try clear c103b1
      try clear c104
      try clear c105
      try clear c106b0
      try clear c106b1
      try clear c106b2
      try clear c107
      try clear c109
      obtain ⟨x36_3, x37_3, rfl, rfl, HA, HK3, HO_6, HO_11, HO_23, HB⟩ := hrel
      cases gk with
      | zero => exact absurd HA.out (by simp [Zaa.l1])
      | succ k3 =>
       have H := HA.out
       clear HA
       simp only [Zaa.l1] at H
       by_cases c116 : x37_3 < (t341.length : Int)
       ·rw [if_pos c116] at H
        have c116b0 := decide_eq_true c116
        clear c116
        by_cases c117 : x36_3 = true
        rotate_left
        ·replace c117 := Bool.eq_false_iff.mpr c117
         subst c117
         rw [if_neg (show ¬ (false = true) by decide)] at H
         have H' := Aside0.mk H
         clear H
         as_aux_lemma =>
          go_wp2
          go_roundg k3
          case measure => have := HJ15.out; have := HJ80.out; have := HK3.out; omega
          case rel => exact ⟨(false), (wrap64 (x37_3 + 1)), eqd, eqd, H', ⟨by have := HJ15.out; have := HJ80.out; have := HK3.out; omega⟩, ⟨atR HO_6⟩, ⟨atR HO_11⟩, ⟨atS HO_23⟩, ⟨atB HB⟩⟩
        subst c117
        rw [if_pos rfl] at H
        replace H := bs_ H
        obtain ⟨t396, A118, H⟩ := H
        (try dsimp only at H)
        have H' := Aside0.mk H
        clear H
        as_aux_lemma =>
         go_wp2_with (first | (go_at_call 23; (with_reducible refine (Zbb.calls k3 _ _ t350 x37_3 t396 _ ?side1 ?side2 A118.out).mono ?_); (case side1 => exact atRC HO_11); (case side2 => exact (Kd.R_reads' HO_11.out).2.1); rintro e w' ⟨rfl, ⟨nd, rfl⟩⟩))
         go_roundg k3
         case measure => have := HJ15.out; have := HJ80.out; have := HK3.out; omega
         case rel => exact ⟨(t396), (wrap64 (x37_3 + 1)), eqd, eqd, H', ⟨by have := HJ15.out; have := HJ80.out; have := HK3.out; omega⟩, ⟨atR HO_6⟩, ⟨atR HO_11⟩, ⟨atS HO_23⟩, ⟨atB HB⟩⟩
       ·rw [if_neg c116] at H
        have c116b0 := decide_eq_false c116
        clear c116
        by_cases c119 : (x36_3 != t346) = true
        ·rw [if_pos c119] at H
         have c119b0 : (x36_3 != t346) = true := c119
         (try (have c119b1 : decide (x36_3 = t346) = false := by simpa using c119))
         (try (have c119b2 : (x36_3 == t346) = false := by simpa using c119))
         (try (have c119b3 : ¬ (x36_3 = t346) := by simpa using c119))
         clear c119
         exact absurd ((Option.some.inj H).trans HT.out) (by decide)
        rw [if_neg c119] at H
        have c119b0 : (x36_3 != t346) = false := by simpa using c119
        (try (have c119b1 : decide (x36_3 = t346) = true := by simpa using c119))
        (try (have c119b2 : (x36_3 == t346) = true := by simpa using c119))
        clear c119
        have H' := Aside0.mk H
        clear H
        obtain ⟨Ao120, co120, eo120⟩ := Kd.S_slice HO_23.out
        subst eo120
        as_aux_lemma =>
         go_wp2
         go_loopg [319] k3 (fun kq v319 w' => ∃ (x319_4 : Int), v319 = .int .i64 x319_4 ∧ Aside0 (Zaa.l2 kq l1 t341 t350 t362 t363 t366 (t366.length : Int) x319_4 = some r) ∧ Aside0 (kq ≤ k3) ∧ Aside0 (Kd.R (Kd.int .i64) 3 w' w.heap.size (fun _ => True) (.slice Ao19 t341.length co19) t341) ∧ Aside0 (Kd.R (Kd.int .i64) 3 w' w.heap.size (fun _ => True) (.slice Ao114 t350.length co114) t350) ∧ Aside0 (Kd.S (Kd.slice 3 (Kd.int .i64)) 24 w' w.heap.size (fun _ => True) (.slice Ao120 t366.length co120) t366) ∧ Aside0 (Below w.heap.size w w'))
         case atStart => exact ⟨(0), eqd, H', ⟨Nat.le_refl _⟩, ⟨atR HO_6⟩, ⟨atR HO_11⟩, ⟨atS HO_23⟩, ⟨atB HB⟩⟩
         case round => as_aux_lemma =>
          clear H'
          try clear c116b0
          try clear c119b0
          try clear c119b1
          try clear c119b2
          obtain ⟨x319_4, rfl, HA, HK4, HO_6, HO_11, HO_317, HB⟩ := hrel
          cases gk with
          | zero => exact absurd HA.out (by simp [Zaa.l2])
          | succ k4 =>
           have H := HA.out
           clear HA
           simp only [Zaa.l2] at H
           by_cases c121 : x319_4 < (t366.length : Int)
           rotate_left
           ·rw [if_neg c121] at H
            have c121b0 := decide_eq_false c121
            clear c121
            have H' := Aside0.mk H
            clear H
            as_aux_lemma =>
             go_wp2
             go_meet
             case rel => exact ⟨_, H', ⟨by have := HJ15.out; have := HJ80.out; have := HK3.out; have := HK4.out; first | omega | exact Nat.le_refl _⟩, ⟨atB HB⟩⟩
           rw [if_pos c121] at H
           have c121b0 := decide_eq_true c121
           clear c121
           obtain ⟨c122b0, H⟩ := in_ H
           obtain ⟨c123b0, H⟩ := in_ H
           obtain ⟨c124b0, H⟩ := in_ H
           obtain ⟨c125, H⟩ := in0_ H
           have c125b0 := decide_eq_true c125
           have c125b1 : decide (0 < (rd_L2 t366 x319_4).length) = true := decide_eq_true (by omega)
           clear c125
           obtain ⟨c126b0, H⟩ := in_ H
           obtain ⟨c127b0, H⟩ := in_ H
           obtain ⟨c128, H⟩ := in0_ H
           have c128b0 := decide_eq_true c128
           have c128b1 : decide (1 < (rd_L2 t366 x319_4).length) = true := decide_eq_true (by omega)
           clear c128
           obtain ⟨c129b0, H⟩ := in_ H
           obtain ⟨c130b0, H⟩ := in_ H
           replace H := bs_ H
           obtain ⟨t403, A131, H⟩ := H
           (try dsimp only at H)
           by_cases c132 : (rd t350 x319_4) = t403
           rotate_left
           ·rw [if_neg c132] at H
            have c132b0 : ((rd t350 x319_4) == t403) = false := beq_eq_false_iff_ne.mpr c132
            have c132b1 : ((rd t350 x319_4) != t403) = true := bne_iff_ne.mpr c132
            exact absurd ((Option.some.inj H).trans HT.out) (by decide)
           rw [if_pos c132] at H
           have c132b0 : ((rd t350 x319_4) == t403) = true := beq_iff_eq.mpr c132
           have c132b1 : ((rd t350 x319_4) != t403) = false := bne_eq_false_iff_eq.mpr c132
           clear c132
           by_cases c133 : t363 = true
           ·subst c133
            rw [if_pos rfl] at H
            by_cases c134 : ((decide ((rd t341 (rd (rd_L2 t366 x319_4) 0)) ≤ t362)) == (decide ((rd t341 (rd (rd_L2 t366 x319_4) 1)) ≤ t362))) = true
            ·rw [if_pos c134] at H
             have c134b0 : ((decide ((rd t341 (rd (rd_L2 t366 x319_4) 0)) ≤ t362)) == (decide ((rd t341 (rd (rd_L2 t366 x319_4) 1)) ≤ t362))) = true := c134
             (try (have c134b1 : decide ((decide ((rd t341 (rd (rd_L2 t366 x319_4) 0)) ≤ t362)) = (decide ((rd t341 (rd (rd_L2 t366 x319_4) 1)) ≤ t362))) = true := by simpa using c134))
             (try (have c134b2 : ((decide ((rd t341 (rd (rd_L2 t366 x319_4) 0)) ≤ t362)) == (decide ((rd t341 (rd (rd_L2 t366 x319_4) 1)) ≤ t362))) = true := by simpa using c134))
             clear c134
             exact absurd ((Option.some.inj H).trans HT.out) (by decide)
            rw [if_neg c134] at H
            have c134b0 : ((decide ((rd t341 (rd (rd_L2 t366 x319_4) 0)) ≤ t362)) == (decide ((rd t341 (rd (rd_L2 t366 x319_4) 1)) ≤ t362))) = false := by simpa using c134
            (try (have c134b1 : decide ((decide ((rd t341 (rd (rd_L2 t366 x319_4) 0)) ≤ t362)) = (decide ((rd t341 (rd (rd_L2 t366 x319_4) 1)) ≤ t362))) = false := by simpa using c134))
            (try (have c134b2 : ((decide ((rd t341 (rd (rd_L2 t366 x319_4) 0)) ≤ t362)) == (decide ((rd t341 (rd (rd_L2 t366 x319_4) 1)) ≤ t362))) = false := by simpa using c134))
            (try (have c134b3 : ¬ ((decide ((rd t341 (rd (rd_L2 t366 x319_4) 0)) ≤ t362)) = (decide ((rd t341 (rd (rd_L2 t366 x319_4) 1)) ≤ t362))) := by simpa using c134))
            clear c134
            have H' := Aside0.mk H
            clear H
            have p397 : 0 ≤ (x319_4 : Int) := ofd
            have q397 : x319_4 < (t366.length : Int) := ofd
            obtain ⟨ad397, A397_0, c397_0, e397, hx397_0, hl397_0, hi397_0⟩ := at_L2 (Kd.S_reads' HO_317.out).2.2 x319_4 p397 q397
            cases e397
            obtain ⟨ce397, hce397, hMe397, hcc397⟩ := Kd.S_get HO_317.out [] x319_4 p397 (by first | exact q397 | exact of_decide_eq_true (by first | (with_reducible assumption) | assumption) | (have e_ := (Kd.S_reads' HO_317.out).1; omega))
            obtain ⟨ve397_0, rfl, ge397_0⟩ := hMe397
            have hv397_0 := hcc397 0 _ rfl
            rw [Nat.add_zero, show ((Kd.slice 3 (Kd.int .i64))).sz = 1 from rfl, Nat.mul_one] at hv397_0
            replace hv397_0 := Option.some.inj (hv397_0.symm.trans hx397_0)
            rw [hv397_0] at ge397_0
            have HL397_0 := Aside0.mk (show Kd.R (Kd.int .i64) 3 _ _ _ _ (rd_L2 t366 x319_4) from ge397_0)
            clear hv397_0 ge397_0
            clear hcc397 hce397
            have HR397_0 := Aside0.mk hi397_0
            have HC397_0 := Aside0.mk hl397_0
            clear hi397_0 hl397_0
            replace p397 := eq_true p397
            replace q397 := eq_true q397
            as_aux_lemma =>
             try go_wp2
             have n0_ := Aside0.mk (Kd.R_drew HO_6.out)
             have n1_ := Aside0.mk (Kd.R_drew HO_11.out)
             have n2_ := Aside0.mk (Kd.S_drew HO_317.out)
             have n3_ := Aside0.mk (Kd.R_drew HL397_0.out)
             have n4_ := Aside0.mk (Kd.C_drew HR397_0.out)
             have n5_ := Aside0.mk (below_drew1 HB.out)
             clear HO_6
             clear HO_11
             clear HO_317
             clear HL397_0
             clear HR397_0
             clear HB
             have HO_6 := n0_
             have HO_11 := n1_
             have HO_317 := n2_
             have HL397_0 := n3_
             have HR397_0 := n4_
             have HB := n5_
             clear n0_ n1_ n2_ n3_ n4_ n5_
             have p398 : 0 ≤ (x319_4 : Int) := ofd
             have q398 : x319_4 < (t350.length : Int) := ofd
             obtain ⟨ad398, e398, hx398_0⟩ := Kd.at_int (Kd.R_reads' HO_11.out).2.2 x319_4 p398 q398
             cases e398
             replace p398 := eq_true p398
             replace q398 := eq_true q398
             have p399 : 0 ≤ (0 : Int) := (by omega)
             have q399 : 0 < ((rd_L2 t366 x319_4).length : Int) := ofd
             obtain ⟨ad399, e399, hx399_0⟩ := Kd.at_int (atC HR397_0) 0 p399 q399
             cases e399
             have qi399 : (0 < (rd_L2 t366 x319_4).length) = True := eq_true (by omega)
             (try rw [show ((0 : Int)).toNat = 0 from rfl] at hx399_0)
             (try rw [Addr.add_zero'] at hx399_0)
             replace p399 := eq_true p399
             replace q399 := eq_true q399
             have p400 : 0 ≤ ((rd (rd_L2 t366 x319_4) 0) : Int) := ofd
             have q400 : (rd (rd_L2 t366 x319_4) 0) < (t341.length : Int) := ofd
             obtain ⟨ad400, e400, hx400_0⟩ := Kd.at_int (Kd.R_reads' HO_6.out).2.2 (rd (rd_L2 t366 x319_4) 0) p400 q400
             cases e400
             replace p400 := eq_true p400
             replace q400 := eq_true q400
             have p401 : 0 ≤ (1 : Int) := (by omega)
             have q401 : 1 < ((rd_L2 t366 x319_4).length : Int) := ofd
             obtain ⟨ad401, e401, hx401_0⟩ := Kd.at_int (atC HR397_0) 1 p401 q401
             obtain rfl : ad399 = ad401 := (by injection e401)
             (try simp only [show (1 : Int).toNat = 1 from rfl, Nat.reduceMul, Nat.reduceEqDiff, Go.Addr.add, ↓reduceIte] at hx401_0)
             have qi401 : (1 < (rd_L2 t366 x319_4).length) = True := eq_true (by omega)
             (try rw [show ((1 : Int)).toNat = 1 from rfl] at hx401_0)
             replace p401 := eq_true p401
             replace q401 := eq_true q401
             have p402 : 0 ≤ ((rd (rd_L2 t366 x319_4) 1) : Int) := ofd
             have q402 : (rd (rd_L2 t366 x319_4) 1) < (t341.length : Int) := ofd
             obtain ⟨ad402, e402, hx402_0⟩ := Kd.at_int (Kd.R_reads' HO_6.out).2.2 (rd (rd_L2 t366 x319_4) 1) p402 q402
             obtain rfl : ad400 = ad402 := (by injection e402)
             replace p402 := eq_true p402
             replace q402 := eq_true q402
             have p405 : 0 ≤ ((rd (rd_L2 t366 x319_4) 0) : Int) := ofd
             have q405 : (rd (rd_L2 t366 x319_4) 0) < (t341.length : Int) := ofd
             obtain ⟨ad405, e405, hx405_0⟩ := Kd.at_int (Kd.R_reads' HO_6.out).2.2 (rd (rd_L2 t366 x319_4) 0) p405 q405
             obtain rfl : ad400 = ad405 := (by injection e405)
             replace p405 := eq_true p405
             replace q405 := eq_true q405
             have p407 : 0 ≤ ((rd (rd_L2 t366 x319_4) 1) : Int) := ofd
             have q407 : (rd (rd_L2 t366 x319_4) 1) < (t341.length : Int) := ofd
             obtain ⟨ad407, e407, hx407_0⟩ := Kd.at_int (Kd.R_reads' HO_6.out).2.2 (rd (rd_L2 t366 x319_4) 1) p407 q407
             obtain rfl : ad400 = ad407 := (by injection e407)
             replace p407 := eq_true p407
             replace q407 := eq_true q407
             refine start_ (n := 41) (S := fun w' => w'.cell? (ad398.add (x319_4).toNat) = some (.int .i64 (rd t350 x319_4)) ∧ w'.cell? ad399 = some (.int .i64 (rd (rd_L2 t366 x319_4) 0)) ∧ w'.cell? (ad400.add ((rd (rd_L2 t366 x319_4) 0)).toNat) = some (.int .i64 (rd t341 (rd (rd_L2 t366 x319_4) 0))) ∧ w'.cell? ⟨ad399.block, ad399.off + 1, none⟩ = some (.int .i64 (rd (rd_L2 t366 x319_4) 1)) ∧ w'.cell? (ad400.add ((rd (rd_L2 t366 x319_4) 1)).toNat) = some (.int .i64 (rd t341 (rd (rd_L2 t366 x319_4) 1))) ∧ w'.cell? ad399 = some (.int .i64 (rd (rd_L2 t366 x319_4) 0)) ∧ w'.cell? (ad400.add ((rd (rd_L2 t366 x319_4) 0)).toNat) = some (.int .i64 (rd t341 (rd (rd_L2 t366 x319_4) 0))) ∧ w'.cell? ⟨ad399.block, ad399.off + 1, none⟩ = some (.int .i64 (rd (rd_L2 t366 x319_4) 1)) ∧ w'.cell? (ad400.add ((rd (rd_L2 t366 x319_4) 1)).toNat) = some (.int .i64 (rd t341 (rd (rd_L2 t366 x319_4) 1)))) (ds := []) #[false, false, false, false, false, false, false, false, false, false, false, false, false, false, false, false, false, false, false, false, false, false, false, false, false, false, false, false, false, false, false, false, false, false, false, false, false, false, false, false, false] (by as_aux_lemma => kernel_rfl) rfl rfl ⟨hx398_0, hx399_0, hx400_0, hx401_0, hx402_0, hx399_0, hx405_0, hx401_0, hx407_0⟩ (fun hHeld => ?_); refine with_tabW Zaa.tab42 Zaa.bits42 (fun HT_ HW_ => ?_)
             generalize wr.drew = w135 at HO_6 HO_11 HO_317 HL397_0 HR397_0 HB hx398_0 hx399_0 hx400_0 hx401_0 hx402_0 hx405_0 hx407_0 hHeld ⊢
             refine pure_ (i := 0) (N := some 324) (v := ?_) (a' := ?_) #[true, false, false, false, false, false, false, false, false, false, false, false, false, false, false, false, false, false, false, false, false, false, false, false, false, false, false, false, false, false, false, false, false, false, false, false, false, false, false, false, false] rfl rfl (any_of HT_.out (by as_aux_lemma => kernel_rfl)) (fun _ _ _ h => h) (Or.inl ⟨by rfl, ?_⟩) ?_ ?_
             rotate_left
             ·intro w'
              go_simp
              with_reducible rfl
             rotate_left
             ·simp only [Act.put, List.setIfInBounds_toArray, List.set_cons_zero, List.set_cons_succ, i64_w, i32_w]
              rfl
             refine pure_ (i := 1) (N := some 325) (v := ?_) (a' := ?_) #[true, true, false, false, false, false, false, false, false, false, false, false, false, false, false, false, false, false, false, false, false, false, false, false, false, false, false, false, false, false, false, false, false, false, false, false, false, false, false, false, false] rfl rfl (any_of HT_.out (by as_aux_lemma => kernel_rfl)) (fun _ _ _ h => h) (Or.inl ⟨by rfl, ?_⟩) ?_ ?_
             rotate_left
             ·intro w'
              go_simp
              with_reducible rfl
             rotate_left
             ·simp only [Act.put, List.setIfInBounds_toArray, List.set_cons_zero, List.set_cons_succ, i64_w, i32_w]
              rfl
             refine pure_ (i := 2) (N := some 326) (v := ?_) (a' := ?_) #[true, true, true, false, false, false, false, false, false, false, false, false, false, false, false, false, false, false, false, false, false, false, false, false, false, false, false, false, false, false, false, false, false, false, false, false, false, false, false, false, false] rfl rfl (any_of HT_.out (by as_aux_lemma => kernel_rfl)) (fun _ _ _ h => h) (Or.inl ⟨by rfl, ?_⟩) ?_ ?_
             rotate_left
             ·intro w'
              go_simp
              with_reducible rfl
             rotate_left
             ·simp only [Act.put, List.setIfInBounds_toArray, List.set_cons_zero, List.set_cons_succ, i64_w, i32_w]
              rfl
             refine pure_ (i := 4) (N := some 328) (v := ?_) (a' := ?_) #[true, true, true, false, true, false, false, false, false, false, false, false, false, false, false, false, false, false, false, false, false, false, false, false, false, false, false, false, false, false, false, false, false, false, false, false, false, false, false, false, false] rfl rfl (any_of HT_.out (by as_aux_lemma => kernel_rfl)) (fun _ _ _ h => h) (Or.inl ⟨by rfl, ?_⟩) ?_ ?_
             rotate_left
             ·intro w'
              go_simp
              with_reducible rfl
             rotate_left
             ·simp only [Act.put, List.setIfInBounds_toArray, List.set_cons_zero, List.set_cons_succ, i64_w, i32_w]
              rfl
             refine pure_ (i := 5) (N := some 329) (v := ?_) (a' := ?_) #[true, true, true, false, true, true, false, false, false, false, false, false, false, false, false, false, false, false, false, false, false, false, false, false, false, false, false, false, false, false, false, false, false, false, false, false, false, false, false, false, false] rfl rfl (any_of HT_.out (by as_aux_lemma => kernel_rfl)) (fun _ _ _ h => h) (Or.inl ⟨by rfl, ?_⟩) ?_ ?_
             rotate_left
             ·intro w'
              go_simp
              with_reducible rfl
             rotate_left
             ·simp only [Act.put, List.setIfInBounds_toArray, List.set_cons_zero, List.set_cons_succ, i64_w, i32_w]
              rfl
             refine pure_ (i := 6) (N := some 330) (v := ?_) (a' := ?_) #[true, true, true, false, true, true, true, false, false, false, false, false, false, false, false, false, false, false, false, false, false, false, false, false, false, false, false, false, false, false, false, false, false, false, false, false, false, false, false, false, false] rfl rfl (any_of HT_.out (by as_aux_lemma => kernel_rfl)) (fun _ _ _ h => h) (Or.inl ⟨by rfl, ?_⟩) ?_ ?_
             rotate_left
             ·intro w'
              go_simp
              with_reducible rfl
             rotate_left
             ·simp only [Act.put, List.setIfInBounds_toArray, List.set_cons_zero, List.set_cons_succ, i64_w, i32_w]
              rfl
             refine pure_ (i := 10) (N := some 334) (v := ?_) (a' := ?_) #[true, true, true, false, true, true, true, false, false, false, true, false, false, false, false, false, false, false, false, false, false, false, false, false, false, false, false, false, false, false, false, false, false, false, false, false, false, false, false, false, false] rfl rfl (any_of HT_.out (by as_aux_lemma => kernel_rfl)) (fun _ _ _ h => h) (Or.inl ⟨by rfl, ?_⟩) ?_ ?_
             rotate_left
             ·intro w'
              go_simp
              with_reducible rfl
             rotate_left
             ·simp only [Act.put, List.setIfInBounds_toArray, List.set_cons_zero, List.set_cons_succ, i64_w, i32_w]
              rfl
             refine pure_ (i := 11) (N := some 335) (v := ?_) (a' := ?_) #[true, true, true, false, true, true, true, false, false, false, true, true, false, false, false, false, false, false, false, false, false, false, false, false, false, false, false, false, false, false, false, false, false, false, false, false, false, false, false, false, false] rfl rfl (any_of HT_.out (by as_aux_lemma => kernel_rfl)) (fun _ _ _ h => h) (Or.inl ⟨by rfl, ?_⟩) ?_ ?_
             rotate_left
             ·intro w'
              go_simp
              with_reducible rfl
             rotate_left
             ·simp only [Act.put, List.setIfInBounds_toArray, List.set_cons_zero, List.set_cons_succ, i64_w, i32_w]
              rfl
             refine pure_ (i := 12) (N := some 336) (v := ?_) (a' := ?_) #[true, true, true, false, true, true, true, false, false, false, true, true, true, false, false, false, false, false, false, false, false, false, false, false, false, false, false, false, false, false, false, false, false, false, false, false, false, false, false, false, false] rfl rfl (any_of HT_.out (by as_aux_lemma => kernel_rfl)) (fun _ _ _ h => h) (Or.inl ⟨by rfl, ?_⟩) ?_ ?_
             rotate_left
             ·intro w'
              go_simp
              with_reducible rfl
             rotate_left
             ·simp only [Act.put, List.setIfInBounds_toArray, List.set_cons_zero, List.set_cons_succ, i64_w, i32_w]
              rfl
             refine take_ (i := 3) (N := some 327) (v := ?_) (a' := ?_) #[true, true, true, true, true, true, true, false, false, false, true, true, true, false, false, false, false, false, false, false, false, false, false, false, false, false, false, false, false, false, false, false, false, false, false, false, false, false, false, false, false] rfl rfl (take_ofW HT_.out HW_.out (by as_aux_lemma => kernel_rfl)) (fun _ _ _ h => h) (Or.inl ⟨by rfl, ?_⟩) hHeld ?_ ?_
             rotate_left
             ·rintro w' ⟨s0, s1, s2, s3, s4, s5, s6, s7, s8⟩
              go_simp
              with_reducible rfl
             rotate_left
             ·simp only [Act.put, List.setIfInBounds_toArray, List.set_cons_zero, List.set_cons_succ, i64_w, i32_w]
              rfl
             refine take_ (i := 7) (N := some 331) (v := ?_) (a' := ?_) #[true, true, true, true, true, true, true, true, false, false, true, true, true, false, false, false, false, false, false, false, false, false, false, false, false, false, false, false, false, false, false, false, false, false, false, false, false, false, false, false, false] rfl rfl (take_ofW HT_.out HW_.out (by as_aux_lemma => kernel_rfl)) (fun _ _ _ h => h) (Or.inl ⟨by rfl, ?_⟩) hHeld ?_ ?_
             rotate_left
             ·rintro w' ⟨s0, s1, s2, s3, s4, s5, s6, s7, s8⟩
              go_simp
              with_reducible rfl
             rotate_left
             ·simp only [Act.put, List.setIfInBounds_toArray, List.set_cons_zero, List.set_cons_succ, i64_w, i32_w]
              rfl
             refine pure_ (i := 8) (N := some 332) (v := ?_) (a' := ?_) #[true, true, true, true, true, true, true, true, true, false, true, true, true, false, false, false, false, false, false, false, false, false, false, false, false, false, false, false, false, false, false, false, false, false, false, false, false, false, false, false, false] rfl rfl (any_of HT_.out (by as_aux_lemma => kernel_rfl)) (fun _ _ _ h => h) (Or.inl ⟨by rfl, ?_⟩) ?_ ?_
             rotate_left
             ·intro w'
              go_simp
              with_reducible rfl
             rotate_left
             ·simp only [Act.put, List.setIfInBounds_toArray, List.set_cons_zero, List.set_cons_succ, i64_w, i32_w]
              rfl
             refine take_ (i := 9) (N := some 333) (v := ?_) (a' := ?_) #[true, true, true, true, true, true, true, true, true, true, true, true, true, false, false, false, false, false, false, false, false, false, false, false, false, false, false, false, false, false, false, false, false, false, false, false, false, false, false, false, false] rfl rfl (take_ofW HT_.out HW_.out (by as_aux_lemma => kernel_rfl)) (fun _ _ _ h => h) (Or.inl ⟨by rfl, ?_⟩) hHeld ?_ ?_
             rotate_left
             ·rintro w' ⟨s0, s1, s2, s3, s4, s5, s6, s7, s8⟩
              go_simp
              with_reducible rfl
             rotate_left
             ·simp only [Act.put, List.setIfInBounds_toArray, List.set_cons_zero, List.set_cons_succ, i64_w, i32_w]
              rfl
             refine take_ (i := 13) (N := some 337) (v := ?_) (a' := ?_) #[true, true, true, true, true, true, true, true, true, true, true, true, true, true, false, false, false, false, false, false, false, false, false, false, false, false, false, false, false, false, false, false, false, false, false, false, false, false, false, false, false] rfl rfl (take_ofW HT_.out HW_.out (by as_aux_lemma => kernel_rfl)) (fun _ _ _ h => h) (Or.inl ⟨by rfl, ?_⟩) hHeld ?_ ?_
             rotate_left
             ·rintro w' ⟨s0, s1, s2, s3, s4, s5, s6, s7, s8⟩
              go_simp
              with_reducible rfl
             rotate_left
             ·simp only [Act.put, List.setIfInBounds_toArray, List.set_cons_zero, List.set_cons_succ, i64_w, i32_w]
              rfl
             refine pure_ (i := 14) (N := some 338) (v := ?_) (a' := ?_) #[true, true, true, true, true, true, true, true, true, true, true, true, true, true, true, false, false, false, false, false, false, false, false, false, false, false, false, false, false, false, false, false, false, false, false, false, false, false, false, false, false] rfl rfl (any_of HT_.out (by as_aux_lemma => kernel_rfl)) (fun _ _ _ h => h) (Or.inl ⟨by rfl, ?_⟩) ?_ ?_
             rotate_left
             ·intro w'
              go_simp
              with_reducible rfl
             rotate_left
             ·simp only [Act.put, List.setIfInBounds_toArray, List.set_cons_zero, List.set_cons_succ, i64_w, i32_w]
              rfl
             refine take_ (i := 15) (N := some 339) (v := ?_) (a' := ?_) #[true, true, true, true, true, true, true, true, true, true, true, true, true, true, true, true, false, false, false, false, false, false, false, false, false, false, false, false, false, false, false, false, false, false, false, false, false, false, false, false, false] rfl rfl (take_ofW HT_.out HW_.out (by as_aux_lemma => kernel_rfl)) (fun _ _ _ h => h) (Or.inl ⟨by rfl, ?_⟩) hHeld ?_ ?_
             rotate_left
             ·rintro w' ⟨s0, s1, s2, s3, s4, s5, s6, s7, s8⟩
              go_simp
              with_reducible rfl
             rotate_left
             ·simp only [Act.put, List.setIfInBounds_toArray, List.set_cons_zero, List.set_cons_succ, i64_w, i32_w]
              rfl
             refine pure_ (i := 16) (N := some 340) (v := ?_) (a' := ?_) #[true, true, true, true, true, true, true, true, true, true, true, true, true, true, true, true, true, false, false, false, false, false, false, false, false, false, false, false, false, false, false, false, false, false, false, false, false, false, false, false, false] rfl rfl (any_of HT_.out (by as_aux_lemma => kernel_rfl)) (fun _ _ _ h => h) (Or.inl ⟨by rfl, ?_⟩) ?_ ?_
             rotate_left
             ·intro w'
              go_simp
              with_reducible rfl
             rotate_left
             ·simp only [Act.put, List.setIfInBounds_toArray, List.set_cons_zero, List.set_cons_succ, i64_w, i32_w]
              rfl
             refine one_ (i := 17) (N := some 341) #[true, true, true, true, true, true, true, true, true, true, true, true, true, true, true, true, true, true, false, false, false, false, false, false, false, false, false, false, false, false, false, false, false, false, false, false, false, false, false, false, false] rfl rfl (one_of HT_.out (by as_aux_lemma => kernel_rfl)) (by decide) (fun K hK => ?_)
             refine goes_ Try.func24 (by as_aux_lemma => kernel_rfl) rfl #[.int .i64 (wrap64 ((rd t341 (rd (rd_L2 t366 x319_4) 0)) - (rd t341 (rd (rd_L2 t366 x319_4) 1))))] (by rfl) rfl rfl (by (try simp only [List.map_toArray, List.map_cons, List.map_nil]); first | done | rfl | (simp only [List.length_drop, List.length_take]; rfl)) ?_
             with_reducible refine (Zca.calls (wrap64 ((rd t341 (rd (rd_L2 t366 x319_4) 0)) - (rd t341 (rd (rd_L2 t366 x319_4) 1)))) t403 _ A131.out).mono ?_
             rintro e w' ⟨rfl, ⟨nd, rfl⟩⟩
             refine ⟨_, rfl, ?_⟩
             have p404 : 0 ≤ (0 : Int) := (by omega)
             have q404 : 0 < ((rd_L2 t366 x319_4).length : Int) := ofd
             obtain ⟨ad404, e404, hx404_0⟩ := Kd.at_int (atC HR397_0) 0 p404 q404
             obtain rfl : ad399 = ad404 := (by injection e404)
             have qi404 : (0 < (rd_L2 t366 x319_4).length) = True := eq_true (by omega)
             (try rw [show ((0 : Int)).toNat = 0 from rfl] at hx404_0)
             (try rw [Addr.add_zero'] at hx404_0)
             replace p404 := eq_true p404
             replace q404 := eq_true q404
             have p406 : 0 ≤ (1 : Int) := (by omega)
             have q406 : 1 < ((rd_L2 t366 x319_4).length : Int) := ofd
             obtain ⟨ad406, e406, hx406_0⟩ := Kd.at_int (atC HR397_0) 1 p406 q406
             obtain rfl : ad399 = ad406 := (by injection e406)
             (try simp only [show (1 : Int).toNat = 1 from rfl, Nat.reduceMul, Nat.reduceEqDiff, Go.Addr.add, ↓reduceIte] at hx406_0)
             have qi406 : (1 < (rd_L2 t366 x319_4).length) = True := eq_true (by omega)
             (try rw [show ((1 : Int)).toNat = 1 from rfl] at hx406_0)
             replace p406 := eq_true p406
             replace q406 := eq_true q406
             refine hK.out _ _ ⟨hHeld.1, hHeld.2.1, hHeld.2.2.1, hHeld.2.2.2.1, hHeld.2.2.2.2.1, hHeld.2.2.2.2.2.1, hHeld.2.2.2.2.2.2.1, hHeld.2.2.2.2.2.2.2.1, hHeld.2.2.2.2.2.2.2.2⟩ (fun hHeld => ?_)
             clear hK K
             refine norm_ (a' := ?_) ?_ ?_
             rotate_left
             ·show Act.put _ (some 341) _ = _
              simp only [Act.put, List.setIfInBounds_toArray, List.set_cons_zero, List.set_cons_succ, i64_w, i32_w]
              rfl
             refine pure_ (i := 18) (N := some 342) (v := ?_) (a' := ?_) #[true, true, true, true, true, true, true, true, true, true, true, true, true, true, true, true, true, true, true, false, false, false, false, false, false, false, false, false, false, false, false, false, false, false, false, false, false, false, false, false, false] rfl rfl (any_of HT_.out (by as_aux_lemma => kernel_rfl)) (fun _ _ _ h => h) (Or.inl ⟨by rfl, ?_⟩) ?_ ?_
             rotate_left
             ·intro w'
              go_simp
              with_reducible rfl
             rotate_left
             ·simp only [Act.put, List.setIfInBounds_toArray, List.set_cons_zero, List.set_cons_succ, i64_w, i32_w]
              rfl
             refine pure_ (i := 19) (N := some 343) (v := ?_) (a' := ?_) #[true, true, true, true, true, true, true, true, true, true, true, true, true, true, true, true, true, true, true, true, false, false, false, false, false, false, false, false, false, false, false, false, false, false, false, false, false, false, false, false, false] rfl rfl (any_of HT_.out (by as_aux_lemma => kernel_rfl)) (fun _ _ _ h => h) (Or.inl ⟨by rfl, ?_⟩) ?_ ?_
             rotate_left
             ·intro w'
              go_simp
              with_reducible rfl
             rotate_left
             ·simp only [Act.put, List.setIfInBounds_toArray, List.set_cons_zero, List.set_cons_succ, i64_w, i32_w]
              rfl
             refine pure_ (i := 20) (N := some 344) (v := ?_) (a' := ?_) #[true, true, true, true, true, true, true, true, true, true, true, true, true, true, true, true, true, true, true, true, true, false, false, false, false, false, false, false, false, false, false, false, false, false, false, false, false, false, false, false, false] rfl rfl (any_of HT_.out (by as_aux_lemma => kernel_rfl)) (fun _ _ _ h => h) (Or.inl ⟨by rfl, ?_⟩) ?_ ?_
             rotate_left
             ·intro w'
              go_simp
              with_reducible rfl
             rotate_left
             ·simp only [Act.put, List.setIfInBounds_toArray, List.set_cons_zero, List.set_cons_succ, i64_w, i32_w]
              rfl
             refine pure_ (i := 21) (N := some 345) (v := ?_) (a' := ?_) #[true, true, true, true, true, true, true, true, true, true, true, true, true, true, true, true, true, true, true, true, true, true, false, false, false, false, false, false, false, false, false, false, false, false, false, false, false, false, false, false, false] rfl rfl (any_of HT_.out (by as_aux_lemma => kernel_rfl)) (fun _ _ _ h => h) (Or.inl ⟨by rfl, ?_⟩) ?_ ?_
             rotate_left
             ·intro w'
              go_simp
              with_reducible rfl
             rotate_left
             ·simp only [Act.put, List.setIfInBounds_toArray, List.set_cons_zero, List.set_cons_succ, i64_w, i32_w]
              rfl
             refine pure_ (i := 22) (N := some 346) (v := ?_) (a' := ?_) #[true, true, true, true, true, true, true, true, true, true, true, true, true, true, true, true, true, true, true, true, true, true, true, false, false, false, false, false, false, false, false, false, false, false, false, false, false, false, false, false, false] rfl rfl (any_of HT_.out (by as_aux_lemma => kernel_rfl)) (fun _ _ _ h => h) (Or.inl ⟨by rfl, ?_⟩) ?_ ?_
             rotate_left
             ·intro w'
              go_simp
              with_reducible rfl
             rotate_left
             ·simp only [Act.put, List.setIfInBounds_toArray, List.set_cons_zero, List.set_cons_succ, i64_w, i32_w]
              rfl
             refine pure_ (i := 23) (N := some 347) (v := ?_) (a' := ?_) #[true, true, true, true, true, true, true, true, true, true, true, true, true, true, true, true, true, true, true, true, true, true, true, true, false, false, false, false, false, false, false, false, false, false, false, false, false, false, false, false, false] rfl rfl (any_of HT_.out (by as_aux_lemma => kernel_rfl)) (fun _ _ _ h => h) (Or.inl ⟨by rfl, ?_⟩) ?_ ?_
             rotate_left
             ·intro w'
              go_simp
              with_reducible rfl
             rotate_left
             ·simp only [Act.put, List.setIfInBounds_toArray, List.set_cons_zero, List.set_cons_succ, i64_w, i32_w]
              rfl
             refine pure_ (i := 24) (N := some 348) (v := ?_) (a' := ?_) #[true, true, true, true, true, true, true, true, true, true, true, true, true, true, true, true, true, true, true, true, true, true, true, true, true, false, false, false, false, false, false, false, false, false, false, false, false, false, false, false, false] rfl rfl (any_of HT_.out (by as_aux_lemma => kernel_rfl)) (fun _ _ _ h => h) (Or.inl ⟨by rfl, ?_⟩) ?_ ?_
             rotate_left
             ·intro w'
              go_simp
              with_reducible rfl
             rotate_left
             ·simp only [Act.put, List.setIfInBounds_toArray, List.set_cons_zero, List.set_cons_succ, i64_w, i32_w]
              rfl
             refine pure_ (i := 28) (N := some 352) (v := ?_) (a' := ?_) #[true, true, true, true, true, true, true, true, true, true, true, true, true, true, true, true, true, true, true, true, true, true, true, true, true, false, false, false, true, false, false, false, false, false, false, false, false, false, false, false, false] rfl rfl (any_of HT_.out (by as_aux_lemma => kernel_rfl)) (fun _ _ _ h => h) (Or.inl ⟨by rfl, ?_⟩) ?_ ?_
             rotate_left
             ·intro w'
              go_simp
              with_reducible rfl
             rotate_left
             ·simp only [Act.put, List.setIfInBounds_toArray, List.set_cons_zero, List.set_cons_succ, i64_w, i32_w]
              rfl
             refine pure_ (i := 30) (N := some 354) (v := ?_) (a' := ?_) #[true, true, true, true, true, true, true, true, true, true, true, true, true, true, true, true, true, true, true, true, true, true, true, true, true, false, false, false, true, false, true, false, false, false, false, false, false, false, false, false, false] rfl rfl (any_of HT_.out (by as_aux_lemma => kernel_rfl)) (fun _ _ _ h => h) (Or.inl ⟨by rfl, ?_⟩) ?_ ?_
             rotate_left
             ·intro w'
              go_simp
              with_reducible rfl
             rotate_left
             ·simp only [Act.put, List.setIfInBounds_toArray, List.set_cons_zero, List.set_cons_succ, i64_w, i32_w]
              rfl
             refine pure_ (i := 31) (N := some 355) (v := ?_) (a' := ?_) #[true, true, true, true, true, true, true, true, true, true, true, true, true, true, true, true, true, true, true, true, true, true, true, true, true, false, false, false, true, false, true, true, false, false, false, false, false, false, false, false, false] rfl rfl (any_of HT_.out (by as_aux_lemma => kernel_rfl)) (fun _ _ _ h => h) (Or.inl ⟨by rfl, ?_⟩) ?_ ?_
             rotate_left
             ·intro w'
              go_simp
              with_reducible rfl
             rotate_left
             ·simp only [Act.put, List.setIfInBounds_toArray, List.set_cons_zero, List.set_cons_succ, i64_w, i32_w]
              rfl
             refine pure_ (i := 32) (N := some 356) (v := ?_) (a' := ?_) #[true, true, true, true, true, true, true, true, true, true, true, true, true, true, true, true, true, true, true, true, true, true, true, true, true, false, false, false, true, false, true, true, true, false, false, false, false, false, false, false, false] rfl rfl (any_of HT_.out (by as_aux_lemma => kernel_rfl)) (fun _ _ _ h => h) (Or.inl ⟨by rfl, ?_⟩) ?_ ?_
             rotate_left
             ·intro w'
              go_simp
              with_reducible rfl
             rotate_left
             ·simp only [Act.put, List.setIfInBounds_toArray, List.set_cons_zero, List.set_cons_succ, i64_w, i32_w]
              rfl
             refine pure_ (i := 36) (N := some 360) (v := ?_) (a' := ?_) #[true, true, true, true, true, true, true, true, true, true, true, true, true, true, true, true, true, true, true, true, true, true, true, true, true, false, false, false, true, false, true, true, true, false, false, false, true, false, false, false, false] rfl rfl (any_of HT_.out (by as_aux_lemma => kernel_rfl)) (fun _ _ _ h => h) (Or.inl ⟨by rfl, ?_⟩) ?_ ?_
             rotate_left
             ·intro w'
              go_simp
              with_reducible rfl
             rotate_left
             ·simp only [Act.put, List.setIfInBounds_toArray, List.set_cons_zero, List.set_cons_succ, i64_w, i32_w]
              rfl
             refine take_ (i := 25) (N := some 349) (v := ?_) (a' := ?_) #[true, true, true, true, true, true, true, true, true, true, true, true, true, true, true, true, true, true, true, true, true, true, true, true, true, true, false, false, true, false, true, true, true, false, false, false, true, false, false, false, false] rfl rfl (take_ofW HT_.out HW_.out (by as_aux_lemma => kernel_rfl)) (fun _ _ _ h => h) (Or.inl ⟨by rfl, ?_⟩) hHeld ?_ ?_
             rotate_left
             ·rintro w' ⟨s0, s1, s2, s3, s4, s5, s6, s7, s8⟩
              go_simp
              with_reducible rfl
             rotate_left
             ·simp only [Act.put, List.setIfInBounds_toArray, List.set_cons_zero, List.set_cons_succ, i64_w, i32_w]
              rfl
             refine pure_ (i := 26) (N := some 350) (v := ?_) (a' := ?_) #[true, true, true, true, true, true, true, true, true, true, true, true, true, true, true, true, true, true, true, true, true, true, true, true, true, true, true, false, true, false, true, true, true, false, false, false, true, false, false, false, false] rfl rfl (any_of HT_.out (by as_aux_lemma => kernel_rfl)) (fun _ _ _ h => h) (Or.inl ⟨by rfl, ?_⟩) ?_ ?_
             rotate_left
             ·intro w'
              go_simp
              with_reducible rfl
             rotate_left
             ·simp only [Act.put, List.setIfInBounds_toArray, List.set_cons_zero, List.set_cons_succ, i64_w, i32_w]
              rfl
             refine take_ (i := 27) (N := some 351) (v := ?_) (a' := ?_) #[true, true, true, true, true, true, true, true, true, true, true, true, true, true, true, true, true, true, true, true, true, true, true, true, true, true, true, true, true, false, true, true, true, false, false, false, true, false, false, false, false] rfl rfl (take_ofW HT_.out HW_.out (by as_aux_lemma => kernel_rfl)) (fun _ _ _ h => h) (Or.inl ⟨by rfl, ?_⟩) hHeld ?_ ?_
             rotate_left
             ·rintro w' ⟨s0, s1, s2, s3, s4, s5, s6, s7, s8⟩
              go_simp
              with_reducible rfl
             rotate_left
             ·simp only [Act.put, List.setIfInBounds_toArray, List.set_cons_zero, List.set_cons_succ, i64_w, i32_w]
              rfl
             refine pure_ (i := 29) (N := some 353) (v := ?_) (a' := ?_) #[true, true, true, true, true, true, true, true, true, true, true, true, true, true, true, true, true, true, true, true, true, true, true, true, true, true, true, true, true, true, true, true, true, false, false, false, true, false, false, false, false] rfl rfl (any_of HT_.out (by as_aux_lemma => kernel_rfl)) (fun _ _ _ h => h) (Or.inl ⟨by rfl, ?_⟩) ?_ ?_
             rotate_left
             ·intro w'
              go_simp
              with_reducible rfl
             rotate_left
             ·simp only [Act.put, List.setIfInBounds_toArray, List.set_cons_zero, List.set_cons_succ, i64_w, i32_w]
              rfl
             refine take_ (i := 33) (N := some 357) (v := ?_) (a' := ?_) #[true, true, true, true, true, true, true, true, true, true, true, true, true, true, true, true, true, true, true, true, true, true, true, true, true, true, true, true, true, true, true, true, true, true, false, false, true, false, false, false, false] rfl rfl (take_ofW HT_.out HW_.out (by as_aux_lemma => kernel_rfl)) (fun _ _ _ h => h) (Or.inl ⟨by rfl, ?_⟩) hHeld ?_ ?_
             rotate_left
             ·rintro w' ⟨s0, s1, s2, s3, s4, s5, s6, s7, s8⟩
              go_simp
              with_reducible rfl
             rotate_left
             ·simp only [Act.put, List.setIfInBounds_toArray, List.set_cons_zero, List.set_cons_succ, i64_w, i32_w]
              rfl
             refine pure_ (i := 34) (N := some 358) (v := ?_) (a' := ?_) #[true, true, true, true, true, true, true, true, true, true, true, true, true, true, true, true, true, true, true, true, true, true, true, true, true, true, true, true, true, true, true, true, true, true, true, false, true, false, false, false, false] rfl rfl (any_of HT_.out (by as_aux_lemma => kernel_rfl)) (fun _ _ _ h => h) (Or.inl ⟨by rfl, ?_⟩) ?_ ?_
             rotate_left
             ·intro w'
              go_simp
              with_reducible rfl
             rotate_left
             ·simp only [Act.put, List.setIfInBounds_toArray, List.set_cons_zero, List.set_cons_succ, i64_w, i32_w]
              rfl
             refine take_ (i := 35) (N := some 359) (v := ?_) (a' := ?_) #[true, true, true, true, true, true, true, true, true, true, true, true, true, true, true, true, true, true, true, true, true, true, true, true, true, true, true, true, true, true, true, true, true, true, true, true, true, false, false, false, false] rfl rfl (take_ofW HT_.out HW_.out (by as_aux_lemma => kernel_rfl)) (fun _ _ _ h => h) (Or.inl ⟨by rfl, ?_⟩) hHeld ?_ ?_
             rotate_left
             ·rintro w' ⟨s0, s1, s2, s3, s4, s5, s6, s7, s8⟩
              go_simp
              with_reducible rfl
             rotate_left
             ·simp only [Act.put, List.setIfInBounds_toArray, List.set_cons_zero, List.set_cons_succ, i64_w, i32_w]
              rfl
             refine pure_ (i := 37) (N := some 361) (v := ?_) (a' := ?_) #[true, true, true, true, true, true, true, true, true, true, true, true, true, true, true, true, true, true, true, true, true, true, true, true, true, true, true, true, true, true, true, true, true, true, true, true, true, true, false, false, false] rfl rfl (any_of HT_.out (by as_aux_lemma => kernel_rfl)) (fun _ _ _ h => h) (Or.inl ⟨by rfl, ?_⟩) ?_ ?_
             rotate_left
             ·intro w'
              go_simp
              with_reducible rfl
             rotate_left
             ·simp only [Act.put, List.setIfInBounds_toArray, List.set_cons_zero, List.set_cons_succ, i64_w, i32_w]
              rfl
             refine pure_ (i := 38) (N := some 362) (v := ?_) (a' := ?_) #[true, true, true, true, true, true, true, true, true, true, true, true, true, true, true, true, true, true, true, true, true, true, true, true, true, true, true, true, true, true, true, true, true, true, true, true, true, true, true, false, false] rfl rfl (any_of HT_.out (by as_aux_lemma => kernel_rfl)) (fun _ _ _ h => h) (Or.inl ⟨by rfl, ?_⟩) ?_ ?_
             rotate_left
             ·intro w'
              go_simp
              with_reducible rfl
             rotate_left
             ·simp only [Act.put, List.setIfInBounds_toArray, List.set_cons_zero, List.set_cons_succ, i64_w, i32_w]
              rfl
             refine pure_ (i := 39) (N := some 363) (v := ?_) (a' := ?_) #[true, true, true, true, true, true, true, true, true, true, true, true, true, true, true, true, true, true, true, true, true, true, true, true, true, true, true, true, true, true, true, true, true, true, true, true, true, true, true, true, false] rfl rfl (any_of HT_.out (by as_aux_lemma => kernel_rfl)) (fun _ _ _ h => h) (Or.inl ⟨by rfl, ?_⟩) ?_ ?_
             rotate_left
             ·intro w'
              go_simp
              with_reducible rfl
             rotate_left
             ·simp only [Act.put, List.setIfInBounds_toArray, List.set_cons_zero, List.set_cons_succ, i64_w, i32_w]
              rfl
             refine pure_ (i := 40) (N := some 364) (v := ?_) (a' := ?_) #[true, true, true, true, true, true, true, true, true, true, true, true, true, true, true, true, true, true, true, true, true, true, true, true, true, true, true, true, true, true, true, true, true, true, true, true, true, true, true, true, true] rfl rfl (any_of HT_.out (by as_aux_lemma => kernel_rfl)) (fun _ _ _ h => h) (Or.inl ⟨by rfl, ?_⟩) ?_ ?_
             rotate_left
             ·intro w'
              go_simp
              with_reducible rfl
             rotate_left
             ·simp only [Act.put, List.setIfInBounds_toArray, List.set_cons_zero, List.set_cons_succ, i64_w, i32_w]
              rfl
             refine done_ (done_of HT_.out (by as_aux_lemma => kernel_rfl)) ?_
             as_aux_lemma =>
              try go_wp2
              go_roundg k4
              case measure => have := HJ15.out; have := HJ80.out; have := HK3.out; have := HK4.out; omega
              case rel => exact ⟨(wrap64 (x319_4 + 1)), eqd, H', ⟨by have := HJ15.out; have := HJ80.out; have := HK3.out; have := HK4.out; omega⟩, ⟨atR HO_6⟩, ⟨atR HO_11⟩, ⟨atS HO_317⟩, ⟨atB HB⟩⟩
           ·replace c133 := Bool.eq_false_iff.mpr c133
            subst c133
            rw [if_neg (show ¬ (false = true) by decide)] at H
            have H' := Aside0.mk H
            clear H
            have p397 : 0 ≤ (x319_4 : Int) := ofd
            have q397 : x319_4 < (t366.length : Int) := ofd
            obtain ⟨ad397, A397_0, c397_0, e397, hx397_0, hl397_0, hi397_0⟩ := at_L2 (Kd.S_reads' HO_317.out).2.2 x319_4 p397 q397
            cases e397
            obtain ⟨ce397, hce397, hMe397, hcc397⟩ := Kd.S_get HO_317.out [] x319_4 p397 (by first | exact q397 | exact of_decide_eq_true (by first | (with_reducible assumption) | assumption) | (have e_ := (Kd.S_reads' HO_317.out).1; omega))
            obtain ⟨ve397_0, rfl, ge397_0⟩ := hMe397
            have hv397_0 := hcc397 0 _ rfl
            rw [Nat.add_zero, show ((Kd.slice 3 (Kd.int .i64))).sz = 1 from rfl, Nat.mul_one] at hv397_0
            replace hv397_0 := Option.some.inj (hv397_0.symm.trans hx397_0)
            rw [hv397_0] at ge397_0
            have HL397_0 := Aside0.mk (show Kd.R (Kd.int .i64) 3 _ _ _ _ (rd_L2 t366 x319_4) from ge397_0)
            clear hv397_0 ge397_0
            clear hcc397 hce397
            have HR397_0 := Aside0.mk hi397_0
            have HC397_0 := Aside0.mk hl397_0
            clear hi397_0 hl397_0
            replace p397 := eq_true p397
            replace q397 := eq_true q397
            as_aux_lemma =>
             try go_wp2
             have n0_ := Aside0.mk (Kd.R_drew HO_6.out)
             have n1_ := Aside0.mk (Kd.R_drew HO_11.out)
             have n2_ := Aside0.mk (Kd.S_drew HO_317.out)
             have n3_ := Aside0.mk (Kd.R_drew HL397_0.out)
             have n4_ := Aside0.mk (Kd.C_drew HR397_0.out)
             have n5_ := Aside0.mk (below_drew1 HB.out)
             clear HO_6
             clear HO_11
             clear HO_317
             clear HL397_0
             clear HR397_0
             clear HB
             have HO_6 := n0_
             have HO_11 := n1_
             have HO_317 := n2_
             have HL397_0 := n3_
             have HR397_0 := n4_
             have HB := n5_
             clear n0_ n1_ n2_ n3_ n4_ n5_
             have p398 : 0 ≤ (x319_4 : Int) := ofd
             have q398 : x319_4 < (t350.length : Int) := ofd
             obtain ⟨ad398, e398, hx398_0⟩ := Kd.at_int (Kd.R_reads' HO_11.out).2.2 x319_4 p398 q398
             cases e398
             replace p398 := eq_true p398
             replace q398 := eq_true q398
             have p399 : 0 ≤ (0 : Int) := (by omega)
             have q399 : 0 < ((rd_L2 t366 x319_4).length : Int) := ofd
             obtain ⟨ad399, e399, hx399_0⟩ := Kd.at_int (atC HR397_0) 0 p399 q399
             cases e399
             have qi399 : (0 < (rd_L2 t366 x319_4).length) = True := eq_true (by omega)
             (try rw [show ((0 : Int)).toNat = 0 from rfl] at hx399_0)
             (try rw [Addr.add_zero'] at hx399_0)
             replace p399 := eq_true p399
             replace q399 := eq_true q399
             have p400 : 0 ≤ ((rd (rd_L2 t366 x319_4) 0) : Int) := ofd
             have q400 : (rd (rd_L2 t366 x319_4) 0) < (t341.length : Int) := ofd
             obtain ⟨ad400, e400, hx400_0⟩ := Kd.at_int (Kd.R_reads' HO_6.out).2.2 (rd (rd_L2 t366 x319_4) 0) p400 q400
             cases e400
             replace p400 := eq_true p400
             replace q400 := eq_true q400
             have p401 : 0 ≤ (1 : Int) := (by omega)
             have q401 : 1 < ((rd_L2 t366 x319_4).length : Int) := ofd
             obtain ⟨ad401, e401, hx401_0⟩ := Kd.at_int (atC HR397_0) 1 p401 q401
             obtain rfl : ad399 = ad401 := (by injection e401)
             (try simp only [show (1 : Int).toNat = 1 from rfl, Nat.reduceMul, Nat.reduceEqDiff, Go.Addr.add, ↓reduceIte] at hx401_0)
             have qi401 : (1 < (rd_L2 t366 x319_4).length) = True := eq_true (by omega)
             (try rw [show ((1 : Int)).toNat = 1 from rfl] at hx401_0)
             replace p401 := eq_true p401
             replace q401 := eq_true q401
             have p402 : 0 ≤ ((rd (rd_L2 t366 x319_4) 1) : Int) := ofd
             have q402 : (rd (rd_L2 t366 x319_4) 1) < (t341.length : Int) := ofd
             obtain ⟨ad402, e402, hx402_0⟩ := Kd.at_int (Kd.R_reads' HO_6.out).2.2 (rd (rd_L2 t366 x319_4) 1) p402 q402
             obtain rfl : ad400 = ad402 := (by injection e402)
             replace p402 := eq_true p402
             replace q402 := eq_true q402
             refine start_ (n := 41) (S := fun w' => w'.cell? (ad398.add (x319_4).toNat) = some (.int .i64 (rd t350 x319_4)) ∧ w'.cell? ad399 = some (.int .i64 (rd (rd_L2 t366 x319_4) 0)) ∧ w'.cell? (ad400.add ((rd (rd_L2 t366 x319_4) 0)).toNat) = some (.int .i64 (rd t341 (rd (rd_L2 t366 x319_4) 0))) ∧ w'.cell? ⟨ad399.block, ad399.off + 1, none⟩ = some (.int .i64 (rd (rd_L2 t366 x319_4) 1)) ∧ w'.cell? (ad400.add ((rd (rd_L2 t366 x319_4) 1)).toNat) = some (.int .i64 (rd t341 (rd (rd_L2 t366 x319_4) 1)))) (ds := []) #[false, false, false, false, false, false, false, false, false, false, false, false, false, false, false, false, false, false, false, false, false, false, false, false, false, false, false, false, false, false, false, false, false, false, false, false, false, false, false, false, false] (by as_aux_lemma => kernel_rfl) rfl rfl ⟨hx398_0, hx399_0, hx400_0, hx401_0, hx402_0⟩ (fun hHeld => ?_); refine with_tabW Zaa.tab42 Zaa.bits42 (fun HT_ HW_ => ?_)
             generalize wr.drew = w136 at HO_6 HO_11 HO_317 HL397_0 HR397_0 HB hx398_0 hx399_0 hx400_0 hx401_0 hx402_0 hHeld ⊢
             refine pure_ (i := 0) (N := some 324) (v := ?_) (a' := ?_) #[true, false, false, false, false, false, false, false, false, false, false, false, false, false, false, false, false, false, false, false, false, false, false, false, false, false, false, false, false, false, false, false, false, false, false, false, false, false, false, false, false] rfl rfl (any_of HT_.out (by as_aux_lemma => kernel_rfl)) (fun _ _ _ h => h) (Or.inl ⟨by rfl, ?_⟩) ?_ ?_
             rotate_left
             ·intro w'
              go_simp
              with_reducible rfl
             rotate_left
             ·simp only [Act.put, List.setIfInBounds_toArray, List.set_cons_zero, List.set_cons_succ, i64_w, i32_w]
              rfl
             refine pure_ (i := 1) (N := some 325) (v := ?_) (a' := ?_) #[true, true, false, false, false, false, false, false, false, false, false, false, false, false, false, false, false, false, false, false, false, false, false, false, false, false, false, false, false, false, false, false, false, false, false, false, false, false, false, false, false] rfl rfl (any_of HT_.out (by as_aux_lemma => kernel_rfl)) (fun _ _ _ h => h) (Or.inl ⟨by rfl, ?_⟩) ?_ ?_
             rotate_left
             ·intro w'
              go_simp
              with_reducible rfl
             rotate_left
             ·simp only [Act.put, List.setIfInBounds_toArray, List.set_cons_zero, List.set_cons_succ, i64_w, i32_w]
              rfl
             refine pure_ (i := 2) (N := some 326) (v := ?_) (a' := ?_) #[true, true, true, false, false, false, false, false, false, false, false, false, false, false, false, false, false, false, false, false, false, false, false, false, false, false, false, false, false, false, false, false, false, false, false, false, false, false, false, false, false] rfl rfl (any_of HT_.out (by as_aux_lemma => kernel_rfl)) (fun _ _ _ h => h) (Or.inl ⟨by rfl, ?_⟩) ?_ ?_
             rotate_left
             ·intro w'
              go_simp
              with_reducible rfl
             rotate_left
             ·simp only [Act.put, List.setIfInBounds_toArray, List.set_cons_zero, List.set_cons_succ, i64_w, i32_w]
              rfl
             refine pure_ (i := 4) (N := some 328) (v := ?_) (a' := ?_) #[true, true, true, false, true, false, false, false, false, false, false, false, false, false, false, false, false, false, false, false, false, false, false, false, false, false, false, false, false, false, false, false, false, false, false, false, false, false, false, false, false] rfl rfl (any_of HT_.out (by as_aux_lemma => kernel_rfl)) (fun _ _ _ h => h) (Or.inl ⟨by rfl, ?_⟩) ?_ ?_
             rotate_left
             ·intro w'
              go_simp
              with_reducible rfl
             rotate_left
             ·simp only [Act.put, List.setIfInBounds_toArray, List.set_cons_zero, List.set_cons_succ, i64_w, i32_w]
              rfl
             refine pure_ (i := 5) (N := some 329) (v := ?_) (a' := ?_) #[true, true, true, false, true, true, false, false, false, false, false, false, false, false, false, false, false, false, false, false, false, false, false, false, false, false, false, false, false, false, false, false, false, false, false, false, false, false, false, false, false] rfl rfl (any_of HT_.out (by as_aux_lemma => kernel_rfl)) (fun _ _ _ h => h) (Or.inl ⟨by rfl, ?_⟩) ?_ ?_
             rotate_left
             ·intro w'
              go_simp
              with_reducible rfl
             rotate_left
             ·simp only [Act.put, List.setIfInBounds_toArray, List.set_cons_zero, List.set_cons_succ, i64_w, i32_w]
              rfl
             refine pure_ (i := 6) (N := some 330) (v := ?_) (a' := ?_) #[true, true, true, false, true, true, true, false, false, false, false, false, false, false, false, false, false, false, false, false, false, false, false, false, false, false, false, false, false, false, false, false, false, false, false, false, false, false, false, false, false] rfl rfl (any_of HT_.out (by as_aux_lemma => kernel_rfl)) (fun _ _ _ h => h) (Or.inl ⟨by rfl, ?_⟩) ?_ ?_
             rotate_left
             ·intro w'
              go_simp
              with_reducible rfl
             rotate_left
             ·simp only [Act.put, List.setIfInBounds_toArray, List.set_cons_zero, List.set_cons_succ, i64_w, i32_w]
              rfl
             refine pure_ (i := 10) (N := some 334) (v := ?_) (a' := ?_) #[true, true, true, false, true, true, true, false, false, false, true, false, false, false, false, false, false, false, false, false, false, false, false, false, false, false, false, false, false, false, false, false, false, false, false, false, false, false, false, false, false] rfl rfl (any_of HT_.out (by as_aux_lemma => kernel_rfl)) (fun _ _ _ h => h) (Or.inl ⟨by rfl, ?_⟩) ?_ ?_
             rotate_left
             ·intro w'
              go_simp
              with_reducible rfl
             rotate_left
             ·simp only [Act.put, List.setIfInBounds_toArray, List.set_cons_zero, List.set_cons_succ, i64_w, i32_w]
              rfl
             refine pure_ (i := 11) (N := some 335) (v := ?_) (a' := ?_) #[true, true, true, false, true, true, true, false, false, false, true, true, false, false, false, false, false, false, false, false, false, false, false, false, false, false, false, false, false, false, false, false, false, false, false, false, false, false, false, false, false] rfl rfl (any_of HT_.out (by as_aux_lemma => kernel_rfl)) (fun _ _ _ h => h) (Or.inl ⟨by rfl, ?_⟩) ?_ ?_
             rotate_left
             ·intro w'
              go_simp
              with_reducible rfl
             rotate_left
             ·simp only [Act.put, List.setIfInBounds_toArray, List.set_cons_zero, List.set_cons_succ, i64_w, i32_w]
              rfl
             refine pure_ (i := 12) (N := some 336) (v := ?_) (a' := ?_) #[true, true, true, false, true, true, true, false, false, false, true, true, true, false, false, false, false, false, false, false, false, false, false, false, false, false, false, false, false, false, false, false, false, false, false, false, false, false, false, false, false] rfl rfl (any_of HT_.out (by as_aux_lemma => kernel_rfl)) (fun _ _ _ h => h) (Or.inl ⟨by rfl, ?_⟩) ?_ ?_
             rotate_left
             ·intro w'
              go_simp
              with_reducible rfl
             rotate_left
             ·simp only [Act.put, List.setIfInBounds_toArray, List.set_cons_zero, List.set_cons_succ, i64_w, i32_w]
              rfl
             refine take_ (i := 3) (N := some 327) (v := ?_) (a' := ?_) #[true, true, true, true, true, true, true, false, false, false, true, true, true, false, false, false, false, false, false, false, false, false, false, false, false, false, false, false, false, false, false, false, false, false, false, false, false, false, false, false, false] rfl rfl (take_ofW HT_.out HW_.out (by as_aux_lemma => kernel_rfl)) (fun _ _ _ h => h) (Or.inl ⟨by rfl, ?_⟩) hHeld ?_ ?_
             rotate_left
             ·rintro w' ⟨s0, s1, s2, s3, s4⟩
              go_simp
              with_reducible rfl
             rotate_left
             ·simp only [Act.put, List.setIfInBounds_toArray, List.set_cons_zero, List.set_cons_succ, i64_w, i32_w]
              rfl
             refine take_ (i := 7) (N := some 331) (v := ?_) (a' := ?_) #[true, true, true, true, true, true, true, true, false, false, true, true, true, false, false, false, false, false, false, false, false, false, false, false, false, false, false, false, false, false, false, false, false, false, false, false, false, false, false, false, false] rfl rfl (take_ofW HT_.out HW_.out (by as_aux_lemma => kernel_rfl)) (fun _ _ _ h => h) (Or.inl ⟨by rfl, ?_⟩) hHeld ?_ ?_
             rotate_left
             ·rintro w' ⟨s0, s1, s2, s3, s4⟩
              go_simp
              with_reducible rfl
             rotate_left
             ·simp only [Act.put, List.setIfInBounds_toArray, List.set_cons_zero, List.set_cons_succ, i64_w, i32_w]
              rfl
             refine pure_ (i := 8) (N := some 332) (v := ?_) (a' := ?_) #[true, true, true, true, true, true, true, true, true, false, true, true, true, false, false, false, false, false, false, false, false, false, false, false, false, false, false, false, false, false, false, false, false, false, false, false, false, false, false, false, false] rfl rfl (any_of HT_.out (by as_aux_lemma => kernel_rfl)) (fun _ _ _ h => h) (Or.inl ⟨by rfl, ?_⟩) ?_ ?_
             rotate_left
             ·intro w'
              go_simp
              with_reducible rfl
             rotate_left
             ·simp only [Act.put, List.setIfInBounds_toArray, List.set_cons_zero, List.set_cons_succ, i64_w, i32_w]
              rfl
             refine take_ (i := 9) (N := some 333) (v := ?_) (a' := ?_) #[true, true, true, true, true, true, true, true, true, true, true, true, true, false, false, false, false, false, false, false, false, false, false, false, false, false, false, false, false, false, false, false, false, false, false, false, false, false, false, false, false] rfl rfl (take_ofW HT_.out HW_.out (by as_aux_lemma => kernel_rfl)) (fun _ _ _ h => h) (Or.inl ⟨by rfl, ?_⟩) hHeld ?_ ?_
             rotate_left
             ·rintro w' ⟨s0, s1, s2, s3, s4⟩
              go_simp
              with_reducible rfl
             rotate_left
             ·simp only [Act.put, List.setIfInBounds_toArray, List.set_cons_zero, List.set_cons_succ, i64_w, i32_w]
              rfl
             refine take_ (i := 13) (N := some 337) (v := ?_) (a' := ?_) #[true, true, true, true, true, true, true, true, true, true, true, true, true, true, false, false, false, false, false, false, false, false, false, false, false, false, false, false, false, false, false, false, false, false, false, false, false, false, false, false, false] rfl rfl (take_ofW HT_.out HW_.out (by as_aux_lemma => kernel_rfl)) (fun _ _ _ h => h) (Or.inl ⟨by rfl, ?_⟩) hHeld ?_ ?_
             rotate_left
             ·rintro w' ⟨s0, s1, s2, s3, s4⟩
              go_simp
              with_reducible rfl
             rotate_left
             ·simp only [Act.put, List.setIfInBounds_toArray, List.set_cons_zero, List.set_cons_succ, i64_w, i32_w]
              rfl
             refine pure_ (i := 14) (N := some 338) (v := ?_) (a' := ?_) #[true, true, true, true, true, true, true, true, true, true, true, true, true, true, true, false, false, false, false, false, false, false, false, false, false, false, false, false, false, false, false, false, false, false, false, false, false, false, false, false, false] rfl rfl (any_of HT_.out (by as_aux_lemma => kernel_rfl)) (fun _ _ _ h => h) (Or.inl ⟨by rfl, ?_⟩) ?_ ?_
             rotate_left
             ·intro w'
              go_simp
              with_reducible rfl
             rotate_left
             ·simp only [Act.put, List.setIfInBounds_toArray, List.set_cons_zero, List.set_cons_succ, i64_w, i32_w]
              rfl
             refine take_ (i := 15) (N := some 339) (v := ?_) (a' := ?_) #[true, true, true, true, true, true, true, true, true, true, true, true, true, true, true, true, false, false, false, false, false, false, false, false, false, false, false, false, false, false, false, false, false, false, false, false, false, false, false, false, false] rfl rfl (take_ofW HT_.out HW_.out (by as_aux_lemma => kernel_rfl)) (fun _ _ _ h => h) (Or.inl ⟨by rfl, ?_⟩) hHeld ?_ ?_
             rotate_left
             ·rintro w' ⟨s0, s1, s2, s3, s4⟩
              go_simp
              with_reducible rfl
             rotate_left
             ·simp only [Act.put, List.setIfInBounds_toArray, List.set_cons_zero, List.set_cons_succ, i64_w, i32_w]
              rfl
             refine pure_ (i := 16) (N := some 340) (v := ?_) (a' := ?_) #[true, true, true, true, true, true, true, true, true, true, true, true, true, true, true, true, true, false, false, false, false, false, false, false, false, false, false, false, false, false, false, false, false, false, false, false, false, false, false, false, false] rfl rfl (any_of HT_.out (by as_aux_lemma => kernel_rfl)) (fun _ _ _ h => h) (Or.inl ⟨by rfl, ?_⟩) ?_ ?_
             rotate_left
             ·intro w'
              go_simp
              with_reducible rfl
             rotate_left
             ·simp only [Act.put, List.setIfInBounds_toArray, List.set_cons_zero, List.set_cons_succ, i64_w, i32_w]
              rfl
             refine one_ (i := 17) (N := some 341) #[true, true, true, true, true, true, true, true, true, true, true, true, true, true, true, true, true, true, false, false, false, false, false, false, false, false, false, false, false, false, false, false, false, false, false, false, false, false, false, false, false] rfl rfl (one_of HT_.out (by as_aux_lemma => kernel_rfl)) (by decide) (fun K hK => ?_)
             refine goes_ Try.func24 (by as_aux_lemma => kernel_rfl) rfl #[.int .i64 (wrap64 ((rd t341 (rd (rd_L2 t366 x319_4) 0)) - (rd t341 (rd (rd_L2 t366 x319_4) 1))))] (by rfl) rfl rfl (by (try simp only [List.map_toArray, List.map_cons, List.map_nil]); first | done | rfl | (simp only [List.length_drop, List.length_take]; rfl)) ?_
             with_reducible refine (Zca.calls (wrap64 ((rd t341 (rd (rd_L2 t366 x319_4) 0)) - (rd t341 (rd (rd_L2 t366 x319_4) 1)))) t403 _ A131.out).mono ?_
             rintro e w' ⟨rfl, ⟨nd, rfl⟩⟩
             refine ⟨_, rfl, ?_⟩
             refine hK.out _ _ ⟨hHeld.1, hHeld.2.1, hHeld.2.2.1, hHeld.2.2.2.1, hHeld.2.2.2.2⟩ (fun hHeld => ?_)
             clear hK K
             refine norm_ (a' := ?_) ?_ ?_
             rotate_left
             ·show Act.put _ (some 341) _ = _
              simp only [Act.put, List.setIfInBounds_toArray, List.set_cons_zero, List.set_cons_succ, i64_w, i32_w]
              rfl
             refine pure_ (i := 18) (N := some 342) (v := ?_) (a' := ?_) #[true, true, true, true, true, true, true, true, true, true, true, true, true, true, true, true, true, true, true, false, false, false, false, false, false, false, false, false, false, false, false, false, false, false, false, false, false, false, false, false, false] rfl rfl (any_of HT_.out (by as_aux_lemma => kernel_rfl)) (fun _ _ _ h => h) (Or.inl ⟨by rfl, ?_⟩) ?_ ?_
             rotate_left
             ·intro w'
              go_simp
              with_reducible rfl
             rotate_left
             ·simp only [Act.put, List.setIfInBounds_toArray, List.set_cons_zero, List.set_cons_succ, i64_w, i32_w]
              rfl
             refine pure_ (i := 19) (N := some 343) (v := ?_) (a' := ?_) #[true, true, true, true, true, true, true, true, true, true, true, true, true, true, true, true, true, true, true, true, false, false, false, false, false, false, false, false, false, false, false, false, false, false, false, false, false, false, false, false, false] rfl rfl (any_of HT_.out (by as_aux_lemma => kernel_rfl)) (fun _ _ _ h => h) (Or.inl ⟨by rfl, ?_⟩) ?_ ?_
             rotate_left
             ·intro w'
              go_simp
              with_reducible rfl
             rotate_left
             ·simp only [Act.put, List.setIfInBounds_toArray, List.set_cons_zero, List.set_cons_succ, i64_w, i32_w]
              rfl
             refine pure_ (i := 20) (N := some 344) (v := ?_) (a' := ?_) #[true, true, true, true, true, true, true, true, true, true, true, true, true, true, true, true, true, true, true, true, true, false, false, false, false, false, false, false, false, false, false, false, false, false, false, false, false, false, false, false, false] rfl rfl (any_of HT_.out (by as_aux_lemma => kernel_rfl)) (fun _ _ _ h => h) (Or.inl ⟨by rfl, ?_⟩) ?_ ?_
             rotate_left
             ·intro w'
              go_simp
              with_reducible rfl
             rotate_left
             ·simp only [Act.put, List.setIfInBounds_toArray, List.set_cons_zero, List.set_cons_succ, i64_w, i32_w]
              rfl
             refine pure_ (i := 21) (N := some 345) (v := ?_) (a' := ?_) #[true, true, true, true, true, true, true, true, true, true, true, true, true, true, true, true, true, true, true, true, true, true, false, false, false, false, false, false, false, false, false, false, false, false, false, false, false, false, false, false, false] rfl rfl (any_of HT_.out (by as_aux_lemma => kernel_rfl)) (fun _ _ _ h => h) (Or.inl ⟨by rfl, ?_⟩) ?_ ?_
             rotate_left
             ·intro w'
              go_simp
              with_reducible rfl
             rotate_left
             ·simp only [Act.put, List.setIfInBounds_toArray, List.set_cons_zero, List.set_cons_succ, i64_w, i32_w]
              rfl
             refine pure_ (i := 22) (N := some 346) (v := undef) (a' := ?_) #[true, true, true, true, true, true, true, true, true, true, true, true, true, true, true, true, true, true, true, true, true, true, true, false, false, false, false, false, false, false, false, false, false, false, false, false, false, false, false, false, false] rfl rfl (any_of HT_.out (by as_aux_lemma => kernel_rfl)) (fun _ _ _ h => h) (Or.inr ⟨by rfl, rfl⟩) ?_ ?_
             rotate_left
             ·simp only [Act.put, List.setIfInBounds_toArray, List.set_cons_zero, List.set_cons_succ, i64_w, i32_w]
              rfl
             refine pure_ (i := 23) (N := some 347) (v := undef) (a' := ?_) #[true, true, true, true, true, true, true, true, true, true, true, true, true, true, true, true, true, true, true, true, true, true, true, true, false, false, false, false, false, false, false, false, false, false, false, false, false, false, false, false, false] rfl rfl (any_of HT_.out (by as_aux_lemma => kernel_rfl)) (fun _ _ _ h => h) (Or.inr ⟨by rfl, rfl⟩) ?_ ?_
             rotate_left
             ·simp only [Act.put, List.setIfInBounds_toArray, List.set_cons_zero, List.set_cons_succ, i64_w, i32_w]
              rfl
             refine pure_ (i := 24) (N := some 348) (v := undef) (a' := ?_) #[true, true, true, true, true, true, true, true, true, true, true, true, true, true, true, true, true, true, true, true, true, true, true, true, true, false, false, false, false, false, false, false, false, false, false, false, false, false, false, false, false] rfl rfl (any_of HT_.out (by as_aux_lemma => kernel_rfl)) (fun _ _ _ h => h) (Or.inr ⟨by rfl, rfl⟩) ?_ ?_
             rotate_left
             ·simp only [Act.put, List.setIfInBounds_toArray, List.set_cons_zero, List.set_cons_succ, i64_w, i32_w]
              rfl
             refine pure_ (i := 25) (N := some 349) (v := undef) (a' := ?_) #[true, true, true, true, true, true, true, true, true, true, true, true, true, true, true, true, true, true, true, true, true, true, true, true, true, true, false, false, false, false, false, false, false, false, false, false, false, false, false, false, false] rfl rfl (any_of HT_.out (by as_aux_lemma => kernel_rfl)) (fun _ _ _ h => h) (Or.inr ⟨by rfl, rfl⟩) ?_ ?_
             rotate_left
             ·simp only [Act.put, List.setIfInBounds_toArray, List.set_cons_zero, List.set_cons_succ, i64_w, i32_w]
              rfl
             refine pure_ (i := 26) (N := some 350) (v := undef) (a' := ?_) #[true, true, true, true, true, true, true, true, true, true, true, true, true, true, true, true, true, true, true, true, true, true, true, true, true, true, true, false, false, false, false, false, false, false, false, false, false, false, false, false, false] rfl rfl (any_of HT_.out (by as_aux_lemma => kernel_rfl)) (fun _ _ _ h => h) (Or.inr ⟨by rfl, rfl⟩) ?_ ?_
             rotate_left
             ·simp only [Act.put, List.setIfInBounds_toArray, List.set_cons_zero, List.set_cons_succ, i64_w, i32_w]
              rfl
             refine pure_ (i := 27) (N := some 351) (v := undef) (a' := ?_) #[true, true, true, true, true, true, true, true, true, true, true, true, true, true, true, true, true, true, true, true, true, true, true, true, true, true, true, true, false, false, false, false, false, false, false, false, false, false, false, false, false] rfl rfl (any_of HT_.out (by as_aux_lemma => kernel_rfl)) (fun _ _ _ h => h) (Or.inr ⟨by rfl, rfl⟩) ?_ ?_
             rotate_left
             ·simp only [Act.put, List.setIfInBounds_toArray, List.set_cons_zero, List.set_cons_succ, i64_w, i32_w]
              rfl
             refine pure_ (i := 28) (N := some 352) (v := undef) (a' := ?_) #[true, true, true, true, true, true, true, true, true, true, true, true, true, true, true, true, true, true, true, true, true, true, true, true, true, true, true, true, true, false, false, false, false, false, false, false, false, false, false, false, false] rfl rfl (any_of HT_.out (by as_aux_lemma => kernel_rfl)) (fun _ _ _ h => h) (Or.inr ⟨by rfl, rfl⟩) ?_ ?_
             rotate_left
             ·simp only [Act.put, List.setIfInBounds_toArray, List.set_cons_zero, List.set_cons_succ, i64_w, i32_w]
              rfl
             refine pure_ (i := 29) (N := some 353) (v := undef) (a' := ?_) #[true, true, true, true, true, true, true, true, true, true, true, true, true, true, true, true, true, true, true, true, true, true, true, true, true, true, true, true, true, true, false, false, false, false, false, false, false, false, false, false, false] rfl rfl (any_of HT_.out (by as_aux_lemma => kernel_rfl)) (fun _ _ _ h => h) (Or.inr ⟨by rfl, rfl⟩) ?_ ?_
             rotate_left
             ·simp only [Act.put, List.setIfInBounds_toArray, List.set_cons_zero, List.set_cons_succ, i64_w, i32_w]
              rfl
             refine pure_ (i := 30) (N := some 354) (v := undef) (a' := ?_) #[true, true, true, true, true, true, true, true, true, true, true, true, true, true, true, true, true, true, true, true, true, true, true, true, true, true, true, true, true, true, true, false, false, false, false, false, false, false, false, false, false] rfl rfl (any_of HT_.out (by as_aux_lemma => kernel_rfl)) (fun _ _ _ h => h) (Or.inr ⟨by rfl, rfl⟩) ?_ ?_
             rotate_left
             ·simp only [Act.put, List.setIfInBounds_toArray, List.set_cons_zero, List.set_cons_succ, i64_w, i32_w]
              rfl
             refine pure_ (i := 31) (N := some 355) (v := undef) (a' := ?_) #[true, true, true, true, true, true, true, true, true, true, true, true, true, true, true, true, true, true, true, true, true, true, true, true, true, true, true, true, true, true, true, true, false, false, false, false, false, false, false, false, false] rfl rfl (any_of HT_.out (by as_aux_lemma => kernel_rfl)) (fun _ _ _ h => h) (Or.inr ⟨by rfl, rfl⟩) ?_ ?_
             rotate_left
             ·simp only [Act.put, List.setIfInBounds_toArray, List.set_cons_zero, List.set_cons_succ, i64_w, i32_w]
              rfl
             refine pure_ (i := 32) (N := some 356) (v := undef) (a' := ?_) #[true, true, true, true, true, true, true, true, true, true, true, true, true, true, true, true, true, true, true, true, true, true, true, true, true, true, true, true, true, true, true, true, true, false, false, false, false, false, false, false, false] rfl rfl (any_of HT_.out (by as_aux_lemma => kernel_rfl)) (fun _ _ _ h => h) (Or.inr ⟨by rfl, rfl⟩) ?_ ?_
             rotate_left
             ·simp only [Act.put, List.setIfInBounds_toArray, List.set_cons_zero, List.set_cons_succ, i64_w, i32_w]
              rfl
             refine pure_ (i := 33) (N := some 357) (v := undef) (a' := ?_) #[true, true, true, true, true, true, true, true, true, true, true, true, true, true, true, true, true, true, true, true, true, true, true, true, true, true, true, true, true, true, true, true, true, true, false, false, false, false, false, false, false] rfl rfl (any_of HT_.out (by as_aux_lemma => kernel_rfl)) (fun _ _ _ h => h) (Or.inr ⟨by rfl, rfl⟩) ?_ ?_
             rotate_left
             ·simp only [Act.put, List.setIfInBounds_toArray, List.set_cons_zero, List.set_cons_succ, i64_w, i32_w]
              rfl
             refine pure_ (i := 34) (N := some 358) (v := undef) (a' := ?_) #[true, true, true, true, true, true, true, true, true, true, true, true, true, true, true, true, true, true, true, true, true, true, true, true, true, true, true, true, true, true, true, true, true, true, true, false, false, false, false, false, false] rfl rfl (any_of HT_.out (by as_aux_lemma => kernel_rfl)) (fun _ _ _ h => h) (Or.inr ⟨by rfl, rfl⟩) ?_ ?_
             rotate_left
             ·simp only [Act.put, List.setIfInBounds_toArray, List.set_cons_zero, List.set_cons_succ, i64_w, i32_w]
              rfl
             refine pure_ (i := 35) (N := some 359) (v := undef) (a' := ?_) #[true, true, true, true, true, true, true, true, true, true, true, true, true, true, true, true, true, true, true, true, true, true, true, true, true, true, true, true, true, true, true, true, true, true, true, true, false, false, false, false, false] rfl rfl (any_of HT_.out (by as_aux_lemma => kernel_rfl)) (fun _ _ _ h => h) (Or.inr ⟨by rfl, rfl⟩) ?_ ?_
             rotate_left
             ·simp only [Act.put, List.setIfInBounds_toArray, List.set_cons_zero, List.set_cons_succ, i64_w, i32_w]
              rfl
             refine pure_ (i := 36) (N := some 360) (v := undef) (a' := ?_) #[true, true, true, true, true, true, true, true, true, true, true, true, true, true, true, true, true, true, true, true, true, true, true, true, true, true, true, true, true, true, true, true, true, true, true, true, true, false, false, false, false] rfl rfl (any_of HT_.out (by as_aux_lemma => kernel_rfl)) (fun _ _ _ h => h) (Or.inr ⟨by rfl, rfl⟩) ?_ ?_
             rotate_left
             ·simp only [Act.put, List.setIfInBounds_toArray, List.set_cons_zero, List.set_cons_succ, i64_w, i32_w]
              rfl
             refine pure_ (i := 37) (N := some 361) (v := undef) (a' := ?_) #[true, true, true, true, true, true, true, true, true, true, true, true, true, true, true, true, true, true, true, true, true, true, true, true, true, true, true, true, true, true, true, true, true, true, true, true, true, true, false, false, false] rfl rfl (any_of HT_.out (by as_aux_lemma => kernel_rfl)) (fun _ _ _ h => h) (Or.inr ⟨by rfl, rfl⟩) ?_ ?_
             rotate_left
             ·simp only [Act.put, List.setIfInBounds_toArray, List.set_cons_zero, List.set_cons_succ, i64_w, i32_w]
              rfl
             refine pure_ (i := 38) (N := some 362) (v := undef) (a' := ?_) #[true, true, true, true, true, true, true, true, true, true, true, true, true, true, true, true, true, true, true, true, true, true, true, true, true, true, true, true, true, true, true, true, true, true, true, true, true, true, true, false, false] rfl rfl (any_of HT_.out (by as_aux_lemma => kernel_rfl)) (fun _ _ _ h => h) (Or.inr ⟨by rfl, rfl⟩) ?_ ?_
             rotate_left
             ·simp only [Act.put, List.setIfInBounds_toArray, List.set_cons_zero, List.set_cons_succ, i64_w, i32_w]
              rfl
             refine pure_ (i := 39) (N := some 363) (v := ?_) (a' := ?_) #[true, true, true, true, true, true, true, true, true, true, true, true, true, true, true, true, true, true, true, true, true, true, true, true, true, true, true, true, true, true, true, true, true, true, true, true, true, true, true, true, false] rfl rfl (any_of HT_.out (by as_aux_lemma => kernel_rfl)) (fun _ _ _ h => h) (Or.inl ⟨by rfl, ?_⟩) ?_ ?_
             rotate_left
             ·intro w'
              go_simp
              with_reducible rfl
             rotate_left
             ·simp only [Act.put, List.setIfInBounds_toArray, List.set_cons_zero, List.set_cons_succ, i64_w, i32_w]
              rfl
             refine pure_ (i := 40) (N := some 364) (v := ?_) (a' := ?_) #[true, true, true, true, true, true, true, true, true, true, true, true, true, true, true, true, true, true, true, true, true, true, true, true, true, true, true, true, true, true, true, true, true, true, true, true, true, true, true, true, true] rfl rfl (any_of HT_.out (by as_aux_lemma => kernel_rfl)) (fun _ _ _ h => h) (Or.inl ⟨by rfl, ?_⟩) ?_ ?_
             rotate_left
             ·intro w'
              go_simp
              with_reducible rfl
             rotate_left
             ·simp only [Act.put, List.setIfInBounds_toArray, List.set_cons_zero, List.set_cons_succ, i64_w, i32_w]
              rfl
             refine done_ (done_of HT_.out (by as_aux_lemma => kernel_rfl)) ?_
             as_aux_lemma =>
              try go_wp2
              go_roundg k4
              case measure => have := HJ15.out; have := HJ80.out; have := HK3.out; have := HK4.out; omega
              case rel => exact ⟨(wrap64 (x319_4 + 1)), eqd, H', ⟨by have := HJ15.out; have := HJ80.out; have := HK3.out; have := HK4.out; omega⟩, ⟨atR HO_6⟩, ⟨atR HO_11⟩, ⟨atS HO_317⟩, ⟨atB HB⟩⟩
   case rest =>
    rename_i z3_0 z3_1 z3_2 z3_3 z3_4 z3_5 z3_6 z3_7 z3_8 z3_9 z3_10 z3_11 z3_12 z3_13 z3_14 z3_15 z3_16 z3_17 z3_18 z3_19 z3_20 z3_21 z3_22 z3_23 z3_24 z3_25 z3_26 z3_27 z3_28 z3_29 z3_30 z3_31 z3_32 z3_33 z3_34 z3_35 z3_36 z3_37 z3_38 z3_39 z3_40 z3_41 z3_42 z3_43 z3_44 z3_45 z3_46 z3_47 z3_48 z3_49 z3_50 z3_51 z3_52 z3_53 z3_54 z3_55 z3_56 z3_57 z3_58 z3_59 z3_60 z3_61 z3_62 z3_63 z3_64 z3_65 z3_66 z3_67 z3_68 z3_69 z3_70 z3_71 z3_72 z3_73 z3_74 z3_75 z3_76 z3_77 z3_78 z3_79 z3_80 z3_81 z3_82 z3_83 z3_84 z3_85 z3_86 z3_87 z3_88 z3_89 z3_90 z3_91 z3_92 z3_93 z3_94 z3_95 z3_96 z3_97 z3_98 z3_99 z3_100 z3_101 z3_102 z3_103 z3_104 z3_105 z3_106 z3_107 z3_108 z3_109 z3_110 z3_111 z3_112 z3_113 z3_114 z3_115 z3_116 z3_117 z3_118 z3_119 z3_120 z3_121 z3_122 z3_123 z3_124 z3_125 z3_126 z3_127 z3_128 z3_129 z3_130 z3_131 z3_132 z3_133 z3_134 z3_135 z3_136 z3_137 z3_138 z3_139 z3_140 z3_141 z3_142 z3_143 z3_144 z3_145 z3_146 z3_147 z3_148 z3_149 z3_150 z3_151 z3_152 z3_153 z3_154 z3_155 z3_156 z3_157 z3_158 z3_159 z3_160 z3_161 z3_162 z3_163 z3_164 z3_165 z3_166 z3_167 z3_168 z3_169 z3_170 z3_171 z3_172 z3_173 z3_174 z3_175 z3_176 z3_177 z3_178 z3_179 z3_180 z3_181 z3_182 z3_183 z3_184 z3_185 z3_186 z3_187 z3_188 z3_189 z3_190 z3_191 z3_192 z3_193 z3_194 z3_195 z3_196 z3_197 z3_198 z3_199 z3_200 z3_201 z3_202 z3_203 z3_204 z3_205 z3_206 z3_207 z3_208 z3_209 z3_210 z3_211 z3_212 z3_213 z3_214 z3_215 z3_216 z3_217 z3_218 z3_219 z3_220 z3_221 z3_222 z3_223 z3_224 z3_225 z3_226 z3_227 z3_228 z3_229 z3_230 z3_231 z3_232 z3_233 z3_234 z3_235 z3_236 z3_237 z3_238 z3_239 z3_240 z3_241 z3_242 z3_243 z3_244 z3_245 z3_246 z3_247 z3_248 z3_249 z3_250 z3_251 z3_252 z3_253 z3_254 z3_255 z3_256 z3_257 z3_258 z3_259 z3_260 z3_261 z3_262 z3_263 z3_264 z3_265 z3_266 z3_267 z3_268 z3_269 z3_270 z3_271 z3_272 z3_273 z3_274 z3_275 z3_276 z3_277 z3_278 z3_279 z3_280 z3_281 z3_282 z3_283 z3_284 z3_285 z3_286 z3_287 z3_288 z3_289 z3_290 z3_291 z3_292 z3_293 z3_294 z3_295 z3_296 z3_297 z3_298 z3_299 z3_300 z3_301 z3_302 z3_303 z3_304 z3_305 z3_306 z3_307 z3_308 z3_309 z3_310 z3_311 z3_312 z3_313 z3_314 z3_315 z3_316 z3_317 z3_318 z3_319 z3_320 z3_321 z3_322 z3_323 z3_324 z3_325 z3_326 z3_327 z3_328 z3_329 z3_330 z3_331 z3_332 z3_333 z3_334 z3_335 z3_336 z3_337 z3_338 z3_339 z3_340 z3_341 z3_342 z3_343 z3_344 z3_345 z3_346 z3_347 z3_348 z3_349 z3_350 z3_351 z3_352 z3_353 z3_354 z3_355 z3_356 z3_357 z3_358 z3_359 z3_360 z3_361 z3_362 z3_363 z3_364 z3_365 z3_366 z3_367 z3_368 z3_369 z3_370 z3_371 z3_372 z3_373 z3_374 z3_375 z3_376 z3_377 z3_378 z3_379 z3_380 z3_381 z3_382 z3_383 z3_384 z3_385 z3_386 z3_387 z3_388 z3_389 z3_390 z3_391 z3_392 z3_393 z3_394 z3_395 z3_396 z3_397 z3_398 z3_399 z3_400 z3_401 z3_402 z3_403 z3_404 z3_405 z3_406 z3_407 z3_408 z3_409 z3_410 z3_411 z3_412 z3_413 z3_414 z3_415
    exact Zaa.rest3 k A0 c0 l0 A1 c1 l1 r w HR1 HC1 HT t340 t341 t346 t347 t348 t349 t350 t351 t355 t358 t359 t360 t361 t362 t363 t364 t365 t366 t367 t371 Ao18 co18 Ao19 co19 v352 v356 v368 v372 kj15 HJ15 z3_5 u27 u28 u217 u218 u219 HB kj80 HJ80 HC98 z3_414 (by rfl) z3_415 wc u4 u29 u30 u31 u32 u33 u34 u35 u36 u37 u38 u39 u53 u54 u55 u56 u57 u58 u59 u60 u61 u62 u63 u64 u65 u66 u67 u68 u69 u70 u71 u72 u73 u74 u75 u76 u77 u78 u79 u80 u81 u82 u83 u84 u85 u86 u87 u88 u89 u90 u91 u92 u93 u94 u95 u96 u97 u98 u99 u100 u101 u102 u103 u104 u105 u106 u107 u108 u109 u110 u111 u112 u113 u114 u115 u116 u117 u118 u119 u120 u121 u122 u123 u124 u125 u126 u127 u128 u129 u130 u131 u132 u133 u134 u135 u136 u137 u138 u139 u140 u141 u142 u143 u144 u145 u146 u147 u148 u149 u150 u151 u152 u153 u154 u155 u156 u157 u158 u159 u160 u161 u162 u163 u164 u165 u166 u167 u168 u169 u170 u171 u172 u173 u174 u175 u176 u177 u178 u179 u180 u181 u182 u183 u184 u185 u186 u187 u188 u189 u190 u191 u192 u193 u194 u195 u196 u197 u198 u199 u200 u201 u202 u203 u204 u205 u206 u207 u208 u209 u210 u211 u212 u213 u214 u215 u216 u220 u221 u222 u223 u224 u225 u226 u227 u228 u229 u230 u231 u232 u233 u234 u235 u236 u237 u238 u239 u240 u241 u242 u243 u244 u245 u246 u247 u248 u249 u250 u251 u252 u253 u254 u255 u256 u257 u258 u259 u260 u261 u262 u263 u264 u265 u266 u267 u268 u269 u270 u271 u272 u273 u274 u275 u276 u277 u278 u279 u280 u281 u282 u283 u284 u285 u286 u287 u288 u289 u290 u291 u292 u293 u294 u295 u296 u297 u298 u299 u300 u301 u302 u303 u304 u305 u306 u307 u308 u309 u310 u311 u312 u313 u314 u315 u316 u317 u318 u319 u320 u321 u322 u323 u324 u325 u326 u327 u328 u329 u330 u331 u332 u333 u334 u335 u336 u337 u338 u339 u340 u341 u342 u343 u344 u345 u346 u347 u348 u349 u350 u351 u352 u353 u354 u355 u356 u357 u358 u359 u360 u361 u362 u363 u364 u365 u366 u367 u368 u369 u370 u371 u372 u373 u374 u375 u376 u377 u378 u379 u380 u381 u382 u383 u384 u385 u386 u387 u388 u389 u390 u391 u392 u393 u394 u395 u396 u397 u398 u399 u400 u401 u402 u403 u404 u405 u406 u407 u408 u409 u410 u411 u412 u413 u414 u415 u416 u417 u418 u419 u420 u421 u422 u423 u424 u425 u426 u427 u428 u429 u430 u431 u432 u433 u434 u435 u436 u437 u438 u439 u440 u441 u442 u443 u444 u445 u446 u447 u448 u449 u450 u451 u452 u453 u454 u455 u456 u457 u458 u459 u460 u461 u462 u463 u464 hcut
end Go.Proofs.Ytnhnpplccfojeaa.Fn
