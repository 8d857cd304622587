/- The machine's side and plain lemmas for FnTreesLabelled: texts of this session, merged by its program (part 6). -/
import Derived.Test.YtnhnpplccfojeaaMFnTreesLabelled0
import Derived.Test.YtnhnpplccfojeaaMFnTreesLabelled1
import Derived.Test.YtnhnpplccfojeaaMFnTreesLabelled2
import Derived.Test.YtnhnpplccfojeaaMFnTreesLabelled3
import Derived.Test.YtnhnpplccfojeaaMFnTreesLabelled4
import Derived.Test.YtnhnpplccfojeaaMFnTreesLabelled5
set_option maxHeartbeats 80000000
set_option maxRecDepth 100000
namespace Go.Proofs.Ytnhnpplccfojeaa.Fn
open Go.RowKit Go.Proofs.YtnhnpplccfojeaaW.PrintWords Go.Proofs.YtnhnpplccfojeaaW.PrintLast Go.Proofs.YtnhnpplccfojeaaW.PrintMore
attribute [local go_sem] max2_int min2_int max_two min_two max_three min_three max_four min_four
set_option linter.unusedVariables false
set_option linter.unusedSimpArgs false
theorem Zaa.rest1 (k : Nat) (A0 : Option Addr) (c0 : Nat) (l0 : List Int) (A1 : Option Addr) (c1 : Nat) (l1 : List Int) (r : Bool) (w : World) (HR1 : Aside0 ((Kd.int IntKind.u8).C w A1 l1.length l1)) (HC1 : Aside0 (l1.length ≤ c1)) (HT : Aside0 (r = true)) (t340 t341 : List Int) (t346 t347 t348 t349 : Bool) (t350 : List Int) (t351 : Bool) (t354 : List Int) (t355 t358 t359 t360 t361 : Bool) (t362 : Int) (t363 : Bool) (t364 : Int) (t365 : Bool) (t366 : List (List Int)) (t367 : Bool) (t370 : List (List Int)) (t371 : Bool) (HC16 : Aside0 ((if (t347 != t349) = true then Zaa.j0 k l1 t340 t341 t346 t347 t350 t362 t363 t366 t367 true else if (t346 != t348) = true then Zaa.j0 k l1 t340 t341 t346 t347 t350 t362 t363 t366 t367 true else if (t351 != t355) = true then Zaa.j0 k l1 t340 t341 t346 t347 t350 t362 t363 t366 t367 true else (Zaq.f k t350 t354).bind fun t374 => if t374 = true then if (t359 != t361) = true then Zaa.j0 k l1 t340 t341 t346 t347 t350 t362 t363 t366 t367 true else if (t358 != t360) = true then Zaa.j0 k l1 t340 t341 t346 t347 t350 t362 t363 t366 t367 true else if (t363 != t365) = true then Zaa.j0 k l1 t340 t341 t346 t347 t350 t362 t363 t366 t367 true else if t362 = t364 then if (t367 != t371) = true then Zaa.j0 k l1 t340 t341 t346 t347 t350 t362 t363 t366 t367 true else (Zaw.f k t366 t370).bind fun t375 => if t375 = true then (Zae.f k t340).bind fun t376 => if (t359 != t376) = true then Zaa.j0 k l1 t340 t341 t346 t347 t350 t362 t363 t366 t367 true else (Zae.f k t340).bind fun t377 => (Zbq.f k t340).bind fun t378 => if (t377 != t378) = true then Zaa.j0 k l1 t340 t341 t346 t347 t350 t362 t363 t366 t367 true else if t359 = true then if (t347 != t358) = true then Zaa.j0 k l1 t340 t341 t346 t347 t350 t362 t363 t366 t367 true else if (t351 != t347) = true then Zaa.j0 k l1 t340 t341 t346 t347 t350 t362 t363 t366 t367 true else if (t367 != t359) = true then Zaa.j0 k l1 t340 t341 t346 t347 t350 t362 t363 t366 t367 true else if t363 = true then if t347 = true then Zaa.j0 k l1 t340 t341 t346 t347 t350 t362 t363 t366 t367 !t346 else Zaa.j0 k l1 t340 t341 t346 t347 t350 t362 t363 t366 t367 !false else Zaa.j0 k l1 t340 t341 t346 t347 t350 t362 t363 t366 t367 false else if (t347 != false) = true then Zaa.j0 k l1 t340 t341 t346 t347 t350 t362 t363 t366 t367 true else if (t351 != t347) = true then Zaa.j0 k l1 t340 t341 t346 t347 t350 t362 t363 t366 t367 true else if (t367 != t359) = true then Zaa.j0 k l1 t340 t341 t346 t347 t350 t362 t363 t366 t367 true else if t363 = true then if t347 = true then Zaa.j0 k l1 t340 t341 t346 t347 t350 t362 t363 t366 t367 !t346 else Zaa.j0 k l1 t340 t341 t346 t347 t350 t362 t363 t366 t367 !false else Zaa.j0 k l1 t340 t341 t346 t347 t350 t362 t363 t366 t367 false else Zaa.j0 k l1 t340 t341 t346 t347 t350 t362 t363 t366 t367 true else Zaa.j0 k l1 t340 t341 t346 t347 t350 t362 t363 t366 t367 true else Zaa.j0 k l1 t340 t341 t346 t347 t350 t362 t363 t366 t367 true) = some r)) (Ao18 : Option Addr) (co18 : Nat) (Ao19 : Option Addr) (co19 : Nat) (v352 v356 v368 : Value) (w27 : World) (v372 : Value) (HB : Aside0 (Below w.heap.size w w27)) (z1_4 : Act → World → Prop) {Cz1_5 : Code} (ez1_5 : codeAt [1, 1, 1, 1, 1, 1, 1, 1, 1, 1, 1, 1, 1, 1] (bodyAt Try.f3) = Cz1_5) (z1_5 : ∀ (a_ : Act) (w_ : World), Code.wp Try.prog Cz1_5 (bodyPost Try.prog Try.f3 fun e w' => e = Ending.returned (Value.bool r) ∧ Below w.heap.size w w') a_ w_ → z1_4 a_ w_) (z1_6 : Act → World → Prop) {Cz1_7 : Code} (ez1_7 : codeAt [1, 1, 1, 1, 1, 1, 1, 1, 1, 1, 1, 1, 1, 0, 1] (bodyAt Try.f3) = Cz1_7) (z1_7 : ∀ (a_ : Act) (w_ : World), Code.wp Try.prog Cz1_7 (Exit.then z1_4 (bodyPost Try.prog Try.f3 fun e w' => e = Ending.returned (Value.bool r) ∧ Below w.heap.size w w')) a_ w_ → z1_6 a_ w_) (wc : World) (u53 u54 u55 u56 u57 u58 u59 u60 u61 u62 u63 u64 u65 u66 u67 u68 u69 u70 u71 u72 u73 u74 u75 u76 u77 u78 u79 u80 u81 u82 u83 u84 u85 u86 u87 u88 u89 u90 u91 u92 u93 u94 u95 u96 u97 u98 u99 u100 u101 u102 u103 u104 u105 u106 u107 u108 u109 u110 u111 u112 u113 u114 u115 u116 u117 u118 u119 u120 u121 u122 u123 u124 u125 u126 u127 u128 u129 u130 u131 u132 u133 u134 u135 u136 u137 u138 u139 u140 u141 u142 u143 u144 u145 u146 u147 u148 u149 u150 u151 u152 u153 u154 u155 u156 u157 u158 u159 u160 u161 u162 u163 u164 u165 u166 u167 u168 u169 u170 u171 u172 u173 u174 u175 u176 u177 u178 u179 u180 u181 u182 u183 u184 u185 u186 u187 u188 u189 u190 u191 u192 u193 u194 u195 u196 u197 u198 u199 u200 u201 u202 u203 u204 u205 u206 u207 u208 u209 u210 u211 u212 u213 u214 u215 u216 u220 u221 u222 u223 u224 u225 u226 u227 u228 u229 u230 u231 u232 u233 u234 u235 u236 u237 u238 u239 u240 u241 u242 u243 u244 u245 u246 u247 u248 u249 u250 u251 u252 u253 u254 u255 u256 u257 u258 u259 u260 u261 u262 u263 u264 u265 u266 u267 u268 u269 u270 u271 u272 u273 u274 u275 u276 u277 u278 u279 u280 u281 u282 u283 u284 u285 u286 u287 u288 u289 u290 u291 u292 u293 u294 u295 u296 u297 u298 u299 u300 u301 u302 u303 u304 u305 u306 u307 u308 u309 u310 u311 u312 u313 u314 u315 u316 u320 u321 u322 u323 u324 u325 u326 u327 u328 u329 u330 u331 u332 u333 u334 u335 u336 u337 u338 u339 u340 u341 u342 u343 u344 u345 u346 u347 u348 u349 u350 u351 u352 u353 u354 u355 u356 u357 u358 u359 u360 u361 u362 u363 u364 u365 u366 u367 u368 u369 u370 u371 u372 u373 u374 u375 u376 u377 u378 u379 u380 u381 u382 u383 u384 u385 u386 u387 u388 u389 u390 u391 u392 u393 u394 u395 u396 u397 u398 u399 u400 u401 u402 u403 u404 u405 u406 u407 u408 u409 u410 u411 u412 u413 u414 u415 u416 u417 u418 u419 u420 u421 u422 u423 u424 u425 u426 u427 u428 u429 u430 u431 u432 u433 u434 u435 u436 u437 u438 u439 u440 u441 u442 u443 u444 u445 u446 u447 u448 u449 u450 u451 u452 u453 u454 u455 u456 u457 u458 u459 u460 u461 u462 u463 u464 : Value) (hcut : ∃ kq x209_15, u209 = Value.bool x209_15 ∧ Aside0 (Zaa.j0 kq l1 t340 t341 t346 t347 t350 t362 t363 t366 t367 x209_15 = some r) ∧ Aside0 (kq ≤ k) ∧ Aside0 ((Kd.int IntKind.i64).R (3 : Nat) wc w.heap.size (fun x => True) (Value.slice Ao18 t340.length co18) t340) ∧ Aside0 ((Kd.int IntKind.i64).R (3 : Nat) wc w.heap.size (fun x => True) (Value.slice Ao19 t341.length co19) t341) ∧ Aside0 ((Kd.int IntKind.i64).R (3 : Nat) wc w.heap.size (fun x => True) v352 t350) ∧ Aside0 ((Kd.slice (3 : Nat) (Kd.int IntKind.i64)).S (24 : Nat) wc w.heap.size (fun x => True) v368 t366) ∧ Aside0 (Below w.heap.size w wc)) : z1_6 { tmps := #[Value.slice A0 l0.length c0, Value.slice A1 l1.length c1, Go.undef, Go.undef, Value.bool false, Value.slice Ao18 t340.length co18, Value.slice Ao19 t341.length co19, Value.bool t346, Value.bool t347, Value.bool t348, Value.bool t349, v352, Value.bool t351, v356, Value.bool t355, Value.bool t358, Value.bool t359, Value.bool t360, Value.bool t361, Value.int IntKind.i64 t362, Value.bool t363, Value.int IntKind.i64 t364, Value.bool t365, v368, Value.bool t367, v372, Value.bool t371, Go.undef, Go.undef, Go.undef, Go.undef, Go.undef, Go.undef, Go.undef, Go.undef, Go.undef, Go.undef, Go.undef, Go.undef, Go.undef, Go.undef, Go.undef, Go.undef, Go.undef, Go.undef, Go.undef, Go.undef, Go.undef, Go.undef, Go.undef, Go.undef, Go.undef, Go.undef, u53, u54, u55, u56, u57, u58, u59, u60, u61, u62, u63, u64, u65, u66, u67, u68, u69, u70, u71, u72, u73, u74, u75, u76, u77, u78, u79, u80, u81, u82, u83, u84, u85, u86, u87, u88, u89, u90, u91, u92, u93, u94, u95, u96, u97, u98, u99, u100, u101, u102, u103, u104, u105, u106, u107, u108, u109, u110, u111, u112, u113, u114, u115, u116, u117, u118, u119, u120, u121, u122, u123, u124, u125, u126, u127, u128, u129, u130, u131, u132, u133, u134, u135, u136, u137, u138, u139, u140, u141, u142, u143, u144, u145, u146, u147, u148, u149, u150, u151, u152, u153, u154, u155, u156, u157, u158, u159, u160, u161, u162, u163, u164, u165, u166, u167, u168, u169, u170, u171, u172, u173, u174, u175, u176, u177, u178, u179, u180, u181, u182, u183, u184, u185, u186, u187, u188, u189, u190, u191, u192, u193, u194, u195, u196, u197, u198, u199, u200, u201, u202, u203, u204, u205, u206, u207, u208, u209, u210, u211, u212, u213, u214, u215, u216, Go.undef, Go.undef, Go.undef, u220, u221, u222, u223, u224, u225, u226, u227, u228, u229, u230, u231, u232, u233, u234, u235, u236, u237, u238, u239, u240, u241, u242, u243, u244, u245, u246, u247, u248, u249, u250, u251, u252, u253, u254, u255, u256, u257, u258, u259, u260, u261, u262, u263, u264, u265, u266, u267, u268, u269, u270, u271, u272, u273, u274, u275, u276, u277, u278, u279, u280, u281, u282, u283, u284, u285, u286, u287, u288, u289, u290, u291, u292, u293, u294, u295, u296, u297, u298, u299, u300, u301, u302, u303, u304, u305, u306, u307, u308, u309, u310, u311, u312, u313, u314, u315, u316, Go.undef, Go.undef, Go.undef, u320, u321, u322, u323, u324, u325, u326, u327, u328, u329, u330, u331, u332, u333, u334, u335, u336, u337, u338, u339, u340, u341, u342, u343, u344, u345, u346, u347, u348, u349, u350, u351, u352, u353, u354, u355, u356, u357, u358, u359, u360, u361, u362, u363, u364, u365, u366, u367, u368, u369, u370, u371, u372, u373, u374, u375, u376, u377, u378, u379, u380, u381, u382, u383, u384, u385, u386, u387, u388, u389, u390, u391, u392, u393, u394, u395, u396, u397, u398, u399, u400, u401, u402, u403, u404, u405, u406, u407, u408, u409, u410, u411, u412, u413, u414, u415, u416, u417, u418, u419, u420, u421, u422, u423, u424, u425, u426, u427, u428, u429, u430, u431, u432, u433, u434, u435, u436, u437, u438, u439, u440, u441, u442, u443, u444, u445, u446, u447, u448, u449, u450, u451, u452, u453, u454, u455, u456, u457, u458, u459, u460, u461, u462, u463, u464], defers := [] } wc := by
  conv at ez1_5 => (lhs; whnf)
  conv at ez1_7 => (lhs; whnf)
  subst ez1_5
  subst ez1_7
  clear HC16
  try clear c1
  obtain ⟨kq, x209_15, rfl, HA, HJ15, HO_5, HO_6, HO_11, HO_23, HB⟩ := hcut
  cases kq with
  | zero => exact absurd HA.out (by simp [Zaa.j0])
  | succ kj15 =>
   have H := HA.out
   clear HA
   simp only [Zaa.j0] at H
   by_cases c80 : x209_15 = true
   ·subst c80
    rw [if_pos rfl] at H
    exact absurd ((Option.some.inj H).trans HT.out) (by decide)
   replace c80 := Bool.eq_false_iff.mpr c80
   subst c80
   rw [if_neg (show ¬ (false = true) by decide)] at H
   have HC81 := Aside0.mk H
   clear H
   go_upto_if 210 with (fail)
   go_cut [] (fun wc => ∃ (kq : Nat), Aside0 (Zaa.j2 kq l1 t340 t341 t346 t347 t350 t362 t363 t366 = some r) ∧ Aside0 (kq ≤ kj15) ∧ Aside0 (Kd.R (Kd.int .i64) 3 wc w.heap.size (fun _ => True) (.slice Ao18 t340.length co18) t340) ∧ Aside0 (Kd.R (Kd.int .i64) 3 wc w.heap.size (fun _ => True) (.slice Ao19 t341.length co19) t341) ∧ Aside0 (Kd.R (Kd.int .i64) 3 wc w.heap.size (fun _ => True) v352 t350) ∧ Aside0 (Kd.S (Kd.slice 3 (Kd.int .i64)) 24 wc w.heap.size (fun _ => True) v368 t366) ∧ Aside0 (Below w.heap.size w wc))
   case first => as_aux_lemma =>
    have H := HC81.out
    clear HC81
    by_cases c82 : t367 = true
    rotate_left
    ·replace c82 := Bool.eq_false_iff.mpr c82
     subst c82
     rw [if_neg (show ¬ (false = true) by decide)] at H
     have H' := Aside0.mk H
     clear H
     as_aux_lemma =>
      go_wp2
      go_meet
      case rel => exact ⟨_, H', ⟨by have := HJ15.out; first | omega | exact Nat.le_refl _⟩, ⟨atR HO_5⟩, ⟨atR HO_6⟩, ⟨atR HO_11⟩, ⟨atS HO_23⟩, ⟨atB HB⟩⟩
    subst c82
    rw [if_pos rfl] at H
    by_cases c83 : (t366.length : Int) = (wrap64 ((t340.length : Int) - 1))
    rotate_left
    ·rw [if_neg c83] at H
     have c83b0 : ((t366.length : Int) == (wrap64 ((t340.length : Int) - 1))) = false := beq_eq_false_iff_ne.mpr c83
     have c83b1 : ((t366.length : Int) != (wrap64 ((t340.length : Int) - 1))) = true := bne_iff_ne.mpr c83
     (first | rw [c83b0] | (simp only [i64_w, i32_w]; rw [c83b0]) | skip)
     exact absurd ((Option.some.inj H).trans HT.out) (by decide)
    rw [if_pos c83] at H
    have c83b0 : ((t366.length : Int) == (wrap64 ((t340.length : Int) - 1))) = true := beq_iff_eq.mpr c83
    have c83b1 : ((t366.length : Int) != (wrap64 ((t340.length : Int) - 1))) = false := bne_eq_false_iff_eq.mpr c83
    clear c83
    (first | rw [c83b0] | (simp only [i64_w, i32_w]; rw [c83b0]) | skip)
    have H' := Aside0.mk H
    clear H
    obtain ⟨Ao84, co84, eo84⟩ := Kd.S_slice HO_23.out
    subst eo84
    as_aux_lemma =>
     go_wp2
     go_loopg [219] kj15 (fun kq v219 w' => ∃ (x219_2 : Int), v219 = .int .i64 x219_2 ∧ Aside0 (Zaa.l0 kq l1 t340 t341 t346 t347 t350 t362 t363 t366 t366 (t366.length : Int) x219_2 = some r) ∧ Aside0 (kq ≤ kj15) ∧ Aside0 (Kd.R (Kd.int .i64) 3 w' w.heap.size (fun _ => True) (.slice Ao18 t340.length co18) t340) ∧ Aside0 (Kd.R (Kd.int .i64) 3 w' w.heap.size (fun _ => True) (.slice Ao19 t341.length co19) t341) ∧ Aside0 (Kd.R (Kd.int .i64) 3 w' w.heap.size (fun _ => True) v352 t350) ∧ Aside0 (Kd.S (Kd.slice 3 (Kd.int .i64)) 24 w' w.heap.size (fun _ => True) (.slice Ao84 t366.length co84) t366) ∧ Aside0 (Kd.S (Kd.slice 3 (Kd.int .i64)) 24 w' w.heap.size (fun _ => True) (.slice Ao84 t366.length co84) t366) ∧ Aside0 (Below w.heap.size w w'))
     case atStart => exact ⟨(0), eqd, H', ⟨Nat.le_refl _⟩, ⟨atR HO_5⟩, ⟨atR HO_6⟩, ⟨atR HO_11⟩, ⟨atS HO_23⟩, ⟨atS HO_23⟩, ⟨atB HB⟩⟩
     case round => as_aux_lemma =>
      clear H'
      try clear c80
      try clear c82
      try clear c83b0
      try clear c83b1
      obtain ⟨x219_2, rfl, HA, HK2, HO_5, HO_6, HO_11, HO_23, HO_217, HB⟩ := hrel
      cases gk with
      | zero => exact absurd HA.out (by simp [Zaa.l0])
      | succ k2 =>
       have H := HA.out
       clear HA
       simp only [Zaa.l0] at H
       by_cases c85 : x219_2 < (t366.length : Int)
       rotate_left
       ·rw [if_neg c85] at H
        have c85b0 := decide_eq_false c85
        clear c85
        have H' := Aside0.mk H
        clear H
        as_aux_lemma =>
         go_wp2
         go_meet
         case rel => exact ⟨_, H', ⟨by have := HJ15.out; have := HK2.out; first | omega | exact Nat.le_refl _⟩, ⟨atR HO_5⟩, ⟨atR HO_6⟩, ⟨atR HO_11⟩, ⟨atS HO_23⟩, ⟨atB HB⟩⟩
       rw [if_pos c85] at H
       have c85b0 := decide_eq_true c85
       clear c85
       obtain ⟨c86b0, H⟩ := in_ H
       obtain ⟨c87b0, H⟩ := in_ H
       by_cases c88 : ((rd_L2 t366 x219_2).length : Int) = 2
       rotate_left
       ·rw [if_neg c88] at H
        have c88b0 : (((rd_L2 t366 x219_2).length : Int) == 2) = false := beq_eq_false_iff_ne.mpr c88
        have c88b1 : (((rd_L2 t366 x219_2).length : Int) != 2) = true := bne_iff_ne.mpr c88
        exact absurd ((Option.some.inj H).trans HT.out) (by decide)
       rw [if_pos c88] at H
       have c88b0 : (((rd_L2 t366 x219_2).length : Int) == 2) = true := beq_iff_eq.mpr c88
       have c88b1 : (((rd_L2 t366 x219_2).length : Int) != 2) = false := bne_eq_false_iff_eq.mpr c88
       clear c88
       obtain ⟨c89, H⟩ := in0_ H
       have c89b0 := decide_eq_true c89
       have c89b1 : decide (1 < (rd_L2 t366 x219_2).length) = true := decide_eq_true (by omega)
       clear c89
       by_cases c90 : (rd (rd_L2 t366 x219_2) 1) = (wrap64 (x219_2 + 1))
       rotate_left
       ·rw [if_neg c90] at H
        have c90b0 : ((rd (rd_L2 t366 x219_2) 1) == (wrap64 (x219_2 + 1))) = false := beq_eq_false_iff_ne.mpr c90
        have c90b1 : ((rd (rd_L2 t366 x219_2) 1) != (wrap64 (x219_2 + 1))) = true := bne_iff_ne.mpr c90
        exact absurd ((Option.some.inj H).trans HT.out) (by decide)
       rw [if_pos c90] at H
       have c90b0 : ((rd (rd_L2 t366 x219_2) 1) == (wrap64 (x219_2 + 1))) = true := beq_iff_eq.mpr c90
       have c90b1 : ((rd (rd_L2 t366 x219_2) 1) != (wrap64 (x219_2 + 1))) = false := bne_eq_false_iff_eq.mpr c90
       clear c90
       obtain ⟨c91, H⟩ := in0_ H
       have c91b0 := decide_eq_true c91
       have c91b1 : decide (0 < (rd_L2 t366 x219_2).length) = true := decide_eq_true (by omega)
       clear c91
       obtain ⟨ji92, hji92⟩ : ∃ j_ : Int, (wrap64 (x219_2 + 1)) = j_ := ⟨_, rfl⟩
       replace H : (if 0 ≤ (ji92) then (if (ji92) < (t340.length : Int) then (if (rd (rd_L2 t366 x219_2) 0) = (rd t340 (ji92)) then (if (rd (rd_L2 t366 x219_2) 0) ≥ (rd (rd_L2 t366 x219_2) 1) then (some false) else (Zaa.l0 k2 l1 t340 t341 t346 t347 t350 t362 t363 t366 t366 (t366.length : Int) ji92)) else (some false)) else (none)) else (none)) = some r := by first | (rw [hji92] at H; exact H) | (simp only [hji92] at H ⊢; exact H)
       (try rw [hji92] at c90b0)
       (try rw [hji92] at c90b1)
       have hji92w : (IntKind.i64.wrap (x219_2 + 1)) = ji92 := (i64_w _).trans hji92
       obtain ⟨c93b0, H⟩ := in_ H
       obtain ⟨c94b0, H⟩ := in_ H
       by_cases c95 : (rd (rd_L2 t366 x219_2) 0) = (rd t340 (ji92))
       rotate_left
       ·rw [if_neg c95] at H
        have c95b0 : ((rd (rd_L2 t366 x219_2) 0) == (rd t340 (ji92))) = false := beq_eq_false_iff_ne.mpr c95
        have c95b1 : ((rd (rd_L2 t366 x219_2) 0) != (rd t340 (ji92))) = true := bne_iff_ne.mpr c95
        exact absurd ((Option.some.inj H).trans HT.out) (by decide)
       rw [if_pos c95] at H
       have c95b0 : ((rd (rd_L2 t366 x219_2) 0) == (rd t340 (ji92))) = true := beq_iff_eq.mpr c95
       have c95b1 : ((rd (rd_L2 t366 x219_2) 0) != (rd t340 (ji92))) = false := bne_eq_false_iff_eq.mpr c95
       clear c95
       by_cases c96 : (rd (rd_L2 t366 x219_2) 0) ≥ (rd (rd_L2 t366 x219_2) 1)
       ·rw [if_pos c96] at H
        have c96b0 := decide_eq_true c96
        clear c96
        exact absurd ((Option.some.inj H).trans HT.out) (by decide)
       rw [if_neg c96] at H
       have c96b0 := decide_eq_false c96
       clear c96
       have H' := Aside0.mk H
       clear H
       have p379 : 0 ≤ (x219_2 : Int) := ofd
       have q379 : x219_2 < (t366.length : Int) := ofd
       obtain ⟨ad379, A379_0, c379_0, e379, hx379_0, hl379_0, hi379_0⟩ := at_L2 (Kd.S_reads' HO_217.out).2.2 x219_2 p379 q379
       cases e379
       obtain ⟨ce379, hce379, hMe379, hcc379⟩ := Kd.S_get HO_217.out [] x219_2 p379 (by first | exact q379 | exact of_decide_eq_true (by first | (with_reducible assumption) | assumption) | (have e_ := (Kd.S_reads' HO_217.out).1; omega))
       obtain ⟨ve379_0, rfl, ge379_0⟩ := hMe379
       have hv379_0 := hcc379 0 _ rfl
       rw [Nat.add_zero, show ((Kd.slice 3 (Kd.int .i64))).sz = 1 from rfl, Nat.mul_one] at hv379_0
       replace hv379_0 := Option.some.inj (hv379_0.symm.trans hx379_0)
       rw [hv379_0] at ge379_0
       have HL379_0 := Aside0.mk (show Kd.R (Kd.int .i64) 3 _ _ _ _ (rd_L2 t366 x219_2) from ge379_0)
       clear hv379_0 ge379_0
       clear hcc379 hce379
       have HR379_0 := Aside0.mk hi379_0
       have HC379_0 := Aside0.mk hl379_0
       clear hi379_0 hl379_0
       replace p379 := eq_true p379
       replace q379 := eq_true q379
       as_aux_lemma =>
        try go_wp2
        have n0_ := Aside0.mk (Kd.R_drew HO_5.out)
        have n1_ := Aside0.mk (Kd.R_drew HO_6.out)
        have n2_ := Aside0.mk (Kd.R_drew HO_11.out)
        have n3_ := Aside0.mk (Kd.S_drew HO_23.out)
        have n4_ := Aside0.mk (Kd.S_drew HO_217.out)
        have n5_ := Aside0.mk (Kd.R_drew HL379_0.out)
        have n6_ := Aside0.mk (Kd.C_drew HR379_0.out)
        have n7_ := Aside0.mk (below_drew1 HB.out)
        clear HO_5
        clear HO_6
        clear HO_11
        clear HO_23
        clear HO_217
        clear HL379_0
        clear HR379_0
        clear HB
        have HO_5 := n0_
        have HO_6 := n1_
        have HO_11 := n2_
        have HO_23 := n3_
        have HO_217 := n4_
        have HL379_0 := n5_
        have HR379_0 := n6_
        have HB := n7_
        clear n0_ n1_ n2_ n3_ n4_ n5_ n6_ n7_
        have p380 : 0 ≤ (1 : Int) := (by omega)
        have q380 : 1 < ((rd_L2 t366 x219_2).length : Int) := ofd
        obtain ⟨ad380, e380, hx380_0⟩ := Kd.at_int (atC HR379_0) 1 p380 q380
        cases e380
        (try simp only [show (1 : Int).toNat = 1 from rfl, Nat.reduceMul, Nat.reduceEqDiff, Go.Addr.add, ↓reduceIte] at hx380_0)
        have qi380 : (1 < (rd_L2 t366 x219_2).length) = True := eq_true (by omega)
        (try rw [show ((1 : Int)).toNat = 1 from rfl] at hx380_0)
        replace p380 := eq_true p380
        replace q380 := eq_true q380
        have p381 : 0 ≤ (0 : Int) := (by omega)
        have q381 : 0 < ((rd_L2 t366 x219_2).length : Int) := ofd
        obtain ⟨ad381, e381, hx381_0⟩ := Kd.at_int (atC HR379_0) 0 p381 q381
        obtain rfl : ad380 = ad381 := (by injection e381)
        have qi381 : (0 < (rd_L2 t366 x219_2).length) = True := eq_true (by omega)
        (try rw [show ((0 : Int)).toNat = 0 from rfl] at hx381_0)
        (try rw [Addr.add_zero'] at hx381_0)
        replace p381 := eq_true p381
        replace q381 := eq_true q381
        have p382 : 0 ≤ ((ji92) : Int) := ofd
        have q382 : (ji92) < (t340.length : Int) := ofd
        obtain ⟨ad382, e382, hx382_0⟩ := Kd.at_int (Kd.R_reads' HO_5.out).2.2 (ji92) p382 q382
        cases e382
        replace p382 := eq_true p382
        replace q382 := eq_true q382
        have p383 : 0 ≤ (0 : Int) := (by omega)
        have q383 : 0 < ((rd_L2 t366 x219_2).length : Int) := ofd
        obtain ⟨ad383, e383, hx383_0⟩ := Kd.at_int (atC HR379_0) 0 p383 q383
        obtain rfl : ad380 = ad383 := (by injection e383)
        have qi383 : (0 < (rd_L2 t366 x219_2).length) = True := eq_true (by omega)
        (try rw [show ((0 : Int)).toNat = 0 from rfl] at hx383_0)
        (try rw [Addr.add_zero'] at hx383_0)
        replace p383 := eq_true p383
        replace q383 := eq_true q383
        have p384 : 0 ≤ (1 : Int) := (by omega)
        have q384 : 1 < ((rd_L2 t366 x219_2).length : Int) := ofd
        obtain ⟨ad384, e384, hx384_0⟩ := Kd.at_int (atC HR379_0) 1 p384 q384
        obtain rfl : ad380 = ad384 := (by injection e384)
        (try simp only [show (1 : Int).toNat = 1 from rfl, Nat.reduceMul, Nat.reduceEqDiff, Go.Addr.add, ↓reduceIte] at hx384_0)
        have qi384 : (1 < (rd_L2 t366 x219_2).length) = True := eq_true (by omega)
        (try rw [show ((1 : Int)).toNat = 1 from rfl] at hx384_0)
        replace p384 := eq_true p384
        replace q384 := eq_true q384
        refine start_ (n := 31) (S := fun w' => w'.cell? ⟨ad380.block, ad380.off + 1, none⟩ = some (.int .i64 (rd (rd_L2 t366 x219_2) 1)) ∧ w'.cell? ad380 = some (.int .i64 (rd (rd_L2 t366 x219_2) 0)) ∧ w'.cell? (ad382.add ((ji92)).toNat) = some (.int .i64 (rd t340 (ji92))) ∧ w'.cell? ad380 = some (.int .i64 (rd (rd_L2 t366 x219_2) 0)) ∧ w'.cell? ⟨ad380.block, ad380.off + 1, none⟩ = some (.int .i64 (rd (rd_L2 t366 x219_2) 1))) (ds := []) #[false, false, false, false, false, false, false, false, false, false, false, false, false, false, false, false, false, false, false, false, false, false, false, false, false, false, false, false, false, false, false] (by as_aux_lemma => kernel_rfl) rfl rfl ⟨hx380_0, hx381_0, hx382_0, hx383_0, hx384_0⟩ (fun hHeld => ?_); refine with_tabW Zaa.tab22 Zaa.bits22 (fun HT_ HW_ => ?_)
        generalize wr.drew = w97 at HO_5 HO_6 HO_11 HO_23 HO_217 HL379_0 HR379_0 HB hx380_0 hx381_0 hx382_0 hx383_0 hx384_0 hHeld ⊢
        refine pure_ (i := 0) (N := some 224) (v := ?_) (a' := ?_) #[true, false, false, false, false, false, false, false, false, false, false, false, false, false, false, false, false, false, false, false, false, false, false, false, false, false, false, false, false, false, false] rfl rfl (any_of HT_.out (by as_aux_lemma => kernel_rfl)) (fun _ _ _ h => h) (Or.inl ⟨by rfl, ?_⟩) ?_ ?_
        rotate_left
        ·intro w'
         go_simp
         with_reducible rfl
        rotate_left
        ·simp only [Act.put, List.setIfInBounds_toArray, List.set_cons_zero, List.set_cons_succ, i64_w, i32_w]
         rfl
        refine pure_ (i := 1) (N := some 225) (v := ?_) (a' := ?_) #[true, true, false, false, false, false, false, false, false, false, false, false, false, false, false, false, false, false, false, false, false, false, false, false, false, false, false, false, false, false, false] rfl rfl (any_of HT_.out (by as_aux_lemma => kernel_rfl)) (fun _ _ _ h => h) (Or.inl ⟨by rfl, ?_⟩) ?_ ?_
        rotate_left
        ·intro w'
         go_simp
         with_reducible rfl
        rotate_left
        ·simp only [Act.put, List.setIfInBounds_toArray, List.set_cons_zero, List.set_cons_succ, i64_w, i32_w]
         rfl
        refine pure_ (i := 2) (N := some 226) (v := ?_) (a' := ?_) #[true, true, true, false, false, false, false, false, false, false, false, false, false, false, false, false, false, false, false, false, false, false, false, false, false, false, false, false, false, false, false] rfl rfl (any_of HT_.out (by as_aux_lemma => kernel_rfl)) (fun _ _ _ h => h) (Or.inl ⟨by rfl, ?_⟩) ?_ ?_
        rotate_left
        ·intro w'
         go_simp
         with_reducible rfl
        rotate_left
        ·simp only [Act.put, List.setIfInBounds_toArray, List.set_cons_zero, List.set_cons_succ, i64_w, i32_w]
         rfl
        refine pure_ (i := 3) (N := some 227) (v := ?_) (a' := ?_) #[true, true, true, true, false, false, false, false, false, false, false, false, false, false, false, false, false, false, false, false, false, false, false, false, false, false, false, false, false, false, false] rfl rfl (any_of HT_.out (by as_aux_lemma => kernel_rfl)) (fun _ _ _ h => h) (Or.inl ⟨by rfl, ?_⟩) ?_ ?_
        rotate_left
        ·intro w'
         go_simp
         with_reducible rfl
        rotate_left
        ·simp only [Act.put, List.setIfInBounds_toArray, List.set_cons_zero, List.set_cons_succ, i64_w, i32_w]
         rfl
        refine pure_ (i := 4) (N := some 228) (v := ?_) (a' := ?_) #[true, true, true, true, true, false, false, false, false, false, false, false, false, false, false, false, false, false, false, false, false, false, false, false, false, false, false, false, false, false, false] rfl rfl (any_of HT_.out (by as_aux_lemma => kernel_rfl)) (fun _ _ _ h => h) (Or.inl ⟨by rfl, ?_⟩) ?_ ?_
        rotate_left
        ·intro w'
         go_simp
         with_reducible rfl
        rotate_left
        ·simp only [Act.put, List.setIfInBounds_toArray, List.set_cons_zero, List.set_cons_succ, i64_w, i32_w]
         rfl
        refine pure_ (i := 5) (N := some 229) (v := ?_) (a' := ?_) #[true, true, true, true, true, true, false, false, false, false, false, false, false, false, false, false, false, false, false, false, false, false, false, false, false, false, false, false, false, false, false] rfl rfl (any_of HT_.out (by as_aux_lemma => kernel_rfl)) (fun _ _ _ h => h) (Or.inl ⟨by rfl, ?_⟩) ?_ ?_
        rotate_left
        ·intro w'
         go_simp
         with_reducible rfl
        rotate_left
        ·simp only [Act.put, List.setIfInBounds_toArray, List.set_cons_zero, List.set_cons_succ, i64_w, i32_w]
         rfl
        refine pure_ (i := 7) (N := some 231) (v := ?_) (a' := ?_) #[true, true, true, true, true, true, false, true, false, false, false, false, false, false, false, false, false, false, false, false, false, false, false, false, false, false, false, false, false, false, false] rfl rfl (any_of HT_.out (by as_aux_lemma => kernel_rfl)) (fun _ _ _ h => h) (Or.inl ⟨by rfl, ?_⟩) ?_ ?_
        rotate_left
        ·intro w'
         go_simp
         with_reducible rfl
        rotate_left
        ·simp only [Act.put, List.setIfInBounds_toArray, List.set_cons_zero, List.set_cons_succ, i64_w, i32_w]
         rfl
        refine pure_ (i := 8) (N := some 232) (v := ?_) (a' := ?_) #[true, true, true, true, true, true, false, true, true, false, false, false, false, false, false, false, false, false, false, false, false, false, false, false, false, false, false, false, false, false, false] rfl rfl (any_of HT_.out (by as_aux_lemma => kernel_rfl)) (fun _ _ _ h => h) (Or.inl ⟨by rfl, ?_⟩) ?_ ?_
        rotate_left
        ·intro w'
         go_simp
         with_reducible rfl
        rotate_left
        ·simp only [Act.put, List.setIfInBounds_toArray, List.set_cons_zero, List.set_cons_succ, i64_w, i32_w]
         rfl
        refine take_ (i := 6) (N := some 230) (v := ?_) (a' := ?_) #[true, true, true, true, true, true, true, true, true, false, false, false, false, false, false, false, false, false, false, false, false, false, false, false, false, false, false, false, false, false, false] rfl rfl (take_ofW HT_.out HW_.out (by as_aux_lemma => kernel_rfl)) (fun _ _ _ h => h) (Or.inl ⟨by rfl, ?_⟩) hHeld ?_ ?_
        rotate_left
        ·rintro w' ⟨s0, s1, s2, s3, s4⟩
         go_simp
         with_reducible rfl
        rotate_left
        ·simp only [Act.put, List.setIfInBounds_toArray, List.set_cons_zero, List.set_cons_succ, i64_w, i32_w]
         rfl
        refine pure_ (i := 9) (N := some 233) (v := ?_) (a' := ?_) #[true, true, true, true, true, true, true, true, true, true, false, false, false, false, false, false, false, false, false, false, false, false, false, false, false, false, false, false, false, false, false] rfl rfl (any_of HT_.out (by as_aux_lemma => kernel_rfl)) (fun _ _ _ h => h) (Or.inl ⟨by rfl, ?_⟩) ?_ ?_
        rotate_left
        ·intro w'
         go_simp
         with_reducible rfl
        rotate_left
        ·simp only [Act.put, List.setIfInBounds_toArray, List.set_cons_zero, List.set_cons_succ, i64_w, i32_w]
         rfl
        refine pure_ (i := 10) (N := some 234) (v := ?_) (a' := ?_) #[true, true, true, true, true, true, true, true, true, true, true, false, false, false, false, false, false, false, false, false, false, false, false, false, false, false, false, false, false, false, false] rfl rfl (any_of HT_.out (by as_aux_lemma => kernel_rfl)) (fun _ _ _ h => h) (Or.inl ⟨by rfl, ?_⟩) ?_ ?_
        rotate_left
        ·intro w'
         go_simp
         with_reducible rfl
        rotate_left
        ·simp only [Act.put, List.setIfInBounds_toArray, List.set_cons_zero, List.set_cons_succ, i64_w, i32_w]
         rfl
        refine pure_ (i := 11) (N := some 235) (v := ?_) (a' := ?_) #[true, true, true, true, true, true, true, true, true, true, true, true, false, false, false, false, false, false, false, false, false, false, false, false, false, false, false, false, false, false, false] rfl rfl (any_of HT_.out (by as_aux_lemma => kernel_rfl)) (fun _ _ _ h => h) (Or.inl ⟨by rfl, ?_⟩) ?_ ?_
        rotate_left
        ·intro w'
         go_simp
         with_reducible rfl
        rotate_left
        ·simp only [Act.put, List.setIfInBounds_toArray, List.set_cons_zero, List.set_cons_succ, i64_w, i32_w]
         rfl
        refine pure_ (i := 12) (N := some 236) (v := ?_) (a' := ?_) #[true, true, true, true, true, true, true, true, true, true, true, true, true, false, false, false, false, false, false, false, false, false, false, false, false, false, false, false, false, false, false] rfl rfl (any_of HT_.out (by as_aux_lemma => kernel_rfl)) (fun _ _ _ h => h) (Or.inl ⟨by rfl, ?_⟩) ?_ ?_
        rotate_left
        ·intro w'
         go_simp
         with_reducible rfl
        rotate_left
        ·simp only [Act.put, List.setIfInBounds_toArray, List.set_cons_zero, List.set_cons_succ, i64_w, i32_w]
         rfl
        refine pure_ (i := 13) (N := some 237) (v := ?_) (a' := ?_) #[true, true, true, true, true, true, true, true, true, true, true, true, true, true, false, false, false, false, false, false, false, false, false, false, false, false, false, false, false, false, false] rfl rfl (any_of HT_.out (by as_aux_lemma => kernel_rfl)) (fun _ _ _ h => h) (Or.inl ⟨by rfl, ?_⟩) ?_ ?_
        rotate_left
        ·intro w'
         go_simp
         with_reducible rfl
        rotate_left
        ·simp only [Act.put, List.setIfInBounds_toArray, List.set_cons_zero, List.set_cons_succ, i64_w, i32_w]
         rfl
        refine pure_ (i := 15) (N := some 239) (v := ?_) (a' := ?_) #[true, true, true, true, true, true, true, true, true, true, true, true, true, true, false, true, false, false, false, false, false, false, false, false, false, false, false, false, false, false, false] rfl rfl (any_of HT_.out (by as_aux_lemma => kernel_rfl)) (fun _ _ _ h => h) (Or.inl ⟨by rfl, ?_⟩) ?_ ?_
        rotate_left
        ·intro w'
         go_simp
         with_reducible rfl
        rotate_left
        ·simp only [Act.put, List.setIfInBounds_toArray, List.set_cons_zero, List.set_cons_succ, i64_w, i32_w]
         rfl
        refine pure_ (i := 16) (N := some 240) (v := ?_) (a' := ?_) #[true, true, true, true, true, true, true, true, true, true, true, true, true, true, false, true, true, false, false, false, false, false, false, false, false, false, false, false, false, false, false] rfl rfl (any_of HT_.out (by as_aux_lemma => kernel_rfl)) (fun _ _ _ h => h) (Or.inl ⟨by rfl, ?_⟩) ?_ ?_
        rotate_left
        ·intro w'
         go_simp
         with_reducible rfl
        rotate_left
        ·simp only [Act.put, List.setIfInBounds_toArray, List.set_cons_zero, List.set_cons_succ, i64_w, i32_w]
         rfl
        refine pure_ (i := 17) (N := some 241) (v := ?_) (a' := ?_) #[true, true, true, true, true, true, true, true, true, true, true, true, true, true, false, true, true, true, false, false, false, false, false, false, false, false, false, false, false, false, false] rfl rfl (any_of HT_.out (by as_aux_lemma => kernel_rfl)) (fun _ _ _ h => h) (Or.inl ⟨by rfl, ?_⟩) ?_ ?_
        rotate_left
        ·intro w'
         go_simp
         with_reducible rfl
        rotate_left
        ·simp only [Act.put, List.setIfInBounds_toArray, List.set_cons_zero, List.set_cons_succ, i64_w, i32_w]
         rfl
        refine pure_ (i := 18) (N := some 242) (v := ?_) (a' := ?_) #[true, true, true, true, true, true, true, true, true, true, true, true, true, true, false, true, true, true, true, false, false, false, false, false, false, false, false, false, false, false, false] rfl rfl (any_of HT_.out (by as_aux_lemma => kernel_rfl)) (fun _ _ _ h => h) (Or.inl ⟨by rfl, ?_⟩) ?_ ?_
        rotate_left
        ·intro w'
         go_simp
         with_reducible rfl
        rotate_left
        ·simp only [Act.put, List.setIfInBounds_toArray, List.set_cons_zero, List.set_cons_succ, i64_w, i32_w]
         rfl
        refine take_ (i := 14) (N := some 238) (v := ?_) (a' := ?_) #[true, true, true, true, true, true, true, true, true, true, true, true, true, true, true, true, true, true, true, false, false, false, false, false, false, false, false, false, false, false, false] rfl rfl (take_ofW HT_.out HW_.out (by as_aux_lemma => kernel_rfl)) (fun _ _ _ h => h) (Or.inl ⟨by rfl, ?_⟩) hHeld ?_ ?_
        rotate_left
        ·rintro w' ⟨s0, s1, s2, s3, s4⟩
         go_simp
         with_reducible rfl
        rotate_left
        ·simp only [Act.put, List.setIfInBounds_toArray, List.set_cons_zero, List.set_cons_succ, i64_w, i32_w]
         rfl
        refine take_ (i := 19) (N := some 243) (v := ?_) (a' := ?_) #[true, true, true, true, true, true, true, true, true, true, true, true, true, true, true, true, true, true, true, true, false, false, false, false, false, false, false, false, false, false, false] rfl rfl (take_ofW HT_.out HW_.out (by as_aux_lemma => kernel_rfl)) (fun _ _ _ h => h) (Or.inl ⟨by rfl, ?_⟩) hHeld ?_ ?_
        rotate_left
        ·rintro w' ⟨s0, s1, s2, s3, s4⟩
         go_simp
         with_reducible rfl
        rotate_left
        ·simp only [Act.put, List.setIfInBounds_toArray, List.set_cons_zero, List.set_cons_succ, i64_w, i32_w]
         rfl
        refine pure_ (i := 20) (N := some 244) (v := ?_) (a' := ?_) #[true, true, true, true, true, true, true, true, true, true, true, true, true, true, true, true, true, true, true, true, true, false, false, false, false, false, false, false, false, false, false] rfl rfl (any_of HT_.out (by as_aux_lemma => kernel_rfl)) (fun _ _ _ h => h) (Or.inl ⟨by rfl, ?_⟩) ?_ ?_
        rotate_left
        ·intro w'
         go_simp
         with_reducible rfl
        rotate_left
        ·simp only [Act.put, List.setIfInBounds_toArray, List.set_cons_zero, List.set_cons_succ, i64_w, i32_w]
         rfl
        refine pure_ (i := 21) (N := some 245) (v := ?_) (a' := ?_) #[true, true, true, true, true, true, true, true, true, true, true, true, true, true, true, true, true, true, true, true, true, true, false, false, false, false, false, false, false, false, false] rfl rfl (any_of HT_.out (by as_aux_lemma => kernel_rfl)) (fun _ _ _ h => h) (Or.inl ⟨by rfl, ?_⟩) ?_ ?_
        rotate_left
        ·intro w'
         go_simp
         with_reducible rfl
        rotate_left
        ·simp only [Act.put, List.setIfInBounds_toArray, List.set_cons_zero, List.set_cons_succ, i64_w, i32_w]
         rfl
        refine pure_ (i := 22) (N := some 246) (v := ?_) (a' := ?_) #[true, true, true, true, true, true, true, true, true, true, true, true, true, true, true, true, true, true, true, true, true, true, true, false, false, false, false, false, false, false, false] rfl rfl (any_of HT_.out (by as_aux_lemma => kernel_rfl)) (fun _ _ _ h => h) (Or.inl ⟨by rfl, ?_⟩) ?_ ?_
        rotate_left
        ·intro w'
         go_simp
         with_reducible rfl
        rotate_left
        ·simp only [Act.put, List.setIfInBounds_toArray, List.set_cons_zero, List.set_cons_succ, i64_w, i32_w]
         rfl
        refine pure_ (i := 23) (N := some 247) (v := ?_) (a' := ?_) #[true, true, true, true, true, true, true, true, true, true, true, true, true, true, true, true, true, true, true, true, true, true, true, true, false, false, false, false, false, false, false] rfl rfl (any_of HT_.out (by as_aux_lemma => kernel_rfl)) (fun _ _ _ h => h) (Or.inl ⟨by rfl, ?_⟩) ?_ ?_
        rotate_left
        ·intro w'
         go_simp
         with_reducible rfl
        rotate_left
        ·simp only [Act.put, List.setIfInBounds_toArray, List.set_cons_zero, List.set_cons_succ, i64_w, i32_w]
         rfl
        refine pure_ (i := 24) (N := some 248) (v := ?_) (a' := ?_) #[true, true, true, true, true, true, true, true, true, true, true, true, true, true, true, true, true, true, true, true, true, true, true, true, true, false, false, false, false, false, false] rfl rfl (any_of HT_.out (by as_aux_lemma => kernel_rfl)) (fun _ _ _ h => h) (Or.inl ⟨by rfl, ?_⟩) ?_ ?_
        rotate_left
        ·intro w'
         go_simp
         with_reducible rfl
        rotate_left
        ·simp only [Act.put, List.setIfInBounds_toArray, List.set_cons_zero, List.set_cons_succ, i64_w, i32_w]
         rfl
        refine pure_ (i := 26) (N := some 250) (v := ?_) (a' := ?_) #[true, true, true, true, true, true, true, true, true, true, true, true, true, true, true, true, true, true, true, true, true, true, true, true, true, false, true, false, false, false, false] rfl rfl (any_of HT_.out (by as_aux_lemma => kernel_rfl)) (fun _ _ _ h => h) (Or.inl ⟨by rfl, ?_⟩) ?_ ?_
        rotate_left
        ·intro w'
         go_simp
         with_reducible rfl
        rotate_left
        ·simp only [Act.put, List.setIfInBounds_toArray, List.set_cons_zero, List.set_cons_succ, i64_w, i32_w]
         rfl
        refine pure_ (i := 27) (N := some 251) (v := ?_) (a' := ?_) #[true, true, true, true, true, true, true, true, true, true, true, true, true, true, true, true, true, true, true, true, true, true, true, true, true, false, true, true, false, false, false] rfl rfl (any_of HT_.out (by as_aux_lemma => kernel_rfl)) (fun _ _ _ h => h) (Or.inl ⟨by rfl, ?_⟩) ?_ ?_
        rotate_left
        ·intro w'
         go_simp
         with_reducible rfl
        rotate_left
        ·simp only [Act.put, List.setIfInBounds_toArray, List.set_cons_zero, List.set_cons_succ, i64_w, i32_w]
         rfl
        refine take_ (i := 25) (N := some 249) (v := ?_) (a' := ?_) #[true, true, true, true, true, true, true, true, true, true, true, true, true, true, true, true, true, true, true, true, true, true, true, true, true, true, true, true, false, false, false] rfl rfl (take_ofW HT_.out HW_.out (by as_aux_lemma => kernel_rfl)) (fun _ _ _ h => h) (Or.inl ⟨by rfl, ?_⟩) hHeld ?_ ?_
        rotate_left
        ·rintro w' ⟨s0, s1, s2, s3, s4⟩
         go_simp
         with_reducible rfl
        rotate_left
        ·simp only [Act.put, List.setIfInBounds_toArray, List.set_cons_zero, List.set_cons_succ, i64_w, i32_w]
         rfl
        refine take_ (i := 28) (N := some 252) (v := ?_) (a' := ?_) #[true, true, true, true, true, true, true, true, true, true, true, true, true, true, true, true, true, true, true, true, true, true, true, true, true, true, true, true, true, false, false] rfl rfl (take_ofW HT_.out HW_.out (by as_aux_lemma => kernel_rfl)) (fun _ _ _ h => h) (Or.inl ⟨by rfl, ?_⟩) hHeld ?_ ?_
        rotate_left
        ·rintro w' ⟨s0, s1, s2, s3, s4⟩
         go_simp
         with_reducible rfl
        rotate_left
        ·simp only [Act.put, List.setIfInBounds_toArray, List.set_cons_zero, List.set_cons_succ, i64_w, i32_w]
         rfl
        refine pure_ (i := 29) (N := some 253) (v := ?_) (a' := ?_) #[true, true, true, true, true, true, true, true, true, true, true, true, true, true, true, true, true, true, true, true, true, true, true, true, true, true, true, true, true, true, false] rfl rfl (any_of HT_.out (by as_aux_lemma => kernel_rfl)) (fun _ _ _ h => h) (Or.inl ⟨by rfl, ?_⟩) ?_ ?_
        rotate_left
        ·intro w'
         go_simp
         with_reducible rfl
        rotate_left
        ·simp only [Act.put, List.setIfInBounds_toArray, List.set_cons_zero, List.set_cons_succ, i64_w, i32_w]
         rfl
        refine pure_ (i := 30) (N := some 254) (v := ?_) (a' := ?_) #[true, true, true, true, true, true, true, true, true, true, true, true, true, true, true, true, true, true, true, true, true, true, true, true, true, true, true, true, true, true, true] rfl rfl (any_of HT_.out (by as_aux_lemma => kernel_rfl)) (fun _ _ _ h => h) (Or.inl ⟨by rfl, ?_⟩) ?_ ?_
        rotate_left
        ·intro w'
         go_simp
         with_reducible rfl
        rotate_left
        ·simp only [Act.put, List.setIfInBounds_toArray, List.set_cons_zero, List.set_cons_succ, i64_w, i32_w]
         rfl
        refine done_ (done_of HT_.out (by as_aux_lemma => kernel_rfl)) ?_
        as_aux_lemma =>
         try go_wp2
         first | go_roundg k2 | ((try subst hji92); go_roundg k2)
         case measure => have := HJ15.out; have := HK2.out; omega
         case rel => exact ⟨(ji92), (by first | rfl | (simp; done) | (simp only [← hji92] <;> (first | rfl | simp)) | (simp [*]; done)), H', ⟨by have := HJ15.out; have := HK2.out; omega⟩, ⟨atR HO_5⟩, ⟨atR HO_6⟩, ⟨atR HO_11⟩, ⟨atS HO_23⟩, ⟨atS HO_217⟩, ⟨atB HB⟩⟩
   case rest =>
    rename_i z2_0 z2_1 z2_2 z2_3 z2_4 z2_5 z2_6 z2_7 z2_8 z2_9 z2_10 z2_11 z2_12 z2_13 z2_14 z2_15 z2_16 z2_17 z2_18 z2_19 z2_20 z2_21 z2_22 z2_23 z2_24 z2_25 z2_26 z2_27 z2_28 z2_29 z2_30 z2_31 z2_32 z2_33 z2_34 z2_35 z2_36 z2_37 z2_38 z2_39 z2_40 z2_41 z2_42 z2_43 z2_44 z2_45 z2_46 z2_47 z2_48 z2_49 z2_50 z2_51 z2_52 z2_53 z2_54 z2_55 z2_56 z2_57 z2_58 z2_59 z2_60 z2_61 z2_62 z2_63 z2_64 z2_65 z2_66 z2_67 z2_68 z2_69 z2_70 z2_71 z2_72 z2_73 z2_74 z2_75 z2_76 z2_77 z2_78 z2_79 z2_80 z2_81 z2_82 z2_83 z2_84 z2_85 z2_86 z2_87 z2_88 z2_89 z2_90 z2_91 z2_92 z2_93 z2_94 z2_95 z2_96 z2_97 z2_98 z2_99 z2_100 z2_101 z2_102 z2_103 z2_104 z2_105 z2_106 z2_107 z2_108 z2_109 z2_110 z2_111 z2_112 z2_113 z2_114 z2_115 z2_116 z2_117 z2_118 z2_119 z2_120 z2_121 z2_122 z2_123 z2_124 z2_125 z2_126 z2_127 z2_128 z2_129 z2_130 z2_131 z2_132 z2_133 z2_134 z2_135 z2_136 z2_137 z2_138 z2_139 z2_140 z2_141 z2_142 z2_143 z2_144 z2_145 z2_146 z2_147 z2_148 z2_149 z2_150 z2_151 z2_152 z2_153 z2_154 z2_155 z2_156 z2_157 z2_158 z2_159 z2_160 z2_161 z2_162 z2_163 z2_164 z2_165 z2_166 z2_167 z2_168 z2_169 z2_170 z2_171 z2_172 z2_173 z2_174 z2_175 z2_176 z2_177 z2_178 z2_179 z2_180 z2_181 z2_182 z2_183 z2_184 z2_185 z2_186 z2_187 z2_188 z2_189 z2_190 z2_191 z2_192 z2_193 z2_194 z2_195 z2_196 z2_197 z2_198 z2_199 z2_200 z2_201 z2_202 z2_203 z2_204 z2_205 z2_206 z2_207 z2_208 z2_209 z2_210 z2_211 z2_212 z2_213 z2_214 z2_215 z2_216 z2_217 z2_218 z2_219 z2_220 z2_221 z2_222 z2_223 z2_224 z2_225 z2_226 z2_227 z2_228 z2_229 z2_230 z2_231 z2_232 z2_233 z2_234 z2_235 z2_236 z2_237 z2_238 z2_239 z2_240 z2_241 z2_242 z2_243 z2_244 z2_245 z2_246 z2_247 z2_248 z2_249 z2_250 z2_251 z2_252 z2_253 z2_254 z2_255 z2_256 z2_257 z2_258 z2_259 z2_260 z2_261 z2_262 z2_263 z2_264 z2_265 z2_266 z2_267 z2_268 z2_269 z2_270 z2_271 z2_272 z2_273 z2_274 z2_275 z2_276 z2_277 z2_278 z2_279 z2_280 z2_281 z2_282 z2_283 z2_284 z2_285 z2_286 z2_287 z2_288 z2_289 z2_290 z2_291 z2_292 z2_293 z2_294 z2_295 z2_296 z2_297 z2_298 z2_299 z2_300 z2_301 z2_302 z2_303 z2_304 z2_305 z2_306 z2_307 z2_308 z2_309 z2_310 z2_311 z2_312 z2_313 z2_314 z2_315 z2_316 z2_317 z2_318 z2_319 z2_320 z2_321 z2_322 z2_323 z2_324 z2_325 z2_326 z2_327 z2_328 z2_329 z2_330 z2_331 z2_332 z2_333 z2_334 z2_335 z2_336 z2_337 z2_338 z2_339 z2_340 z2_341 z2_342 z2_343 z2_344 z2_345 z2_346 z2_347 z2_348 z2_349 z2_350 z2_351 z2_352 z2_353 z2_354 z2_355 z2_356 z2_357 z2_358 z2_359 z2_360 z2_361 z2_362 z2_363 z2_364 z2_365 z2_366 z2_367 z2_368 z2_369 z2_370 z2_371 z2_372 z2_373 z2_374 z2_375 z2_376 z2_377 z2_378 z2_379 z2_380 z2_381 z2_382 z2_383 z2_384 z2_385 z2_386 z2_387 z2_388 z2_389 z2_390 z2_391 z2_392 z2_393 z2_394 z2_395 z2_396 z2_397 z2_398 z2_399 z2_400 z2_401 z2_402 z2_403 z2_404 z2_405 z2_406 z2_407 z2_408 z2_409 z2_410
    exact Zaa.rest2 k A0 c0 l0 A1 c1 l1 r w HR1 HC1 HT t340 t341 t346 t347 t348 t349 t350 t351 t355 t358 t359 t360 t361 t362 t363 t364 t365 t366 t367 t371 Ao18 co18 Ao19 co19 v352 v356 v368 v372 z2_1 HO_5 HO_6 HO_11 HO_23 HB kj15 HJ15 HC81 z2_409 (by rfl) z2_410 wc u4 u27 u28 u53 u54 u55 u56 u57 u58 u59 u60 u61 u62 u63 u64 u65 u66 u67 u68 u69 u70 u71 u72 u73 u74 u75 u76 u77 u78 u79 u80 u81 u82 u83 u84 u85 u86 u87 u88 u89 u90 u91 u92 u93 u94 u95 u96 u97 u98 u99 u100 u101 u102 u103 u104 u105 u106 u107 u108 u109 u110 u111 u112 u113 u114 u115 u116 u117 u118 u119 u120 u121 u122 u123 u124 u125 u126 u127 u128 u129 u130 u131 u132 u133 u134 u135 u136 u137 u138 u139 u140 u141 u142 u143 u144 u145 u146 u147 u148 u149 u150 u151 u152 u153 u154 u155 u156 u157 u158 u159 u160 u161 u162 u163 u164 u165 u166 u167 u168 u169 u170 u171 u172 u173 u174 u175 u176 u177 u178 u179 u180 u181 u182 u183 u184 u185 u186 u187 u188 u189 u190 u191 u192 u193 u194 u195 u196 u197 u198 u199 u200 u201 u202 u203 u204 u205 u206 u207 u208 u209 u210 u211 u212 u213 u214 u215 u216 u217 u218 u219 u220 u221 u222 u223 u224 u225 u226 u227 u228 u229 u230 u231 u232 u233 u234 u235 u236 u237 u238 u239 u240 u241 u242 u243 u244 u245 u246 u247 u248 u249 u250 u251 u252 u253 u254 u255 u256 u257 u258 u259 u260 u261 u262 u263 u264 u265 u266 u267 u268 u269 u270 u271 u272 u273 u274 u275 u276 u277 u278 u279 u280 u281 u282 u283 u284 u285 u286 u287 u288 u289 u290 u291 u292 u293 u294 u295 u296 u297 u298 u299 u300 u301 u302 u303 u304 u305 u306 u307 u308 u309 u310 u311 u312 u313 u314 u315 u316 u320 u321 u322 u323 u324 u325 u326 u327 u328 u329 u330 u331 u332 u333 u334 u335 u336 u337 u338 u339 u340 u341 u342 u343 u344 u345 u346 u347 u348 u349 u350 u351 u352 u353 u354 u355 u356 u357 u358 u359 u360 u361 u362 u363 u364 u365 u366 u367 u368 u369 u370 u371 u372 u373 u374 u375 u376 u377 u378 u379 u380 u381 u382 u383 u384 u385 u386 u387 u388 u389 u390 u391 u392 u393 u394 u395 u396 u397 u398 u399 u400 u401 u402 u403 u404 u405 u406 u407 u408 u409 u410 u411 u412 u413 u414 u415 u416 u417 u418 u419 u420 u421 u422 u423 u424 u425 u426 u427 u428 u429 u430 u431 u432 u433 u434 u435 u436 u437 u438 u439 u440 u441 u442 u443 u444 u445 u446 u447 u448 u449 u450 u451 u452 u453 u454 u455 u456 u457 u458 u459 u460 u461 u462 u463 u464 hcut
end Go.Proofs.Ytnhnpplccfojeaa.Fn
