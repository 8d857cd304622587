/- The machine's side and plain lemmas for FnCombsAndRings: texts of this session, merged by its program (part 5). -/
import Derived.Test.YtapffhnkfgkboaaMFnCombsAndRings0
import Derived.Test.YtapffhnkfgkboaaMFnCombsAndRings1
import Derived.Test.YtapffhnkfgkboaaMFnCombsAndRings2
import Derived.Test.YtapffhnkfgkboaaMFnCombsAndRings3
import Derived.Test.YtapffhnkfgkboaaMFnCombsAndRings4
set_option maxHeartbeats 80000000
set_option maxRecDepth 100000
namespace Go.Proofs.Ytapffhnkfgkboaa.Fn
open Go.RowKit Go.Proofs.YtapffhnkfgkboaaW.PrintWords Go.Proofs.YtapffhnkfgkboaaW.PrintLast Go.Proofs.YtapffhnkfgkboaaW.PrintMore
attribute [local go_sem] max2_int min2_int max_two min_two max_three min_three max_four min_four
set_option linter.unusedVariables false
set_option linter.unusedSimpArgs false
theorem Zaa.rest4 (k : Nat) (A0 : Option Addr) (c0 : Nat) (l0 : List Int) (A1 : Option Addr) (c1 : Nat) (l1 : List Int) (r : Bool) (w : World) (HT : Aside0 (r = true)) (t640 t643 : List Int) (t644 : Bool) (t647 : List Int) (t648 : Bool) (t651 : List Int) (t652 : Bool) (t655 : List Int) (t656 : Bool) (Ao19 : Option Addr) (co19 : Nat) (Ao24 : Option Addr) (co24 : Nat) (Ao25 : Option Addr) (co25 : Nat) (Ao26 : Option Addr) (co26 : Nat) (Ao27 : Option Addr) (co27 : Nat) (u14 u15 u16 u17 u18 u19 : Value) (kj16 : Nat) (HJ16 : Aside0 (kj16 + (1 : Nat) ≤ k)) (t667 : Int) (t668 : List Int) (t669 : Bool) (t672 : List Int) (t673 : Bool) (t676 : List Int) (t677 : Bool) (t680 : List Int) (t681 : Bool) (Ao64 : Option Addr) (co64 : Nat) (Ao65 : Option Addr) (co65 : Nat) (Ao66 : Option Addr) (co66 : Nat) (Ao67 : Option Addr) (co67 : Nat) (u29 u30 u31 u32 u33 u34 u35 u36 : Value) (kj57 : Nat) (HJ57 : Aside0 (kj57 + (1 : Nat) ≤ kj16)) (t694 : List Int) (t697 t698 t699 t700 : Bool) (t701 : Int) (t702 : List Int) (t703 t707 t710 t711 : Bool) (t712 : Int) (t713 t714 t715 t716 : Bool) (t717 t720 : List Int) (t721 t725 : Bool) (Ao106 : Option Addr) (co106 : Nat) (v704 v708 : Value) (Ao114 : Option Addr) (co114 : Nat) (v722 v726 : Value) (z4_2 : World) (HO_54 : Aside0 ((Kd.int IntKind.i64).R (3 : Nat) z4_2 w.heap.size (fun k_ => some k_ ≠ v704.ownBlock ∧ some k_ ≠ v722.ownBlock) (Value.slice Ao114 t717.length co114) t717)) (HO_55 : Aside0 ((Kd.int IntKind.i64).R (3 : Nat) z4_2 w.heap.size (fun k_ => some k_ ≠ v704.ownBlock ∧ some k_ ≠ (Value.slice Ao114 t717.length co114).ownBlock) v722 t720)) (HB : Aside0 (Below w.heap.size w z4_2)) (kj103 : Nat) (HJ103 : Aside0 (kj103 + (1 : Nat) ≤ kj57)) (HC143 : Aside0 ((if t703 = true then Zaa.l1 kj103 t701 t702 t717 t720 t721 [] t702 (↑t702.length : Int) (0 : Int) else Zaa.j6 kj103 t717 t720 t721) = some r)) (z4_441 : Act → World → Prop) {Cz4_442 : Code} (ez4_442 : codeAt [1, 1, 1, 1, 1, 1, 1, 1, 1, 1, 1, 1, 1, 1, 1, 1, 1, 1, 1, 1, 1, 1, 1, 1, 1, 1, 1, 1, 1, 1, 1] (bodyAt Try.f3) = Cz4_442) (z4_442 : ∀ (a_ : Act) (w_ : World), Code.wp Try.prog Cz4_442 (bodyPost Try.prog Try.f3 fun e w' => e = Ending.returned (Value.bool r) ∧ Below w.heap.size w w') a_ w_ → z4_441 a_ w_) (wc : World) (u4 u59 u60 u61 u62 u66 u67 u68 u69 u70 u71 u72 u73 u74 u75 u76 u77 u78 u79 u80 u81 u82 u83 u84 u85 u86 u87 u88 u89 u90 u91 u92 u93 u94 u95 u96 u97 u98 u99 u100 u101 u102 u103 u104 u105 u106 u107 u108 u109 u110 u111 u112 u113 u114 u115 u116 u117 u118 u119 u120 u121 u122 u123 u124 u125 u126 u127 u128 u129 u130 u131 u132 u133 u134 u135 u136 u137 u138 u139 u140 u141 u142 u143 u144 u145 u146 u147 u148 u149 u150 u151 u152 u153 u154 u155 u156 u157 u158 u159 u160 u161 u162 u163 u164 u165 u166 u167 u168 u169 u170 u171 u172 u173 u174 u175 u176 u177 u178 u179 u180 u181 u182 u183 u184 u185 u186 u187 u188 u189 u190 u191 u192 u193 u194 u195 u196 u197 u198 u199 u200 u201 u202 u203 u204 u205 u206 u207 u208 u209 u210 u211 u212 u213 u214 u215 u216 u217 u218 u219 u220 u221 u222 u223 u224 u225 u226 u227 u228 u229 u230 u231 u232 u233 u234 u235 u236 u237 u238 u239 u240 u241 u242 u243 u244 u245 u246 u247 u248 u249 u250 u251 u252 u253 u254 u255 u256 u257 u258 u259 u260 u261 u262 u263 u264 u265 u266 u267 u268 u269 u270 u271 u272 u273 u274 u275 u276 u277 u278 u279 u280 u281 u282 u283 u284 u285 u286 u287 u288 u289 u290 u291 u292 u293 u294 u295 u296 u297 u298 u299 u300 u301 u302 u303 u304 u305 u306 u307 u308 u309 u310 u311 u312 u313 u314 u315 u316 u317 u318 u319 u320 u321 u322 u323 u324 u325 u326 u327 u328 u329 u330 u331 u332 u333 u334 u335 u336 u337 u338 u339 u340 u341 u342 u343 u344 u345 u346 u347 u348 u349 u350 u351 u352 u353 u354 u355 u356 u357 u358 u359 u360 u361 u362 u363 u364 u365 u366 u367 u368 u369 u370 u371 u372 u373 u374 u375 u376 u377 u378 u379 u380 u381 u382 u383 u384 u385 u386 u387 u388 u389 u390 u391 u392 u393 u394 u395 u396 u397 u398 u399 u400 u401 u402 u403 u404 u405 u406 u407 u408 u409 u410 u411 u412 u413 u414 u415 u416 u417 u418 u419 u420 u421 u422 u423 u424 u425 u426 u427 u428 u429 u430 u431 u432 u433 u434 u435 u436 u437 u438 u439 u440 u441 u442 u443 u444 u445 u446 u447 u448 u449 u450 u451 u452 u453 u454 u455 u456 u457 u458 u459 u460 u461 u462 u463 u464 u465 u466 u467 u468 u469 u470 u471 u472 u473 u474 u475 u476 u477 u478 u479 u480 u481 u482 u483 u484 u485 u486 u487 u488 u489 u490 u491 u492 u493 u494 u495 u496 u497 u498 u499 u500 u501 u502 u503 u504 u505 : Value) (hcut : ∃ kq, Aside0 (Zaa.j6 kq t717 t720 t721 = some r) ∧ Aside0 (kq ≤ kj103) ∧ Aside0 ((Kd.int IntKind.i64).R (3 : Nat) wc w.heap.size (fun k_ => some k_ ≠ v722.ownBlock) (Value.slice Ao114 t717.length co114) t717) ∧ Aside0 ((Kd.int IntKind.i64).R (3 : Nat) wc w.heap.size (fun k_ => some k_ ≠ (Value.slice Ao114 t717.length co114).ownBlock) v722 t720) ∧ Aside0 (Below w.heap.size w wc)) : z4_441 { tmps := #[Value.slice A0 l0.length c0, Value.slice A1 l1.length c1, Go.undef, Go.undef, u4, Value.slice Ao19 t640.length co19, Value.slice Ao24 t643.length co24, Value.bool t644, Value.slice Ao25 t647.length co25, Value.bool t648, Value.slice Ao26 t651.length co26, Value.bool t652, Value.slice Ao27 t655.length co27, Value.bool t656, u14, u15, u16, u17, u18, u19, Value.int IntKind.i64 t667, Value.slice Ao64 t668.length co64, Value.bool t669, Value.slice Ao65 t672.length co65, Value.bool t673, Value.slice Ao66 t676.length co66, Value.bool t677, Value.slice Ao67 t680.length co67, Value.bool t681, u29, u30, u31, u32, u33, u34, u35, u36, Value.slice Ao106 t694.length co106, Value.bool t697, Value.bool t698, Value.bool t699, Value.bool t700, Value.int IntKind.i64 t701, v704, Value.bool t703, v708, Value.bool t707, Value.bool t710, Value.bool t711, Value.int IntKind.i64 t712, Value.bool t713, Value.bool t714, Value.bool t715, Value.bool t716, Value.slice Ao114 t717.length co114, v722, Value.bool t721, v726, Value.bool t725, u59, u60, u61, u62, Go.undef, Go.undef, Go.undef, u66, u67, u68, u69, u70, u71, u72, u73, u74, u75, u76, u77, u78, u79, u80, u81, u82, u83, u84, u85, u86, u87, u88, u89, u90, u91, u92, u93, u94, u95, u96, u97, u98, u99, u100, u101, u102, u103, u104, u105, u106, u107, u108, u109, u110, u111, u112, u113, u114, u115, u116, u117, u118, u119, u120, u121, u122, u123, u124, u125, u126, u127, u128, u129, u130, u131, u132, u133, u134, u135, u136, u137, u138, u139, u140, u141, u142, u143, u144, u145, u146, u147, u148, u149, u150, u151, u152, u153, u154, u155, u156, u157, u158, u159, u160, u161, u162, u163, u164, u165, u166, u167, u168, u169, u170, u171, u172, u173, u174, u175, u176, u177, u178, u179, u180, u181, u182, u183, u184, u185, u186, u187, u188, u189, u190, u191, u192, u193, u194, u195, u196, u197, u198, u199, u200, u201, u202, u203, u204, u205, u206, u207, u208, u209, u210, u211, u212, u213, u214, u215, u216, u217, u218, u219, u220, u221, u222, u223, u224, u225, u226, u227, u228, u229, u230, u231, u232, u233, u234, u235, u236, u237, u238, u239, u240, u241, u242, u243, u244, u245, u246, u247, u248, u249, u250, u251, u252, u253, u254, u255, u256, u257, u258, u259, u260, u261, u262, u263, u264, u265, u266, u267, u268, u269, u270, u271, u272, u273, u274, u275, u276, u277, u278, u279, u280, u281, u282, u283, u284, u285, u286, u287, u288, u289, u290, u291, u292, u293, u294, u295, u296, u297, u298, u299, u300, u301, u302, u303, u304, u305, u306, u307, u308, u309, u310, u311, u312, u313, u314, u315, u316, u317, u318, u319, u320, u321, u322, u323, u324, u325, u326, u327, u328, u329, u330, u331, u332, u333, u334, u335, u336, u337, u338, u339, u340, u341, u342, u343, u344, u345, u346, u347, u348, u349, u350, u351, u352, u353, u354, u355, u356, u357, u358, u359, u360, u361, u362, u363, u364, u365, u366, u367, u368, u369, u370, u371, u372, u373, u374, u375, u376, u377, u378, u379, u380, u381, u382, u383, u384, u385, u386, u387, u388, u389, u390, u391, u392, u393, u394, u395, u396, u397, u398, u399, u400, u401, u402, u403, u404, u405, u406, u407, u408, u409, u410, u411, u412, u413, u414, u415, u416, u417, u418, u419, u420, u421, u422, u423, u424, u425, u426, u427, u428, u429, u430, u431, u432, u433, u434, u435, u436, u437, u438, u439, u440, u441, u442, u443, u444, u445, u446, u447, u448, u449, u450, u451, u452, u453, u454, u455, u456, u457, u458, u459, u460, u461, u462, u463, u464, u465, u466, u467, u468, u469, u470, u471, u472, u473, u474, u475, u476, u477, u478, u479, u480, u481, u482, u483, u484, u485, u486, u487, u488, u489, u490, u491, u492, u493, u494, u495, u496, u497, u498, u499, u500, u501, u502, u503, u504, u505], defers := [] } wc := by
  conv at ez4_442 => (lhs; whnf)
  subst ez4_442
  clear HC143
  try clear c1
  obtain ⟨kq, HA, HJ142, HO_54, HO_55, HB⟩ := hcut
  cases kq with
  | zero => exact absurd HA.out (by simp [Zaa.j6])
  | succ kj142 =>
   have H := HA.out
   clear HA
   simp only [Zaa.j6] at H
   by_cases c171 : t721 = true
   rotate_left
   ·replace c171 := Bool.eq_false_iff.mpr c171
    subst c171
    rw [if_neg (show ¬ (false = true) by decide)] at H
    obtain rfl := Option.some.inj H
    as_aux_lemma =>
     go_wp2
     repeat (go_quiet (fail); try go_wp2)
     go_ret
     exact ⟨eqr, atB HB⟩
   subst c171
   rw [if_pos rfl] at H
   have H' := Aside0.mk H
   clear H
   as_aux_lemma =>
    go_wp2
    repeat (go_quiet (fail); try go_wp2)
    go_loopg [63] kj142 (fun kq v63 w' => ∃ (x63_5 : Int), v63 = .int .i64 x63_5 ∧ Aside0 (Zaa.l2 kq t717 t720 x63_5 = some r) ∧ Aside0 (kq ≤ kj142) ∧ Aside0 (Kd.R (Kd.int .i64) 3 w' w.heap.size (fun k_ => some k_ ≠ (v722 : Value).ownBlock) (.slice Ao114 t717.length co114) t717) ∧ Aside0 (Kd.R (Kd.int .i64) 3 w' w.heap.size (fun k_ => some k_ ≠ ((.slice Ao114 t717.length co114) : Value).ownBlock) v722 t720) ∧ Aside0 (Below w.heap.size w w'))
    case atStart => exact ⟨(1), eqd, H', ⟨Nat.le_refl _⟩, ⟨atR HO_54⟩, ⟨atR HO_55⟩, ⟨atB HB⟩⟩
    case round => as_aux_lemma =>
     clear H'
     try clear c171
     obtain ⟨x63_5, rfl, HA, HK5, HO_54, HO_55, HB⟩ := hrel
     cases gk with
     | zero => exact absurd HA.out (by simp [Zaa.l2])
     | succ k5 =>
      have H := HA.out
      clear HA
      simp only [Zaa.l2] at H
      by_cases c172 : x63_5 ≤ (wrap64 ((t717.length : Int) / 2))
      rotate_left
      ·rw [if_neg c172] at H
       have c172b0 := decide_eq_false c172
       clear c172
       obtain rfl := Option.some.inj H
       obtain ⟨Ao187, co187, eo187⟩ := Kd.R_slice HO_55.out
       subst eo187
       as_aux_lemma =>
        go_wp2
        repeat (go_quiet (fail); try go_wp2)
        go_ret
        exact ⟨eqr, atB HB⟩
      rw [if_pos c172] at H
      have c172b0 := decide_eq_true c172
      clear c172
      obtain ⟨ji173, hji173⟩ : ∃ j_ : Int, (wrap64 ((wrap64 (2 * x63_5)) - 2)) = j_ := ⟨_, rfl⟩
      replace H : (if 0 ≤ (ji173) then (if (ji173) < (t720.length : Int) then (if 0 ≤ (wrap64 ((wrap64 (2 * x63_5)) - 1)) then (if (wrap64 ((wrap64 (2 * x63_5)) - 1)) < (t720.length : Int) then (if (wrap64 ((rd t720 (wrap64 ((wrap64 (2 * x63_5)) - 1))) - (rd t720 (ji173)))) = x63_5 then (if 0 ≤ (rd t720 (ji173)) then (if (rd t720 (ji173)) < (t717.length : Int) then (if (rd t717 (rd t720 (ji173))) = x63_5 then (if 0 ≤ (rd t720 (wrap64 ((wrap64 (2 * x63_5)) - 1))) then (if (rd t720 (wrap64 ((wrap64 (2 * x63_5)) - 1))) < (t717.length : Int) then (if (rd t717 (rd t720 (wrap64 ((wrap64 (2 * x63_5)) - 1)))) = x63_5 then (Zaa.l2 k5 t717 t720 (wrap64 (x63_5 + 1))) else (some false)) else (none)) else (none)) else (some false)) else (none)) else (none)) else (some false)) else (none)) else (none)) else (none)) else (none)) = some r := by first | (rw [hji173] at H; exact H) | (simp only [hji173] at H ⊢; exact H)
      have hji173w : (IntKind.i64.wrap ((wrap64 (2 * x63_5)) - 2)) = ji173 := (i64_w _).trans hji173
      obtain ⟨c174b0, H⟩ := in_ H
      obtain ⟨c175b0, H⟩ := in_ H
      obtain ⟨ji176, hji176⟩ : ∃ j_ : Int, (wrap64 ((wrap64 (2 * x63_5)) - 1)) = j_ := ⟨_, rfl⟩
      replace H : (if 0 ≤ (ji176) then (if (ji176) < (t720.length : Int) then (if (wrap64 ((rd t720 (ji176)) - (rd t720 (ji173)))) = x63_5 then (if 0 ≤ (rd t720 (ji173)) then (if (rd t720 (ji173)) < (t717.length : Int) then (if (rd t717 (rd t720 (ji173))) = x63_5 then (if 0 ≤ (rd t720 (ji176)) then (if (rd t720 (ji176)) < (t717.length : Int) then (if (rd t717 (rd t720 (ji176))) = x63_5 then (Zaa.l2 k5 t717 t720 (wrap64 (x63_5 + 1))) else (some false)) else (none)) else (none)) else (some false)) else (none)) else (none)) else (some false)) else (none)) else (none)) = some r := by first | (rw [hji176] at H; exact H) | (simp only [hji176] at H ⊢; exact H)
      have hji176w : (IntKind.i64.wrap ((wrap64 (2 * x63_5)) - 1)) = ji176 := (i64_w _).trans hji176
      obtain ⟨c177b0, H⟩ := in_ H
      obtain ⟨c178b0, H⟩ := in_ H
      by_cases c179 : (wrap64 ((rd t720 (ji176)) - (rd t720 (ji173)))) = x63_5
      rotate_left
      ·rw [if_neg c179] at H
       have c179b0 : ((wrap64 ((rd t720 (ji176)) - (rd t720 (ji173)))) == x63_5) = false := beq_eq_false_iff_ne.mpr c179
       have c179b1 : ((wrap64 ((rd t720 (ji176)) - (rd t720 (ji173)))) != x63_5) = true := bne_iff_ne.mpr c179
       exact absurd ((Option.some.inj H).trans HT.out) (by decide)
      rw [if_pos c179] at H
      have c179b0 : ((wrap64 ((rd t720 (ji176)) - (rd t720 (ji173)))) == x63_5) = true := beq_iff_eq.mpr c179
      have c179b1 : ((wrap64 ((rd t720 (ji176)) - (rd t720 (ji173)))) != x63_5) = false := bne_eq_false_iff_eq.mpr c179
      clear c179
      obtain ⟨c180b0, H⟩ := in_ H
      obtain ⟨c181b0, H⟩ := in_ H
      by_cases c182 : (rd t717 (rd t720 (ji173))) = x63_5
      rotate_left
      ·rw [if_neg c182] at H
       have c182b0 : ((rd t717 (rd t720 (ji173))) == x63_5) = false := beq_eq_false_iff_ne.mpr c182
       have c182b1 : ((rd t717 (rd t720 (ji173))) != x63_5) = true := bne_iff_ne.mpr c182
       exact absurd ((Option.some.inj H).trans HT.out) (by decide)
      rw [if_pos c182] at H
      have c182b0 : ((rd t717 (rd t720 (ji173))) == x63_5) = true := beq_iff_eq.mpr c182
      have c182b1 : ((rd t717 (rd t720 (ji173))) != x63_5) = false := bne_eq_false_iff_eq.mpr c182
      clear c182
      obtain ⟨c183b0, H⟩ := in_ H
      obtain ⟨c184b0, H⟩ := in_ H
      by_cases c185 : (rd t717 (rd t720 (ji176))) = x63_5
      rotate_left
      ·rw [if_neg c185] at H
       have c185b0 : ((rd t717 (rd t720 (ji176))) == x63_5) = false := beq_eq_false_iff_ne.mpr c185
       have c185b1 : ((rd t717 (rd t720 (ji176))) != x63_5) = true := bne_iff_ne.mpr c185
       exact absurd ((Option.some.inj H).trans HT.out) (by decide)
      rw [if_pos c185] at H
      have c185b0 : ((rd t717 (rd t720 (ji176))) == x63_5) = true := beq_iff_eq.mpr c185
      have c185b1 : ((rd t717 (rd t720 (ji176))) != x63_5) = false := bne_eq_false_iff_eq.mpr c185
      clear c185
      have H' := Aside0.mk H
      clear H
      obtain ⟨Ao186, co186, eo186⟩ := Kd.R_slice HO_55.out
      subst eo186
      have p743 : 0 ≤ ((ji173) : Int) := ofd
      have q743 : (ji173) < (t720.length : Int) := ofd
      obtain ⟨ad743, e743, hx743_0⟩ := Kd.at_int (Kd.R_reads' HO_55.out).2.2 (ji173) p743 q743
      cases e743
      replace p743 := eq_true p743
      replace q743 := eq_true q743
      have p744 : 0 ≤ ((ji176) : Int) := ofd
      have q744 : (ji176) < (t720.length : Int) := ofd
      obtain ⟨ad744, e744, hx744_0⟩ := Kd.at_int (Kd.R_reads' HO_55.out).2.2 (ji176) p744 q744
      obtain rfl : ad743 = ad744 := (by injection e744)
      replace p744 := eq_true p744
      replace q744 := eq_true q744
      have p745 : 0 ≤ ((rd t720 (ji173)) : Int) := ofd
      have q745 : (rd t720 (ji173)) < (t717.length : Int) := ofd
      obtain ⟨ad745, e745, hx745_0⟩ := Kd.at_int (Kd.R_reads' HO_54.out).2.2 (rd t720 (ji173)) p745 q745
      cases e745
      replace p745 := eq_true p745
      replace q745 := eq_true q745
      have p746 : 0 ≤ ((rd t720 (ji176)) : Int) := ofd
      have q746 : (rd t720 (ji176)) < (t717.length : Int) := ofd
      obtain ⟨ad746, e746, hx746_0⟩ := Kd.at_int (Kd.R_reads' HO_54.out).2.2 (rd t720 (ji176)) p746 q746
      obtain rfl : ad745 = ad746 := (by injection e746)
      replace p746 := eq_true p746
      replace q746 := eq_true q746
      as_aux_lemma =>
       go_wp2
       repeat (go_quiet (fail); try go_wp2)
       first | go_roundg k5 | ((try subst hji176); (try subst hji173); go_roundg k5)
       case measure => have := HJ16.out; have := HJ57.out; have := HJ103.out; have := HJ142.out; have := HK5.out; omega
       case rel => exact ⟨(wrap64 (x63_5 + 1)), eqd, H', ⟨by have := HJ16.out; have := HJ57.out; have := HJ103.out; have := HJ142.out; have := HK5.out; omega⟩, ⟨atR HO_54⟩, ⟨atR HO_55⟩, ⟨atB HB⟩⟩
end Go.Proofs.Ytapffhnkfgkboaa.Fn
