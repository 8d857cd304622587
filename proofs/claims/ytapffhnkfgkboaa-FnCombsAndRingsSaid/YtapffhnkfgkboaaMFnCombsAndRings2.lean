/- The machine's side and plain lemmas for FnCombsAndRings: texts of this session, merged by its program (part 2). -/
import Derived.Laws.Rows
import Derived.Lib.SliceRun
import Derived.Test.YtapffhnkfgkboaaMFnCombsAndRings0
import Derived.Test.YtapffhnkfgkboaaMFnCombsAndRings1
set_option maxHeartbeats 80000000
set_option maxRecDepth 100000
namespace Go.Proofs.Ytapffhnkfgkboaa.Fn
open Go.RowKit Go.Proofs.YtapffhnkfgkboaaW.PrintWords Go.Proofs.YtapffhnkfgkboaaW.PrintLast Go.Proofs.YtapffhnkfgkboaaW.PrintMore
attribute [local go_sem] max2_int min2_int max_two min_two max_three min_three max_four min_four
set_option linter.unusedVariables false
set_option linter.unusedSimpArgs false
mutual
def Zab.l0 : Nat → Int → List Int → Int → List Int → Int → Int → Option (List Int × Int × Int)
 | 0, _, _, _, _, _, _ => none
 | k + 1, x1, x5, x6, x1000, x1001, x1002 => if x6 > 0 then ((Zac.f x1000 x1001 x1002 8).bind fun bt440 => ((Zaz.f k x5 (wrap64 (1 + bt440.1))).bind fun t443 => (if t443 = true then (Zab.j1 k x1 x5 x6 (wrap64 (1 + bt440.1)) true x1000 bt440.2.1 bt440.2.2) else (Zab.j1 k x1 x5 x6 (wrap64 (1 + bt440.1)) (decide ((x5.length : Int) < (wrap64 ((wrap64 ((wrap64 (1 + bt440.1)) + x1)) + 1)))) x1000 bt440.2.1 bt440.2.2)))) else (some (x5, x1001, x1002))
def Zab.j1 : Nat → Int → List Int → Int → Int → Bool → List Int → Int → Int → Option (List Int × Int × Int)
 | 0, _, _, _, _, _, _, _, _ => none
 | k + 1, x1, x5, x6, x7, x34, x1000, x1001, x1002 => if x34 = true then (Zab.l0 k x1 x5 (wrap64 (x6 - 1)) x1000 x1001 x1002) else ((Zac.f x1000 x1001 x1002 (wrap64 ((wrap64 ((x5.length : Int) - x7)) - x1))).bind fun bt444 => ((Zat.f x1000 bt444.2.1 bt444.2.2 12).bind fun bt447 => (if bt447.1 = true then ((Zac.f x1000 bt447.2.1 bt447.2.2 (x5.length : Int)).bind fun bt450 => (if bt444.1 = bt450.1 then (Zab.l0 k x1 x5 (wrap64 (x6 - 1)) x1000 bt450.2.1 bt450.2.2) else (if 0 ≤ bt444.1 then (if bt444.1 < (x5.length : Int) then (if (rd x5 bt444.1) = 0 then (if 0 ≤ bt450.1 then (if bt450.1 < (x5.length : Int) then (if (rd x5 bt450.1) = 0 then (Zab.l0 k x1 ((x5.set (bt444.1 : Int).toNat x7).set (bt450.1 : Int).toNat x7) (wrap64 (x6 - 1)) x1000 bt450.2.1 bt450.2.2) else (Zab.l0 k x1 x5 (wrap64 (x6 - 1)) x1000 bt450.2.1 bt450.2.2)) else (none)) else (none)) else (Zab.l0 k x1 x5 (wrap64 (x6 - 1)) x1000 bt450.2.1 bt450.2.2)) else (none)) else (none)))) else (if bt444.1 = (wrap64 ((wrap64 (bt444.1 + x7)) + x1)) then (Zab.l0 k x1 x5 (wrap64 (x6 - 1)) x1000 bt447.2.1 bt447.2.2) else (if 0 ≤ bt444.1 then (if bt444.1 < (x5.length : Int) then (if (rd x5 bt444.1) = 0 then (if 0 ≤ (wrap64 ((wrap64 (bt444.1 + x7)) + x1)) then (if (wrap64 ((wrap64 (bt444.1 + x7)) + x1)) < (x5.length : Int) then (if (rd x5 (wrap64 ((wrap64 (bt444.1 + x7)) + x1))) = 0 then (Zab.l0 k x1 ((x5.set (bt444.1 : Int).toNat x7).set ((wrap64 ((wrap64 (bt444.1 + x7)) + x1)) : Int).toNat x7) (wrap64 (x6 - 1)) x1000 bt447.2.1 bt447.2.2) else (Zab.l0 k x1 x5 (wrap64 (x6 - 1)) x1000 bt447.2.1 bt447.2.2)) else (none)) else (none)) else (Zab.l0 k x1 x5 (wrap64 (x6 - 1)) x1000 bt447.2.1 bt447.2.2)) else (none)) else (none))))))
end
def Zab.f (k : Nat) (s0_0 : List Int) (s0_1 : Int) (s0_2 : Int) (a1 : Int) : Option (List Int × Int × Int) := (Zac.f s0_0 s0_1 s0_2 15).bind fun bt431 => (if 0 ≤ bt431.1 then (if (bt431.1 : Int).toNat ≤ 35184372088832 then ((Zac.f s0_0 bt431.2.1 bt431.2.2 6).bind fun bt437 => (Zab.l0 k a1 (List.replicate (bt431.1 : Int).toNat 0) (wrap64 (1 + bt437.1)) s0_0 bt437.2.1 bt437.2.2)) else (none)) else (none))
theorem Zab.mono_l : ∀ k, (∀ y0 y1 y2 y3 y4 y5, LeO (Zab.l0 k y0 y1 y2 y3 y4 y5) (Zab.l0 (k + 1) y0 y1 y2 y3 y4 y5)) ∧ (∀ y0 y1 y2 y3 y4 y5 y6 y7, LeO (Zab.j1 k y0 y1 y2 y3 y4 y5 y6 y7) (Zab.j1 (k + 1) y0 y1 y2 y3 y4 y5 y6 y7))
 | 0 => ⟨fun _ _ _ _ _ _ r h => by simp [Zab.l0] at h, fun _ _ _ _ _ _ _ _ r h => by simp [Zab.j1] at h⟩
 | k + 1 => by
  obtain ⟨ih0, ih1⟩ := Zab.mono_l k
  refine ⟨?_, ?_⟩
  ·intro y0 y1 y2 y3 y4 y5
   unfold Zab.l0
   repeat' (first | (with_reducible first | exact ih1 _ _ _ _ _ _ _ _ | exact Zaz.mono _ _ _ | exact LeO.refl _ | exact LeO.none _ | refine LeO.ite ?_ ?_ | refine LeO.bind ?_ (fun _ => ?_)) | exact ih1 _ _ _ _ _ _ _ _ | exact Zaz.mono _ _ _ | exact LeO.none _ | refine LeO.ite ?_ ?_ | refine LeO.bind ?_ (fun _ => ?_))
  ·intro y0 y1 y2 y3 y4 y5 y6 y7
   unfold Zab.j1
   repeat' (first | (with_reducible first | exact ih0 _ _ _ _ _ _ | exact LeO.refl _ | exact LeO.none _ | refine LeO.ite ?_ ?_ | refine LeO.bind ?_ (fun _ => ?_)) | exact ih0 _ _ _ _ _ _ | exact LeO.none _ | refine LeO.ite ?_ ?_ | refine LeO.bind ?_ (fun _ => ?_))
theorem Zab.mono : ∀ a0 a1 a2 a3 k, LeO (Zab.f k a0 a1 a2 a3) (Zab.f (k + 1) a0 a1 a2 a3) := by
 intro a0 a1 a2 a3 k
 obtain ⟨ih0, ih1⟩ := Zab.mono_l k
 unfold Zab.f
 repeat' (first | (with_reducible first | exact ih0 _ _ _ _ _ _ | exact LeO.refl _ | exact LeO.none _ | refine LeO.ite ?_ ?_ | refine LeO.bind ?_ (fun _ => ?_)) | exact ih0 _ _ _ _ _ _ | exact LeO.none _ | refine LeO.ite ?_ ?_ | refine LeO.bind ?_ (fun _ => ?_))
theorem Zab.calls (k : Nat) (g : Nat) (s0_0 : List Int) (s0_1 : Int) (s0_2 : Int) (a1 : Int) (r1 : List Int) (r2 : Int) (r3 : Int) (w0 w : World) (hI : IsS48 w0 w g s0_0 s0_1 s0_2) (hB : Below w0.heap.size w0 w) (h : Zab.f k s0_0 s0_1 s0_2 a1 = some (r1, r2, r3)) :
  Calls Try.prog 86 #[.pointer (some ⟨g, 0, none⟩), .int .i64 a1] w fun e w' => ∃ v0_ : Value, e = .returned (v0_) ∧ Kd.R (Kd.int .i64) 3 w' w.heap.size (fun _ => True) v0_ r1 ∧ IsS48 w0 w' g s0_0 r2 r3 ∧ Below w0.heap.size w0 w' ∧ KeepBut w w' g none := by
 have HI0 := Aside0.mk hI
 have HK := Aside0.mk (KeepBut.refl w g none)
 have HL := Aside0.mk hB.size
 clear hI
 have HW0 := Aside0.mk hB.size
 have HB := Aside0.mk hB
 clear hB
 have H := h
 unfold Zab.f at H
 clear h
 replace H := Option.bind_eq_some_iff.mp H
 obtain ⟨⟨t431, t432, t433⟩, A30, H⟩ := H
 replace H : (if 0 ≤ t431 then (if (t431 : Int).toNat ≤ 35184372088832 then ((Zac.f s0_0 t432 t433 6).bind fun bt437 => (Zab.l0 k a1 (List.replicate (t431 : Int).toNat 0) (wrap64 (1 + bt437.1)) s0_0 bt437.2.1 bt437.2.2)) else (none)) else (none)) = some (r1, r2, r3) := H
 have A3 := Aside0.mk A30
 clear A30
 obtain ⟨c4b0, c4b1, H⟩ := in2_ H
 obtain ⟨c5b0, c5b1, H⟩ := in2_ H
 obtain ⟨y434, hy434⟩ : ∃ y_ : List Int, y_ = (List.replicate (t431 : Int).toNat 0) := ⟨_, rfl⟩
 replace H : ((Zac.f s0_0 t432 t433 6).bind fun bt437 => (Zab.l0 k a1 y434 (wrap64 (1 + bt437.1)) s0_0 bt437.2.1 bt437.2.2)) = some (r1, r2, r3) := by first | (rw [hy434]; with_reducible exact H) | (have H2_ := (Option.bind_some _ _).symm.trans H; rw [hy434]; with_reducible exact H2_) | (have H2_ := (Option.bind_some _ _).symm.trans H; with_reducible exact H2_) | with_reducible exact H | (rw [hy434]; exact H) | exact H
 have Ny434 := Aside0.mk hy434
 clear hy434
 replace H := Option.bind_eq_some_iff.mp H
 obtain ⟨⟨t437, t438, t439⟩, A60, H⟩ := H
 replace H : (Zab.l0 k a1 y434 (wrap64 (1 + t437)) s0_0 t438 t439) = some (r1, r2, r3) := H
 have A6 := Aside0.mk A60
 clear A60
 have H' := Aside0.mk H
 clear H
 go_enter Try.func86, Try.ntmps86
 go_wp2_with (first | ((with_reducible refine gate_callee (f := 42) rfl ?_); refine goesA (some 11) Try.func42 #[.pointer (some ⟨g, 0, none⟩), .int .i64 15] ?_; (with_reducible refine (Zac.calls g s0_0 s0_1 s0_2 15 t431 t432 t433 w0 _ ?side1 ?side2 A3.out).mono ?_); (case side1 => exact IsS48.at HI0); (case side2 => exact atB HB); rintro e w7 ⟨rfl, hi, hb, hk⟩; refine ⟨_, rfl, ?_⟩; replace HK := upK HK hk; replace HB := Aside0.mk (hb); replace HI0 := Aside0.mk (hi)) | ((with_reducible refine gate_dst (N := 12) rfl ?_); (try (refine gate_guard (by rfl) ?_; dsimp only)); refine Kd.R_make (Kd.int .i64) _ 3 rfl (N := 12) rfl 24 _ _ rfl t431 rfl rfl Try.underlying24 (.int .i64 0) 8 info3 rfl (by decide) (by omega) 0 (ok := fun _ => True) (okp := fun _ => True) rfl (fun _ hk => hk) trivial (of_decide_eq_true (by first | (with_reducible assumption) | assumption)) (Nat.le_trans (Nat.mul_le_mul_right _ (of_decide_eq_true (by first | (with_reducible assumption) | assumption) : t431.toNat ≤ 35184372088832)) (by omega)) (Below.refl _ _) (Nat.le_refl _) ?_; intro v435 w8 ho9 hb hg_ hnew_; clear hg_ hnew_; (first | rw [← Ny434.out] at ho9 | (simp only [Int.reduceToNat] at ho9; rw [← Ny434.out] at ho9)); have HO436 := lowKR ho9 HK; replace HI0 := IsS48.up HI0 hb; replace HK := upKB HK hb; replace HB := upB HB hb; clear hb ho9) | ((with_reducible refine gate_callee (f := 42) rfl ?_); refine goesA (some 14) Try.func42 #[.pointer (some ⟨g, 0, none⟩), .int .i64 6] ?_; (with_reducible refine (Zac.calls g s0_0 t432 t433 6 t437 t438 t439 w0 _ ?side1 ?side2 A6.out).mono ?_); (case side1 => exact IsS48.at HI0); (case side2 => exact atB HB); rintro e w10 ⟨rfl, hi, hb, hk⟩; refine ⟨_, rfl, ?_⟩; replace HO436 := IsS48.keepR HI0 HO436 hk; replace HK := upK HK hk; replace HB := Aside0.mk (hb); replace HI0 := Aside0.mk (hi)))
 go_loopg [6] k (fun kq v6 w' => ∃ (x5_1 : List Int) (x6_1 : Int) (x1001_1 : Int) (x1002_1 : Int), v6 = .int .i64 x6_1 ∧ Aside0 (Zab.l0 kq a1 x5_1 x6_1 s0_0 x1001_1 x1002_1 = some (r1, r2, r3)) ∧ Aside0 (kq ≤ k) ∧ Aside0 (Kd.R (Kd.int .i64) 3 w' w.heap.size (fun _ => True) v435 x5_1) ∧ Aside0 (IsS48 w0 w' g s0_0 x1001_1 x1002_1) ∧ Aside0 (KeepBut w w' g none) ∧ Aside0 (Below w0.heap.size w0 w'))
 case atStart => exact ⟨(y434), (wrap64 (1 + t437)), (t438), (t439), eqd, H', ⟨Nat.le_refl _⟩, ⟨atR HO436⟩, ⟨IsS48.at HI0⟩, ⟨atK HK⟩, ⟨atB HB⟩⟩
 case round =>
  clear H'
  try clear c4b0
  try clear c4b1
  try clear c5b0
  try clear c5b1
  obtain ⟨x5_1, x6_1, x1001_1, x1002_1, rfl, HA, HK1, HO_5, HI0, HK, HB⟩ := hrel
  cases gk with
  | zero => exact absurd HA.out (by simp [Zab.l0])
  | succ k1 =>
   have H := HA.out
   clear HA
   simp only [Zab.l0] at H
   by_cases c11 : x6_1 > 0
   rotate_left
   ·rw [if_neg c11] at H
    have c11b0 := decide_eq_false c11
    clear c11
    simp only [Option.some.injEq, Prod.mk.injEq] at H
    obtain ⟨rfl, rfl, rfl⟩ := H
    go_wp2
    go_ret
    exact ⟨_, eqr, atR HO_5, IsS48.at HI0, atB HB, atK HK⟩
   rw [if_pos c11] at H
   have c11b0 := decide_eq_true c11
   clear c11
   replace H := Option.bind_eq_some_iff.mp H
   obtain ⟨⟨t440, t441, t442⟩, A120, H⟩ := H
   replace H : ((Zaz.f k1 x5_1 (wrap64 (1 + t440))).bind fun t443 => (if t443 = true then (Zab.j1 k1 a1 x5_1 x6_1 (wrap64 (1 + t440)) true s0_0 t441 t442) else (Zab.j1 k1 a1 x5_1 x6_1 (wrap64 (1 + t440)) (decide ((x5_1.length : Int) < (wrap64 ((wrap64 ((wrap64 (1 + t440)) + a1)) + 1)))) s0_0 t441 t442))) = some (r1, r2, r3) := H
   have A12 := Aside0.mk A120
   clear A120
   have HC13 := Aside0.mk H
   clear H
   go_upto_region 6 with (first | ((with_reducible refine gate_callee (f := 42) rfl ?_); refine goesA (some 21) Try.func42 #[.pointer (some ⟨g, 0, none⟩), .int .i64 8] ?_; (with_reducible refine (Zac.calls g s0_0 x1001_1 x1002_1 8 t440 t441 t442 w0 _ ?side1 ?side2 A12.out).mono ?_); (case side1 => exact IsS48.at HI0); (case side2 => exact atB HB); rintro e w14 ⟨rfl, hi, hb, hk⟩; refine ⟨_, rfl, ?_⟩; replace HO_5 := IsS48.keepR HI0 HO_5 hk; replace HK := upK HK hk; replace HB := Aside0.mk (hb); replace HI0 := Aside0.mk (hi)))
   (try simp only [Act.put, List.setIfInBounds_toArray, List.set_cons_zero, List.set_cons_succ])
   go_cut [34] (fun v34 wc => ∃ (kq : Nat) (x34_12 : Bool), v34 = .bool x34_12 ∧ Aside0 (Zab.j1 kq a1 x5_1 x6_1 (wrap64 (1 + t440)) x34_12 s0_0 t441 t442 = some (r1, r2, r3)) ∧ Aside0 (kq ≤ k1) ∧ Aside0 (Kd.R (Kd.int .i64) 3 wc w.heap.size (fun _ => True) v435 x5_1) ∧ Aside0 (IsS48 w0 wc g s0_0 t441 t442) ∧ Aside0 (KeepBut w wc g none) ∧ Aside0 (Below w0.heap.size w0 wc))
   case first =>
    have H := HC13.out
    clear HC13
    obtain ⟨t443, A15, H⟩ := bs_ H
    (try dsimp only at H)
    by_cases c16 : t443 = true
    rotate_left
    ·replace c16 := Bool.eq_false_iff.mpr c16
     subst c16
     replace H := if_ H
     have H' := Aside0.mk H
     clear H
     obtain ⟨Ao18, co18, eo18⟩ := Kd.R_slice HO_5.out
     subst eo18
     go_wp2_with (first | ((with_reducible refine gate_callee (f := 68) rfl ?_); refine goesA (some 25) Try.func68 #[.slice Ao18 x5_1.length co18, .int .i64 (wrap64 (1 + t440))] ?_; (with_reducible refine (Zaz.calls k1 _ _ x5_1 (wrap64 (1 + t440)) false _ ?side1 ?side2 A15.out).mono ?_); (case side1 => exact atRC HO_5); (case side2 => exact (Kd.R_reads' HO_5.out).2.1); rintro e w' ⟨rfl, ⟨nd, rfl⟩⟩; refine ⟨_, rfl, ?_⟩))
     go_meet
     case rel => exact ⟨_, (decide ((x5_1.length : Int) < (wrap64 ((wrap64 ((wrap64 (1 + t440)) + a1)) + 1)))), eqd, H', ⟨by have := HK1.out; first | omega | exact Nat.le_refl _⟩, ⟨atR HO_5⟩, ⟨IsS48.at HI0⟩, ⟨atK HK⟩, ⟨atB HB⟩⟩
    subst c16
    replace H := it_ H
    have H' := Aside0.mk H
    clear H
    obtain ⟨Ao17, co17, eo17⟩ := Kd.R_slice HO_5.out
    subst eo17
    go_wp2_with (first | ((with_reducible refine gate_callee (f := 68) rfl ?_); refine goesA (some 25) Try.func68 #[.slice Ao17 x5_1.length co17, .int .i64 (wrap64 (1 + t440))] ?_; (with_reducible refine (Zaz.calls k1 _ _ x5_1 (wrap64 (1 + t440)) true _ ?side1 ?side2 A15.out).mono ?_); (case side1 => exact atRC HO_5); (case side2 => exact (Kd.R_reads' HO_5.out).2.1); rintro e w' ⟨rfl, ⟨nd, rfl⟩⟩; refine ⟨_, rfl, ?_⟩))
    go_meet
    case rel => exact ⟨_, (true), eqd, H', ⟨by have := HK1.out; first | omega | exact Nat.le_refl _⟩, ⟨atR HO_5⟩, ⟨IsS48.at HI0⟩, ⟨atK HK⟩, ⟨atB HB⟩⟩
   case rest =>
    clear HC13
    try clear c11b0
    obtain ⟨kq, x34_12, rfl, HA, HJ12, HO_5, HI0, HK, HB⟩ := hcut
    cases kq with
    | zero => exact absurd HA.out (by simp [Zab.j1])
    | succ kj12 =>
     have H := HA.out
     clear HA
     simp only [Zab.j1] at H
     by_cases c19 : x34_12 = true
     ·subst c19
      replace H := it_ H
      have H' := Aside0.mk H
      clear H
      go_wp2
      go_roundg kj12
      case measure => have := HK1.out; have := HJ12.out; omega
      case rel => exact ⟨(x5_1), (wrap64 (x6_1 - 1)), (t441), (t442), eqd, H', ⟨by have := HK1.out; have := HJ12.out; omega⟩, ⟨atR HO_5⟩, ⟨IsS48.at HI0⟩, ⟨atK HK⟩, ⟨atB HB⟩⟩
     replace c19 := Bool.eq_false_iff.mpr c19
     subst c19
     replace H := if_ H
     replace H := Option.bind_eq_some_iff.mp H
     obtain ⟨⟨t444, t445, t446⟩, A200, H⟩ := H
     replace H : ((Zat.f s0_0 t445 t446 12).bind fun bt447 => (if bt447.1 = true then ((Zac.f s0_0 bt447.2.1 bt447.2.2 (x5_1.length : Int)).bind fun bt450 => (if t444 = bt450.1 then (Zab.l0 kj12 a1 x5_1 (wrap64 (x6_1 - 1)) s0_0 bt450.2.1 bt450.2.2) else (if 0 ≤ t444 then (if t444 < (x5_1.length : Int) then (if (rd x5_1 t444) = 0 then (if 0 ≤ bt450.1 then (if bt450.1 < (x5_1.length : Int) then (if (rd x5_1 bt450.1) = 0 then (Zab.l0 kj12 a1 ((x5_1.set (t444 : Int).toNat (wrap64 (1 + t440))).set (bt450.1 : Int).toNat (wrap64 (1 + t440))) (wrap64 (x6_1 - 1)) s0_0 bt450.2.1 bt450.2.2) else (Zab.l0 kj12 a1 x5_1 (wrap64 (x6_1 - 1)) s0_0 bt450.2.1 bt450.2.2)) else (none)) else (none)) else (Zab.l0 kj12 a1 x5_1 (wrap64 (x6_1 - 1)) s0_0 bt450.2.1 bt450.2.2)) else (none)) else (none)))) else (if t444 = (wrap64 ((wrap64 (t444 + (wrap64 (1 + t440)))) + a1)) then (Zab.l0 kj12 a1 x5_1 (wrap64 (x6_1 - 1)) s0_0 bt447.2.1 bt447.2.2) else (if 0 ≤ t444 then (if t444 < (x5_1.length : Int) then (if (rd x5_1 t444) = 0 then (if 0 ≤ (wrap64 ((wrap64 (t444 + (wrap64 (1 + t440)))) + a1)) then (if (wrap64 ((wrap64 (t444 + (wrap64 (1 + t440)))) + a1)) < (x5_1.length : Int) then (if (rd x5_1 (wrap64 ((wrap64 (t444 + (wrap64 (1 + t440)))) + a1))) = 0 then (Zab.l0 kj12 a1 ((x5_1.set (t444 : Int).toNat (wrap64 (1 + t440))).set ((wrap64 ((wrap64 (t444 + (wrap64 (1 + t440)))) + a1)) : Int).toNat (wrap64 (1 + t440))) (wrap64 (x6_1 - 1)) s0_0 bt447.2.1 bt447.2.2) else (Zab.l0 kj12 a1 x5_1 (wrap64 (x6_1 - 1)) s0_0 bt447.2.1 bt447.2.2)) else (none)) else (none)) else (Zab.l0 kj12 a1 x5_1 (wrap64 (x6_1 - 1)) s0_0 bt447.2.1 bt447.2.2)) else (none)) else (none))))) = some (r1, r2, r3) := H
     have A20 := Aside0.mk A200
     clear A200
     replace H := Option.bind_eq_some_iff.mp H
     obtain ⟨⟨t447, t448, t449⟩, A210, H⟩ := H
     replace H : (if t447 = true then ((Zac.f s0_0 t448 t449 (x5_1.length : Int)).bind fun bt450 => (if t444 = bt450.1 then (Zab.l0 kj12 a1 x5_1 (wrap64 (x6_1 - 1)) s0_0 bt450.2.1 bt450.2.2) else (if 0 ≤ t444 then (if t444 < (x5_1.length : Int) then (if (rd x5_1 t444) = 0 then (if 0 ≤ bt450.1 then (if bt450.1 < (x5_1.length : Int) then (if (rd x5_1 bt450.1) = 0 then (Zab.l0 kj12 a1 ((x5_1.set (t444 : Int).toNat (wrap64 (1 + t440))).set (bt450.1 : Int).toNat (wrap64 (1 + t440))) (wrap64 (x6_1 - 1)) s0_0 bt450.2.1 bt450.2.2) else (Zab.l0 kj12 a1 x5_1 (wrap64 (x6_1 - 1)) s0_0 bt450.2.1 bt450.2.2)) else (none)) else (none)) else (Zab.l0 kj12 a1 x5_1 (wrap64 (x6_1 - 1)) s0_0 bt450.2.1 bt450.2.2)) else (none)) else (none)))) else (if t444 = (wrap64 ((wrap64 (t444 + (wrap64 (1 + t440)))) + a1)) then (Zab.l0 kj12 a1 x5_1 (wrap64 (x6_1 - 1)) s0_0 t448 t449) else (if 0 ≤ t444 then (if t444 < (x5_1.length : Int) then (if (rd x5_1 t444) = 0 then (if 0 ≤ (wrap64 ((wrap64 (t444 + (wrap64 (1 + t440)))) + a1)) then (if (wrap64 ((wrap64 (t444 + (wrap64 (1 + t440)))) + a1)) < (x5_1.length : Int) then (if (rd x5_1 (wrap64 ((wrap64 (t444 + (wrap64 (1 + t440)))) + a1))) = 0 then (Zab.l0 kj12 a1 ((x5_1.set (t444 : Int).toNat (wrap64 (1 + t440))).set ((wrap64 ((wrap64 (t444 + (wrap64 (1 + t440)))) + a1)) : Int).toNat (wrap64 (1 + t440))) (wrap64 (x6_1 - 1)) s0_0 t448 t449) else (Zab.l0 kj12 a1 x5_1 (wrap64 (x6_1 - 1)) s0_0 t448 t449)) else (none)) else (none)) else (Zab.l0 kj12 a1 x5_1 (wrap64 (x6_1 - 1)) s0_0 t448 t449)) else (none)) else (none)))) = some (r1, r2, r3) := H
     have A21 := Aside0.mk A210
     clear A210
     by_cases c22 : t447 = true
     ·subst c22
      replace H := it_ H
      replace H := Option.bind_eq_some_iff.mp H
      obtain ⟨⟨t450, t451, t452⟩, A230, H⟩ := H
      replace H : (if t444 = t450 then (Zab.l0 kj12 a1 x5_1 (wrap64 (x6_1 - 1)) s0_0 t451 t452) else (if 0 ≤ t444 then (if t444 < (x5_1.length : Int) then (if (rd x5_1 t444) = 0 then (if 0 ≤ t450 then (if t450 < (x5_1.length : Int) then (if (rd x5_1 t450) = 0 then (Zab.l0 kj12 a1 ((x5_1.set (t444 : Int).toNat (wrap64 (1 + t440))).set (t450 : Int).toNat (wrap64 (1 + t440))) (wrap64 (x6_1 - 1)) s0_0 t451 t452) else (Zab.l0 kj12 a1 x5_1 (wrap64 (x6_1 - 1)) s0_0 t451 t452)) else (none)) else (none)) else (Zab.l0 kj12 a1 x5_1 (wrap64 (x6_1 - 1)) s0_0 t451 t452)) else (none)) else (none))) = some (r1, r2, r3) := H
      have A23 := Aside0.mk A230
      clear A230
      by_cases c24 : t444 = t450
      ·rw [if_pos c24] at H
       have c24b0 : (t444 == t450) = true := beq_iff_eq.mpr c24
       have c24b1 : (t444 != t450) = false := bne_eq_false_iff_eq.mpr c24
       clear c24
       have H' := Aside0.mk H
       clear H
       obtain ⟨Ao25, co25, eo25⟩ := Kd.R_slice HO_5.out
       subst eo25
       go_wp2_with (first | ((with_reducible refine gate_callee (f := 42) rfl ?_); refine goesA (some 42) Try.func42 #[.pointer (some ⟨g, 0, none⟩), .int .i64 (wrap64 ((wrap64 ((x5_1.length : Int) - (wrap64 (1 + t440)))) - a1))] ?_; (with_reducible refine (Zac.calls g s0_0 t441 t442 (wrap64 ((wrap64 ((x5_1.length : Int) - (wrap64 (1 + t440)))) - a1)) t444 t445 t446 w0 _ ?side1 ?side2 A20.out).mono ?_); (case side1 => exact IsS48.at HI0); (case side2 => exact atB HB); rintro e w26 ⟨rfl, hi, hb, hk⟩; refine ⟨_, rfl, ?_⟩; replace HO_5 := IsS48.keepR HI0 HO_5 hk; replace HK := upK HK hk; replace HB := Aside0.mk (hb); replace HI0 := Aside0.mk (hi)) | ((with_reducible refine gate_callee (f := 47) rfl ?_); refine goesA (some 49) Try.func47 #[.pointer (some ⟨g, 0, none⟩), .int .i64 12] ?_; (with_reducible refine (Zat.calls g s0_0 t445 t446 12 true t448 t449 w0 _ ?side1 ?side2 A21.out).mono ?_); (case side1 => exact IsS48.at HI0); (case side2 => exact atB HB); rintro e w27 ⟨rfl, hi, hb, hk⟩; refine ⟨_, rfl, ?_⟩; replace HO_5 := IsS48.keepR HI0 HO_5 hk; replace HK := upK HK hk; replace HB := Aside0.mk (hb); replace HI0 := Aside0.mk (hi)) | ((with_reducible refine gate_callee (f := 42) rfl ?_); refine goesA (some 53) Try.func42 #[.pointer (some ⟨g, 0, none⟩), .int .i64 (x5_1.length : Int)] ?_; (with_reducible refine (Zac.calls g s0_0 t448 t449 (x5_1.length : Int) t450 t451 t452 w0 _ ?side1 ?side2 A23.out).mono ?_); (case side1 => exact IsS48.at HI0); (case side2 => exact atB HB); rintro e w28 ⟨rfl, hi, hb, hk⟩; refine ⟨_, rfl, ?_⟩; replace HO_5 := IsS48.keepR HI0 HO_5 hk; replace HK := upK HK hk; replace HB := Aside0.mk (hb); replace HI0 := Aside0.mk (hi)))
       go_roundg kj12
       case measure => have := HK1.out; have := HJ12.out; omega
       case rel => exact ⟨(x5_1), (wrap64 (x6_1 - 1)), (t451), (t452), eqd, H', ⟨by have := HK1.out; have := HJ12.out; omega⟩, ⟨atR HO_5⟩, ⟨IsS48.at HI0⟩, ⟨atK HK⟩, ⟨atB HB⟩⟩
      rw [if_neg c24] at H
      have c24b0 : (t444 == t450) = false := beq_eq_false_iff_ne.mpr c24
      have c24b1 : (t444 != t450) = true := bne_iff_ne.mpr c24
      obtain ⟨c29b0, H⟩ := in_ H
      obtain ⟨c30b0, H⟩ := in_ H
      by_cases c31 : (rd x5_1 t444) = 0
      rotate_left
      ·rw [if_neg c31] at H
       have c31b0 : ((rd x5_1 t444) == 0) = false := beq_eq_false_iff_ne.mpr c31
       have c31b1 : ((rd x5_1 t444) != 0) = true := bne_iff_ne.mpr c31
       have H' := Aside0.mk H
       clear H
       obtain ⟨Ao49, co49, eo49⟩ := Kd.R_slice HO_5.out
       subst eo49
       go_wp2_with (first | ((with_reducible refine gate_callee (f := 42) rfl ?_); refine goesA (some 42) Try.func42 #[.pointer (some ⟨g, 0, none⟩), .int .i64 (wrap64 ((wrap64 ((x5_1.length : Int) - (wrap64 (1 + t440)))) - a1))] ?_; (with_reducible refine (Zac.calls g s0_0 t441 t442 (wrap64 ((wrap64 ((x5_1.length : Int) - (wrap64 (1 + t440)))) - a1)) t444 t445 t446 w0 _ ?side1 ?side2 A20.out).mono ?_); (case side1 => exact IsS48.at HI0); (case side2 => exact atB HB); rintro e w50 ⟨rfl, hi, hb, hk⟩; refine ⟨_, rfl, ?_⟩; replace HO_5 := IsS48.keepR HI0 HO_5 hk; replace HK := upK HK hk; replace HB := Aside0.mk (hb); replace HI0 := Aside0.mk (hi)) | ((with_reducible refine gate_callee (f := 47) rfl ?_); refine goesA (some 49) Try.func47 #[.pointer (some ⟨g, 0, none⟩), .int .i64 12] ?_; (with_reducible refine (Zat.calls g s0_0 t445 t446 12 true t448 t449 w0 _ ?side1 ?side2 A21.out).mono ?_); (case side1 => exact IsS48.at HI0); (case side2 => exact atB HB); rintro e w51 ⟨rfl, hi, hb, hk⟩; refine ⟨_, rfl, ?_⟩; replace HO_5 := IsS48.keepR HI0 HO_5 hk; replace HK := upK HK hk; replace HB := Aside0.mk (hb); replace HI0 := Aside0.mk (hi)) | ((with_reducible refine gate_callee (f := 42) rfl ?_); refine goesA (some 53) Try.func42 #[.pointer (some ⟨g, 0, none⟩), .int .i64 (x5_1.length : Int)] ?_; (with_reducible refine (Zac.calls g s0_0 t448 t449 (x5_1.length : Int) t450 t451 t452 w0 _ ?side1 ?side2 A23.out).mono ?_); (case side1 => exact IsS48.at HI0); (case side2 => exact atB HB); rintro e w52 ⟨rfl, hi, hb, hk⟩; refine ⟨_, rfl, ?_⟩; replace HO_5 := IsS48.keepR HI0 HO_5 hk; replace HK := upK HK hk; replace HB := Aside0.mk (hb); replace HI0 := Aside0.mk (hi); have p453 : 0 ≤ (t444 : Int) := ofd; have q453 : t444 < (x5_1.length : Int) := ofd; obtain ⟨ad453, e453, hx453_0⟩ := Kd.at_int (Kd.R_reads' HO_5.out).2.2 t444 p453 q453; cases e453; replace p453 := eq_true p453; replace q453 := eq_true q453))
       go_roundg kj12
       case measure => have := HK1.out; have := HJ12.out; omega
       case rel => exact ⟨(x5_1), (wrap64 (x6_1 - 1)), (t451), (t452), eqd, H', ⟨by have := HK1.out; have := HJ12.out; omega⟩, ⟨atR HO_5⟩, ⟨IsS48.at HI0⟩, ⟨atK HK⟩, ⟨atB HB⟩⟩
      rw [if_pos c31] at H
      have c31b0 : ((rd x5_1 t444) == 0) = true := beq_iff_eq.mpr c31
      have c31b1 : ((rd x5_1 t444) != 0) = false := bne_eq_false_iff_eq.mpr c31
      clear c31
      obtain ⟨c32b0, H⟩ := in_ H
      obtain ⟨c33b0, H⟩ := in_ H
      by_cases c34 : (rd x5_1 t450) = 0
      rotate_left
      ·rw [if_neg c34] at H
       have c34b0 : ((rd x5_1 t450) == 0) = false := beq_eq_false_iff_ne.mpr c34
       have c34b1 : ((rd x5_1 t450) != 0) = true := bne_iff_ne.mpr c34
       have H' := Aside0.mk H
       clear H
       obtain ⟨Ao45, co45, eo45⟩ := Kd.R_slice HO_5.out
       subst eo45
       go_wp2_with (first | ((with_reducible refine gate_callee (f := 42) rfl ?_); refine goesA (some 42) Try.func42 #[.pointer (some ⟨g, 0, none⟩), .int .i64 (wrap64 ((wrap64 ((x5_1.length : Int) - (wrap64 (1 + t440)))) - a1))] ?_; (with_reducible refine (Zac.calls g s0_0 t441 t442 (wrap64 ((wrap64 ((x5_1.length : Int) - (wrap64 (1 + t440)))) - a1)) t444 t445 t446 w0 _ ?side1 ?side2 A20.out).mono ?_); (case side1 => exact IsS48.at HI0); (case side2 => exact atB HB); rintro e w46 ⟨rfl, hi, hb, hk⟩; refine ⟨_, rfl, ?_⟩; replace HO_5 := IsS48.keepR HI0 HO_5 hk; replace HK := upK HK hk; replace HB := Aside0.mk (hb); replace HI0 := Aside0.mk (hi)) | ((with_reducible refine gate_callee (f := 47) rfl ?_); refine goesA (some 49) Try.func47 #[.pointer (some ⟨g, 0, none⟩), .int .i64 12] ?_; (with_reducible refine (Zat.calls g s0_0 t445 t446 12 true t448 t449 w0 _ ?side1 ?side2 A21.out).mono ?_); (case side1 => exact IsS48.at HI0); (case side2 => exact atB HB); rintro e w47 ⟨rfl, hi, hb, hk⟩; refine ⟨_, rfl, ?_⟩; replace HO_5 := IsS48.keepR HI0 HO_5 hk; replace HK := upK HK hk; replace HB := Aside0.mk (hb); replace HI0 := Aside0.mk (hi)) | ((with_reducible refine gate_callee (f := 42) rfl ?_); refine goesA (some 53) Try.func42 #[.pointer (some ⟨g, 0, none⟩), .int .i64 (x5_1.length : Int)] ?_; (with_reducible refine (Zac.calls g s0_0 t448 t449 (x5_1.length : Int) t450 t451 t452 w0 _ ?side1 ?side2 A23.out).mono ?_); (case side1 => exact IsS48.at HI0); (case side2 => exact atB HB); rintro e w48 ⟨rfl, hi, hb, hk⟩; refine ⟨_, rfl, ?_⟩; replace HO_5 := IsS48.keepR HI0 HO_5 hk; replace HK := upK HK hk; replace HB := Aside0.mk (hb); replace HI0 := Aside0.mk (hi); have p453 : 0 ≤ (t444 : Int) := ofd; have q453 : t444 < (x5_1.length : Int) := ofd; obtain ⟨ad453, e453, hx453_0⟩ := Kd.at_int (Kd.R_reads' HO_5.out).2.2 t444 p453 q453; cases e453; replace p453 := eq_true p453; replace q453 := eq_true q453; have p454 : 0 ≤ (t450 : Int) := ofd; have q454 : t450 < (x5_1.length : Int) := ofd; obtain ⟨ad454, e454, hx454_0⟩ := Kd.at_int (Kd.R_reads' HO_5.out).2.2 t450 p454 q454; obtain rfl : ad453 = ad454 := (by injection e454); replace p454 := eq_true p454; replace q454 := eq_true q454))
       go_roundg kj12
       case measure => have := HK1.out; have := HJ12.out; omega
       case rel => exact ⟨(x5_1), (wrap64 (x6_1 - 1)), (t451), (t452), eqd, H', ⟨by have := HK1.out; have := HJ12.out; omega⟩, ⟨atR HO_5⟩, ⟨IsS48.at HI0⟩, ⟨atK HK⟩, ⟨atB HB⟩⟩
      rw [if_pos c34] at H
      have c34b0 : ((rd x5_1 t450) == 0) = true := beq_iff_eq.mpr c34
      have c34b1 : ((rd x5_1 t450) != 0) = false := bne_eq_false_iff_eq.mpr c34
      clear c34
      obtain ⟨y455, hy455⟩ : ∃ y_ : List Int, y_ = (x5_1.set (t444 : Int).toNat (wrap64 (1 + t440))) := ⟨_, rfl⟩
      replace H : (Zab.l0 kj12 a1 (y455.set (t450 : Int).toNat (wrap64 (1 + t440))) (wrap64 (x6_1 - 1)) s0_0 t451 t452) = some (r1, r2, r3) := by first | (rw [hy455]; with_reducible exact H) | (have H2_ := (Option.bind_some _ _).symm.trans H; rw [hy455]; with_reducible exact H2_) | (have H2_ := (Option.bind_some _ _).symm.trans H; with_reducible exact H2_) | with_reducible exact H | (rw [hy455]; exact H) | exact H
      have Ny455 := Aside0.mk hy455
      clear hy455
      obtain ⟨y456, hy456⟩ : ∃ y_ : List Int, y_ = (y455.set (t450 : Int).toNat (wrap64 (1 + t440))) := ⟨_, rfl⟩
      replace H : (Zab.l0 kj12 a1 y456 (wrap64 (x6_1 - 1)) s0_0 t451 t452) = some (r1, r2, r3) := by first | (rw [hy456]; with_reducible exact H) | (have H2_ := (Option.bind_some _ _).symm.trans H; rw [hy456]; with_reducible exact H2_) | (have H2_ := (Option.bind_some _ _).symm.trans H; with_reducible exact H2_) | with_reducible exact H | (rw [hy456]; exact H) | exact H
      have Ny456 := Aside0.mk hy456
      clear hy456
      have H' := Aside0.mk H
      clear H
      obtain ⟨Ao37, co37, eo37⟩ := Kd.R_slice HO_5.out
      subst eo37
      go_wp2_with (first | ((with_reducible refine gate_callee (f := 42) rfl ?_); refine goesA (some 42) Try.func42 #[.pointer (some ⟨g, 0, none⟩), .int .i64 (wrap64 ((wrap64 ((x5_1.length : Int) - (wrap64 (1 + t440)))) - a1))] ?_; (with_reducible refine (Zac.calls g s0_0 t441 t442 (wrap64 ((wrap64 ((x5_1.length : Int) - (wrap64 (1 + t440)))) - a1)) t444 t445 t446 w0 _ ?side1 ?side2 A20.out).mono ?_); (case side1 => exact IsS48.at HI0); (case side2 => exact atB HB); rintro e w38 ⟨rfl, hi, hb, hk⟩; refine ⟨_, rfl, ?_⟩; replace HO_5 := IsS48.keepR HI0 HO_5 hk; replace HK := upK HK hk; replace HB := Aside0.mk (hb); replace HI0 := Aside0.mk (hi)) | ((with_reducible refine gate_callee (f := 47) rfl ?_); refine goesA (some 49) Try.func47 #[.pointer (some ⟨g, 0, none⟩), .int .i64 12] ?_; (with_reducible refine (Zat.calls g s0_0 t445 t446 12 true t448 t449 w0 _ ?side1 ?side2 A21.out).mono ?_); (case side1 => exact IsS48.at HI0); (case side2 => exact atB HB); rintro e w39 ⟨rfl, hi, hb, hk⟩; refine ⟨_, rfl, ?_⟩; replace HO_5 := IsS48.keepR HI0 HO_5 hk; replace HK := upK HK hk; replace HB := Aside0.mk (hb); replace HI0 := Aside0.mk (hi)) | ((with_reducible refine gate_callee (f := 42) rfl ?_); refine goesA (some 53) Try.func42 #[.pointer (some ⟨g, 0, none⟩), .int .i64 (x5_1.length : Int)] ?_; (with_reducible refine (Zac.calls g s0_0 t448 t449 (x5_1.length : Int) t450 t451 t452 w0 _ ?side1 ?side2 A23.out).mono ?_); (case side1 => exact IsS48.at HI0); (case side2 => exact atB HB); rintro e w40 ⟨rfl, hi, hb, hk⟩; refine ⟨_, rfl, ?_⟩; replace HO_5 := IsS48.keepR HI0 HO_5 hk; replace HK := upK HK hk; replace HB := Aside0.mk (hb); replace HI0 := Aside0.mk (hi); have p453 : 0 ≤ (t444 : Int) := ofd; have q453 : t444 < (x5_1.length : Int) := ofd; obtain ⟨ad453, e453, hx453_0⟩ := Kd.at_int (Kd.R_reads' HO_5.out).2.2 t444 p453 q453; cases e453; replace p453 := eq_true p453; replace q453 := eq_true q453; have p454 : 0 ≤ (t450 : Int) := ofd; have q454 : t450 < (x5_1.length : Int) := ofd; obtain ⟨ad454, e454, hx454_0⟩ := Kd.at_int (Kd.R_reads' HO_5.out).2.2 t450 p454 q454; obtain rfl : ad453 = ad454 := (by injection e454); replace p454 := eq_true p454; replace q454 := eq_true q454; have p35 : 0 ≤ (t444 : Int) := ofd; have q35 : (t444 : Int) < ((x5_1.length : Int) : Int) := ofd; obtain ⟨go35, co35, eo35, gb35, gl35, cl35, HG35⟩ := Kd.R_form HO_5.out (by omega); (first | cases eo35 | (injection eo35 with ea_ en_ ec_; (first | subst ea_ | (injection ea_ with ea_; subst ea_)); subst ec_; clear en_)); have GB35 := Aside0.mk gb35; have GG35 := Aside0.mk HG35; clear gb35 gl35 HG35; (first | simp only [add_plain] at hx453_0 | skip); (first | simp only [add_plain] at hx454_0 | skip); obtain ⟨hx35_0, hf35_0⟩ := Kd.R_celln 0 HO_5.out (t444 : Int) p35 q35; replace p35 := eq_true p35; replace q35 := eq_true q35; obtain ⟨hy41_, hz41_⟩ := Kd.R_celln 0 HO_5.out (t444 : Int) (of_decide_eq_true (by first | (with_reducible assumption) | assumption)) (of_decide_eq_true (by first | (with_reducible assumption) | assumption)); have HP41 := Kd.R_putg HO_5.out (t444 : Int) (wrap64 (1 + t440))) | ((with_reducible refine gate_store (t := 3) (p := 74) rfl ?_); refine store_event (t := 3) (p := 74) (v := ?vo_w42) (w1 := (w40.setCell ⟨go35, (t444 : Int).toNat, none⟩ (.int .i64 (wrap64 (1 + t440))))) ?hg ?ho ?hn ?hr ?_; (case ho => rfl); (case hg => rfl); (case hn => rfl); (case hr => first | (go_simp; done) | (go_simp; rfl)); intro w42 hw; have hg : w40.grownBy w42 (some go35) := (by rw [hw]; exact HP41.2); have hp_ : Kd.R (Kd.int .i64) 3 w42 w.heap.size (fun _ => True) (.slice (some ⟨go35, 0, none⟩) x5_1.length co37) y455 := (by rw [hw, Ny455.out]; exact HP41.1); clear HP41; replace HI0 := Aside0.mk (IsS48.grown (IsS48.at HI0) hg (IsS48.own_ne HI0.out HO_5.out (by decide))); replace HB := Aside0.mk ((by rw [hw]; exact below_set (HB.out) (Nat.le_trans HL.out GB35.out) : Below w0.heap.size w0 w42)); replace HK := Aside0.mk (KeepBut.trans (atK HK) (KeepBut.of_grown hg g) (Kd.R_base2 HO_5.out)); replace HO_5 := Aside0.mk (hp_); clear hg hw hp_; have p36 : 0 ≤ (t450 : Int) := ofd; have q36 : (t450 : Int) < ((x5_1.length : Int) : Int) := ofd; obtain ⟨hx36_0, hf36_0⟩ := Kd.R_celln 0 HO_5.out (t450 : Int) p36 q36; replace p36 := eq_true p36; replace q36 := eq_true q36; obtain ⟨hy43_, hz43_⟩ := Kd.R_celln 0 HO_5.out (t450 : Int) (of_decide_eq_true (by first | (with_reducible assumption) | assumption)) (of_decide_eq_true (by first | (with_reducible assumption) | assumption)); have HP43 := Kd.R_putg HO_5.out (t450 : Int) (wrap64 (1 + t440))) | ((with_reducible refine gate_store (t := 3) (p := 78) rfl ?_); refine store_event (t := 3) (p := 78) (v := ?vo_w44) (w1 := (w42.setCell ⟨go35, (t450 : Int).toNat, none⟩ (.int .i64 (wrap64 (1 + t440))))) ?hg ?ho ?hn ?hr ?_; (case ho => rfl); (case hg => rfl); (case hn => rfl); (case hr => first | (go_simp; done) | (go_simp; rfl)); intro w44 hw; have hg : w42.grownBy w44 (some go35) := (by rw [hw]; exact HP43.2); have hp_ : Kd.R (Kd.int .i64) 3 w44 w.heap.size (fun _ => True) (.slice (some ⟨go35, 0, none⟩) x5_1.length co37) y456 := (by rw [hw, Ny456.out]; exact HP43.1); clear HP43; replace HI0 := Aside0.mk (IsS48.grown (IsS48.at HI0) hg (IsS48.own_ne HI0.out HO_5.out (by decide))); replace HB := Aside0.mk ((by rw [hw]; exact below_set (HB.out) (Nat.le_trans HL.out GB35.out) : Below w0.heap.size w0 w44)); replace HK := Aside0.mk (KeepBut.trans (atK HK) (KeepBut.of_grown hg g) (Kd.R_base2 HO_5.out)); replace HO_5 := Aside0.mk (hp_); clear hg hw hp_))
      go_roundg kj12
      case measure => have := HK1.out; have := HJ12.out; omega
      case rel => exact ⟨(y456), (wrap64 (x6_1 - 1)), (t451), (t452), eqd, H', ⟨by have := HK1.out; have := HJ12.out; omega⟩, ⟨atR HO_5⟩, ⟨IsS48.at HI0⟩, ⟨atK HK⟩, ⟨atB HB⟩⟩
     ·replace c22 := Bool.eq_false_iff.mpr c22
      subst c22
      replace H := if_ H
      by_cases c53 : t444 = (wrap64 ((wrap64 (t444 + (wrap64 (1 + t440)))) + a1))
      ·rw [if_pos c53] at H
       have c53b0 : (t444 == (wrap64 ((wrap64 (t444 + (wrap64 (1 + t440)))) + a1))) = true := beq_iff_eq.mpr c53
       have c53b1 : (t444 != (wrap64 ((wrap64 (t444 + (wrap64 (1 + t440)))) + a1))) = false := bne_eq_false_iff_eq.mpr c53
       clear c53
       have H' := Aside0.mk H
       clear H
       obtain ⟨Ao54, co54, eo54⟩ := Kd.R_slice HO_5.out
       subst eo54
       go_wp2_with (first | ((with_reducible refine gate_callee (f := 42) rfl ?_); refine goesA (some 42) Try.func42 #[.pointer (some ⟨g, 0, none⟩), .int .i64 (wrap64 ((wrap64 ((x5_1.length : Int) - (wrap64 (1 + t440)))) - a1))] ?_; (with_reducible refine (Zac.calls g s0_0 t441 t442 (wrap64 ((wrap64 ((x5_1.length : Int) - (wrap64 (1 + t440)))) - a1)) t444 t445 t446 w0 _ ?side1 ?side2 A20.out).mono ?_); (case side1 => exact IsS48.at HI0); (case side2 => exact atB HB); rintro e w55 ⟨rfl, hi, hb, hk⟩; refine ⟨_, rfl, ?_⟩; replace HO_5 := IsS48.keepR HI0 HO_5 hk; replace HK := upK HK hk; replace HB := Aside0.mk (hb); replace HI0 := Aside0.mk (hi)) | ((with_reducible refine gate_callee (f := 47) rfl ?_); refine goesA (some 49) Try.func47 #[.pointer (some ⟨g, 0, none⟩), .int .i64 12] ?_; (with_reducible refine (Zat.calls g s0_0 t445 t446 12 false t448 t449 w0 _ ?side1 ?side2 A21.out).mono ?_); (case side1 => exact IsS48.at HI0); (case side2 => exact atB HB); rintro e w56 ⟨rfl, hi, hb, hk⟩; refine ⟨_, rfl, ?_⟩; replace HO_5 := IsS48.keepR HI0 HO_5 hk; replace HK := upK HK hk; replace HB := Aside0.mk (hb); replace HI0 := Aside0.mk (hi)))
       go_roundg kj12
       case measure => have := HK1.out; have := HJ12.out; omega
       case rel => exact ⟨(x5_1), (wrap64 (x6_1 - 1)), (t448), (t449), eqd, H', ⟨by have := HK1.out; have := HJ12.out; omega⟩, ⟨atR HO_5⟩, ⟨IsS48.at HI0⟩, ⟨atK HK⟩, ⟨atB HB⟩⟩
      rw [if_neg c53] at H
      have c53b0 : (t444 == (wrap64 ((wrap64 (t444 + (wrap64 (1 + t440)))) + a1))) = false := beq_eq_false_iff_ne.mpr c53
      have c53b1 : (t444 != (wrap64 ((wrap64 (t444 + (wrap64 (1 + t440)))) + a1))) = true := bne_iff_ne.mpr c53
      obtain ⟨c57b0, H⟩ := in_ H
      obtain ⟨c58b0, H⟩ := in_ H
      by_cases c59 : (rd x5_1 t444) = 0
      rotate_left
      ·rw [if_neg c59] at H
       have c59b0 : ((rd x5_1 t444) == 0) = false := beq_eq_false_iff_ne.mpr c59
       have c59b1 : ((rd x5_1 t444) != 0) = true := bne_iff_ne.mpr c59
       have H' := Aside0.mk H
       clear H
       obtain ⟨Ao76, co76, eo76⟩ := Kd.R_slice HO_5.out
       subst eo76
       go_wp2_with (first | ((with_reducible refine gate_callee (f := 42) rfl ?_); refine goesA (some 42) Try.func42 #[.pointer (some ⟨g, 0, none⟩), .int .i64 (wrap64 ((wrap64 ((x5_1.length : Int) - (wrap64 (1 + t440)))) - a1))] ?_; (with_reducible refine (Zac.calls g s0_0 t441 t442 (wrap64 ((wrap64 ((x5_1.length : Int) - (wrap64 (1 + t440)))) - a1)) t444 t445 t446 w0 _ ?side1 ?side2 A20.out).mono ?_); (case side1 => exact IsS48.at HI0); (case side2 => exact atB HB); rintro e w77 ⟨rfl, hi, hb, hk⟩; refine ⟨_, rfl, ?_⟩; replace HO_5 := IsS48.keepR HI0 HO_5 hk; replace HK := upK HK hk; replace HB := Aside0.mk (hb); replace HI0 := Aside0.mk (hi)) | ((with_reducible refine gate_callee (f := 47) rfl ?_); refine goesA (some 49) Try.func47 #[.pointer (some ⟨g, 0, none⟩), .int .i64 12] ?_; (with_reducible refine (Zat.calls g s0_0 t445 t446 12 false t448 t449 w0 _ ?side1 ?side2 A21.out).mono ?_); (case side1 => exact IsS48.at HI0); (case side2 => exact atB HB); rintro e w78 ⟨rfl, hi, hb, hk⟩; refine ⟨_, rfl, ?_⟩; replace HO_5 := IsS48.keepR HI0 HO_5 hk; replace HK := upK HK hk; replace HB := Aside0.mk (hb); replace HI0 := Aside0.mk (hi); have p457 : 0 ≤ (t444 : Int) := ofd; have q457 : t444 < (x5_1.length : Int) := ofd; obtain ⟨ad457, e457, hx457_0⟩ := Kd.at_int (Kd.R_reads' HO_5.out).2.2 t444 p457 q457; cases e457; replace p457 := eq_true p457; replace q457 := eq_true q457))
       go_roundg kj12
       case measure => have := HK1.out; have := HJ12.out; omega
       case rel => exact ⟨(x5_1), (wrap64 (x6_1 - 1)), (t448), (t449), eqd, H', ⟨by have := HK1.out; have := HJ12.out; omega⟩, ⟨atR HO_5⟩, ⟨IsS48.at HI0⟩, ⟨atK HK⟩, ⟨atB HB⟩⟩
      rw [if_pos c59] at H
      have c59b0 : ((rd x5_1 t444) == 0) = true := beq_iff_eq.mpr c59
      have c59b1 : ((rd x5_1 t444) != 0) = false := bne_eq_false_iff_eq.mpr c59
      clear c59
      obtain ⟨ji60, hji60⟩ : ∃ j_ : Int, (wrap64 ((wrap64 (t444 + (wrap64 (1 + t440)))) + a1)) = j_ := ⟨_, rfl⟩
      replace H : (if 0 ≤ (ji60) then (if (ji60) < (x5_1.length : Int) then (if (rd x5_1 (ji60)) = 0 then (Zab.l0 kj12 a1 ((x5_1.set (t444 : Int).toNat (wrap64 (1 + t440))).set ((ji60) : Int).toNat (wrap64 (1 + t440))) (wrap64 (x6_1 - 1)) s0_0 t448 t449) else (Zab.l0 kj12 a1 x5_1 (wrap64 (x6_1 - 1)) s0_0 t448 t449)) else (none)) else (none)) = some (r1, r2, r3) := by first | (rw [hji60] at H; exact H) | (simp only [hji60] at H ⊢; exact H)
      (try rw [hji60] at c53b0)
      (try rw [hji60] at c53b1)
      (try rw [hji60] at A20)
      (try rw [hji60] at A21)
      have hji60w : (IntKind.i64.wrap ((wrap64 (t444 + (wrap64 (1 + t440)))) + a1)) = ji60 := (i64_w _).trans hji60
      obtain ⟨c61b0, H⟩ := in_ H
      obtain ⟨c62b0, H⟩ := in_ H
      by_cases c63 : (rd x5_1 (ji60)) = 0
      rotate_left
      ·rw [if_neg c63] at H
       have c63b0 : ((rd x5_1 (ji60)) == 0) = false := beq_eq_false_iff_ne.mpr c63
       have c63b1 : ((rd x5_1 (ji60)) != 0) = true := bne_iff_ne.mpr c63
       have H' := Aside0.mk H
       clear H
       obtain ⟨Ao73, co73, eo73⟩ := Kd.R_slice HO_5.out
       subst eo73
       go_wp2_with (first | ((with_reducible refine gate_callee (f := 42) rfl ?_); refine goesA (some 42) Try.func42 #[.pointer (some ⟨g, 0, none⟩), .int .i64 (wrap64 ((wrap64 ((x5_1.length : Int) - (wrap64 (1 + t440)))) - a1))] ?_; (with_reducible refine (Zac.calls g s0_0 t441 t442 (wrap64 ((wrap64 ((x5_1.length : Int) - (wrap64 (1 + t440)))) - a1)) t444 t445 t446 w0 _ ?side1 ?side2 A20.out).mono ?_); (case side1 => exact IsS48.at HI0); (case side2 => exact atB HB); rintro e w74 ⟨rfl, hi, hb, hk⟩; refine ⟨_, rfl, ?_⟩; replace HO_5 := IsS48.keepR HI0 HO_5 hk; replace HK := upK HK hk; replace HB := Aside0.mk (hb); replace HI0 := Aside0.mk (hi)) | ((with_reducible refine gate_callee (f := 47) rfl ?_); refine goesA (some 49) Try.func47 #[.pointer (some ⟨g, 0, none⟩), .int .i64 12] ?_; (with_reducible refine (Zat.calls g s0_0 t445 t446 12 false t448 t449 w0 _ ?side1 ?side2 A21.out).mono ?_); (case side1 => exact IsS48.at HI0); (case side2 => exact atB HB); rintro e w75 ⟨rfl, hi, hb, hk⟩; refine ⟨_, rfl, ?_⟩; replace HO_5 := IsS48.keepR HI0 HO_5 hk; replace HK := upK HK hk; replace HB := Aside0.mk (hb); replace HI0 := Aside0.mk (hi); have p457 : 0 ≤ (t444 : Int) := ofd; have q457 : t444 < (x5_1.length : Int) := ofd; obtain ⟨ad457, e457, hx457_0⟩ := Kd.at_int (Kd.R_reads' HO_5.out).2.2 t444 p457 q457; cases e457; replace p457 := eq_true p457; replace q457 := eq_true q457; have p458 : 0 ≤ ((ji60) : Int) := ofd; have q458 : (ji60) < (x5_1.length : Int) := ofd; obtain ⟨ad458, e458, hx458_0⟩ := Kd.at_int (Kd.R_reads' HO_5.out).2.2 (ji60) p458 q458; obtain rfl : ad457 = ad458 := (by injection e458); replace p458 := eq_true p458; replace q458 := eq_true q458))
       first | go_roundg kj12 | ((try subst hji60); go_roundg kj12)
       case measure => have := HK1.out; have := HJ12.out; omega
       case rel => exact ⟨(x5_1), (wrap64 (x6_1 - 1)), (t448), (t449), eqd, H', ⟨by have := HK1.out; have := HJ12.out; omega⟩, ⟨atR HO_5⟩, ⟨IsS48.at HI0⟩, ⟨atK HK⟩, ⟨atB HB⟩⟩
      rw [if_pos c63] at H
      have c63b0 : ((rd x5_1 (ji60)) == 0) = true := beq_iff_eq.mpr c63
      have c63b1 : ((rd x5_1 (ji60)) != 0) = false := bne_eq_false_iff_eq.mpr c63
      clear c63
      obtain ⟨y459, hy459⟩ : ∃ y_ : List Int, y_ = (x5_1.set (t444 : Int).toNat (wrap64 (1 + t440))) := ⟨_, rfl⟩
      replace H : (Zab.l0 kj12 a1 (y459.set ((ji60) : Int).toNat (wrap64 (1 + t440))) (wrap64 (x6_1 - 1)) s0_0 t448 t449) = some (r1, r2, r3) := by first | (rw [hy459]; with_reducible exact H) | (have H2_ := (Option.bind_some _ _).symm.trans H; rw [hy459]; with_reducible exact H2_) | (have H2_ := (Option.bind_some _ _).symm.trans H; with_reducible exact H2_) | with_reducible exact H | (rw [hy459]; exact H) | exact H
      have Ny459 := Aside0.mk hy459
      clear hy459
      obtain ⟨y460, hy460⟩ : ∃ y_ : List Int, y_ = (y459.set ((ji60) : Int).toNat (wrap64 (1 + t440))) := ⟨_, rfl⟩
      replace H : (Zab.l0 kj12 a1 y460 (wrap64 (x6_1 - 1)) s0_0 t448 t449) = some (r1, r2, r3) := by first | (rw [hy460]; with_reducible exact H) | (have H2_ := (Option.bind_some _ _).symm.trans H; rw [hy460]; with_reducible exact H2_) | (have H2_ := (Option.bind_some _ _).symm.trans H; with_reducible exact H2_) | with_reducible exact H | (rw [hy460]; exact H) | exact H
      have Ny460 := Aside0.mk hy460
      clear hy460
      have H' := Aside0.mk H
      clear H
      obtain ⟨Ao66, co66, eo66⟩ := Kd.R_slice HO_5.out
      subst eo66
      go_wp2_with (first | ((with_reducible refine gate_callee (f := 42) rfl ?_); refine goesA (some 42) Try.func42 #[.pointer (some ⟨g, 0, none⟩), .int .i64 (wrap64 ((wrap64 ((x5_1.length : Int) - (wrap64 (1 + t440)))) - a1))] ?_; (with_reducible refine (Zac.calls g s0_0 t441 t442 (wrap64 ((wrap64 ((x5_1.length : Int) - (wrap64 (1 + t440)))) - a1)) t444 t445 t446 w0 _ ?side1 ?side2 A20.out).mono ?_); (case side1 => exact IsS48.at HI0); (case side2 => exact atB HB); rintro e w67 ⟨rfl, hi, hb, hk⟩; refine ⟨_, rfl, ?_⟩; replace HO_5 := IsS48.keepR HI0 HO_5 hk; replace HK := upK HK hk; replace HB := Aside0.mk (hb); replace HI0 := Aside0.mk (hi)) | ((with_reducible refine gate_callee (f := 47) rfl ?_); refine goesA (some 49) Try.func47 #[.pointer (some ⟨g, 0, none⟩), .int .i64 12] ?_; (with_reducible refine (Zat.calls g s0_0 t445 t446 12 false t448 t449 w0 _ ?side1 ?side2 A21.out).mono ?_); (case side1 => exact IsS48.at HI0); (case side2 => exact atB HB); rintro e w68 ⟨rfl, hi, hb, hk⟩; refine ⟨_, rfl, ?_⟩; replace HO_5 := IsS48.keepR HI0 HO_5 hk; replace HK := upK HK hk; replace HB := Aside0.mk (hb); replace HI0 := Aside0.mk (hi); have p457 : 0 ≤ (t444 : Int) := ofd; have q457 : t444 < (x5_1.length : Int) := ofd; obtain ⟨ad457, e457, hx457_0⟩ := Kd.at_int (Kd.R_reads' HO_5.out).2.2 t444 p457 q457; cases e457; replace p457 := eq_true p457; replace q457 := eq_true q457; have p458 : 0 ≤ ((ji60) : Int) := ofd; have q458 : (ji60) < (x5_1.length : Int) := ofd; obtain ⟨ad458, e458, hx458_0⟩ := Kd.at_int (Kd.R_reads' HO_5.out).2.2 (ji60) p458 q458; obtain rfl : ad457 = ad458 := (by injection e458); replace p458 := eq_true p458; replace q458 := eq_true q458; have p64 : 0 ≤ (t444 : Int) := ofd; have q64 : (t444 : Int) < ((x5_1.length : Int) : Int) := ofd; obtain ⟨go64, co64, eo64, gb64, gl64, cl64, HG64⟩ := Kd.R_form HO_5.out (by omega); (first | cases eo64 | (injection eo64 with ea_ en_ ec_; (first | subst ea_ | (injection ea_ with ea_; subst ea_)); subst ec_; clear en_)); have GB64 := Aside0.mk gb64; have GG64 := Aside0.mk HG64; clear gb64 gl64 HG64; (first | simp only [add_plain] at hx457_0 | skip); (first | simp only [add_plain] at hx458_0 | skip); obtain ⟨hx64_0, hf64_0⟩ := Kd.R_celln 0 HO_5.out (t444 : Int) p64 q64; replace p64 := eq_true p64; replace q64 := eq_true q64; obtain ⟨hy69_, hz69_⟩ := Kd.R_celln 0 HO_5.out (t444 : Int) (of_decide_eq_true (by first | (with_reducible assumption) | assumption)) (of_decide_eq_true (by first | (with_reducible assumption) | assumption)); have HP69 := Kd.R_putg HO_5.out (t444 : Int) (wrap64 (1 + t440))) | ((with_reducible refine gate_store (t := 3) (p := 74) rfl ?_); refine store_event (t := 3) (p := 74) (v := ?vo_w70) (w1 := (w68.setCell ⟨go64, (t444 : Int).toNat, none⟩ (.int .i64 (wrap64 (1 + t440))))) ?hg ?ho ?hn ?hr ?_; (case ho => rfl); (case hg => rfl); (case hn => rfl); (case hr => first | (go_simp; done) | (go_simp; rfl)); intro w70 hw; have hg : w68.grownBy w70 (some go64) := (by rw [hw]; exact HP69.2); have hp_ : Kd.R (Kd.int .i64) 3 w70 w.heap.size (fun _ => True) (.slice (some ⟨go64, 0, none⟩) x5_1.length co66) y459 := (by rw [hw, Ny459.out]; exact HP69.1); clear HP69; replace HI0 := Aside0.mk (IsS48.grown (IsS48.at HI0) hg (IsS48.own_ne HI0.out HO_5.out (by decide))); replace HB := Aside0.mk ((by rw [hw]; exact below_set (HB.out) (Nat.le_trans HL.out GB64.out) : Below w0.heap.size w0 w70)); replace HK := Aside0.mk (KeepBut.trans (atK HK) (KeepBut.of_grown hg g) (Kd.R_base2 HO_5.out)); replace HO_5 := Aside0.mk (hp_); clear hg hw hp_; have p65 : 0 ≤ ((ji60) : Int) := ofd; have q65 : ((ji60) : Int) < ((x5_1.length : Int) : Int) := ofd; obtain ⟨hx65_0, hf65_0⟩ := Kd.R_celln 0 HO_5.out ((ji60) : Int) p65 q65; replace p65 := eq_true p65; replace q65 := eq_true q65; obtain ⟨hy71_, hz71_⟩ := Kd.R_celln 0 HO_5.out ((ji60) : Int) (of_decide_eq_true (by first | (with_reducible assumption) | assumption)) (of_decide_eq_true (by first | (with_reducible assumption) | assumption)); have HP71 := Kd.R_putg HO_5.out ((ji60) : Int) (wrap64 (1 + t440))) | ((with_reducible refine gate_store (t := 3) (p := 78) rfl ?_); refine store_event (t := 3) (p := 78) (v := ?vo_w72) (w1 := (w70.setCell ⟨go64, ((ji60) : Int).toNat, none⟩ (.int .i64 (wrap64 (1 + t440))))) ?hg ?ho ?hn ?hr ?_; (case ho => rfl); (case hg => rfl); (case hn => rfl); (case hr => first | (go_simp; done) | (go_simp; rfl)); intro w72 hw; have hg : w70.grownBy w72 (some go64) := (by rw [hw]; exact HP71.2); have hp_ : Kd.R (Kd.int .i64) 3 w72 w.heap.size (fun _ => True) (.slice (some ⟨go64, 0, none⟩) x5_1.length co66) y460 := (by rw [hw, Ny460.out]; exact HP71.1); clear HP71; replace HI0 := Aside0.mk (IsS48.grown (IsS48.at HI0) hg (IsS48.own_ne HI0.out HO_5.out (by decide))); replace HB := Aside0.mk ((by rw [hw]; exact below_set (HB.out) (Nat.le_trans HL.out GB64.out) : Below w0.heap.size w0 w72)); replace HK := Aside0.mk (KeepBut.trans (atK HK) (KeepBut.of_grown hg g) (Kd.R_base2 HO_5.out)); replace HO_5 := Aside0.mk (hp_); clear hg hw hp_))
      first | go_roundg kj12 | ((try subst hji60); go_roundg kj12)
      case measure => have := HK1.out; have := HJ12.out; omega
      case rel => exact ⟨(y460), (wrap64 (x6_1 - 1)), (t448), (t449), eqd, H', ⟨by have := HK1.out; have := HJ12.out; omega⟩, ⟨atR HO_5⟩, ⟨IsS48.at HI0⟩, ⟨atK HK⟩, ⟨atB HB⟩⟩
noncomputable def Zab.L0 (x1 : Int) (x5 : List Int) (x6 : Int) (x1000 : List Int) (x1001 : Int) (x1002 : Int) : Option (List Int × Int × Int) := lim fun k => Zab.l0 k x1 x5 x6 x1000 x1001 x1002
theorem Zab.L0_lim (x1 : Int) (x5 : List Int) (x6 : Int) (x1000 : List Int) (x1001 : Int) (x1002 : Int) : Lim (fun k => Zab.l0 k x1 x5 x6 x1000 x1001 x1002) (Zab.L0 x1 x5 x6 x1000 x1001 x1002) := Lim.of fun k => (Zab.mono_l k).1 x1 x5 x6 x1000 x1001 x1002
noncomputable def Zab.J1 (x1 : Int) (x5 : List Int) (x6 : Int) (x7 : Int) (x34 : Bool) (x1000 : List Int) (x1001 : Int) (x1002 : Int) : Option (List Int × Int × Int) := lim fun k => Zab.j1 k x1 x5 x6 x7 x34 x1000 x1001 x1002
theorem Zab.J1_lim (x1 : Int) (x5 : List Int) (x6 : Int) (x7 : Int) (x34 : Bool) (x1000 : List Int) (x1001 : Int) (x1002 : Int) : Lim (fun k => Zab.j1 k x1 x5 x6 x7 x34 x1000 x1001 x1002) (Zab.J1 x1 x5 x6 x7 x34 x1000 x1001 x1002) := Lim.of fun k => (Zab.mono_l k).2 x1 x5 x6 x7 x34 x1000 x1001 x1002
noncomputable def Zab.F (s0_0 : List Int) (s0_1 : Int) (s0_2 : Int) (a1 : Int) : Option (List Int × Int × Int) := lim fun k => Zab.f k s0_0 s0_1 s0_2 a1
theorem Zab.F_lim (s0_0 : List Int) (s0_1 : Int) (s0_2 : Int) (a1 : Int) : Lim (fun k => Zab.f k s0_0 s0_1 s0_2 a1) (Zab.F s0_0 s0_1 s0_2 a1) := Lim.of fun k => Zab.mono s0_0 s0_1 s0_2 a1 k
theorem Zab.L0_eq (x1 : Int) (x5 : List Int) (x6 : Int) (x1000 : List Int) (x1001 : Int) (x1002 : Int) : Zab.L0 x1 x5 x6 x1000 x1001 x1002 = (if x6 > 0 then ((Zac.f x1000 x1001 x1002 8).bind fun bt440 => ((Zaz.F x5 (wrap64 (1 + bt440.1))).bind fun t443 => (if t443 = true then (Zab.J1 x1 x5 x6 (wrap64 (1 + bt440.1)) true x1000 bt440.2.1 bt440.2.2) else (Zab.J1 x1 x5 x6 (wrap64 (1 + bt440.1)) (decide ((x5.length : Int) < (wrap64 ((wrap64 ((wrap64 (1 + bt440.1)) + x1)) + 1)))) x1000 bt440.2.1 bt440.2.2)))) else (some (x5, x1001, x1002))) :=
 Lim.step (f := fun k => Zab.l0 (k + 1) x1 x5 x6 x1000 x1001 x1002) (Zab.L0_lim x1 x5 x6 x1000 x1001 x1002) (fun _ => rfl) (by
  simp only [Zab.l0]
  repeat' (first | (with_reducible first | exact Lim.const _ | exact Zab.J1_lim _ _ _ _ _ _ _ _ | exact Zaz.F_lim _ _ | refine Lim.ite ?_ ?_ | refine Lim.bind ?_ (fun _ => ?_))))
theorem Zab.J1_eq (x1 : Int) (x5 : List Int) (x6 : Int) (x7 : Int) (x34 : Bool) (x1000 : List Int) (x1001 : Int) (x1002 : Int) : Zab.J1 x1 x5 x6 x7 x34 x1000 x1001 x1002 = (if x34 = true then (Zab.L0 x1 x5 (wrap64 (x6 - 1)) x1000 x1001 x1002) else ((Zac.f x1000 x1001 x1002 (wrap64 ((wrap64 ((x5.length : Int) - x7)) - x1))).bind fun bt444 => ((Zat.f x1000 bt444.2.1 bt444.2.2 12).bind fun bt447 => (if bt447.1 = true then ((Zac.f x1000 bt447.2.1 bt447.2.2 (x5.length : Int)).bind fun bt450 => (if bt444.1 = bt450.1 then (Zab.L0 x1 x5 (wrap64 (x6 - 1)) x1000 bt450.2.1 bt450.2.2) else (if 0 ≤ bt444.1 then (if bt444.1 < (x5.length : Int) then (if (rd x5 bt444.1) = 0 then (if 0 ≤ bt450.1 then (if bt450.1 < (x5.length : Int) then (if (rd x5 bt450.1) = 0 then (Zab.L0 x1 ((x5.set (bt444.1 : Int).toNat x7).set (bt450.1 : Int).toNat x7) (wrap64 (x6 - 1)) x1000 bt450.2.1 bt450.2.2) else (Zab.L0 x1 x5 (wrap64 (x6 - 1)) x1000 bt450.2.1 bt450.2.2)) else (none)) else (none)) else (Zab.L0 x1 x5 (wrap64 (x6 - 1)) x1000 bt450.2.1 bt450.2.2)) else (none)) else (none)))) else (if bt444.1 = (wrap64 ((wrap64 (bt444.1 + x7)) + x1)) then (Zab.L0 x1 x5 (wrap64 (x6 - 1)) x1000 bt447.2.1 bt447.2.2) else (if 0 ≤ bt444.1 then (if bt444.1 < (x5.length : Int) then (if (rd x5 bt444.1) = 0 then (if 0 ≤ (wrap64 ((wrap64 (bt444.1 + x7)) + x1)) then (if (wrap64 ((wrap64 (bt444.1 + x7)) + x1)) < (x5.length : Int) then (if (rd x5 (wrap64 ((wrap64 (bt444.1 + x7)) + x1))) = 0 then (Zab.L0 x1 ((x5.set (bt444.1 : Int).toNat x7).set ((wrap64 ((wrap64 (bt444.1 + x7)) + x1)) : Int).toNat x7) (wrap64 (x6 - 1)) x1000 bt447.2.1 bt447.2.2) else (Zab.L0 x1 x5 (wrap64 (x6 - 1)) x1000 bt447.2.1 bt447.2.2)) else (none)) else (none)) else (Zab.L0 x1 x5 (wrap64 (x6 - 1)) x1000 bt447.2.1 bt447.2.2)) else (none)) else (none))))))) :=
 Lim.step (f := fun k => Zab.j1 (k + 1) x1 x5 x6 x7 x34 x1000 x1001 x1002) (Zab.J1_lim x1 x5 x6 x7 x34 x1000 x1001 x1002) (fun _ => rfl) (by
  simp only [Zab.j1]
  repeat' (first | (with_reducible first | exact Lim.const _ | exact Zab.L0_lim _ _ _ _ _ _ | refine Lim.ite ?_ ?_ | refine Lim.bind ?_ (fun _ => ?_))))
theorem Zab.F_eq (s0_0 : List Int) (s0_1 : Int) (s0_2 : Int) (a1 : Int) : Zab.F s0_0 s0_1 s0_2 a1 = ((Zac.f s0_0 s0_1 s0_2 15).bind fun bt431 => (if 0 ≤ bt431.1 then (if (bt431.1 : Int).toNat ≤ 35184372088832 then ((Zac.f s0_0 bt431.2.1 bt431.2.2 6).bind fun bt437 => (Zab.L0 a1 (List.replicate (bt431.1 : Int).toNat 0) (wrap64 (1 + bt437.1)) s0_0 bt437.2.1 bt437.2.2)) else (none)) else (none))) :=
 Lim.unique (Zab.F_lim s0_0 s0_1 s0_2 a1) (by
  unfold Zab.f
  repeat' (first | (with_reducible first | exact Lim.const _ | exact Zab.L0_lim _ _ _ _ _ _ | refine Lim.ite ?_ ?_ | refine Lim.bind ?_ (fun _ => ?_))))
def Zau.j0 : Nat → Bool → List Int → Int → Int → Option (List Int × Int × Int)
 | 0, _, _, _, _ => none
 | k + 1, x26, x1000, x1001, x1002 => if x26 = true then ((some (([(([1, 1] : List Int)), (([3, 1, 2, 1, 3, 2] : List Int)), (([1, 1, 2, 0, 2] : List Int)), (([4, 2, 3, 2, 4, 3, 1, 1] : List Int)), (([2, 3, 4, 2, 1, 3, 1, 4] : List Int)), (([4, 1, 3, 1, 2, 4, 3, 2] : List Int)), (([3, 1, 1, 3, 2, 0, 2] : List Int)), (([5, 2, 4, 2, 3, 5, 4, 3, 1, 1] : List Int)), (([2, 3, 2, 0, 3] : List Int))] : List (List Int)) : List (List Int))).bind fun y514 => ((Zac.f x1000 x1001 x1002 (y514.length : Int)).bind fun bt517 => (if 0 ≤ bt517.1 then (if bt517.1 < (y514.length : Int) then ((Zcf.f (rd_L2 y514 bt517.1)).bind fun t521 => ((Zat.f x1000 bt517.2.1 bt517.2.2 3).bind fun bt524 => (if bt524.1 = true then ((Zar.f k t521).bind fun t527 => (some (t527, bt524.2.1, bt524.2.2))) else (some (t521, bt524.2.1, bt524.2.2))))) else (none)) else (none)))) else ((Zac.f x1000 x1001 x1002 2).bind fun bt530 => ((Zab.f k x1000 bt530.2.1 bt530.2.2 bt530.1).bind fun bt533 => (some (bt533.1, bt533.2.1, bt533.2.2))))
def Zau.f (k : Nat) (s0_0 : List Int) (s0_1 : Int) (s0_2 : Int) : Option (List Int × Int × Int) := (Zac.f s0_0 s0_1 s0_2 14).bind fun bt461 => (if bt461.1 = 0 then ((Zac.f s0_0 bt461.2.1 bt461.2.2 2).bind fun bt464 => ((Zab.f k s0_0 bt464.2.1 bt464.2.2 bt464.1).bind fun bt467 => ((Zbi.f s0_0 bt467.2.1 bt467.2.2 (([(-1), 1, 20, 21, 4611686018427387904] : List Int))).bind fun bt475 => (if bt467.1.length < 17592186044416 then (some ((bt467.1 ++ [bt475.1]), bt475.2.1, bt475.2.2)) else (none))))) else (if bt461.1 = 1 then ((Zac.f s0_0 bt461.2.1 bt461.2.2 2).bind fun bt481 => (if 0 ≤ (wrap64 (40 + bt481.1)) then (if (wrap64 (40 + bt481.1) : Int).toNat ≤ 35184372088832 then (some ((List.replicate (wrap64 (40 + bt481.1) : Int).toNat 0), bt481.2.1, bt481.2.2)) else (none)) else (none))) else (if bt461.1 = 2 then (Zau.j0 k (bt461.1 == 2) s0_0 bt461.2.1 bt461.2.2) else (if bt461.1 = 3 then (Zau.j0 k (bt461.1 == 3) s0_0 bt461.2.1 bt461.2.2) else (Zau.j0 k (bt461.1 == 4) s0_0 bt461.2.1 bt461.2.2)))))
theorem Zau.mono_l : ∀ k, (∀ y0 y1 y2 y3, LeO (Zau.j0 k y0 y1 y2 y3) (Zau.j0 (k + 1) y0 y1 y2 y3))
 | 0 => fun _ _ _ _ r h => by simp [Zau.j0] at h
 | k + 1 => by
  have ih0 := Zau.mono_l k
  ·intro y0 y1 y2 y3
   unfold Zau.j0
   repeat' (first | (with_reducible first | exact Zab.mono _ _ _ _ _ | exact Zar.mono _ _ | exact LeO.refl _ | exact LeO.none _ | refine LeO.ite ?_ ?_ | refine LeO.bind ?_ (fun _ => ?_)) | exact Zab.mono _ _ _ _ _ | exact Zar.mono _ _ | exact LeO.none _ | refine LeO.ite ?_ ?_ | refine LeO.bind ?_ (fun _ => ?_))
theorem Zau.mono : ∀ a0 a1 a2 k, LeO (Zau.f k a0 a1 a2) (Zau.f (k + 1) a0 a1 a2) := by
 intro a0 a1 a2 k
 have ih0 := Zau.mono_l k
 unfold Zau.f
 repeat' (first | (with_reducible first | exact ih0 _ _ _ _ | exact Zab.mono _ _ _ _ _ | exact LeO.refl _ | exact LeO.none _ | refine LeO.ite ?_ ?_ | refine LeO.bind ?_ (fun _ => ?_)) | exact ih0 _ _ _ _ | exact Zab.mono _ _ _ _ _ | exact LeO.none _ | refine LeO.ite ?_ ?_ | refine LeO.bind ?_ (fun _ => ?_))
theorem Zau.calls (k : Nat) (g : Nat) (s0_0 : List Int) (s0_1 : Int) (s0_2 : Int) (r1 : List Int) (r2 : Int) (r3 : Int) (w0 w : World) (hI : IsS48 w0 w g s0_0 s0_1 s0_2) (hB : Below w0.heap.size w0 w) (h : Zau.f k s0_0 s0_1 s0_2 = some (r1, r2, r3)) :
  Calls Try.prog 80 #[.pointer (some ⟨g, 0, none⟩)] w fun e w' => ∃ v0_ : Value, e = .returned (v0_) ∧ Kd.R (Kd.int .i64) 3 w' w.heap.size (fun _ => True) v0_ r1 ∧ IsS48 w0 w' g s0_0 r2 r3 ∧ Below w0.heap.size w0 w' ∧ KeepBut w w' g none := by
 have HI0 := Aside0.mk hI
 have HK := Aside0.mk (KeepBut.refl w g none)
 have HL := Aside0.mk hB.size
 clear hI
 have HW0 := Aside0.mk hB.size
 have HB := Aside0.mk hB
 clear hB
 have H := h
 unfold Zau.f at H
 clear h
 replace H := Option.bind_eq_some_iff.mp H
 obtain ⟨⟨t461, t462, t463⟩, A20, H⟩ := H
 replace H : (if t461 = 0 then ((Zac.f s0_0 t462 t463 2).bind fun bt464 => ((Zab.f k s0_0 bt464.2.1 bt464.2.2 bt464.1).bind fun bt467 => ((Zbi.f s0_0 bt467.2.1 bt467.2.2 (([(-1), 1, 20, 21, 4611686018427387904] : List Int))).bind fun bt475 => (if bt467.1.length < 17592186044416 then (some ((bt467.1 ++ [bt475.1]), bt475.2.1, bt475.2.2)) else (none))))) else (if t461 = 1 then ((Zac.f s0_0 t462 t463 2).bind fun bt481 => (if 0 ≤ (wrap64 (40 + bt481.1)) then (if (wrap64 (40 + bt481.1) : Int).toNat ≤ 35184372088832 then (some ((List.replicate (wrap64 (40 + bt481.1) : Int).toNat 0), bt481.2.1, bt481.2.2)) else (none)) else (none))) else (if t461 = 2 then (Zau.j0 k (t461 == 2) s0_0 t462 t463) else (if t461 = 3 then (Zau.j0 k (t461 == 3) s0_0 t462 t463) else (Zau.j0 k (t461 == 4) s0_0 t462 t463))))) = some (r1, r2, r3) := H
 have A2 := Aside0.mk A20
 clear A20
 by_cases c3 : t461 = 0
 ·rw [if_pos c3] at H
  have c3b0 : (t461 == 0) = true := beq_iff_eq.mpr c3
  have c3b1 : (t461 != 0) = false := bne_eq_false_iff_eq.mpr c3
  clear c3
  replace H := Option.bind_eq_some_iff.mp H
  obtain ⟨⟨t464, t465, t466⟩, A40, H⟩ := H
  replace H : ((Zab.f k s0_0 t465 t466 t464).bind fun bt467 => ((Zbi.f s0_0 bt467.2.1 bt467.2.2 (([(-1), 1, 20, 21, 4611686018427387904] : List Int))).bind fun bt475 => (if bt467.1.length < 17592186044416 then (some ((bt467.1 ++ [bt475.1]), bt475.2.1, bt475.2.2)) else (none)))) = some (r1, r2, r3) := H
  have A4 := Aside0.mk A40
  clear A40
  replace H := Option.bind_eq_some_iff.mp H
  obtain ⟨⟨t467, t470, t471⟩, A50, H⟩ := H
  replace H : ((Zbi.f s0_0 t470 t471 (([(-1), 1, 20, 21, 4611686018427387904] : List Int))).bind fun bt475 => (if t467.length < 17592186044416 then (some ((t467 ++ [bt475.1]), bt475.2.1, bt475.2.2)) else (none))) = some (r1, r2, r3) := H
  have A5 := Aside0.mk A50
  clear A50
  obtain ⟨y472, hy472⟩ : ∃ y_ : List Int, y_ = (([(-1), 1, 20, 21, 4611686018427387904] : List Int)) := ⟨_, rfl⟩
  replace H : ((Zbi.f s0_0 t470 t471 y472).bind fun bt475 => (if t467.length < 17592186044416 then (some ((t467 ++ [bt475.1]), bt475.2.1, bt475.2.2)) else (none))) = some (r1, r2, r3) := by first | (rw [hy472]; with_reducible exact H) | (have H2_ := (Option.bind_some _ _).symm.trans H; rw [hy472]; with_reducible exact H2_) | (have H2_ := (Option.bind_some _ _).symm.trans H; with_reducible exact H2_) | with_reducible exact H | (rw [hy472]; exact H) | exact H
  have Ny472 := Aside0.mk hy472
  clear hy472
  replace H := Option.bind_eq_some_iff.mp H
  obtain ⟨⟨t475, t476, t477⟩, A60, H⟩ := H
  replace H : (if t467.length < 17592186044416 then (some ((t467 ++ [t475]), t476, t477)) else (none)) = some (r1, r2, r3) := H
  have A6 := Aside0.mk A60
  clear A60
  obtain ⟨c7, H⟩ := in0_ H
  have LMc7 := Aside0.mk c7
  clear c7
  obtain ⟨y478, hy478⟩ : ∃ y_ : List Int, y_ = (t467 ++ [t475]) := ⟨_, rfl⟩
  replace H : (some (y478, t476, t477)) = some (r1, r2, r3) := by first | (rw [hy478]; with_reducible exact H) | (have H2_ := (Option.bind_some _ _).symm.trans H; rw [hy478]; with_reducible exact H2_) | (have H2_ := (Option.bind_some _ _).symm.trans H; with_reducible exact H2_) | with_reducible exact H | (rw [hy478]; exact H) | exact H
  have Ny478 := Aside0.mk hy478
  clear hy478
  simp only [Option.some.injEq, Prod.mk.injEq] at H
  obtain ⟨rfl, rfl, rfl⟩ := H
  go_enter Try.func80, Try.ntmps80
  go_wp2_with (first | ((with_reducible refine gate_callee (f := 42) rfl ?_); refine goesA (some 7) Try.func42 #[.pointer (some ⟨g, 0, none⟩), .int .i64 14] ?_; (with_reducible refine (Zac.calls g s0_0 s0_1 s0_2 14 t461 t462 t463 w0 _ ?side1 ?side2 A2.out).mono ?_); (case side1 => exact IsS48.at HI0); (case side2 => exact atB HB); rintro e w8 ⟨rfl, hi, hb, hk⟩; refine ⟨_, rfl, ?_⟩; replace HK := upK HK hk; replace HB := Aside0.mk (hb); replace HI0 := Aside0.mk (hi)) | ((with_reducible refine gate_callee (f := 42) rfl ?_); refine goesA (some 12) Try.func42 #[.pointer (some ⟨g, 0, none⟩), .int .i64 2] ?_; (with_reducible refine (Zac.calls g s0_0 t462 t463 2 t464 t465 t466 w0 _ ?side1 ?side2 A4.out).mono ?_); (case side1 => exact IsS48.at HI0); (case side2 => exact atB HB); rintro e w9 ⟨rfl, hi, hb, hk⟩; refine ⟨_, rfl, ?_⟩; replace HK := upK HK hk; replace HB := Aside0.mk (hb); replace HI0 := Aside0.mk (hi)) | ((with_reducible refine gate_callee (f := 86) rfl ?_); refine goesA (some 13) Try.func86 #[.pointer (some ⟨g, 0, none⟩), .int .i64 t464] ?_; (with_reducible refine (Zab.calls k g s0_0 t465 t466 t464 t467 t470 t471 w0 _ ?side1 ?side2 A5.out).mono ?_); (case side1 => exact IsS48.at HI0); (case side2 => exact atB HB); rintro e w10 ⟨v468, rfl, ho0, hi, hb, hk⟩; refine ⟨_, rfl, ?_⟩; have HO469 := lowKR ho0 HK; replace HK := upK HK hk; replace HB := Aside0.mk (hb); replace HI0 := Aside0.mk (hi)) | ((with_reducible refine gate_dst (N := 16) rfl ?_); refine Kd.R_lit (Kd.int .i64) _ 3 ?hg (N := 16) ?hd (xs := ([(-1), 1, 20, 21, 4611686018427387904] : List Int)) (inner := [.int .i64 (-1), .int .i64 1, .int .i64 20, .int .i64 21, .int .i64 4611686018427387904]) (ok := fun _ => True) (okp := fun _ => True) ?hr ?hp (fun _ hk => hk) trivial (Below.refl _ _) (Nat.le_refl _) (by simp) ?_; (case hd => rfl); (case hg => rfl); (case hr => first | (go_simp; done) | (go_simp; rfl)); (case hp => exact repsI _); intro v473 w11 ho12 hb hg_ hnew_; clear hg_ hnew_; (first | rw [← Ny472.out] at ho12 | (simp only [Int.reduceToNat] at ho12; rw [← Ny472.out] at ho12)); have HO474 := Aside0.mk (Kd.R_lower (Kd.R_new' ho12 (ltR HO469)) (szK HK)); replace HO469 := eldRR HO469 ho12 hb; replace HI0 := IsS48.up HI0 hb; replace HK := upKB HK hb; replace HB := upB HB hb; clear hb ho12; obtain ⟨Ao13, co13, eo13⟩ := Kd.R_slice HO474.out; subst eo13) | ((with_reducible refine gate_callee (f := 53) rfl ?_); refine goesA (some 17) Try.func53 #[.pointer (some ⟨g, 0, none⟩), .slice Ao13 y472.length co13] ?_; (with_reducible refine (Zbi.calls g s0_0 t470 t471 _ _ y472 t475 t476 t477 w0 _ ?side1 ?side2 ?side3 ?side4 ?side5 A6.out).mono ?_); (case side1 => exact IsS48.at HI0); (case side2 => exact atB HB); (case side3 => exact atRC HO474); (case side4 => exact (Kd.R_reads' HO474.out).2.1); (case side5 => exact far_slice (IsS48.own_ne HI0.out HO474.out (by decide))); rintro e w14 ⟨rfl, hi, hb, hk⟩; refine ⟨_, rfl, ?_⟩; replace HO469 := IsS48.keepR HI0 HO469 hk; replace HO474 := IsS48.keepR HI0 HO474 hk; replace HK := upK HK hk; replace HB := Aside0.mk (hb); replace HI0 := Aside0.mk (hi)) | ((with_reducible refine gate_builtin (b := .append) (xs := #[.tmp 14, .tmp 18]) rfl ?_); at_builtin; refine Kd.R_append (Kd.int .i64) w.heap.size rfl (.tmp 14) (.tmp 18) 24 3 (.int .i64 0) 8 rfl Try.underlying24 info3 rfl (by decide) (by omega) v468 t467 t475 [.int .i64 t475] (fun k_ => some k_ ≠ (.slice Ao13 y472.length co13 : Value).ownBlock) (fun _ => False) rfl rfl ?aP (fun _ hk => hk.elim) ?aF ?aO (Below.refl _ _) ?aS ?aL ?_; (case aP => exact rfl); (case aF => exact (fun k_ hk => Kd.fresh' (ltR HO474) k_ hk)); (case aO => exact (by (with_reducible repeat (first | apply Kd.R_alloc | apply Kd.R_drewN | apply Kd.R_drew)); exact Kd.R_mono HO469.out (fun _ hk => hk.2))); (case aS => exact (szK HK)); (case aL => have := LMc7.out; omega); intro v479 w15 ho hb hg hat; rw [← Ny478.out] at ho; have HO480 := Aside0.mk (ho); replace HI0 := Aside0.mk (IsS48.grown (IsS48.at HI0) hg (IsS48.own_ne HI0.out HO469.out (by decide))); replace HO474 := Aside0.mk (Kd.R_after (ok := (fun _ => True)) (atR HO474) hg hat); replace HB := Aside0.mk (below_weaken (atB HB) HL.out hb); replace HK := Aside0.mk (KeepBut.trans (atK HK) (KeepBut.of_grown hg g) (Kd.R_base2 HO469.out)); clear HO469; clear ho hb hg hat))
  go_ret
  exact ⟨_, eqr, by (with_reducible repeat (first | apply Kd.R_alloc | apply Kd.R_drewN | apply Kd.R_drew)); exact Kd.R_mono HO480.out (fun _ hk => trivial), IsS48.at HI0, atB HB, atK HK⟩
 ·rw [if_neg c3] at H
  have c3b0 : (t461 == 0) = false := beq_eq_false_iff_ne.mpr c3
  have c3b1 : (t461 != 0) = true := bne_iff_ne.mpr c3
  by_cases c16 : t461 = 1
  ·rw [if_pos c16] at H
   have c16b0 : (t461 == 1) = true := beq_iff_eq.mpr c16
   have c16b1 : (t461 != 1) = false := bne_eq_false_iff_eq.mpr c16
   clear c16
   replace H := Option.bind_eq_some_iff.mp H
   obtain ⟨⟨t481, t482, t483⟩, A170, H⟩ := H
   replace H : (if 0 ≤ (wrap64 (40 + t481)) then (if (wrap64 (40 + t481) : Int).toNat ≤ 35184372088832 then (some ((List.replicate (wrap64 (40 + t481) : Int).toNat 0), t482, t483)) else (none)) else (none)) = some (r1, r2, r3) := H
   have A17 := Aside0.mk A170
   clear A170
   obtain ⟨ji18, hji18⟩ : ∃ j_ : Int, (wrap64 (40 + t481)) = j_ := ⟨_, rfl⟩
   replace H : (if 0 ≤ (ji18) then (if (ji18 : Int).toNat ≤ 35184372088832 then (some ((List.replicate (ji18 : Int).toNat 0), t482, t483)) else (none)) else (none)) = some (r1, r2, r3) := by first | (rw [hji18] at H; exact H) | (simp only [hji18] at H ⊢; exact H)
   (try rw [hji18] at A2)
   (try rw [hji18] at A17)
   have hji18w : (IntKind.i64.wrap (40 + t481)) = ji18 := (i64_w _).trans hji18
   obtain ⟨c19b0, c19b1, H⟩ := in2_ H
   obtain ⟨c20b0, c20b1, H⟩ := in2_ H
   obtain ⟨y484, hy484⟩ : ∃ y_ : List Int, y_ = (List.replicate (ji18 : Int).toNat 0) := ⟨_, rfl⟩
   replace H : (some (y484, t482, t483)) = some (r1, r2, r3) := by first | (rw [hy484]; with_reducible exact H) | (have H2_ := (Option.bind_some _ _).symm.trans H; rw [hy484]; with_reducible exact H2_) | (have H2_ := (Option.bind_some _ _).symm.trans H; with_reducible exact H2_) | with_reducible exact H | (rw [hy484]; exact H) | exact H
   have Ny484 := Aside0.mk hy484
   clear hy484
   simp only [Option.some.injEq, Prod.mk.injEq] at H
   obtain ⟨rfl, rfl, rfl⟩ := H
   go_enter Try.func80, Try.ntmps80
   go_wp2_with (first | ((with_reducible refine gate_callee (f := 42) rfl ?_); refine goesA (some 7) Try.func42 #[.pointer (some ⟨g, 0, none⟩), .int .i64 14] ?_; (with_reducible refine (Zac.calls g s0_0 s0_1 s0_2 14 t461 t462 t463 w0 _ ?side1 ?side2 A2.out).mono ?_); (case side1 => exact IsS48.at HI0); (case side2 => exact atB HB); rintro e w21 ⟨rfl, hi, hb, hk⟩; refine ⟨_, rfl, ?_⟩; replace HK := upK HK hk; replace HB := Aside0.mk (hb); replace HI0 := Aside0.mk (hi)) | ((with_reducible refine gate_callee (f := 42) rfl ?_); refine goesA (some 23) Try.func42 #[.pointer (some ⟨g, 0, none⟩), .int .i64 2] ?_; (with_reducible refine (Zac.calls g s0_0 t462 t463 2 t481 t482 t483 w0 _ ?side1 ?side2 A17.out).mono ?_); (case side1 => exact IsS48.at HI0); (case side2 => exact atB HB); rintro e w22 ⟨rfl, hi, hb, hk⟩; refine ⟨_, rfl, ?_⟩; replace HK := upK HK hk; replace HB := Aside0.mk (hb); replace HI0 := Aside0.mk (hi)) | ((with_reducible refine gate_dst (N := 25) rfl ?_); refine Kd.R_make (Kd.int .i64) _ 3 rfl (N := 25) rfl 24 _ _ rfl ji18 rfl rfl Try.underlying24 (.int .i64 0) 8 info3 rfl (by decide) (by omega) 0 (ok := fun _ => True) (okp := fun _ => True) rfl (fun _ hk => hk) trivial (of_decide_eq_true (by first | (with_reducible assumption) | assumption)) (Nat.le_trans (Nat.mul_le_mul_right _ (of_decide_eq_true (by first | (with_reducible assumption) | assumption) : ji18.toNat ≤ 35184372088832)) (by omega)) (Below.refl _ _) (Nat.le_refl _) ?_; intro v485 w23 ho24 hb hg_ hnew_; clear hg_ hnew_; (first | rw [← Ny484.out] at ho24 | (simp only [Int.reduceToNat] at ho24; rw [← Ny484.out] at ho24)); have HO486 := lowKR ho24 HK; replace HI0 := IsS48.up HI0 hb; replace HK := upKB HK hb; replace HB := upB HB hb; clear hb ho24))
   go_ret
   exact ⟨_, by first | rfl | (simp [errW_none, errW_some] <;> rfl) | (simp only [← hji18]; first | rfl | (simp [errW_none, errW_some] <;> rfl)) | (simp [*, errW_none, errW_some] <;> rfl), atR HO486, IsS48.at HI0, atB HB, atK HK⟩
  ·rw [if_neg c16] at H
   have c16b0 : (t461 == 1) = false := beq_eq_false_iff_ne.mpr c16
   have c16b1 : (t461 != 1) = true := bne_iff_ne.mpr c16
   have HC25 := Aside0.mk H
   clear H
   go_enter Try.func80, Try.ntmps80
   go_upto_if 26 with (first | ((with_reducible refine gate_callee (f := 42) rfl ?_); refine goesA (some 7) Try.func42 #[.pointer (some ⟨g, 0, none⟩), .int .i64 14] ?_; (with_reducible refine (Zac.calls g s0_0 s0_1 s0_2 14 t461 t462 t463 w0 _ ?side1 ?side2 A2.out).mono ?_); (case side1 => exact IsS48.at HI0); (case side2 => exact atB HB); rintro e w26 ⟨rfl, hi, hb, hk⟩; refine ⟨_, rfl, ?_⟩; replace HK := upK HK hk; replace HB := Aside0.mk (hb); replace HI0 := Aside0.mk (hi)))
   (try simp only [Act.put, List.setIfInBounds_toArray, List.set_cons_zero, List.set_cons_succ])
   go_cut [26] (fun v26 wc => ∃ (kq : Nat) (x26_24 : Bool), v26 = .bool x26_24 ∧ Aside0 (Zau.j0 kq x26_24 s0_0 t462 t463 = some (r1, r2, r3)) ∧ Aside0 (kq ≤ k) ∧ Aside0 (IsS48 w0 wc g s0_0 t462 t463) ∧ Aside0 (KeepBut w wc g none) ∧ Aside0 (Below w0.heap.size w0 wc))
   case first =>
    have H := HC25.out
    clear HC25
    by_cases c27 : t461 = 2
    ·rw [if_pos c27] at H
     have c27b0 : (t461 == 2) = true := beq_iff_eq.mpr c27
     have c27b1 : (t461 != 2) = false := bne_eq_false_iff_eq.mpr c27
     clear c27
     (first | rw [c27b0] | (simp only [i64_w, i32_w]; rw [c27b0]) | skip)
     have H' := Aside0.mk H
     clear H
     go_wp2
     go_meet
     case rel => exact ⟨_, ((t461 == 2)), eqd, H', ⟨leD⟩, ⟨IsS48.at HI0⟩, ⟨atK HK⟩, ⟨atB HB⟩⟩
    rw [if_neg c27] at H
    have c27b0 : (t461 == 2) = false := beq_eq_false_iff_ne.mpr c27
    have c27b1 : (t461 != 2) = true := bne_iff_ne.mpr c27
    (first | rw [c27b0] | (simp only [i64_w, i32_w]; rw [c27b0]) | skip)
    by_cases c28 : t461 = 3
    rotate_left
    ·rw [if_neg c28] at H
     have c28b0 : (t461 == 3) = false := beq_eq_false_iff_ne.mpr c28
     have c28b1 : (t461 != 3) = true := bne_iff_ne.mpr c28
     have H' := Aside0.mk H
     clear H
     go_wp2
     go_meet
     case rel => exact ⟨_, ((t461 == 4)), eqd, H', ⟨leD⟩, ⟨IsS48.at HI0⟩, ⟨atK HK⟩, ⟨atB HB⟩⟩
    rw [if_pos c28] at H
    have c28b0 : (t461 == 3) = true := beq_iff_eq.mpr c28
    have c28b1 : (t461 != 3) = false := bne_eq_false_iff_eq.mpr c28
    clear c28
    have H' := Aside0.mk H
    clear H
    go_wp2
    go_meet
    case rel => exact ⟨_, ((t461 == 3)), eqd, H', ⟨leD⟩, ⟨IsS48.at HI0⟩, ⟨atK HK⟩, ⟨atB HB⟩⟩
   case rest =>
    clear HC25
    try clear c3
    try clear c3b0
    try clear c3b1
    try clear c16
    try clear c16b0
    try clear c16b1
    obtain ⟨kq, x26_24, rfl, HA, HJ24, HI0, HK, HB⟩ := hcut
    cases kq with
    | zero => exact absurd HA.out (by simp [Zau.j0])
    | succ kj24 =>
     have H := HA.out
     clear HA
     simp only [Zau.j0] at H
     by_cases c29 : x26_24 = true
     ·subst c29
      replace H := it_ H
      obtain ⟨y487, hy487⟩ : ∃ y_ : List Int, y_ = (([1, 1] : List Int)) := ⟨_, rfl⟩
      replace H : ((some (([y487, (([3, 1, 2, 1, 3, 2] : List Int)), (([1, 1, 2, 0, 2] : List Int)), (([4, 2, 3, 2, 4, 3, 1, 1] : List Int)), (([2, 3, 4, 2, 1, 3, 1, 4] : List Int)), (([4, 1, 3, 1, 2, 4, 3, 2] : List Int)), (([3, 1, 1, 3, 2, 0, 2] : List Int)), (([5, 2, 4, 2, 3, 5, 4, 3, 1, 1] : List Int)), (([2, 3, 2, 0, 3] : List Int))] : List (List Int)) : List (List Int))).bind fun y514 => ((Zac.f s0_0 t462 t463 (y514.length : Int)).bind fun bt517 => (if 0 ≤ bt517.1 then (if bt517.1 < (y514.length : Int) then ((Zcf.f (rd_L2 y514 bt517.1)).bind fun t521 => ((Zat.f s0_0 bt517.2.1 bt517.2.2 3).bind fun bt524 => (if bt524.1 = true then ((Zar.f kj24 t521).bind fun t527 => (some (t527, bt524.2.1, bt524.2.2))) else (some (t521, bt524.2.1, bt524.2.2))))) else (none)) else (none)))) = some (r1, r2, r3) := by first | (rw [hy487]; with_reducible exact H) | (have H2_ := (Option.bind_some _ _).symm.trans H; rw [hy487]; with_reducible exact H2_) | (have H2_ := (Option.bind_some _ _).symm.trans H; with_reducible exact H2_) | with_reducible exact H | (rw [hy487]; exact H) | exact H
      have Ny487 := Aside0.mk hy487
      clear hy487
      obtain ⟨y490, hy490⟩ : ∃ y_ : List Int, y_ = (([3, 1, 2, 1, 3, 2] : List Int)) := ⟨_, rfl⟩
      replace H : ((some (([y487, y490, (([1, 1, 2, 0, 2] : List Int)), (([4, 2, 3, 2, 4, 3, 1, 1] : List Int)), (([2, 3, 4, 2, 1, 3, 1, 4] : List Int)), (([4, 1, 3, 1, 2, 4, 3, 2] : List Int)), (([3, 1, 1, 3, 2, 0, 2] : List Int)), (([5, 2, 4, 2, 3, 5, 4, 3, 1, 1] : List Int)), (([2, 3, 2, 0, 3] : List Int))] : List (List Int)) : List (List Int))).bind fun y514 => ((Zac.f s0_0 t462 t463 (y514.length : Int)).bind fun bt517 => (if 0 ≤ bt517.1 then (if bt517.1 < (y514.length : Int) then ((Zcf.f (rd_L2 y514 bt517.1)).bind fun t521 => ((Zat.f s0_0 bt517.2.1 bt517.2.2 3).bind fun bt524 => (if bt524.1 = true then ((Zar.f kj24 t521).bind fun t527 => (some (t527, bt524.2.1, bt524.2.2))) else (some (t521, bt524.2.1, bt524.2.2))))) else (none)) else (none)))) = some (r1, r2, r3) := by first | (rw [hy490]; with_reducible exact H) | (have H2_ := (Option.bind_some _ _).symm.trans H; rw [hy490]; with_reducible exact H2_) | (have H2_ := (Option.bind_some _ _).symm.trans H; with_reducible exact H2_) | with_reducible exact H | (rw [hy490]; exact H) | exact H
      have Ny490 := Aside0.mk hy490
      clear hy490
      obtain ⟨y493, hy493⟩ : ∃ y_ : List Int, y_ = (([1, 1, 2, 0, 2] : List Int)) := ⟨_, rfl⟩
      replace H : ((some (([y487, y490, y493, (([4, 2, 3, 2, 4, 3, 1, 1] : List Int)), (([2, 3, 4, 2, 1, 3, 1, 4] : List Int)), (([4, 1, 3, 1, 2, 4, 3, 2] : List Int)), (([3, 1, 1, 3, 2, 0, 2] : List Int)), (([5, 2, 4, 2, 3, 5, 4, 3, 1, 1] : List Int)), (([2, 3, 2, 0, 3] : List Int))] : List (List Int)) : List (List Int))).bind fun y514 => ((Zac.f s0_0 t462 t463 (y514.length : Int)).bind fun bt517 => (if 0 ≤ bt517.1 then (if bt517.1 < (y514.length : Int) then ((Zcf.f (rd_L2 y514 bt517.1)).bind fun t521 => ((Zat.f s0_0 bt517.2.1 bt517.2.2 3).bind fun bt524 => (if bt524.1 = true then ((Zar.f kj24 t521).bind fun t527 => (some (t527, bt524.2.1, bt524.2.2))) else (some (t521, bt524.2.1, bt524.2.2))))) else (none)) else (none)))) = some (r1, r2, r3) := by first | (rw [hy493]; with_reducible exact H) | (have H2_ := (Option.bind_some _ _).symm.trans H; rw [hy493]; with_reducible exact H2_) | (have H2_ := (Option.bind_some _ _).symm.trans H; with_reducible exact H2_) | with_reducible exact H | (rw [hy493]; exact H) | exact H
      have Ny493 := Aside0.mk hy493
      clear hy493
      obtain ⟨y496, hy496⟩ : ∃ y_ : List Int, y_ = (([4, 2, 3, 2, 4, 3, 1, 1] : List Int)) := ⟨_, rfl⟩
      replace H : ((some (([y487, y490, y493, y496, (([2, 3, 4, 2, 1, 3, 1, 4] : List Int)), (([4, 1, 3, 1, 2, 4, 3, 2] : List Int)), (([3, 1, 1, 3, 2, 0, 2] : List Int)), (([5, 2, 4, 2, 3, 5, 4, 3, 1, 1] : List Int)), (([2, 3, 2, 0, 3] : List Int))] : List (List Int)) : List (List Int))).bind fun y514 => ((Zac.f s0_0 t462 t463 (y514.length : Int)).bind fun bt517 => (if 0 ≤ bt517.1 then (if bt517.1 < (y514.length : Int) then ((Zcf.f (rd_L2 y514 bt517.1)).bind fun t521 => ((Zat.f s0_0 bt517.2.1 bt517.2.2 3).bind fun bt524 => (if bt524.1 = true then ((Zar.f kj24 t521).bind fun t527 => (some (t527, bt524.2.1, bt524.2.2))) else (some (t521, bt524.2.1, bt524.2.2))))) else (none)) else (none)))) = some (r1, r2, r3) := by first | (rw [hy496]; with_reducible exact H) | (have H2_ := (Option.bind_some _ _).symm.trans H; rw [hy496]; with_reducible exact H2_) | (have H2_ := (Option.bind_some _ _).symm.trans H; with_reducible exact H2_) | with_reducible exact H | (rw [hy496]; exact H) | exact H
      have Ny496 := Aside0.mk hy496
      clear hy496
      obtain ⟨y499, hy499⟩ : ∃ y_ : List Int, y_ = (([2, 3, 4, 2, 1, 3, 1, 4] : List Int)) := ⟨_, rfl⟩
      replace H : ((some (([y487, y490, y493, y496, y499, (([4, 1, 3, 1, 2, 4, 3, 2] : List Int)), (([3, 1, 1, 3, 2, 0, 2] : List Int)), (([5, 2, 4, 2, 3, 5, 4, 3, 1, 1] : List Int)), (([2, 3, 2, 0, 3] : List Int))] : List (List Int)) : List (List Int))).bind fun y514 => ((Zac.f s0_0 t462 t463 (y514.length : Int)).bind fun bt517 => (if 0 ≤ bt517.1 then (if bt517.1 < (y514.length : Int) then ((Zcf.f (rd_L2 y514 bt517.1)).bind fun t521 => ((Zat.f s0_0 bt517.2.1 bt517.2.2 3).bind fun bt524 => (if bt524.1 = true then ((Zar.f kj24 t521).bind fun t527 => (some (t527, bt524.2.1, bt524.2.2))) else (some (t521, bt524.2.1, bt524.2.2))))) else (none)) else (none)))) = some (r1, r2, r3) := by first | (rw [hy499]; with_reducible exact H) | (have H2_ := (Option.bind_some _ _).symm.trans H; rw [hy499]; with_reducible exact H2_) | (have H2_ := (Option.bind_some _ _).symm.trans H; with_reducible exact H2_) | with_reducible exact H | (rw [hy499]; exact H) | exact H
      have Ny499 := Aside0.mk hy499
      clear hy499
      obtain ⟨y502, hy502⟩ : ∃ y_ : List Int, y_ = (([4, 1, 3, 1, 2, 4, 3, 2] : List Int)) := ⟨_, rfl⟩
      replace H : ((some (([y487, y490, y493, y496, y499, y502, (([3, 1, 1, 3, 2, 0, 2] : List Int)), (([5, 2, 4, 2, 3, 5, 4, 3, 1, 1] : List Int)), (([2, 3, 2, 0, 3] : List Int))] : List (List Int)) : List (List Int))).bind fun y514 => ((Zac.f s0_0 t462 t463 (y514.length : Int)).bind fun bt517 => (if 0 ≤ bt517.1 then (if bt517.1 < (y514.length : Int) then ((Zcf.f (rd_L2 y514 bt517.1)).bind fun t521 => ((Zat.f s0_0 bt517.2.1 bt517.2.2 3).bind fun bt524 => (if bt524.1 = true then ((Zar.f kj24 t521).bind fun t527 => (some (t527, bt524.2.1, bt524.2.2))) else (some (t521, bt524.2.1, bt524.2.2))))) else (none)) else (none)))) = some (r1, r2, r3) := by first | (rw [hy502]; with_reducible exact H) | (have H2_ := (Option.bind_some _ _).symm.trans H; rw [hy502]; with_reducible exact H2_) | (have H2_ := (Option.bind_some _ _).symm.trans H; with_reducible exact H2_) | with_reducible exact H | (rw [hy502]; exact H) | exact H
      have Ny502 := Aside0.mk hy502
      clear hy502
      obtain ⟨y505, hy505⟩ : ∃ y_ : List Int, y_ = (([3, 1, 1, 3, 2, 0, 2] : List Int)) := ⟨_, rfl⟩
      replace H : ((some (([y487, y490, y493, y496, y499, y502, y505, (([5, 2, 4, 2, 3, 5, 4, 3, 1, 1] : List Int)), (([2, 3, 2, 0, 3] : List Int))] : List (List Int)) : List (List Int))).bind fun y514 => ((Zac.f s0_0 t462 t463 (y514.length : Int)).bind fun bt517 => (if 0 ≤ bt517.1 then (if bt517.1 < (y514.length : Int) then ((Zcf.f (rd_L2 y514 bt517.1)).bind fun t521 => ((Zat.f s0_0 bt517.2.1 bt517.2.2 3).bind fun bt524 => (if bt524.1 = true then ((Zar.f kj24 t521).bind fun t527 => (some (t527, bt524.2.1, bt524.2.2))) else (some (t521, bt524.2.1, bt524.2.2))))) else (none)) else (none)))) = some (r1, r2, r3) := by first | (rw [hy505]; with_reducible exact H) | (have H2_ := (Option.bind_some _ _).symm.trans H; rw [hy505]; with_reducible exact H2_) | (have H2_ := (Option.bind_some _ _).symm.trans H; with_reducible exact H2_) | with_reducible exact H | (rw [hy505]; exact H) | exact H
      have Ny505 := Aside0.mk hy505
      clear hy505
      obtain ⟨y508, hy508⟩ : ∃ y_ : List Int, y_ = (([5, 2, 4, 2, 3, 5, 4, 3, 1, 1] : List Int)) := ⟨_, rfl⟩
      replace H : ((some (([y487, y490, y493, y496, y499, y502, y505, y508, (([2, 3, 2, 0, 3] : List Int))] : List (List Int)) : List (List Int))).bind fun y514 => ((Zac.f s0_0 t462 t463 (y514.length : Int)).bind fun bt517 => (if 0 ≤ bt517.1 then (if bt517.1 < (y514.length : Int) then ((Zcf.f (rd_L2 y514 bt517.1)).bind fun t521 => ((Zat.f s0_0 bt517.2.1 bt517.2.2 3).bind fun bt524 => (if bt524.1 = true then ((Zar.f kj24 t521).bind fun t527 => (some (t527, bt524.2.1, bt524.2.2))) else (some (t521, bt524.2.1, bt524.2.2))))) else (none)) else (none)))) = some (r1, r2, r3) := by first | (rw [hy508]; with_reducible exact H) | (have H2_ := (Option.bind_some _ _).symm.trans H; rw [hy508]; with_reducible exact H2_) | (have H2_ := (Option.bind_some _ _).symm.trans H; with_reducible exact H2_) | with_reducible exact H | (rw [hy508]; exact H) | exact H
      have Ny508 := Aside0.mk hy508
      clear hy508
      obtain ⟨y511, hy511⟩ : ∃ y_ : List Int, y_ = (([2, 3, 2, 0, 3] : List Int)) := ⟨_, rfl⟩
      replace H : ((some (([y487, y490, y493, y496, y499, y502, y505, y508, y511] : List (List Int)) : List (List Int))).bind fun y514 => ((Zac.f s0_0 t462 t463 (y514.length : Int)).bind fun bt517 => (if 0 ≤ bt517.1 then (if bt517.1 < (y514.length : Int) then ((Zcf.f (rd_L2 y514 bt517.1)).bind fun t521 => ((Zat.f s0_0 bt517.2.1 bt517.2.2 3).bind fun bt524 => (if bt524.1 = true then ((Zar.f kj24 t521).bind fun t527 => (some (t527, bt524.2.1, bt524.2.2))) else (some (t521, bt524.2.1, bt524.2.2))))) else (none)) else (none)))) = some (r1, r2, r3) := by first | (rw [hy511]; with_reducible exact H) | (have H2_ := (Option.bind_some _ _).symm.trans H; rw [hy511]; with_reducible exact H2_) | (have H2_ := (Option.bind_some _ _).symm.trans H; with_reducible exact H2_) | with_reducible exact H | (rw [hy511]; exact H) | exact H
      have Ny511 := Aside0.mk hy511
      clear hy511
      obtain ⟨y514, hy514⟩ : ∃ y_ : List (List Int), y_ = (([y487, y490, y493, y496, y499, y502, y505, y508, y511] : List (List Int))) := ⟨_, rfl⟩
      replace H : ((Zac.f s0_0 t462 t463 (y514.length : Int)).bind fun bt517 => (if 0 ≤ bt517.1 then (if bt517.1 < (y514.length : Int) then ((Zcf.f (rd_L2 y514 bt517.1)).bind fun t521 => ((Zat.f s0_0 bt517.2.1 bt517.2.2 3).bind fun bt524 => (if bt524.1 = true then ((Zar.f kj24 t521).bind fun t527 => (some (t527, bt524.2.1, bt524.2.2))) else (some (t521, bt524.2.1, bt524.2.2))))) else (none)) else (none))) = some (r1, r2, r3) := by first | (rw [hy514]; with_reducible exact H) | (have H2_ := (Option.bind_some _ _).symm.trans H; rw [hy514]; with_reducible exact H2_) | (have H2_ := (Option.bind_some _ _).symm.trans H; with_reducible exact H2_) | with_reducible exact H | (rw [hy514]; exact H) | exact H
      have Ny514 := Aside0.mk hy514
      clear hy514
      replace H := Option.bind_eq_some_iff.mp H
      obtain ⟨⟨t517, t518, t519⟩, A300, H⟩ := H
      replace H : (if 0 ≤ t517 then (if t517 < (y514.length : Int) then ((Zcf.f (rd_L2 y514 t517)).bind fun t521 => ((Zat.f s0_0 t518 t519 3).bind fun bt524 => (if bt524.1 = true then ((Zar.f kj24 t521).bind fun t527 => (some (t527, bt524.2.1, bt524.2.2))) else (some (t521, bt524.2.1, bt524.2.2))))) else (none)) else (none)) = some (r1, r2, r3) := H
      have A30 := Aside0.mk A300
      clear A300
      obtain ⟨c31b0, H⟩ := in_ H
      obtain ⟨c32b0, H⟩ := in_ H
      obtain ⟨t521, A33, H⟩ := bs_ H
      (try dsimp only at H)
      replace H := Option.bind_eq_some_iff.mp H
      obtain ⟨⟨t524, t525, t526⟩, A340, H⟩ := H
      replace H : (if t524 = true then ((Zar.f kj24 t521).bind fun t527 => (some (t527, t525, t526))) else (some (t521, t525, t526))) = some (r1, r2, r3) := H
      have A34 := Aside0.mk A340
      clear A340
      by_cases c35 : t524 = true
      rotate_left
      ·replace c35 := Bool.eq_false_iff.mpr c35
       subst c35
       replace H := if_ H
       simp only [Option.some.injEq, Prod.mk.injEq] at H
       obtain ⟨rfl, rfl, rfl⟩ := H
       go_wp2_with (first | ((with_reducible refine gate_dst (N := 30) rfl ?_); refine Kd.R_lit (Kd.int .i64) _ 3 ?hg (N := 30) ?hd (xs := ([1, 1] : List Int)) (inner := [.int .i64 1, .int .i64 1]) (ok := fun _ => True) (okp := fun _ => True) ?hr ?hp (fun _ hk => hk) trivial (Below.refl _ _) (Nat.le_refl _) (by simp) ?_; (case hd => rfl); (case hg => rfl); (case hr => first | (go_simp; done) | (go_simp; rfl)); (case hp => exact repsI _); intro v488 w72 ho73 hb hg_ hnew_; clear hg_ hnew_; (first | rw [← Ny487.out] at ho73 | (simp only [Int.reduceToNat] at ho73; rw [← Ny487.out] at ho73)); have HO489 := lowKR ho73 HK; replace HI0 := IsS48.up HI0 hb; replace HK := upKB HK hb; replace HB := upB HB hb; clear hb ho73) | ((with_reducible refine gate_dst (N := 31) rfl ?_); refine Kd.R_lit (Kd.int .i64) _ 3 ?hg (N := 31) ?hd (xs := ([3, 1, 2, 1, 3, 2] : List Int)) (inner := [.int .i64 3, .int .i64 1, .int .i64 2, .int .i64 1, .int .i64 3, .int .i64 2]) (ok := fun _ => True) (okp := fun _ => True) ?hr ?hp (fun _ hk => hk) trivial (Below.refl _ _) (Nat.le_refl _) (by simp) ?_; (case hd => rfl); (case hg => rfl); (case hr => first | (go_simp; done) | (go_simp; rfl)); (case hp => exact repsI _); intro v491 w74 ho75 hb hg_ hnew_; clear hg_ hnew_; (first | rw [← Ny490.out] at ho75 | (simp only [Int.reduceToNat] at ho75; rw [← Ny490.out] at ho75)); have HO492 := Aside0.mk (Kd.R_lower (Kd.R_new' ho75 (ltR HO489)) (szK HK)); replace HO489 := eldRR HO489 ho75 hb; replace HI0 := IsS48.up HI0 hb; replace HK := upKB HK hb; replace HB := upB HB hb; clear hb ho75) | ((with_reducible refine gate_dst (N := 32) rfl ?_); refine Kd.R_lit (Kd.int .i64) _ 3 ?hg (N := 32) ?hd (xs := ([1, 1, 2, 0, 2] : List Int)) (inner := [.int .i64 1, .int .i64 1, .int .i64 2, .int .i64 0, .int .i64 2]) (ok := fun _ => True) (okp := fun _ => True) ?hr ?hp (fun _ hk => hk) trivial (Below.refl _ _) (Nat.le_refl _) (by simp) ?_; (case hd => rfl); (case hg => rfl); (case hr => first | (go_simp; done) | (go_simp; rfl)); (case hp => exact repsI _); intro v494 w76 ho77 hb hg_ hnew_; clear hg_ hnew_; (first | rw [← Ny493.out] at ho77 | (simp only [Int.reduceToNat] at ho77; rw [← Ny493.out] at ho77)); have HO495 := Aside0.mk (Kd.R_lower (Kd.R_new' (Kd.R_new' ho77 (ltR HO489)) (ltR HO492)) (szK HK)); replace HO489 := eldRR HO489 ho77 hb; replace HO492 := eldRR HO492 ho77 hb; replace HI0 := IsS48.up HI0 hb; replace HK := upKB HK hb; replace HB := upB HB hb; clear hb ho77) | ((with_reducible refine gate_dst (N := 33) rfl ?_); refine Kd.R_lit (Kd.int .i64) _ 3 ?hg (N := 33) ?hd (xs := ([4, 2, 3, 2, 4, 3, 1, 1] : List Int)) (inner := [.int .i64 4, .int .i64 2, .int .i64 3, .int .i64 2, .int .i64 4, .int .i64 3, .int .i64 1, .int .i64 1]) (ok := fun _ => True) (okp := fun _ => True) ?hr ?hp (fun _ hk => hk) trivial (Below.refl _ _) (Nat.le_refl _) (by simp) ?_; (case hd => rfl); (case hg => rfl); (case hr => first | (go_simp; done) | (go_simp; rfl)); (case hp => exact repsI _); intro v497 w78 ho79 hb hg_ hnew_; clear hg_ hnew_; (first | rw [← Ny496.out] at ho79 | (simp only [Int.reduceToNat] at ho79; rw [← Ny496.out] at ho79)); have HO498 := Aside0.mk (Kd.R_lower (Kd.R_new' (Kd.R_new' (Kd.R_new' ho79 (ltR HO489)) (ltR HO492)) (ltR HO495)) (szK HK)); replace HO489 := eldRR HO489 ho79 hb; replace HO492 := eldRR HO492 ho79 hb; replace HO495 := eldRR HO495 ho79 hb; replace HI0 := IsS48.up HI0 hb; replace HK := upKB HK hb; replace HB := upB HB hb; clear hb ho79) | ((with_reducible refine gate_dst (N := 34) rfl ?_); refine Kd.R_lit (Kd.int .i64) _ 3 ?hg (N := 34) ?hd (xs := ([2, 3, 4, 2, 1, 3, 1, 4] : List Int)) (inner := [.int .i64 2, .int .i64 3, .int .i64 4, .int .i64 2, .int .i64 1, .int .i64 3, .int .i64 1, .int .i64 4]) (ok := fun _ => True) (okp := fun _ => True) ?hr ?hp (fun _ hk => hk) trivial (Below.refl _ _) (Nat.le_refl _) (by simp) ?_; (case hd => rfl); (case hg => rfl); (case hr => first | (go_simp; done) | (go_simp; rfl)); (case hp => exact repsI _); intro v500 w80 ho81 hb hg_ hnew_; clear hg_ hnew_; (first | rw [← Ny499.out] at ho81 | (simp only [Int.reduceToNat] at ho81; rw [← Ny499.out] at ho81)); have HO501 := Aside0.mk (Kd.R_lower (Kd.R_new' (Kd.R_new' (Kd.R_new' (Kd.R_new' ho81 (ltR HO489)) (ltR HO492)) (ltR HO495)) (ltR HO498)) (szK HK)); replace HO489 := eldRR HO489 ho81 hb; replace HO492 := eldRR HO492 ho81 hb; replace HO495 := eldRR HO495 ho81 hb; replace HO498 := eldRR HO498 ho81 hb; replace HI0 := IsS48.up HI0 hb; replace HK := upKB HK hb; replace HB := upB HB hb; clear hb ho81) | ((with_reducible refine gate_dst (N := 35) rfl ?_); refine Kd.R_lit (Kd.int .i64) _ 3 ?hg (N := 35) ?hd (xs := ([4, 1, 3, 1, 2, 4, 3, 2] : List Int)) (inner := [.int .i64 4, .int .i64 1, .int .i64 3, .int .i64 1, .int .i64 2, .int .i64 4, .int .i64 3, .int .i64 2]) (ok := fun _ => True) (okp := fun _ => True) ?hr ?hp (fun _ hk => hk) trivial (Below.refl _ _) (Nat.le_refl _) (by simp) ?_; (case hd => rfl); (case hg => rfl); (case hr => first | (go_simp; done) | (go_simp; rfl)); (case hp => exact repsI _); intro v503 w82 ho83 hb hg_ hnew_; clear hg_ hnew_; (first | rw [← Ny502.out] at ho83 | (simp only [Int.reduceToNat] at ho83; rw [← Ny502.out] at ho83)); have HO504 := Aside0.mk (Kd.R_lower (Kd.R_new' (Kd.R_new' (Kd.R_new' (Kd.R_new' (Kd.R_new' ho83 (ltR HO489)) (ltR HO492)) (ltR HO495)) (ltR HO498)) (ltR HO501)) (szK HK)); replace HO489 := eldRR HO489 ho83 hb; replace HO492 := eldRR HO492 ho83 hb; replace HO495 := eldRR HO495 ho83 hb; replace HO498 := eldRR HO498 ho83 hb; replace HO501 := eldRR HO501 ho83 hb; replace HI0 := IsS48.up HI0 hb; replace HK := upKB HK hb; replace HB := upB HB hb; clear hb ho83) | ((with_reducible refine gate_dst (N := 36) rfl ?_); refine Kd.R_lit (Kd.int .i64) _ 3 ?hg (N := 36) ?hd (xs := ([3, 1, 1, 3, 2, 0, 2] : List Int)) (inner := [.int .i64 3, .int .i64 1, .int .i64 1, .int .i64 3, .int .i64 2, .int .i64 0, .int .i64 2]) (ok := fun _ => True) (okp := fun _ => True) ?hr ?hp (fun _ hk => hk) trivial (Below.refl _ _) (Nat.le_refl _) (by simp) ?_; (case hd => rfl); (case hg => rfl); (case hr => first | (go_simp; done) | (go_simp; rfl)); (case hp => exact repsI _); intro v506 w84 ho85 hb hg_ hnew_; clear hg_ hnew_; (first | rw [← Ny505.out] at ho85 | (simp only [Int.reduceToNat] at ho85; rw [← Ny505.out] at ho85)); have HO507 := Aside0.mk (Kd.R_lower (Kd.R_new' (Kd.R_new' (Kd.R_new' (Kd.R_new' (Kd.R_new' (Kd.R_new' ho85 (ltR HO489)) (ltR HO492)) (ltR HO495)) (ltR HO498)) (ltR HO501)) (ltR HO504)) (szK HK)); replace HO489 := eldRR HO489 ho85 hb; replace HO492 := eldRR HO492 ho85 hb; replace HO495 := eldRR HO495 ho85 hb; replace HO498 := eldRR HO498 ho85 hb; replace HO501 := eldRR HO501 ho85 hb; replace HO504 := eldRR HO504 ho85 hb; replace HI0 := IsS48.up HI0 hb; replace HK := upKB HK hb; replace HB := upB HB hb; clear hb ho85) | ((with_reducible refine gate_dst (N := 37) rfl ?_); refine Kd.R_lit (Kd.int .i64) _ 3 ?hg (N := 37) ?hd (xs := ([5, 2, 4, 2, 3, 5, 4, 3, 1, 1] : List Int)) (inner := [.int .i64 5, .int .i64 2, .int .i64 4, .int .i64 2, .int .i64 3, .int .i64 5, .int .i64 4, .int .i64 3, .int .i64 1, .int .i64 1]) (ok := fun _ => True) (okp := fun _ => True) ?hr ?hp (fun _ hk => hk) trivial (Below.refl _ _) (Nat.le_refl _) (by simp) ?_; (case hd => rfl); (case hg => rfl); (case hr => first | (go_simp; done) | (go_simp; rfl)); (case hp => exact repsI _); intro v509 w86 ho87 hb hg_ hnew_; clear hg_ hnew_; (first | rw [← Ny508.out] at ho87 | (simp only [Int.reduceToNat] at ho87; rw [← Ny508.out] at ho87)); have HO510 := Aside0.mk (Kd.R_lower (Kd.R_new' (Kd.R_new' (Kd.R_new' (Kd.R_new' (Kd.R_new' (Kd.R_new' (Kd.R_new' ho87 (ltR HO489)) (ltR HO492)) (ltR HO495)) (ltR HO498)) (ltR HO501)) (ltR HO504)) (ltR HO507)) (szK HK)); replace HO489 := eldRR HO489 ho87 hb; replace HO492 := eldRR HO492 ho87 hb; replace HO495 := eldRR HO495 ho87 hb; replace HO498 := eldRR HO498 ho87 hb; replace HO501 := eldRR HO501 ho87 hb; replace HO504 := eldRR HO504 ho87 hb; replace HO507 := eldRR HO507 ho87 hb; replace HI0 := IsS48.up HI0 hb; replace HK := upKB HK hb; replace HB := upB HB hb; clear hb ho87) | ((with_reducible refine gate_dst (N := 38) rfl ?_); refine Kd.R_lit (Kd.int .i64) _ 3 ?hg (N := 38) ?hd (xs := ([2, 3, 2, 0, 3] : List Int)) (inner := [.int .i64 2, .int .i64 3, .int .i64 2, .int .i64 0, .int .i64 3]) (ok := fun _ => True) (okp := fun _ => True) ?hr ?hp (fun _ hk => hk) trivial (Below.refl _ _) (Nat.le_refl _) (by simp) ?_; (case hd => rfl); (case hg => rfl); (case hr => first | (go_simp; done) | (go_simp; rfl)); (case hp => exact repsI _); intro v512 w88 ho89 hb hg_ hnew_; clear hg_ hnew_; (first | rw [← Ny511.out] at ho89 | (simp only [Int.reduceToNat] at ho89; rw [← Ny511.out] at ho89)); have HO513 := Aside0.mk (Kd.R_lower (Kd.R_new' (Kd.R_new' (Kd.R_new' (Kd.R_new' (Kd.R_new' (Kd.R_new' (Kd.R_new' (Kd.R_new' ho89 (ltR HO489)) (ltR HO492)) (ltR HO495)) (ltR HO498)) (ltR HO501)) (ltR HO504)) (ltR HO507)) (ltR HO510)) (szK HK)); replace HO489 := eldRR HO489 ho89 hb; replace HO492 := eldRR HO492 ho89 hb; replace HO495 := eldRR HO495 ho89 hb; replace HO498 := eldRR HO498 ho89 hb; replace HO501 := eldRR HO501 ho89 hb; replace HO504 := eldRR HO504 ho89 hb; replace HO507 := eldRR HO507 ho89 hb; replace HO510 := eldRR HO510 ho89 hb; replace HI0 := IsS48.up HI0 hb; replace HK := upKB HK hb; replace HB := upB HB hb; clear hb ho89; obtain ⟨Ao90, co90, eo90⟩ := Kd.R_slice HO489.out; subst eo90; obtain ⟨Ao91, co91, eo91⟩ := Kd.R_slice HO492.out; subst eo91; obtain ⟨Ao92, co92, eo92⟩ := Kd.R_slice HO495.out; subst eo92; obtain ⟨Ao93, co93, eo93⟩ := Kd.R_slice HO498.out; subst eo93; obtain ⟨Ao94, co94, eo94⟩ := Kd.R_slice HO501.out; subst eo94; obtain ⟨Ao95, co95, eo95⟩ := Kd.R_slice HO504.out; subst eo95; obtain ⟨Ao96, co96, eo96⟩ := Kd.R_slice HO507.out; subst eo96; obtain ⟨Ao97, co97, eo97⟩ := Kd.R_slice HO510.out; subst eo97; obtain ⟨Ao98, co98, eo98⟩ := Kd.R_slice HO513.out; subst eo98) | ((with_reducible refine gate_dst (N := 39) rfl ?_); refine N_lit0 (Kd.slice 3 (Kd.int .i64)) 24 ?hg (N' := 39) ?hd (xs := ([y487, y490, y493, y496, y499, y502, y505, y508, y511] : List (List Int))) (inner := [.slice Ao90 y487.length co90, .slice Ao91 y490.length co91, .slice Ao92 y493.length co92, .slice Ao93 y496.length co93, .slice Ao94 y499.length co94, .slice Ao95 y502.length co95, .slice Ao96 y505.length co96, .slice Ao97 y508.length co97, .slice Ao98 y511.length co98]) (ok := (fun k_ => k_ ≠ g)) (okp := (fun k_ => k_ ≠ g)) ?hr ?hp (fun _ hk => hk) (by exact (show ∀ k_, w88.heap.size ≤ k_ → (fun k_ => k_ ≠ g) k_ from fun k_ hk => IsS48.fresh (IsS48.at HI0) k_ hk) _ (Nat.le_refl _)) (by simp) ?_; (case hd => rfl); (case hg => rfl); (case hr => first | (go_simp; done) | (go_simp; rfl)); (case hp => exact (Reps.one (show Kd.FK (Kd.slice 3 (Kd.int .i64)) _ _ y487 [.slice Ao90 y487.length co90] from (Kd.FK_slice_mk (Kd.R_reads' (Kd.R_mono (ok' := (fun k_ => k_ ≠ g)) (IsS48.apart HI0.out (HO489.out) (by decide)) (fun k_ hk => hk.2))).2.1 (Kd.R_F (Kd.R_mono (ok' := (fun k_ => k_ ≠ g)) (IsS48.apart HI0.out (HO489.out) (by decide)) (fun k_ hk => hk.2))))) (Reps.one (show Kd.FK (Kd.slice 3 (Kd.int .i64)) _ _ y490 [.slice Ao91 y490.length co91] from (Kd.FK_slice_mk (Kd.R_reads' (Kd.R_mono (ok' := (fun k_ => k_ ≠ g)) (IsS48.apart HI0.out (HO492.out) (by decide)) (fun k_ hk => hk.2))).2.1 (Kd.R_F (Kd.R_mono (ok' := (fun k_ => k_ ≠ g)) (IsS48.apart HI0.out (HO492.out) (by decide)) (fun k_ hk => hk.2))))) (Reps.one (show Kd.FK (Kd.slice 3 (Kd.int .i64)) _ _ y493 [.slice Ao92 y493.length co92] from (Kd.FK_slice_mk (Kd.R_reads' (Kd.R_mono (ok' := (fun k_ => k_ ≠ g)) (IsS48.apart HI0.out (HO495.out) (by decide)) (fun k_ hk => hk.2))).2.1 (Kd.R_F (Kd.R_mono (ok' := (fun k_ => k_ ≠ g)) (IsS48.apart HI0.out (HO495.out) (by decide)) (fun k_ hk => hk.2))))) (Reps.one (show Kd.FK (Kd.slice 3 (Kd.int .i64)) _ _ y496 [.slice Ao93 y496.length co93] from (Kd.FK_slice_mk (Kd.R_reads' (Kd.R_mono (ok' := (fun k_ => k_ ≠ g)) (IsS48.apart HI0.out (HO498.out) (by decide)) (fun k_ hk => hk.2))).2.1 (Kd.R_F (Kd.R_mono (ok' := (fun k_ => k_ ≠ g)) (IsS48.apart HI0.out (HO498.out) (by decide)) (fun k_ hk => hk.2))))) (Reps.one (show Kd.FK (Kd.slice 3 (Kd.int .i64)) _ _ y499 [.slice Ao94 y499.length co94] from (Kd.FK_slice_mk (Kd.R_reads' (Kd.R_mono (ok' := (fun k_ => k_ ≠ g)) (IsS48.apart HI0.out (HO501.out) (by decide)) (fun k_ hk => hk.2))).2.1 (Kd.R_F (Kd.R_mono (ok' := (fun k_ => k_ ≠ g)) (IsS48.apart HI0.out (HO501.out) (by decide)) (fun k_ hk => hk.2))))) (Reps.one (show Kd.FK (Kd.slice 3 (Kd.int .i64)) _ _ y502 [.slice Ao95 y502.length co95] from (Kd.FK_slice_mk (Kd.R_reads' (Kd.R_mono (ok' := (fun k_ => k_ ≠ g)) (IsS48.apart HI0.out (HO504.out) (by decide)) (fun k_ hk => hk.2))).2.1 (Kd.R_F (Kd.R_mono (ok' := (fun k_ => k_ ≠ g)) (IsS48.apart HI0.out (HO504.out) (by decide)) (fun k_ hk => hk.2))))) (Reps.one (show Kd.FK (Kd.slice 3 (Kd.int .i64)) _ _ y505 [.slice Ao96 y505.length co96] from (Kd.FK_slice_mk (Kd.R_reads' (Kd.R_mono (ok' := (fun k_ => k_ ≠ g)) (IsS48.apart HI0.out (HO507.out) (by decide)) (fun k_ hk => hk.2))).2.1 (Kd.R_F (Kd.R_mono (ok' := (fun k_ => k_ ≠ g)) (IsS48.apart HI0.out (HO507.out) (by decide)) (fun k_ hk => hk.2))))) (Reps.one (show Kd.FK (Kd.slice 3 (Kd.int .i64)) _ _ y508 [.slice Ao97 y508.length co97] from (Kd.FK_slice_mk (Kd.R_reads' (Kd.R_mono (ok' := (fun k_ => k_ ≠ g)) (IsS48.apart HI0.out (HO510.out) (by decide)) (fun k_ hk => hk.2))).2.1 (Kd.R_F (Kd.R_mono (ok' := (fun k_ => k_ ≠ g)) (IsS48.apart HI0.out (HO510.out) (by decide)) (fun k_ hk => hk.2))))) (Reps.one (show Kd.FK (Kd.slice 3 (Kd.int .i64)) _ _ y511 [.slice Ao98 y511.length co98] from (Kd.FK_slice_mk (Kd.R_reads' (Kd.R_mono (ok' := (fun k_ => k_ ≠ g)) (IsS48.apart HI0.out (HO513.out) (by decide)) (fun k_ hk => hk.2))).2.1 (Kd.R_F (Kd.R_mono (ok' := (fun k_ => k_ ≠ g)) (IsS48.apart HI0.out (HO513.out) (by decide)) (fun k_ hk => hk.2))))) (Reps.none _ _))))))))))); intro v515 w99 ho100 hb hg_ hnew_; clear hg_ hnew_; (first | rw [← Ny514.out] at ho100 | (simp only [Int.reduceToNat] at ho100; rw [← Ny514.out] at ho100)); have HO516 := Aside0.mk (Kd.N_lower ho100 (szK HK)); replace HI0 := IsS48.up HI0 hb; replace HK := upKB HK hb; replace HB := upB HB hb; clear HO489 HO492 HO495 HO498 HO501 HO504 HO507 HO510 HO513; clear hb ho100; obtain ⟨Ao101, co101, eo101⟩ := Kd.N_slice HO516.out; subst eo101) | ((with_reducible refine gate_callee (f := 42) rfl ?_); refine goesA (some 44) Try.func42 #[.pointer (some ⟨g, 0, none⟩), .int .i64 (y514.length : Int)] ?_; (with_reducible refine (Zac.calls g s0_0 t462 t463 (y514.length : Int) t517 t518 t519 w0 _ ?side1 ?side2 A30.out).mono ?_); (case side1 => exact IsS48.at HI0); (case side2 => exact atB HB); rintro e w102 ⟨rfl, hi, hb, hk⟩; refine ⟨_, rfl, ?_⟩; replace HO516 := Aside0.mk (Kd.N_mono (Kd.N_keep (Kd.N_mono (ok := fun k_ => k_ ≠ g) (by (with_reducible repeat (first | apply Kd.N_alloc | apply Kd.N_drewN | apply Kd.N_drew)); exact HO516.out) (fun k_ hk_ => (⟨hk_, hk_⟩ : _ ∧ k_ ≠ g))) hk (fun _ h => h.2)) (fun _ h => h.1)); replace HK := upK HK hk; replace HB := Aside0.mk (hb); replace HI0 := Aside0.mk (hi); have p520 : 0 ≤ (t517 : Int) := ofd; have q520 : t517 < (y514.length : Int) := ofd; obtain ⟨ad520, A520_0, c520_0, e520, hx520_0, hl520_0, hi520_0⟩ := at_L2 (Kd.N_reads' HO516.out).2.2 t517 p520 q520; cases e520; obtain ⟨ce520, hce520, hMe520, hcc520⟩ := Kd.N_get HO516.out [] t517 p520 (by first | exact q520 | exact of_decide_eq_true (by first | (with_reducible assumption) | assumption) | (have e_ := (Kd.N_reads' HO516.out).1; omega)); obtain ⟨ua520_0, uc520_0, rfl, ul520_0, ge520_0⟩ := Kd.FK_slice_open hMe520; have hv520_0 := hcc520 0 _ rfl; rw [Nat.add_zero, show ((Kd.slice 3 (Kd.int .i64))).sz = 1 from rfl, Nat.mul_one] at hv520_0; replace hv520_0 := Option.some.inj (hv520_0.symm.trans hx520_0); injection hv520_0 with hva_ hvn_ hvc_; rw [hva_] at ge520_0; rw [hvc_] at ul520_0; have HL520_0 := Aside0.mk (show Kd.V (Kd.int .i64) 3 _ w.heap.size _ _ (rd_L2 y514 t517) from Kd.V_mk ul520_0 ge520_0); clear hva_ hvn_ hvc_ ge520_0 ul520_0; clear hcc520 hce520; have HR520_0 := Aside0.mk hi520_0; have HC520_0 := Aside0.mk hl520_0; clear hi520_0 hl520_0; replace p520 := eq_true p520; replace q520 := eq_true q520) | ((with_reducible refine gate_callee (f := 69) rfl ?_); refine goesA (some 47) Try.func69 #[.slice A520_0 (rd_L2 y514 t517).length c520_0] ?_; (with_reducible refine (Zcf.calls _ _ (rd_L2 y514 t517) t521 _ ?side1 ?side2 A33.out).mono ?_); (case side1 => exact atC HR520_0); (case side2 => exact HC520_0.out); rintro e w103 ⟨v522, rfl, ho0, hb⟩; refine ⟨_, rfl, ?_⟩; have HO523 := lowKR ho0 HK; replace HO516 := Aside0.mk (Kd.N_elder' (by (with_reducible repeat (first | apply Kd.N_alloc | apply Kd.N_drewN | apply Kd.N_drew)); exact HO516.out) (Kd.R_base ho0) hb); replace HL520_0 := Aside0.mk (Kd.V_elder' (by (with_reducible repeat (first | apply Kd.V_alloc | apply Kd.V_drewN | apply Kd.V_drew)); exact HL520_0.out) (Kd.R_base ho0) hb); replace HI0 := IsS48.up HI0 hb; replace HR520_0 := upC HR520_0 hb; replace HK := upKB HK hb; replace HB := upB HB hb) | ((with_reducible refine gate_callee (f := 47) rfl ?_); refine goesA (some 49) Try.func47 #[.pointer (some ⟨g, 0, none⟩), .int .i64 3] ?_; (with_reducible refine (Zat.calls g s0_0 t518 t519 3 false t525 t526 w0 _ ?side1 ?side2 A34.out).mono ?_); (case side1 => exact IsS48.at HI0); (case side2 => exact atB HB); rintro e w104 ⟨rfl, hi, hb, hk⟩; refine ⟨_, rfl, ?_⟩; replace HO516 := Aside0.mk (Kd.N_mono (Kd.N_keep (Kd.N_mono (ok := fun k_ => (k_ ≠ g ∧ some k_ ≠ (v522 : Value).ownBlock)) (by (with_reducible repeat (first | apply Kd.N_alloc | apply Kd.N_drewN | apply Kd.N_drew)); exact HO516.out) (fun k_ hk_ => (⟨hk_, hk_.1⟩ : _ ∧ k_ ≠ g))) hk (fun _ h => h.2)) (fun _ h => h.1)); replace HL520_0 := Aside0.mk (Kd.V_mono (Kd.V_keep (Kd.V_mono (ok := fun k_ => ((k_ ≠ g ∧ some k_ ≠ (.slice (some ad520) y514.length co101 : Value).ownBlock) ∧ some k_ ≠ (v522 : Value).ownBlock)) (by (with_reducible repeat (first | apply Kd.V_alloc | apply Kd.V_drewN | apply Kd.V_drew)); exact HL520_0.out) (fun k_ hk_ => (⟨hk_, hk_.1.1⟩ : _ ∧ k_ ≠ g))) hk (fun _ h => h.2)) (fun _ h => h.1)); replace HO523 := IsS48.keepR HI0 HO523 hk; replace HK := upK HK hk; replace HB := Aside0.mk (hb); replace HI0 := Aside0.mk (hi)))
       go_ret
       exact ⟨_, eqr, atR HO523, IsS48.at HI0, atB HB, atK HK⟩
      subst c35
      replace H := it_ H
      obtain ⟨t527, A36, H⟩ := bs_ H
      (try dsimp only at H)
      simp only [Option.some.injEq, Prod.mk.injEq] at H
      obtain ⟨rfl, rfl, rfl⟩ := H
      go_wp2_with (first | ((with_reducible refine gate_dst (N := 30) rfl ?_); refine Kd.R_lit (Kd.int .i64) _ 3 ?hg (N := 30) ?hd (xs := ([1, 1] : List Int)) (inner := [.int .i64 1, .int .i64 1]) (ok := fun _ => True) (okp := fun _ => True) ?hr ?hp (fun _ hk => hk) trivial (Below.refl _ _) (Nat.le_refl _) (by simp) ?_; (case hd => rfl); (case hg => rfl); (case hr => first | (go_simp; done) | (go_simp; rfl)); (case hp => exact repsI _); intro v488 w37 ho38 hb hg_ hnew_; clear hg_ hnew_; (first | rw [← Ny487.out] at ho38 | (simp only [Int.reduceToNat] at ho38; rw [← Ny487.out] at ho38)); have HO489 := lowKR ho38 HK; replace HI0 := IsS48.up HI0 hb; replace HK := upKB HK hb; replace HB := upB HB hb; clear hb ho38) | ((with_reducible refine gate_dst (N := 31) rfl ?_); refine Kd.R_lit (Kd.int .i64) _ 3 ?hg (N := 31) ?hd (xs := ([3, 1, 2, 1, 3, 2] : List Int)) (inner := [.int .i64 3, .int .i64 1, .int .i64 2, .int .i64 1, .int .i64 3, .int .i64 2]) (ok := fun _ => True) (okp := fun _ => True) ?hr ?hp (fun _ hk => hk) trivial (Below.refl _ _) (Nat.le_refl _) (by simp) ?_; (case hd => rfl); (case hg => rfl); (case hr => first | (go_simp; done) | (go_simp; rfl)); (case hp => exact repsI _); intro v491 w39 ho40 hb hg_ hnew_; clear hg_ hnew_; (first | rw [← Ny490.out] at ho40 | (simp only [Int.reduceToNat] at ho40; rw [← Ny490.out] at ho40)); have HO492 := Aside0.mk (Kd.R_lower (Kd.R_new' ho40 (ltR HO489)) (szK HK)); replace HO489 := eldRR HO489 ho40 hb; replace HI0 := IsS48.up HI0 hb; replace HK := upKB HK hb; replace HB := upB HB hb; clear hb ho40) | ((with_reducible refine gate_dst (N := 32) rfl ?_); refine Kd.R_lit (Kd.int .i64) _ 3 ?hg (N := 32) ?hd (xs := ([1, 1, 2, 0, 2] : List Int)) (inner := [.int .i64 1, .int .i64 1, .int .i64 2, .int .i64 0, .int .i64 2]) (ok := fun _ => True) (okp := fun _ => True) ?hr ?hp (fun _ hk => hk) trivial (Below.refl _ _) (Nat.le_refl _) (by simp) ?_; (case hd => rfl); (case hg => rfl); (case hr => first | (go_simp; done) | (go_simp; rfl)); (case hp => exact repsI _); intro v494 w41 ho42 hb hg_ hnew_; clear hg_ hnew_; (first | rw [← Ny493.out] at ho42 | (simp only [Int.reduceToNat] at ho42; rw [← Ny493.out] at ho42)); have HO495 := Aside0.mk (Kd.R_lower (Kd.R_new' (Kd.R_new' ho42 (ltR HO489)) (ltR HO492)) (szK HK)); replace HO489 := eldRR HO489 ho42 hb; replace HO492 := eldRR HO492 ho42 hb; replace HI0 := IsS48.up HI0 hb; replace HK := upKB HK hb; replace HB := upB HB hb; clear hb ho42) | ((with_reducible refine gate_dst (N := 33) rfl ?_); refine Kd.R_lit (Kd.int .i64) _ 3 ?hg (N := 33) ?hd (xs := ([4, 2, 3, 2, 4, 3, 1, 1] : List Int)) (inner := [.int .i64 4, .int .i64 2, .int .i64 3, .int .i64 2, .int .i64 4, .int .i64 3, .int .i64 1, .int .i64 1]) (ok := fun _ => True) (okp := fun _ => True) ?hr ?hp (fun _ hk => hk) trivial (Below.refl _ _) (Nat.le_refl _) (by simp) ?_; (case hd => rfl); (case hg => rfl); (case hr => first | (go_simp; done) | (go_simp; rfl)); (case hp => exact repsI _); intro v497 w43 ho44 hb hg_ hnew_; clear hg_ hnew_; (first | rw [← Ny496.out] at ho44 | (simp only [Int.reduceToNat] at ho44; rw [← Ny496.out] at ho44)); have HO498 := Aside0.mk (Kd.R_lower (Kd.R_new' (Kd.R_new' (Kd.R_new' ho44 (ltR HO489)) (ltR HO492)) (ltR HO495)) (szK HK)); replace HO489 := eldRR HO489 ho44 hb; replace HO492 := eldRR HO492 ho44 hb; replace HO495 := eldRR HO495 ho44 hb; replace HI0 := IsS48.up HI0 hb; replace HK := upKB HK hb; replace HB := upB HB hb; clear hb ho44) | ((with_reducible refine gate_dst (N := 34) rfl ?_); refine Kd.R_lit (Kd.int .i64) _ 3 ?hg (N := 34) ?hd (xs := ([2, 3, 4, 2, 1, 3, 1, 4] : List Int)) (inner := [.int .i64 2, .int .i64 3, .int .i64 4, .int .i64 2, .int .i64 1, .int .i64 3, .int .i64 1, .int .i64 4]) (ok := fun _ => True) (okp := fun _ => True) ?hr ?hp (fun _ hk => hk) trivial (Below.refl _ _) (Nat.le_refl _) (by simp) ?_; (case hd => rfl); (case hg => rfl); (case hr => first | (go_simp; done) | (go_simp; rfl)); (case hp => exact repsI _); intro v500 w45 ho46 hb hg_ hnew_; clear hg_ hnew_; (first | rw [← Ny499.out] at ho46 | (simp only [Int.reduceToNat] at ho46; rw [← Ny499.out] at ho46)); have HO501 := Aside0.mk (Kd.R_lower (Kd.R_new' (Kd.R_new' (Kd.R_new' (Kd.R_new' ho46 (ltR HO489)) (ltR HO492)) (ltR HO495)) (ltR HO498)) (szK HK)); replace HO489 := eldRR HO489 ho46 hb; replace HO492 := eldRR HO492 ho46 hb; replace HO495 := eldRR HO495 ho46 hb; replace HO498 := eldRR HO498 ho46 hb; replace HI0 := IsS48.up HI0 hb; replace HK := upKB HK hb; replace HB := upB HB hb; clear hb ho46) | ((with_reducible refine gate_dst (N := 35) rfl ?_); refine Kd.R_lit (Kd.int .i64) _ 3 ?hg (N := 35) ?hd (xs := ([4, 1, 3, 1, 2, 4, 3, 2] : List Int)) (inner := [.int .i64 4, .int .i64 1, .int .i64 3, .int .i64 1, .int .i64 2, .int .i64 4, .int .i64 3, .int .i64 2]) (ok := fun _ => True) (okp := fun _ => True) ?hr ?hp (fun _ hk => hk) trivial (Below.refl _ _) (Nat.le_refl _) (by simp) ?_; (case hd => rfl); (case hg => rfl); (case hr => first | (go_simp; done) | (go_simp; rfl)); (case hp => exact repsI _); intro v503 w47 ho48 hb hg_ hnew_; clear hg_ hnew_; (first | rw [← Ny502.out] at ho48 | (simp only [Int.reduceToNat] at ho48; rw [← Ny502.out] at ho48)); have HO504 := Aside0.mk (Kd.R_lower (Kd.R_new' (Kd.R_new' (Kd.R_new' (Kd.R_new' (Kd.R_new' ho48 (ltR HO489)) (ltR HO492)) (ltR HO495)) (ltR HO498)) (ltR HO501)) (szK HK)); replace HO489 := eldRR HO489 ho48 hb; replace HO492 := eldRR HO492 ho48 hb; replace HO495 := eldRR HO495 ho48 hb; replace HO498 := eldRR HO498 ho48 hb; replace HO501 := eldRR HO501 ho48 hb; replace HI0 := IsS48.up HI0 hb; replace HK := upKB HK hb; replace HB := upB HB hb; clear hb ho48) | ((with_reducible refine gate_dst (N := 36) rfl ?_); refine Kd.R_lit (Kd.int .i64) _ 3 ?hg (N := 36) ?hd (xs := ([3, 1, 1, 3, 2, 0, 2] : List Int)) (inner := [.int .i64 3, .int .i64 1, .int .i64 1, .int .i64 3, .int .i64 2, .int .i64 0, .int .i64 2]) (ok := fun _ => True) (okp := fun _ => True) ?hr ?hp (fun _ hk => hk) trivial (Below.refl _ _) (Nat.le_refl _) (by simp) ?_; (case hd => rfl); (case hg => rfl); (case hr => first | (go_simp; done) | (go_simp; rfl)); (case hp => exact repsI _); intro v506 w49 ho50 hb hg_ hnew_; clear hg_ hnew_; (first | rw [← Ny505.out] at ho50 | (simp only [Int.reduceToNat] at ho50; rw [← Ny505.out] at ho50)); have HO507 := Aside0.mk (Kd.R_lower (Kd.R_new' (Kd.R_new' (Kd.R_new' (Kd.R_new' (Kd.R_new' (Kd.R_new' ho50 (ltR HO489)) (ltR HO492)) (ltR HO495)) (ltR HO498)) (ltR HO501)) (ltR HO504)) (szK HK)); replace HO489 := eldRR HO489 ho50 hb; replace HO492 := eldRR HO492 ho50 hb; replace HO495 := eldRR HO495 ho50 hb; replace HO498 := eldRR HO498 ho50 hb; replace HO501 := eldRR HO501 ho50 hb; replace HO504 := eldRR HO504 ho50 hb; replace HI0 := IsS48.up HI0 hb; replace HK := upKB HK hb; replace HB := upB HB hb; clear hb ho50) | ((with_reducible refine gate_dst (N := 37) rfl ?_); refine Kd.R_lit (Kd.int .i64) _ 3 ?hg (N := 37) ?hd (xs := ([5, 2, 4, 2, 3, 5, 4, 3, 1, 1] : List Int)) (inner := [.int .i64 5, .int .i64 2, .int .i64 4, .int .i64 2, .int .i64 3, .int .i64 5, .int .i64 4, .int .i64 3, .int .i64 1, .int .i64 1]) (ok := fun _ => True) (okp := fun _ => True) ?hr ?hp (fun _ hk => hk) trivial (Below.refl _ _) (Nat.le_refl _) (by simp) ?_; (case hd => rfl); (case hg => rfl); (case hr => first | (go_simp; done) | (go_simp; rfl)); (case hp => exact repsI _); intro v509 w51 ho52 hb hg_ hnew_; clear hg_ hnew_; (first | rw [← Ny508.out] at ho52 | (simp only [Int.reduceToNat] at ho52; rw [← Ny508.out] at ho52)); have HO510 := Aside0.mk (Kd.R_lower (Kd.R_new' (Kd.R_new' (Kd.R_new' (Kd.R_new' (Kd.R_new' (Kd.R_new' (Kd.R_new' ho52 (ltR HO489)) (ltR HO492)) (ltR HO495)) (ltR HO498)) (ltR HO501)) (ltR HO504)) (ltR HO507)) (szK HK)); replace HO489 := eldRR HO489 ho52 hb; replace HO492 := eldRR HO492 ho52 hb; replace HO495 := eldRR HO495 ho52 hb; replace HO498 := eldRR HO498 ho52 hb; replace HO501 := eldRR HO501 ho52 hb; replace HO504 := eldRR HO504 ho52 hb; replace HO507 := eldRR HO507 ho52 hb; replace HI0 := IsS48.up HI0 hb; replace HK := upKB HK hb; replace HB := upB HB hb; clear hb ho52) | ((with_reducible refine gate_dst (N := 38) rfl ?_); refine Kd.R_lit (Kd.int .i64) _ 3 ?hg (N := 38) ?hd (xs := ([2, 3, 2, 0, 3] : List Int)) (inner := [.int .i64 2, .int .i64 3, .int .i64 2, .int .i64 0, .int .i64 3]) (ok := fun _ => True) (okp := fun _ => True) ?hr ?hp (fun _ hk => hk) trivial (Below.refl _ _) (Nat.le_refl _) (by simp) ?_; (case hd => rfl); (case hg => rfl); (case hr => first | (go_simp; done) | (go_simp; rfl)); (case hp => exact repsI _); intro v512 w53 ho54 hb hg_ hnew_; clear hg_ hnew_; (first | rw [← Ny511.out] at ho54 | (simp only [Int.reduceToNat] at ho54; rw [← Ny511.out] at ho54)); have HO513 := Aside0.mk (Kd.R_lower (Kd.R_new' (Kd.R_new' (Kd.R_new' (Kd.R_new' (Kd.R_new' (Kd.R_new' (Kd.R_new' (Kd.R_new' ho54 (ltR HO489)) (ltR HO492)) (ltR HO495)) (ltR HO498)) (ltR HO501)) (ltR HO504)) (ltR HO507)) (ltR HO510)) (szK HK)); replace HO489 := eldRR HO489 ho54 hb; replace HO492 := eldRR HO492 ho54 hb; replace HO495 := eldRR HO495 ho54 hb; replace HO498 := eldRR HO498 ho54 hb; replace HO501 := eldRR HO501 ho54 hb; replace HO504 := eldRR HO504 ho54 hb; replace HO507 := eldRR HO507 ho54 hb; replace HO510 := eldRR HO510 ho54 hb; replace HI0 := IsS48.up HI0 hb; replace HK := upKB HK hb; replace HB := upB HB hb; clear hb ho54; obtain ⟨Ao55, co55, eo55⟩ := Kd.R_slice HO489.out; subst eo55; obtain ⟨Ao56, co56, eo56⟩ := Kd.R_slice HO492.out; subst eo56; obtain ⟨Ao57, co57, eo57⟩ := Kd.R_slice HO495.out; subst eo57; obtain ⟨Ao58, co58, eo58⟩ := Kd.R_slice HO498.out; subst eo58; obtain ⟨Ao59, co59, eo59⟩ := Kd.R_slice HO501.out; subst eo59; obtain ⟨Ao60, co60, eo60⟩ := Kd.R_slice HO504.out; subst eo60; obtain ⟨Ao61, co61, eo61⟩ := Kd.R_slice HO507.out; subst eo61; obtain ⟨Ao62, co62, eo62⟩ := Kd.R_slice HO510.out; subst eo62; obtain ⟨Ao63, co63, eo63⟩ := Kd.R_slice HO513.out; subst eo63) | ((with_reducible refine gate_dst (N := 39) rfl ?_); refine N_lit0 (Kd.slice 3 (Kd.int .i64)) 24 ?hg (N' := 39) ?hd (xs := ([y487, y490, y493, y496, y499, y502, y505, y508, y511] : List (List Int))) (inner := [.slice Ao55 y487.length co55, .slice Ao56 y490.length co56, .slice Ao57 y493.length co57, .slice Ao58 y496.length co58, .slice Ao59 y499.length co59, .slice Ao60 y502.length co60, .slice Ao61 y505.length co61, .slice Ao62 y508.length co62, .slice Ao63 y511.length co63]) (ok := (fun k_ => k_ ≠ g)) (okp := (fun k_ => k_ ≠ g)) ?hr ?hp (fun _ hk => hk) (by exact (show ∀ k_, w53.heap.size ≤ k_ → (fun k_ => k_ ≠ g) k_ from fun k_ hk => IsS48.fresh (IsS48.at HI0) k_ hk) _ (Nat.le_refl _)) (by simp) ?_; (case hd => rfl); (case hg => rfl); (case hr => first | (go_simp; done) | (go_simp; rfl)); (case hp => exact (Reps.one (show Kd.FK (Kd.slice 3 (Kd.int .i64)) _ _ y487 [.slice Ao55 y487.length co55] from (Kd.FK_slice_mk (Kd.R_reads' (Kd.R_mono (ok' := (fun k_ => k_ ≠ g)) (IsS48.apart HI0.out (HO489.out) (by decide)) (fun k_ hk => hk.2))).2.1 (Kd.R_F (Kd.R_mono (ok' := (fun k_ => k_ ≠ g)) (IsS48.apart HI0.out (HO489.out) (by decide)) (fun k_ hk => hk.2))))) (Reps.one (show Kd.FK (Kd.slice 3 (Kd.int .i64)) _ _ y490 [.slice Ao56 y490.length co56] from (Kd.FK_slice_mk (Kd.R_reads' (Kd.R_mono (ok' := (fun k_ => k_ ≠ g)) (IsS48.apart HI0.out (HO492.out) (by decide)) (fun k_ hk => hk.2))).2.1 (Kd.R_F (Kd.R_mono (ok' := (fun k_ => k_ ≠ g)) (IsS48.apart HI0.out (HO492.out) (by decide)) (fun k_ hk => hk.2))))) (Reps.one (show Kd.FK (Kd.slice 3 (Kd.int .i64)) _ _ y493 [.slice Ao57 y493.length co57] from (Kd.FK_slice_mk (Kd.R_reads' (Kd.R_mono (ok' := (fun k_ => k_ ≠ g)) (IsS48.apart HI0.out (HO495.out) (by decide)) (fun k_ hk => hk.2))).2.1 (Kd.R_F (Kd.R_mono (ok' := (fun k_ => k_ ≠ g)) (IsS48.apart HI0.out (HO495.out) (by decide)) (fun k_ hk => hk.2))))) (Reps.one (show Kd.FK (Kd.slice 3 (Kd.int .i64)) _ _ y496 [.slice Ao58 y496.length co58] from (Kd.FK_slice_mk (Kd.R_reads' (Kd.R_mono (ok' := (fun k_ => k_ ≠ g)) (IsS48.apart HI0.out (HO498.out) (by decide)) (fun k_ hk => hk.2))).2.1 (Kd.R_F (Kd.R_mono (ok' := (fun k_ => k_ ≠ g)) (IsS48.apart HI0.out (HO498.out) (by decide)) (fun k_ hk => hk.2))))) (Reps.one (show Kd.FK (Kd.slice 3 (Kd.int .i64)) _ _ y499 [.slice Ao59 y499.length co59] from (Kd.FK_slice_mk (Kd.R_reads' (Kd.R_mono (ok' := (fun k_ => k_ ≠ g)) (IsS48.apart HI0.out (HO501.out) (by decide)) (fun k_ hk => hk.2))).2.1 (Kd.R_F (Kd.R_mono (ok' := (fun k_ => k_ ≠ g)) (IsS48.apart HI0.out (HO501.out) (by decide)) (fun k_ hk => hk.2))))) (Reps.one (show Kd.FK (Kd.slice 3 (Kd.int .i64)) _ _ y502 [.slice Ao60 y502.length co60] from (Kd.FK_slice_mk (Kd.R_reads' (Kd.R_mono (ok' := (fun k_ => k_ ≠ g)) (IsS48.apart HI0.out (HO504.out) (by decide)) (fun k_ hk => hk.2))).2.1 (Kd.R_F (Kd.R_mono (ok' := (fun k_ => k_ ≠ g)) (IsS48.apart HI0.out (HO504.out) (by decide)) (fun k_ hk => hk.2))))) (Reps.one (show Kd.FK (Kd.slice 3 (Kd.int .i64)) _ _ y505 [.slice Ao61 y505.length co61] from (Kd.FK_slice_mk (Kd.R_reads' (Kd.R_mono (ok' := (fun k_ => k_ ≠ g)) (IsS48.apart HI0.out (HO507.out) (by decide)) (fun k_ hk => hk.2))).2.1 (Kd.R_F (Kd.R_mono (ok' := (fun k_ => k_ ≠ g)) (IsS48.apart HI0.out (HO507.out) (by decide)) (fun k_ hk => hk.2))))) (Reps.one (show Kd.FK (Kd.slice 3 (Kd.int .i64)) _ _ y508 [.slice Ao62 y508.length co62] from (Kd.FK_slice_mk (Kd.R_reads' (Kd.R_mono (ok' := (fun k_ => k_ ≠ g)) (IsS48.apart HI0.out (HO510.out) (by decide)) (fun k_ hk => hk.2))).2.1 (Kd.R_F (Kd.R_mono (ok' := (fun k_ => k_ ≠ g)) (IsS48.apart HI0.out (HO510.out) (by decide)) (fun k_ hk => hk.2))))) (Reps.one (show Kd.FK (Kd.slice 3 (Kd.int .i64)) _ _ y511 [.slice Ao63 y511.length co63] from (Kd.FK_slice_mk (Kd.R_reads' (Kd.R_mono (ok' := (fun k_ => k_ ≠ g)) (IsS48.apart HI0.out (HO513.out) (by decide)) (fun k_ hk => hk.2))).2.1 (Kd.R_F (Kd.R_mono (ok' := (fun k_ => k_ ≠ g)) (IsS48.apart HI0.out (HO513.out) (by decide)) (fun k_ hk => hk.2))))) (Reps.none _ _))))))))))); intro v515 w64 ho65 hb hg_ hnew_; clear hg_ hnew_; (first | rw [← Ny514.out] at ho65 | (simp only [Int.reduceToNat] at ho65; rw [← Ny514.out] at ho65)); have HO516 := Aside0.mk (Kd.N_lower ho65 (szK HK)); replace HI0 := IsS48.up HI0 hb; replace HK := upKB HK hb; replace HB := upB HB hb; clear HO489 HO492 HO495 HO498 HO501 HO504 HO507 HO510 HO513; clear hb ho65; obtain ⟨Ao66, co66, eo66⟩ := Kd.N_slice HO516.out; subst eo66) | ((with_reducible refine gate_callee (f := 42) rfl ?_); refine goesA (some 44) Try.func42 #[.pointer (some ⟨g, 0, none⟩), .int .i64 (y514.length : Int)] ?_; (with_reducible refine (Zac.calls g s0_0 t462 t463 (y514.length : Int) t517 t518 t519 w0 _ ?side1 ?side2 A30.out).mono ?_); (case side1 => exact IsS48.at HI0); (case side2 => exact atB HB); rintro e w67 ⟨rfl, hi, hb, hk⟩; refine ⟨_, rfl, ?_⟩; replace HO516 := Aside0.mk (Kd.N_mono (Kd.N_keep (Kd.N_mono (ok := fun k_ => k_ ≠ g) (by (with_reducible repeat (first | apply Kd.N_alloc | apply Kd.N_drewN | apply Kd.N_drew)); exact HO516.out) (fun k_ hk_ => (⟨hk_, hk_⟩ : _ ∧ k_ ≠ g))) hk (fun _ h => h.2)) (fun _ h => h.1)); replace HK := upK HK hk; replace HB := Aside0.mk (hb); replace HI0 := Aside0.mk (hi); have p520 : 0 ≤ (t517 : Int) := ofd; have q520 : t517 < (y514.length : Int) := ofd; obtain ⟨ad520, A520_0, c520_0, e520, hx520_0, hl520_0, hi520_0⟩ := at_L2 (Kd.N_reads' HO516.out).2.2 t517 p520 q520; cases e520; obtain ⟨ce520, hce520, hMe520, hcc520⟩ := Kd.N_get HO516.out [] t517 p520 (by first | exact q520 | exact of_decide_eq_true (by first | (with_reducible assumption) | assumption) | (have e_ := (Kd.N_reads' HO516.out).1; omega)); obtain ⟨ua520_0, uc520_0, rfl, ul520_0, ge520_0⟩ := Kd.FK_slice_open hMe520; have hv520_0 := hcc520 0 _ rfl; rw [Nat.add_zero, show ((Kd.slice 3 (Kd.int .i64))).sz = 1 from rfl, Nat.mul_one] at hv520_0; replace hv520_0 := Option.some.inj (hv520_0.symm.trans hx520_0); injection hv520_0 with hva_ hvn_ hvc_; rw [hva_] at ge520_0; rw [hvc_] at ul520_0; have HL520_0 := Aside0.mk (show Kd.V (Kd.int .i64) 3 _ w.heap.size _ _ (rd_L2 y514 t517) from Kd.V_mk ul520_0 ge520_0); clear hva_ hvn_ hvc_ ge520_0 ul520_0; clear hcc520 hce520; have HR520_0 := Aside0.mk hi520_0; have HC520_0 := Aside0.mk hl520_0; clear hi520_0 hl520_0; replace p520 := eq_true p520; replace q520 := eq_true q520) | ((with_reducible refine gate_callee (f := 69) rfl ?_); refine goesA (some 47) Try.func69 #[.slice A520_0 (rd_L2 y514 t517).length c520_0] ?_; (with_reducible refine (Zcf.calls _ _ (rd_L2 y514 t517) t521 _ ?side1 ?side2 A33.out).mono ?_); (case side1 => exact atC HR520_0); (case side2 => exact HC520_0.out); rintro e w68 ⟨v522, rfl, ho0, hb⟩; refine ⟨_, rfl, ?_⟩; have HO523 := lowKR ho0 HK; replace HO516 := Aside0.mk (Kd.N_elder' (by (with_reducible repeat (first | apply Kd.N_alloc | apply Kd.N_drewN | apply Kd.N_drew)); exact HO516.out) (Kd.R_base ho0) hb); replace HL520_0 := Aside0.mk (Kd.V_elder' (by (with_reducible repeat (first | apply Kd.V_alloc | apply Kd.V_drewN | apply Kd.V_drew)); exact HL520_0.out) (Kd.R_base ho0) hb); replace HI0 := IsS48.up HI0 hb; replace HR520_0 := upC HR520_0 hb; replace HK := upKB HK hb; replace HB := upB HB hb) | ((with_reducible refine gate_callee (f := 47) rfl ?_); refine goesA (some 49) Try.func47 #[.pointer (some ⟨g, 0, none⟩), .int .i64 3] ?_; (with_reducible refine (Zat.calls g s0_0 t518 t519 3 true t525 t526 w0 _ ?side1 ?side2 A34.out).mono ?_); (case side1 => exact IsS48.at HI0); (case side2 => exact atB HB); rintro e w69 ⟨rfl, hi, hb, hk⟩; refine ⟨_, rfl, ?_⟩; replace HO516 := Aside0.mk (Kd.N_mono (Kd.N_keep (Kd.N_mono (ok := fun k_ => (k_ ≠ g ∧ some k_ ≠ (v522 : Value).ownBlock)) (by (with_reducible repeat (first | apply Kd.N_alloc | apply Kd.N_drewN | apply Kd.N_drew)); exact HO516.out) (fun k_ hk_ => (⟨hk_, hk_.1⟩ : _ ∧ k_ ≠ g))) hk (fun _ h => h.2)) (fun _ h => h.1)); replace HL520_0 := Aside0.mk (Kd.V_mono (Kd.V_keep (Kd.V_mono (ok := fun k_ => ((k_ ≠ g ∧ some k_ ≠ (.slice (some ad520) y514.length co66 : Value).ownBlock) ∧ some k_ ≠ (v522 : Value).ownBlock)) (by (with_reducible repeat (first | apply Kd.V_alloc | apply Kd.V_drewN | apply Kd.V_drew)); exact HL520_0.out) (fun k_ hk_ => (⟨hk_, hk_.1.1⟩ : _ ∧ k_ ≠ g))) hk (fun _ h => h.2)) (fun _ h => h.1)); replace HO523 := IsS48.keepR HI0 HO523 hk; replace HK := upK HK hk; replace HB := Aside0.mk (hb); replace HI0 := Aside0.mk (hi); obtain ⟨Ao70, co70, eo70⟩ := Kd.R_slice HO523.out; subst eo70) | ((with_reducible refine gate_callee (f := 82) rfl ?_); refine goesA (some 51) Try.func82 #[.slice Ao70 t521.length co70] ?_; (with_reducible refine (Zar.calls kj24 _ _ t521 t527 _ ?side1 ?side2 A36.out).mono ?_); (case side1 => exact atRC HO523); (case side2 => exact (Kd.R_reads' HO523.out).2.1); rintro e w71 ⟨v528, rfl, ho0, hb⟩; refine ⟨_, rfl, ?_⟩; have HO529 := Aside0.mk (Kd.R_lower (Kd.R_new' ho0 (ltR HO523)) (szK HK)); replace HO516 := Aside0.mk (Kd.N_elder' (by (with_reducible repeat (first | apply Kd.N_alloc | apply Kd.N_drewN | apply Kd.N_drew)); exact HO516.out) (Kd.R_base ho0) hb); replace HL520_0 := Aside0.mk (Kd.V_elder' (by (with_reducible repeat (first | apply Kd.V_alloc | apply Kd.V_drewN | apply Kd.V_drew)); exact HL520_0.out) (Kd.R_base ho0) hb); replace HO523 := eldRR HO523 ho0 hb; replace HI0 := IsS48.up HI0 hb; replace HK := upKB HK hb; replace HB := upB HB hb))
      go_ret
      exact ⟨_, eqr, by (with_reducible repeat (first | apply Kd.R_alloc | apply Kd.R_drewN | apply Kd.R_drew)); exact Kd.R_mono HO529.out (fun _ hk => trivial), IsS48.at HI0, atB HB, atK HK⟩
     ·replace c29 := Bool.eq_false_iff.mpr c29
      subst c29
      replace H := if_ H
      replace H := Option.bind_eq_some_iff.mp H
      obtain ⟨⟨t530, t531, t532⟩, A1050, H⟩ := H
      replace H : ((Zab.f kj24 s0_0 t531 t532 t530).bind fun bt533 => (some (bt533.1, bt533.2.1, bt533.2.2))) = some (r1, r2, r3) := H
      have A105 := Aside0.mk A1050
      clear A1050
      replace H := Option.bind_eq_some_iff.mp H
      obtain ⟨⟨t533, t536, t537⟩, A1060, H⟩ := H
      replace H : (some (t533, t536, t537)) = some (r1, r2, r3) := H
      have A106 := Aside0.mk A1060
      clear A1060
      simp only [Option.some.injEq, Prod.mk.injEq] at H
      obtain ⟨rfl, rfl, rfl⟩ := H
      go_wp2_with (first | ((with_reducible refine gate_callee (f := 42) rfl ?_); refine goesA (some 55) Try.func42 #[.pointer (some ⟨g, 0, none⟩), .int .i64 2] ?_; (with_reducible refine (Zac.calls g s0_0 t462 t463 2 t530 t531 t532 w0 _ ?side1 ?side2 A105.out).mono ?_); (case side1 => exact IsS48.at HI0); (case side2 => exact atB HB); rintro e w107 ⟨rfl, hi, hb, hk⟩; refine ⟨_, rfl, ?_⟩; replace HK := upK HK hk; replace HB := Aside0.mk (hb); replace HI0 := Aside0.mk (hi)) | ((with_reducible refine gate_callee (f := 86) rfl ?_); refine goesA (some 56) Try.func86 #[.pointer (some ⟨g, 0, none⟩), .int .i64 t530] ?_; (with_reducible refine (Zab.calls kj24 g s0_0 t531 t532 t530 t533 t536 t537 w0 _ ?side1 ?side2 A106.out).mono ?_); (case side1 => exact IsS48.at HI0); (case side2 => exact atB HB); rintro e w108 ⟨v534, rfl, ho0, hi, hb, hk⟩; refine ⟨_, rfl, ?_⟩; have HO535 := lowKR ho0 HK; replace HK := upK HK hk; replace HB := Aside0.mk (hb); replace HI0 := Aside0.mk (hi)))
      go_ret
      exact ⟨_, eqr, atR HO535, IsS48.at HI0, atB HB, atK HK⟩
noncomputable def Zau.J0 (x26 : Bool) (x1000 : List Int) (x1001 : Int) (x1002 : Int) : Option (List Int × Int × Int) := lim fun k => Zau.j0 k x26 x1000 x1001 x1002
theorem Zau.J0_lim (x26 : Bool) (x1000 : List Int) (x1001 : Int) (x1002 : Int) : Lim (fun k => Zau.j0 k x26 x1000 x1001 x1002) (Zau.J0 x26 x1000 x1001 x1002) := Lim.of fun k => (Zau.mono_l k) x26 x1000 x1001 x1002
noncomputable def Zau.F (s0_0 : List Int) (s0_1 : Int) (s0_2 : Int) : Option (List Int × Int × Int) := lim fun k => Zau.f k s0_0 s0_1 s0_2
theorem Zau.F_lim (s0_0 : List Int) (s0_1 : Int) (s0_2 : Int) : Lim (fun k => Zau.f k s0_0 s0_1 s0_2) (Zau.F s0_0 s0_1 s0_2) := Lim.of fun k => Zau.mono s0_0 s0_1 s0_2 k
theorem Zau.J0_eq (x26 : Bool) (x1000 : List Int) (x1001 : Int) (x1002 : Int) : Zau.J0 x26 x1000 x1001 x1002 = (if x26 = true then ((some (([(([1, 1] : List Int)), (([3, 1, 2, 1, 3, 2] : List Int)), (([1, 1, 2, 0, 2] : List Int)), (([4, 2, 3, 2, 4, 3, 1, 1] : List Int)), (([2, 3, 4, 2, 1, 3, 1, 4] : List Int)), (([4, 1, 3, 1, 2, 4, 3, 2] : List Int)), (([3, 1, 1, 3, 2, 0, 2] : List Int)), (([5, 2, 4, 2, 3, 5, 4, 3, 1, 1] : List Int)), (([2, 3, 2, 0, 3] : List Int))] : List (List Int)) : List (List Int))).bind fun y514 => ((Zac.f x1000 x1001 x1002 (y514.length : Int)).bind fun bt517 => (if 0 ≤ bt517.1 then (if bt517.1 < (y514.length : Int) then ((Zcf.f (rd_L2 y514 bt517.1)).bind fun t521 => ((Zat.f x1000 bt517.2.1 bt517.2.2 3).bind fun bt524 => (if bt524.1 = true then ((Zar.F t521).bind fun t527 => (some (t527, bt524.2.1, bt524.2.2))) else (some (t521, bt524.2.1, bt524.2.2))))) else (none)) else (none)))) else ((Zac.f x1000 x1001 x1002 2).bind fun bt530 => ((Zab.F x1000 bt530.2.1 bt530.2.2 bt530.1).bind fun bt533 => (some (bt533.1, bt533.2.1, bt533.2.2))))) :=
 Lim.step (f := fun k => Zau.j0 (k + 1) x26 x1000 x1001 x1002) (Zau.J0_lim x26 x1000 x1001 x1002) (fun _ => rfl) (by
  simp only [Zau.j0]
  repeat' (first | (with_reducible first | exact Lim.const _ | exact Zab.F_lim _ _ _ _ | exact Zar.F_lim _ | refine Lim.ite ?_ ?_ | refine Lim.bind ?_ (fun _ => ?_))))
theorem Zau.F_eq (s0_0 : List Int) (s0_1 : Int) (s0_2 : Int) : Zau.F s0_0 s0_1 s0_2 = ((Zac.f s0_0 s0_1 s0_2 14).bind fun bt461 => (if bt461.1 = 0 then ((Zac.f s0_0 bt461.2.1 bt461.2.2 2).bind fun bt464 => ((Zab.F s0_0 bt464.2.1 bt464.2.2 bt464.1).bind fun bt467 => ((Zbi.f s0_0 bt467.2.1 bt467.2.2 (([(-1), 1, 20, 21, 4611686018427387904] : List Int))).bind fun bt475 => (if bt467.1.length < 17592186044416 then (some ((bt467.1 ++ [bt475.1]), bt475.2.1, bt475.2.2)) else (none))))) else (if bt461.1 = 1 then ((Zac.f s0_0 bt461.2.1 bt461.2.2 2).bind fun bt481 => (if 0 ≤ (wrap64 (40 + bt481.1)) then (if (wrap64 (40 + bt481.1) : Int).toNat ≤ 35184372088832 then (some ((List.replicate (wrap64 (40 + bt481.1) : Int).toNat 0), bt481.2.1, bt481.2.2)) else (none)) else (none))) else (if bt461.1 = 2 then (Zau.J0 (bt461.1 == 2) s0_0 bt461.2.1 bt461.2.2) else (if bt461.1 = 3 then (Zau.J0 (bt461.1 == 3) s0_0 bt461.2.1 bt461.2.2) else (Zau.J0 (bt461.1 == 4) s0_0 bt461.2.1 bt461.2.2)))))) :=
 Lim.unique (Zau.F_lim s0_0 s0_1 s0_2) (by
  unfold Zau.f
  repeat' (first | (with_reducible first | exact Lim.const _ | exact Zau.J0_lim _ _ _ _ | exact Zab.F_lim _ _ _ _ | refine Lim.ite ?_ ?_ | refine Lim.bind ?_ (fun _ => ?_))))
def SeRet (from_ to_ shift hole most : Int) (p : Nat) (s' : SeSt) (w : World) (e : Ending) (w' : World) : Prop := ∃ (gS gr : Nat), e = .returned (.pointer (some ⟨gS, 0, none⟩)) ∧ w.heap.size ≤ gS ∧ w.heap.size ≤ gr ∧ gS ≠ gr ∧ SeI w.heap.size gS gr from_ to_ shift hole most (List.replicate p 0) 0 s' w' ∧ Below w.heap.size w w'
theorem seAll_none (from_ to_ shift hole most : Int) (p : Nat) (s' : SeSt) (w : World) (hfr : 1 ≤ from_ ∧ from_ ≤ 20) (hto : 0 ≤ to_ ∧ to_ ≤ 40) (hs : 0 ≤ shift ∧ shift ≤ 1) (hft : from_ ≤ to_) (hh : hole < 0) (hp : (p : Int) = 2 * (to_ - from_ + 1)) (h : seF from_ to_ shift hole most (p + 1) (0, []) (List.replicate p 0) 0 = some s') :
  Calls Try.prog 87 #[.int .i64 from_, .int .i64 to_, .int .i64 shift, .int .i64 hole, .int .i64 most] w (SeRet from_ to_ shift hole most p s' w) := by
 have HPL := Aside0.mk (show p ≤ 100 by omega)
 have HP := Aside0.mk (show p ≤ 1000 by omega)
 have HF := Aside0.mk (show (1 ≤ from_ ∧ from_ ≤ 20) ∧ (0 ≤ to_ ∧ to_ ≤ 40) ∧ (0 ≤ shift ∧ shift ≤ 1) ∧ 0 < p from ⟨hfr, hto, hs, by omega⟩)
 have H := Aside0.mk h
 have HW := Aside0.mk (show wrap64 (2 * wrap64 (wrap64 (to_ - from_) + 1)) = (p : Int) by rw [wrap_in (n := to_ - from_) (by omega) (by omega), wrap_in (n := to_ - from_ + 1) (by omega) (by omega), wrap_in (by omega) (by omega)]; omega)
 have b1 : decide (0 ≤ hole) = false := decide_eq_false (by omega)
 clear h hs hft hp hh hfr hto
 go_enter Try.func87, Try.ntmps87
 go_wp2_with (first | ((with_reducible refine gate_dst (N := 23) rfl ?_); refine IB_make_event (N := 23) (x := .tmp 22) (y := .tmp 22) (n := p) ?hg ?hd ?ho ?hx ?hy HP.out ?_; (case hg => rfl); (case hd => rfl); (case ho => rfl); (case hx => exact congrArg (Value.int .i64) HW.out); (case hy => exact congrArg (Value.int .i64) HW.out); intro gr hgr w1 hI1 hB1; have HGR := Aside0.mk hgr; have HI1 := Aside0.mk hI1; have HB1 := Aside0.mk hB1; clear hgr hI1 hB1) | ((with_reducible refine gate_dst (N := 30) rfl ?_); refine box_event ?hg (N := 30) ?hd (cs := #[.slice (some ⟨gr, 0, none⟩) p p, .int .i64 from_, .int .i64 to_, .int .i64 shift, .int .i64 hole, .int .i64 0, .int .i64 most, .int .i64 0, .slice none 0 0]) (t := 69) ?hr ?_; (case hd => rfl); (case hg => rfl); (case hr => first | (go_simp; done) | (go_simp; rfl)); intro gS hg w2 hbox hb; have BK := Aside0.mk hbox; have HB2 := Aside0.mk hb; have GS := Aside0.mk hg; clear hg hbox hb) | ((with_reducible refine gate_callee (f := 89) rfl ?_); have HSI := Aside0.mk (show SeI w.heap.size gS gr from_ to_ shift hole most (List.replicate p 0) 0 (0, []) w2 from ⟨⟨_, by rw [List.length_replicate]; exact BK.out, Kd.S_nil _ _ _ _ _⟩, IB_below HI1.out HB2.out⟩); have HBB := Aside0.mk (show Below w.heap.size w w2 from HB1.out.trans (HB2.out.mono HB1.out.size)); have HNE := Aside0.mk (show gS ≠ gr from fun e => by have h1 := blk_lt HI1.out; have h2 := GS.out; omega); have HG1 := Aside0.mk (show w.heap.size ≤ gS by have h1 := HB1.out.size; have h2 := GS.out; omega); have HG2 := Aside0.mk (show w.heap.size ≤ gr by have h2 := HGR.out; omega); have HCALL := Aside0.mk (look_call HF.out.1 HF.out.2.1 HF.out.2.2.1 HNE.out HG1.out HG2.out (p + 1) (0, []) s' (List.replicate p 0) 0 w2 HBB.out.size (by rw [List.length_replicate]; exact HF.out.2.2.2) (by rw [List.length_replicate]; have := HPL.out; omega) (by decide) HSI.out H.out); refine goesL_ (some 32) rfl rfl Try.func89 (by kernel_rfl) rfl #[.pointer (some ⟨gS, 0, none⟩)] rfl (by (try simp only [List.map_toArray, List.map_cons, List.map_nil]); first | done | rfl) ?_; refine HCALL.out.mono ?_; rintro e w3 ⟨rfl, hI3, hB3⟩; refine ⟨_, rfl, ?_⟩; have HI3 := Aside0.mk hI3; have HB3 := Aside0.mk hB3; clear hI3 hB3 HCALL))
 go_ret
 exact ⟨gS, gr, rfl, HG1.out, HG2.out, HNE.out, HI3.out, HBB.out.trans HB3.out⟩
def seSkolemRun (n : Nat) (most : Int) : Option SeSt := seF 1 n 0 (-1) most (2 * n + 1) (0, []) (List.replicate (2 * n) 0) 0
theorem seSkolem_call (n : Nat) (most : Int) (s' : SeSt) (w : World) (hn : 1 ≤ n ∧ n ≤ 20) (h : seSkolemRun n most = some s') :
  Calls Try.prog 81 #[.int .i64 (n : Int), .int .i64 most] w (SeRet 1 n 0 (-1) most (2 * n) s' w) := by
 have hw1 := wrap_in (n := 2 * (n : Int)) (by omega) (by omega)
 have hw2 := wrap_in (n := 2 * (n : Int) - 1) (by omega) (by omega)
 have HALL := Aside0.mk (seAll_none 1 n 0 (-1) most (2 * n) s' w (by omega) (by omega) (by omega) (by omega) (by omega) (by omega) h)
 clear h hn
 go_enter Try.func81, Try.ntmps81
 go_wp2_with (first | ((with_reducible refine gate_callee (f := 87) rfl ?_); refine goesA (some 7) Try.func87 #[.int .i64 1, .int .i64 (n : Int), .int .i64 0, .int .i64 (-1), .int .i64 most] ?_; refine HALL.out.mono ?_; rintro e w2 ⟨gS, gr, rfl, hgS, hgr, hne, hI2, hB2⟩; refine ⟨_, rfl, ?_⟩; have HGS := Aside0.mk hgS; have HGR := Aside0.mk hgr; have HNE := Aside0.mk hne; have HI2 := Aside0.mk hI2; have HB2 := Aside0.mk hB2; clear hgS hgr hne hI2 hB2))
 go_ret
 exact ⟨gS, gr, rfl, HGS.out, HGR.out, HNE.out, HI2.out, HB2.out⟩
def Zcu.f (a0 : Int) (a1 : Int) : Option (List (List Int)) := if 1 ≤ a0 ∧ a0 ≤ 20 then (seSkolemRun a0.toNat a1).map (·.2) else none
theorem Zcu.calls (a0 a1 : Int) (r1 : List (List Int)) (w : World) (h : Zcu.f a0 a1 = some r1) :
  Calls Try.prog 81 #[.int .i64 a0, .int .i64 a1] w fun e w' => ∃ v0_ : Value, (∃ gS, e = .returned (.pointer (some ⟨gS, 0, none⟩)) ∧ w'.cell? ⟨gS, 8, none⟩ = some v0_) ∧ Kd.S (Kd.slice 3 (Kd.int .i64)) 24 w' w.heap.size (fun _ => True) v0_ r1 ∧ Below w.heap.size w w' := by
 unfold Zcu.f at h
 split at h
 case isFalse => cases h
 rename_i hn
 obtain ⟨s', hrun, rfl⟩ := Option.map_eq_some_iff.1 h
 have hc := seSkolem_call a0.toNat a1 s' w (by omega) hrun
 rw [show ((a0.toNat : Nat) : Int) = a0 from by omega] at hc
 refine hc.mono ?_
 rintro e w' ⟨gS, gr, rfl, hgS, hgr, hne, hI, hB⟩
 obtain ⟨⟨v, ho, hS⟩, hrow⟩ := hI
 have hc8 := blk_cell ho 8
 simp only [List.getElem?_toArray, List.getElem?_cons_zero, List.getElem?_cons_succ] at hc8
 exact ⟨v, ⟨gS, rfl, hc8⟩, Kd.S_mono hS (fun _ _ => trivial), hB⟩
def Zbr.f (k : Nat) (s0_0 : List Int) (s0_1 : Int) (s0_2 : Int) : Option (List Int × Int × Int) := (Zat.f s0_0 s0_1 s0_2 6).bind fun bt538 => (if bt538.1 = true then ((Zau.f k s0_0 bt538.2.1 bt538.2.2).bind fun bt541 => (some (bt541.1, bt541.2.1, bt541.2.2))) else ((Zbi.f s0_0 bt538.2.1 bt538.2.2 (([1, 4, 5, 4, 5, 8] : List Int))).bind fun bt549 => ((Zcu.f bt549.1 60).bind fun t552 => ((Zac.f s0_0 bt549.2.1 bt549.2.2 (t552.length : Int)).bind fun bt555 => (if 0 ≤ bt555.1 then (if bt555.1 < (t552.length : Int) then ((Zat.f s0_0 bt555.2.1 bt555.2.2 3).bind fun bt559 => (if bt559.1 = true then ((Zar.f k (rd_L2 t552 bt555.1)).bind fun t562 => (some (t562, bt559.2.1, bt559.2.2))) else (some (rd_L2 t552 bt555.1, bt559.2.1, bt559.2.2)))) else (none)) else (none))))))
theorem Zbr.mono : ∀ a0 a1 a2 k, LeO (Zbr.f k a0 a1 a2) (Zbr.f (k + 1) a0 a1 a2) := by
 intro a0 a1 a2 k
 unfold Zbr.f
 repeat' (first | (with_reducible first | exact Zau.mono _ _ _ _ | exact Zar.mono _ _ | exact LeO.refl _ | exact LeO.none _ | refine LeO.ite ?_ ?_ | refine LeO.bind ?_ (fun _ => ?_)) | exact Zau.mono _ _ _ _ | exact Zar.mono _ _ | exact LeO.none _ | refine LeO.ite ?_ ?_ | refine LeO.bind ?_ (fun _ => ?_))
theorem Zbr.calls (k : Nat) (g : Nat) (s0_0 : List Int) (s0_1 : Int) (s0_2 : Int) (r1 : List Int) (r2 : Int) (r3 : Int) (w0 w : World) (hI : IsS48 w0 w g s0_0 s0_1 s0_2) (hB : Below w0.heap.size w0 w) (h : Zbr.f k s0_0 s0_1 s0_2 = some (r1, r2, r3)) :
  Calls Try.prog 70 #[.pointer (some ⟨g, 0, none⟩)] w fun e w' => ∃ v0_ : Value, e = .returned (v0_) ∧ Kd.R (Kd.int .i64) 3 w' w.heap.size (fun _ => True) v0_ r1 ∧ IsS48 w0 w' g s0_0 r2 r3 ∧ Below w0.heap.size w0 w' ∧ KeepBut w w' g none := by
 have HI0 := Aside0.mk hI
 have HK := Aside0.mk (KeepBut.refl w g none)
 have HL := Aside0.mk hB.size
 clear hI
 have HW0 := Aside0.mk hB.size
 have HB := Aside0.mk hB
 clear hB
 have H := h
 unfold Zbr.f at H
 clear h
 replace H := Option.bind_eq_some_iff.mp H
 obtain ⟨⟨t538, t539, t540⟩, A20, H⟩ := H
 replace H : (if t538 = true then ((Zau.f k s0_0 t539 t540).bind fun bt541 => (some (bt541.1, bt541.2.1, bt541.2.2))) else ((Zbi.f s0_0 t539 t540 (([1, 4, 5, 4, 5, 8] : List Int))).bind fun bt549 => ((Zcu.f bt549.1 60).bind fun t552 => ((Zac.f s0_0 bt549.2.1 bt549.2.2 (t552.length : Int)).bind fun bt555 => (if 0 ≤ bt555.1 then (if bt555.1 < (t552.length : Int) then ((Zat.f s0_0 bt555.2.1 bt555.2.2 3).bind fun bt559 => (if bt559.1 = true then ((Zar.f k (rd_L2 t552 bt555.1)).bind fun t562 => (some (t562, bt559.2.1, bt559.2.2))) else (some (rd_L2 t552 bt555.1, bt559.2.1, bt559.2.2)))) else (none)) else (none)))))) = some (r1, r2, r3) := H
 have A2 := Aside0.mk A20
 clear A20
 by_cases c3 : t538 = true
 ·subst c3
  replace H := it_ H
  replace H := Option.bind_eq_some_iff.mp H
  obtain ⟨⟨t541, t544, t545⟩, A40, H⟩ := H
  replace H : (some (t541, t544, t545)) = some (r1, r2, r3) := H
  have A4 := Aside0.mk A40
  clear A40
  simp only [Option.some.injEq, Prod.mk.injEq] at H
  obtain ⟨rfl, rfl, rfl⟩ := H
  go_enter Try.func70, Try.ntmps70
  go_wp2_with (first | ((with_reducible refine gate_callee (f := 47) rfl ?_); refine goesA (some 6) Try.func47 #[.pointer (some ⟨g, 0, none⟩), .int .i64 6] ?_; (with_reducible refine (Zat.calls g s0_0 s0_1 s0_2 6 true t539 t540 w0 _ ?side1 ?side2 A2.out).mono ?_); (case side1 => exact IsS48.at HI0); (case side2 => exact atB HB); rintro e w5 ⟨rfl, hi, hb, hk⟩; refine ⟨_, rfl, ?_⟩; replace HK := upK HK hk; replace HB := Aside0.mk (hb); replace HI0 := Aside0.mk (hi)) | ((with_reducible refine gate_callee (f := 80) rfl ?_); refine goesA (some 8) Try.func80 #[.pointer (some ⟨g, 0, none⟩)] ?_; (with_reducible refine (Zau.calls k g s0_0 t539 t540 t541 t544 t545 w0 _ ?side1 ?side2 A4.out).mono ?_); (case side1 => exact IsS48.at HI0); (case side2 => exact atB HB); rintro e w6 ⟨v542, rfl, ho0, hi, hb, hk⟩; refine ⟨_, rfl, ?_⟩; have HO543 := lowKR ho0 HK; replace HK := upK HK hk; replace HB := Aside0.mk (hb); replace HI0 := Aside0.mk (hi)))
  go_ret
  exact ⟨_, eqr, atR HO543, IsS48.at HI0, atB HB, atK HK⟩
 ·replace c3 := Bool.eq_false_iff.mpr c3
  subst c3
  replace H := if_ H
  obtain ⟨y546, hy546⟩ : ∃ y_ : List Int, y_ = (([1, 4, 5, 4, 5, 8] : List Int)) := ⟨_, rfl⟩
  replace H : ((Zbi.f s0_0 t539 t540 y546).bind fun bt549 => ((Zcu.f bt549.1 60).bind fun t552 => ((Zac.f s0_0 bt549.2.1 bt549.2.2 (t552.length : Int)).bind fun bt555 => (if 0 ≤ bt555.1 then (if bt555.1 < (t552.length : Int) then ((Zat.f s0_0 bt555.2.1 bt555.2.2 3).bind fun bt559 => (if bt559.1 = true then ((Zar.f k (rd_L2 t552 bt555.1)).bind fun t562 => (some (t562, bt559.2.1, bt559.2.2))) else (some (rd_L2 t552 bt555.1, bt559.2.1, bt559.2.2)))) else (none)) else (none))))) = some (r1, r2, r3) := by first | (rw [hy546]; with_reducible exact H) | (have H2_ := (Option.bind_some _ _).symm.trans H; rw [hy546]; with_reducible exact H2_) | (have H2_ := (Option.bind_some _ _).symm.trans H; with_reducible exact H2_) | with_reducible exact H | (rw [hy546]; exact H) | exact H
  have Ny546 := Aside0.mk hy546
  clear hy546
  replace H := Option.bind_eq_some_iff.mp H
  obtain ⟨⟨t549, t550, t551⟩, A70, H⟩ := H
  replace H : ((Zcu.f t549 60).bind fun t552 => ((Zac.f s0_0 t550 t551 (t552.length : Int)).bind fun bt555 => (if 0 ≤ bt555.1 then (if bt555.1 < (t552.length : Int) then ((Zat.f s0_0 bt555.2.1 bt555.2.2 3).bind fun bt559 => (if bt559.1 = true then ((Zar.f k (rd_L2 t552 bt555.1)).bind fun t562 => (some (t562, bt559.2.1, bt559.2.2))) else (some (rd_L2 t552 bt555.1, bt559.2.1, bt559.2.2)))) else (none)) else (none)))) = some (r1, r2, r3) := H
  have A7 := Aside0.mk A70
  clear A70
  obtain ⟨t552, A8, H⟩ := bs_ H
  (try dsimp only at H)
  replace H := Option.bind_eq_some_iff.mp H
  obtain ⟨⟨t555, t556, t557⟩, A90, H⟩ := H
  replace H : (if 0 ≤ t555 then (if t555 < (t552.length : Int) then ((Zat.f s0_0 t556 t557 3).bind fun bt559 => (if bt559.1 = true then ((Zar.f k (rd_L2 t552 t555)).bind fun t562 => (some (t562, bt559.2.1, bt559.2.2))) else (some (rd_L2 t552 t555, bt559.2.1, bt559.2.2)))) else (none)) else (none)) = some (r1, r2, r3) := H
  have A9 := Aside0.mk A90
  clear A90
  obtain ⟨c10b0, H⟩ := in_ H
  obtain ⟨c11b0, H⟩ := in_ H
  replace H := Option.bind_eq_some_iff.mp H
  obtain ⟨⟨t559, t560, t561⟩, A120, H⟩ := H
  replace H : (if t559 = true then ((Zar.f k (rd_L2 t552 t555)).bind fun t562 => (some (t562, t560, t561))) else (some (rd_L2 t552 t555, t560, t561))) = some (r1, r2, r3) := H
  have A12 := Aside0.mk A120
  clear A120
  by_cases c13 : t559 = true
  rotate_left
  ·replace c13 := Bool.eq_false_iff.mpr c13
   subst c13
   replace H := if_ H
   simp only [Option.some.injEq, Prod.mk.injEq] at H
   obtain ⟨rfl, rfl, rfl⟩ := H
   go_enter Try.func70, Try.ntmps70
   go_wp2_with (first | ((with_reducible refine gate_callee (f := 47) rfl ?_); refine goesA (some 6) Try.func47 #[.pointer (some ⟨g, 0, none⟩), .int .i64 6] ?_; (with_reducible refine (Zat.calls g s0_0 s0_1 s0_2 6 false t539 t540 w0 _ ?side1 ?side2 A2.out).mono ?_); (case side1 => exact IsS48.at HI0); (case side2 => exact atB HB); rintro e w25 ⟨rfl, hi, hb, hk⟩; refine ⟨_, rfl, ?_⟩; replace HK := upK HK hk; replace HB := Aside0.mk (hb); replace HI0 := Aside0.mk (hi)) | ((with_reducible refine gate_dst (N := 10) rfl ?_); refine Kd.R_lit (Kd.int .i64) _ 3 ?hg (N := 10) ?hd (xs := ([1, 4, 5, 4, 5, 8] : List Int)) (inner := [.int .i64 1, .int .i64 4, .int .i64 5, .int .i64 4, .int .i64 5, .int .i64 8]) (ok := fun _ => True) (okp := fun _ => True) ?hr ?hp (fun _ hk => hk) trivial (Below.refl _ _) (Nat.le_refl _) (by simp) ?_; (case hd => rfl); (case hg => rfl); (case hr => first | (go_simp; done) | (go_simp; rfl)); (case hp => exact repsI _); intro v547 w26 ho27 hb hg_ hnew_; clear hg_ hnew_; (first | rw [← Ny546.out] at ho27 | (simp only [Int.reduceToNat] at ho27; rw [← Ny546.out] at ho27)); have HO548 := lowKR ho27 HK; replace HI0 := IsS48.up HI0 hb; replace HK := upKB HK hb; replace HB := upB HB hb; clear hb ho27; obtain ⟨Ao28, co28, eo28⟩ := Kd.R_slice HO548.out; subst eo28) | ((with_reducible refine gate_callee (f := 53) rfl ?_); refine goesA (some 11) Try.func53 #[.pointer (some ⟨g, 0, none⟩), .slice Ao28 y546.length co28] ?_; (with_reducible refine (Zbi.calls g s0_0 t539 t540 _ _ y546 t549 t550 t551 w0 _ ?side1 ?side2 ?side3 ?side4 ?side5 A7.out).mono ?_); (case side1 => exact IsS48.at HI0); (case side2 => exact atB HB); (case side3 => exact atRC HO548); (case side4 => exact (Kd.R_reads' HO548.out).2.1); (case side5 => exact far_slice (IsS48.own_ne HI0.out HO548.out (by decide))); rintro e w29 ⟨rfl, hi, hb, hk⟩; refine ⟨_, rfl, ?_⟩; replace HO548 := IsS48.keepR HI0 HO548 hk; replace HK := upK HK hk; replace HB := Aside0.mk (hb); replace HI0 := Aside0.mk (hi)) | ((with_reducible refine gate_callee (f := 81) rfl ?_); refine goesA (some 12) Try.func81 #[.int .i64 t549, .int .i64 60] ?_; (with_reducible refine (Zcu.calls t549 60 t552 _ A8.out).mono ?_); rintro e w30 ⟨v553, ⟨gS_, rfl, hcS_⟩, ho0, hb⟩; refine ⟨_, rfl, ?_⟩; have HO554 := lowKS ho0 HK; replace HO548 := upR HO548 hb; replace HI0 := IsS48.up HI0 hb; replace HK := upKB HK hb; replace HB := upB HB hb; obtain ⟨Ao31, co31, eo31⟩ := Kd.S_slice HO554.out; subst eo31) | ((with_reducible refine gate_callee (f := 42) rfl ?_); refine goesA (some 20) Try.func42 #[.pointer (some ⟨g, 0, none⟩), .int .i64 (t552.length : Int)] ?_; (with_reducible refine (Zac.calls g s0_0 t550 t551 (t552.length : Int) t555 t556 t557 w0 _ ?side1 ?side2 A9.out).mono ?_); (case side1 => exact IsS48.at HI0); (case side2 => exact atB HB); rintro e w32 ⟨rfl, hi, hb, hk⟩; refine ⟨_, rfl, ?_⟩; replace HO548 := IsS48.keepR HI0 HO548 hk; replace HO554 := IsS48.keepS HI0 HO554 hk; replace HK := upK HK hk; replace HB := Aside0.mk (hb); replace HI0 := Aside0.mk (hi); have p558 : 0 ≤ (t555 : Int) := ofd; have q558 : t555 < (t552.length : Int) := ofd; obtain ⟨ad558, A558_0, c558_0, e558, hx558_0, hl558_0, hi558_0⟩ := at_L2 (Kd.S_reads' HO554.out).2.2 t555 p558 q558; cases e558; obtain ⟨ce558, hce558, hMe558, hcc558⟩ := Kd.S_get HO554.out [] t555 p558 (by first | exact q558 | exact of_decide_eq_true (by first | (with_reducible assumption) | assumption) | (have e_ := (Kd.S_reads' HO554.out).1; omega)); obtain ⟨ve558_0, rfl, ge558_0⟩ := hMe558; have hv558_0 := hcc558 0 _ rfl; rw [Nat.add_zero, show ((Kd.slice 3 (Kd.int .i64))).sz = 1 from rfl, Nat.mul_one] at hv558_0; replace hv558_0 := Option.some.inj (hv558_0.symm.trans hx558_0); rw [hv558_0] at ge558_0; have HL558_0 := Aside0.mk (show Kd.R (Kd.int .i64) 3 _ _ _ _ (rd_L2 t552 t555) from ge558_0); clear hv558_0 ge558_0; clear hcc558 hce558; have HR558_0 := Aside0.mk hi558_0; have HC558_0 := Aside0.mk hl558_0; clear hi558_0 hl558_0; replace p558 := eq_true p558; replace q558 := eq_true q558) | ((with_reducible refine gate_callee (f := 47) rfl ?_); refine goesA (some 24) Try.func47 #[.pointer (some ⟨g, 0, none⟩), .int .i64 3] ?_; (with_reducible refine (Zat.calls g s0_0 t556 t557 3 false t560 t561 w0 _ ?side1 ?side2 A12.out).mono ?_); (case side1 => exact IsS48.at HI0); (case side2 => exact atB HB); rintro e w33 ⟨rfl, hi, hb, hk⟩; refine ⟨_, rfl, ?_⟩; replace HO548 := IsS48.keepR HI0 HO548 hk; replace HO554 := IsS48.keepS HI0 HO554 hk; replace HL558_0 := IsS48.keepR HI0 HL558_0 hk; replace HK := upK HK hk; replace HB := Aside0.mk (hb); replace HI0 := Aside0.mk (hi)))
   go_ret
   exact ⟨_, eqr, by (with_reducible repeat (first | apply Kd.R_alloc | apply Kd.R_drewN | apply Kd.R_drew)); exact Kd.R_mono HL558_0.out (fun _ hk => trivial), IsS48.at HI0, atB HB, atK HK⟩
  subst c13
  replace H := it_ H
  obtain ⟨t562, A14, H⟩ := bs_ H
  (try dsimp only at H)
  simp only [Option.some.injEq, Prod.mk.injEq] at H
  obtain ⟨rfl, rfl, rfl⟩ := H
  go_enter Try.func70, Try.ntmps70
  go_wp2_with (first | ((with_reducible refine gate_callee (f := 47) rfl ?_); refine goesA (some 6) Try.func47 #[.pointer (some ⟨g, 0, none⟩), .int .i64 6] ?_; (with_reducible refine (Zat.calls g s0_0 s0_1 s0_2 6 false t539 t540 w0 _ ?side1 ?side2 A2.out).mono ?_); (case side1 => exact IsS48.at HI0); (case side2 => exact atB HB); rintro e w15 ⟨rfl, hi, hb, hk⟩; refine ⟨_, rfl, ?_⟩; replace HK := upK HK hk; replace HB := Aside0.mk (hb); replace HI0 := Aside0.mk (hi)) | ((with_reducible refine gate_dst (N := 10) rfl ?_); refine Kd.R_lit (Kd.int .i64) _ 3 ?hg (N := 10) ?hd (xs := ([1, 4, 5, 4, 5, 8] : List Int)) (inner := [.int .i64 1, .int .i64 4, .int .i64 5, .int .i64 4, .int .i64 5, .int .i64 8]) (ok := fun _ => True) (okp := fun _ => True) ?hr ?hp (fun _ hk => hk) trivial (Below.refl _ _) (Nat.le_refl _) (by simp) ?_; (case hd => rfl); (case hg => rfl); (case hr => first | (go_simp; done) | (go_simp; rfl)); (case hp => exact repsI _); intro v547 w16 ho17 hb hg_ hnew_; clear hg_ hnew_; (first | rw [← Ny546.out] at ho17 | (simp only [Int.reduceToNat] at ho17; rw [← Ny546.out] at ho17)); have HO548 := lowKR ho17 HK; replace HI0 := IsS48.up HI0 hb; replace HK := upKB HK hb; replace HB := upB HB hb; clear hb ho17; obtain ⟨Ao18, co18, eo18⟩ := Kd.R_slice HO548.out; subst eo18) | ((with_reducible refine gate_callee (f := 53) rfl ?_); refine goesA (some 11) Try.func53 #[.pointer (some ⟨g, 0, none⟩), .slice Ao18 y546.length co18] ?_; (with_reducible refine (Zbi.calls g s0_0 t539 t540 _ _ y546 t549 t550 t551 w0 _ ?side1 ?side2 ?side3 ?side4 ?side5 A7.out).mono ?_); (case side1 => exact IsS48.at HI0); (case side2 => exact atB HB); (case side3 => exact atRC HO548); (case side4 => exact (Kd.R_reads' HO548.out).2.1); (case side5 => exact far_slice (IsS48.own_ne HI0.out HO548.out (by decide))); rintro e w19 ⟨rfl, hi, hb, hk⟩; refine ⟨_, rfl, ?_⟩; replace HO548 := IsS48.keepR HI0 HO548 hk; replace HK := upK HK hk; replace HB := Aside0.mk (hb); replace HI0 := Aside0.mk (hi)) | ((with_reducible refine gate_callee (f := 81) rfl ?_); refine goesA (some 12) Try.func81 #[.int .i64 t549, .int .i64 60] ?_; (with_reducible refine (Zcu.calls t549 60 t552 _ A8.out).mono ?_); rintro e w20 ⟨v553, ⟨gS_, rfl, hcS_⟩, ho0, hb⟩; refine ⟨_, rfl, ?_⟩; have HO554 := lowKS ho0 HK; replace HO548 := upR HO548 hb; replace HI0 := IsS48.up HI0 hb; replace HK := upKB HK hb; replace HB := upB HB hb; obtain ⟨Ao21, co21, eo21⟩ := Kd.S_slice HO554.out; subst eo21) | ((with_reducible refine gate_callee (f := 42) rfl ?_); refine goesA (some 20) Try.func42 #[.pointer (some ⟨g, 0, none⟩), .int .i64 (t552.length : Int)] ?_; (with_reducible refine (Zac.calls g s0_0 t550 t551 (t552.length : Int) t555 t556 t557 w0 _ ?side1 ?side2 A9.out).mono ?_); (case side1 => exact IsS48.at HI0); (case side2 => exact atB HB); rintro e w22 ⟨rfl, hi, hb, hk⟩; refine ⟨_, rfl, ?_⟩; replace HO548 := IsS48.keepR HI0 HO548 hk; replace HO554 := IsS48.keepS HI0 HO554 hk; replace HK := upK HK hk; replace HB := Aside0.mk (hb); replace HI0 := Aside0.mk (hi); have p558 : 0 ≤ (t555 : Int) := ofd; have q558 : t555 < (t552.length : Int) := ofd; obtain ⟨ad558, A558_0, c558_0, e558, hx558_0, hl558_0, hi558_0⟩ := at_L2 (Kd.S_reads' HO554.out).2.2 t555 p558 q558; cases e558; obtain ⟨ce558, hce558, hMe558, hcc558⟩ := Kd.S_get HO554.out [] t555 p558 (by first | exact q558 | exact of_decide_eq_true (by first | (with_reducible assumption) | assumption) | (have e_ := (Kd.S_reads' HO554.out).1; omega)); obtain ⟨ve558_0, rfl, ge558_0⟩ := hMe558; have hv558_0 := hcc558 0 _ rfl; rw [Nat.add_zero, show ((Kd.slice 3 (Kd.int .i64))).sz = 1 from rfl, Nat.mul_one] at hv558_0; replace hv558_0 := Option.some.inj (hv558_0.symm.trans hx558_0); rw [hv558_0] at ge558_0; have HL558_0 := Aside0.mk (show Kd.R (Kd.int .i64) 3 _ _ _ _ (rd_L2 t552 t555) from ge558_0); clear hv558_0 ge558_0; clear hcc558 hce558; have HR558_0 := Aside0.mk hi558_0; have HC558_0 := Aside0.mk hl558_0; clear hi558_0 hl558_0; replace p558 := eq_true p558; replace q558 := eq_true q558) | ((with_reducible refine gate_callee (f := 47) rfl ?_); refine goesA (some 24) Try.func47 #[.pointer (some ⟨g, 0, none⟩), .int .i64 3] ?_; (with_reducible refine (Zat.calls g s0_0 t556 t557 3 true t560 t561 w0 _ ?side1 ?side2 A12.out).mono ?_); (case side1 => exact IsS48.at HI0); (case side2 => exact atB HB); rintro e w23 ⟨rfl, hi, hb, hk⟩; refine ⟨_, rfl, ?_⟩; replace HO548 := IsS48.keepR HI0 HO548 hk; replace HO554 := IsS48.keepS HI0 HO554 hk; replace HL558_0 := IsS48.keepR HI0 HL558_0 hk; replace HK := upK HK hk; replace HB := Aside0.mk (hb); replace HI0 := Aside0.mk (hi)) | ((with_reducible refine gate_callee (f := 82) rfl ?_); refine goesA (some 26) Try.func82 #[.slice A558_0 (rd_L2 t552 t555).length c558_0] ?_; (with_reducible refine (Zar.calls k _ _ (rd_L2 t552 t555) t562 _ ?side1 ?side2 A14.out).mono ?_); (case side1 => repeat (first | exact ((Kd.R_reads' (atR HL558_0)).2.2) | (with_reducible refine Kd.C_alloc ?_ _) | (with_reducible refine Kd.C_drewN ?_ _) | (with_reducible refine Kd.C_drew ?_))); (case side2 => exact HC558_0.out); rintro e w24 ⟨v563, rfl, ho0, hb⟩; refine ⟨_, rfl, ?_⟩; have HO564 := lowKR ho0 HK; replace HO548 := upR HO548 hb; replace HO554 := upS HO554 hb; replace HL558_0 := upR HL558_0 hb; replace HI0 := IsS48.up HI0 hb; replace HK := upKB HK hb; replace HB := upB HB hb))
  go_ret
  exact ⟨_, eqr, atR HO564, IsS48.at HI0, atB HB, atK HK⟩
noncomputable def Zbr.F (s0_0 : List Int) (s0_1 : Int) (s0_2 : Int) : Option (List Int × Int × Int) := lim fun k => Zbr.f k s0_0 s0_1 s0_2
theorem Zbr.F_lim (s0_0 : List Int) (s0_1 : Int) (s0_2 : Int) : Lim (fun k => Zbr.f k s0_0 s0_1 s0_2) (Zbr.F s0_0 s0_1 s0_2) := Lim.of fun k => Zbr.mono s0_0 s0_1 s0_2 k
theorem Zbr.F_eq (s0_0 : List Int) (s0_1 : Int) (s0_2 : Int) : Zbr.F s0_0 s0_1 s0_2 = ((Zat.f s0_0 s0_1 s0_2 6).bind fun bt538 => (if bt538.1 = true then ((Zau.F s0_0 bt538.2.1 bt538.2.2).bind fun bt541 => (some (bt541.1, bt541.2.1, bt541.2.2))) else ((Zbi.f s0_0 bt538.2.1 bt538.2.2 (([1, 4, 5, 4, 5, 8] : List Int))).bind fun bt549 => ((Zcu.f bt549.1 60).bind fun t552 => ((Zac.f s0_0 bt549.2.1 bt549.2.2 (t552.length : Int)).bind fun bt555 => (if 0 ≤ bt555.1 then (if bt555.1 < (t552.length : Int) then ((Zat.f s0_0 bt555.2.1 bt555.2.2 3).bind fun bt559 => (if bt559.1 = true then ((Zar.F (rd_L2 t552 bt555.1)).bind fun t562 => (some (t562, bt559.2.1, bt559.2.2))) else (some (rd_L2 t552 bt555.1, bt559.2.1, bt559.2.2)))) else (none)) else (none))))))) :=
 Lim.unique (Zbr.F_lim s0_0 s0_1 s0_2) (by
  unfold Zbr.f
  repeat' (first | (with_reducible first | exact Lim.const _ | exact Zau.F_lim _ _ _ | exact Zar.F_lim _ | refine Lim.ite ?_ ?_ | refine Lim.bind ?_ (fun _ => ?_))))
def Zbv.f (k : Nat) (l0 : List Int) : Option (List Int) := (Zbr.f k l0 0 0).bind fun bt566 => (some bt566.1)
theorem Zbv.mono : ∀ a0 k, LeO (Zbv.f k a0) (Zbv.f (k + 1) a0) := by
 intro a0 k
 unfold Zbv.f
 repeat' (first | (with_reducible first | exact Zbr.mono _ _ _ _ | exact LeO.refl _ | exact LeO.none _ | refine LeO.ite ?_ ?_ | refine LeO.bind ?_ (fun _ => ?_)) | exact Zbr.mono _ _ _ _ | exact LeO.none _ | refine LeO.ite ?_ ?_ | refine LeO.bind ?_ (fun _ => ?_))
theorem Zbv.calls (k : Nat) (A0 : Option Addr) (c0 : Nat) (l0 : List Int) (r : List Int) (w : World) (hr0 : Kd.C (Kd.int .u8) w A0 l0.length l0) (hc0 : l0.length ≤ c0) (h : Zbv.f k l0 = some r) :
  Calls Try.prog 54 #[.slice A0 l0.length c0] w fun e w' => ∃ v0_ : Value, e = .returned (v0_) ∧ Kd.R (Kd.int .i64) 3 w' w.heap.size (fun _ => True) v0_ r ∧ Below w.heap.size w w' := by
 have hu48 := Try.underlying48
 have HR0 := Aside0.mk hr0
 have HC0 := Aside0.mk hc0
 clear hr0 hc0
 have HB := Aside0.mk (Below.refl w.heap.size w)
 have H := h
 unfold Zbv.f at H
 clear h
 replace H := Option.bind_eq_some_iff.mp H
 obtain ⟨⟨t566, t569, t570⟩, A20, H⟩ := H
 replace H : (some t566) = some r := H
 have A2 := Aside0.mk A20
 clear A20
 obtain rfl := Option.some.inj H
 go_enter Try.func54, Try.ntmps54
 go_wp2_with (first | ((with_reducible refine gate_dst (N := 6) rfl ?_); refine box_event ?hg (N := 6) ?hd (cs := #[.slice A0 l0.length c0, .int .i64 0, .int .u64 0]) (t := 48) ?hr ?_; (case hd => rfl); (case hg => rfl); (case hr => first | (go_simp; done) | (go_simp; rfl)); intro gb565 hg w3 hbox hb; have HI565 := Aside0.mk ((⟨_, _, hbox, (by rw [hg]; exact (szB HB) : w.heap.size ≤ gb565), HR0.out⟩ : IsS48 w w3 gb565 l0 0 0)); replace HB := upB HB hb; clear hb hbox hg) | ((with_reducible refine gate_callee (f := 70) rfl ?_); refine goesA (some 8) Try.func70 #[.pointer (some ⟨gb565, 0, none⟩)] ?_; (with_reducible refine (Zbr.calls k gb565 l0 0 0 t566 t569 t570 w _ ?side1 ?side2 A2.out).mono ?_); (case side1 => exact IsS48.at HI565); (case side2 => exact atB HB); rintro e w4 ⟨v567, rfl, ho0, hi, hb, hk⟩; refine ⟨_, rfl, ?_⟩; have HO568 := lowR ho0 HB; replace HB := Aside0.mk (hb); replace HI565 := Aside0.mk (hi)))
 go_ret
 exact ⟨_, eqr, atR HO568, atB HB⟩
noncomputable def Zbv.F (l0 : List Int) : Option (List Int) := lim fun k => Zbv.f k l0
theorem Zbv.F_lim (l0 : List Int) : Lim (fun k => Zbv.f k l0) (Zbv.F l0) := Lim.of fun k => Zbv.mono l0 k
theorem Zbv.F_eq (l0 : List Int) : Zbv.F l0 = ((Zbr.F l0 0 0).bind fun bt566 => (some bt566.1)) :=
 Lim.unique (Zbv.F_lim l0) (by
  unfold Zbv.f
  repeat' (first | (with_reducible first | exact Lim.const _ | exact Zbr.F_lim _ _ _ | refine Lim.ite ?_ ?_ | refine Lim.bind ?_ (fun _ => ?_))))
def Zbl.f (k : Nat) (l0 : List Int) : Option (List Int) := (Zbv.f k l0).bind fun t571 => (some t571)
theorem Zbl.mono : ∀ a0 k, LeO (Zbl.f k a0) (Zbl.f (k + 1) a0) := by
 intro a0 k
 unfold Zbl.f
 repeat' (first | (with_reducible first | exact Zbv.mono _ _ | exact LeO.refl _ | exact LeO.none _ | refine LeO.ite ?_ ?_ | refine LeO.bind ?_ (fun _ => ?_)) | exact Zbv.mono _ _ | exact LeO.none _ | refine LeO.ite ?_ ?_ | refine LeO.bind ?_ (fun _ => ?_))
theorem Zbl.calls (k : Nat) (A0 : Option Addr) (c0 : Nat) (l0 : List Int) (r : List Int) (w : World) (hr0 : Kd.C (Kd.int .u8) w A0 l0.length l0) (hc0 : l0.length ≤ c0) (h : Zbl.f k l0 = some r) :
  Calls Try.prog 29 #[.slice A0 l0.length c0] w fun e w' => ∃ v0_ : Value, e = .returned (v0_) ∧ Kd.R (Kd.int .i64) 3 w' w.heap.size (fun _ => True) v0_ r ∧ Below w.heap.size w w' := by
 have HR0 := Aside0.mk hr0
 have HC0 := Aside0.mk hc0
 clear hr0 hc0
 have HB := Aside0.mk (Below.refl w.heap.size w)
 have H := h
 unfold Zbl.f at H
 clear h
 obtain ⟨t571, A2, H⟩ := bs_ H
 (try dsimp only at H)
 obtain rfl := Option.some.inj H
 go_enter Try.func29, Try.ntmps29
 go_wp2_with (first | ((with_reducible refine gate_callee (f := 54) rfl ?_); refine goesA (some 4) Try.func54 #[.slice A0 l0.length c0] ?_; (with_reducible refine (Zbv.calls k _ _ l0 t571 _ ?side1 ?side2 A2.out).mono ?_); (case side1 => repeat (first | exact HR0.out | (with_reducible refine Kd.C_alloc ?_ _) | (with_reducible refine Kd.C_drewN ?_ _) | (with_reducible refine Kd.C_drew ?_))); (case side2 => exact HC0.out); rintro e w3 ⟨v572, rfl, ho0, hb⟩; refine ⟨_, rfl, ?_⟩; have HO573 := lowR ho0 HB; replace HB := upB HB hb))
 go_ret
 exact ⟨_, eqr, atR HO573, atB HB⟩
noncomputable def Zbl.F (l0 : List Int) : Option (List Int) := lim fun k => Zbl.f k l0
theorem Zbl.F_lim (l0 : List Int) : Lim (fun k => Zbl.f k l0) (Zbl.F l0) := Lim.of fun k => Zbl.mono l0 k
theorem Zbl.F_eq (l0 : List Int) : Zbl.F l0 = ((Zbv.F l0).bind fun t571 => (some t571)) :=
 Lim.unique (Zbl.F_lim l0) (by
  unfold Zbl.f
  repeat' (first | (with_reducible first | exact Lim.const _ | exact Zbv.F_lim _ | refine Lim.ite ?_ ?_ | refine Lim.bind ?_ (fun _ => ?_))))
def Zav.l0 : Nat → List Int → Int → List Int → Int → Int → Option (List Int × Int × Int)
 | 0, _, _, _, _, _ => none
 | k + 1, x3, x4, x1000, x1001, x1002 => if x4 > 0 then ((Zac.f x1000 x1001 x1002 3).bind fun bt115 => (if x3.length < 17592186044416 then (Zav.l0 k (x3 ++ [bt115.1]) (wrap64 (x4 - 1)) x1000 bt115.2.1 bt115.2.2) else (none))) else ((Zac.f x1000 x1001 x1002 12).bind fun bt121 => (if bt121.1 = 0 then ((Zbi.f x1000 bt121.2.1 bt121.2.2 (([(-1), 5, 6, 4611686018427387904] : List Int))).bind fun bt127 => (if 0 < (x3.length : Int) then (some ((x3.set (0 : Int).toNat bt127.1), bt127.2.1, bt127.2.2)) else (none))) else (if bt121.1 = 1 then (some (([] : List Int), bt121.2.1, bt121.2.2)) else (some (x3, bt121.2.1, bt121.2.2)))))
def Zav.f (k : Nat) (s0_0 : List Int) (s0_1 : Int) (s0_2 : Int) : Option (List Int × Int × Int) := (Zac.f s0_0 s0_1 s0_2 4).bind fun bt112 => (Zav.l0 k ([] : List Int) (wrap64 (1 + bt112.1)) s0_0 bt112.2.1 bt112.2.2)
theorem Zav.mono_l : ∀ k, (∀ y0 y1 y2 y3 y4, LeO (Zav.l0 k y0 y1 y2 y3 y4) (Zav.l0 (k + 1) y0 y1 y2 y3 y4))
 | 0 => fun _ _ _ _ _ r h => by simp [Zav.l0] at h
 | k + 1 => by
  have ih0 := Zav.mono_l k
  ·intro y0 y1 y2 y3 y4
   unfold Zav.l0
   repeat' (first | (with_reducible first | exact ih0 _ _ _ _ _ | exact LeO.refl _ | exact LeO.none _ | refine LeO.ite ?_ ?_ | refine LeO.bind ?_ (fun _ => ?_)) | exact ih0 _ _ _ _ _ | exact LeO.none _ | refine LeO.ite ?_ ?_ | refine LeO.bind ?_ (fun _ => ?_))
theorem Zav.mono : ∀ a0 a1 a2 k, LeO (Zav.f k a0 a1 a2) (Zav.f (k + 1) a0 a1 a2) := by
 intro a0 a1 a2 k
 have ih0 := Zav.mono_l k
 unfold Zav.f
 repeat' (first | (with_reducible first | exact ih0 _ _ _ _ _ | exact LeO.refl _ | exact LeO.none _ | refine LeO.ite ?_ ?_ | refine LeO.bind ?_ (fun _ => ?_)) | exact ih0 _ _ _ _ _ | exact LeO.none _ | refine LeO.ite ?_ ?_ | refine LeO.bind ?_ (fun _ => ?_))
theorem Zav.calls (k : Nat) (g : Nat) (s0_0 : List Int) (s0_1 : Int) (s0_2 : Int) (r1 : List Int) (r2 : Int) (r3 : Int) (w0 w : World) (hI : IsS48 w0 w g s0_0 s0_1 s0_2) (hB : Below w0.heap.size w0 w) (h : Zav.f k s0_0 s0_1 s0_2 = some (r1, r2, r3)) :
  Calls Try.prog 60 #[.pointer (some ⟨g, 0, none⟩)] w fun e w' => ∃ v0_ : Value, e = .returned (v0_) ∧ Kd.R (Kd.int .i64) 3 w' w.heap.size (fun _ => True) v0_ r1 ∧ IsS48 w0 w' g s0_0 r2 r3 ∧ Below w0.heap.size w0 w' ∧ KeepBut w w' g none := by
 have HI0 := Aside0.mk hI
 have HK := Aside0.mk (KeepBut.refl w g none)
 have HL := Aside0.mk hB.size
 clear hI
 have HW0 := Aside0.mk hB.size
 have HB := Aside0.mk hB
 clear hB
 have H := h
 unfold Zav.f at H
 clear h
 replace H := Option.bind_eq_some_iff.mp H
 obtain ⟨⟨t112, t113, t114⟩, A20, H⟩ := H
 replace H : (Zav.l0 k ([] : List Int) (wrap64 (1 + t112)) s0_0 t113 t114) = some (r1, r2, r3) := H
 have A2 := Aside0.mk A20
 clear A20
 have H' := Aside0.mk H
 clear H
 go_enter Try.func60, Try.ntmps60
 go_wp2_with (first | ((with_reducible refine gate_callee (f := 42) rfl ?_); refine goesA (some 6) Try.func42 #[.pointer (some ⟨g, 0, none⟩), .int .i64 4] ?_; (with_reducible refine (Zac.calls g s0_0 s0_1 s0_2 4 t112 t113 t114 w0 _ ?side1 ?side2 A2.out).mono ?_); (case side1 => exact IsS48.at HI0); (case side2 => exact atB HB); rintro e w3 ⟨rfl, hi, hb, hk⟩; refine ⟨_, rfl, ?_⟩; replace HK := upK HK hk; replace HB := Aside0.mk (hb); replace HI0 := Aside0.mk (hi)))
 go_loopg [3, 4] k (fun kq v3 v4 w' => ∃ (x3_1 : List Int) (x4_1 : Int) (x1001_1 : Int) (x1002_1 : Int), v4 = .int .i64 x4_1 ∧ Aside0 (Zav.l0 kq x3_1 x4_1 s0_0 x1001_1 x1002_1 = some (r1, r2, r3)) ∧ Aside0 (kq ≤ k) ∧ Aside0 (Kd.R (Kd.int .i64) 3 w' w.heap.size (fun _ => True) v3 x3_1) ∧ Aside0 (IsS48 w0 w' g s0_0 x1001_1 x1002_1) ∧ Aside0 (KeepBut w w' g none) ∧ Aside0 (Below w0.heap.size w0 w'))
 case atStart => exact ⟨(([] : List Int)), (wrap64 (1 + t112)), (t113), (t114), eqd, H', ⟨Nat.le_refl _⟩, ⟨by first | exact Kd.R_nil _ _ _ _ _ | exact Kd.N_nil _ _ _ _ _ | exact Kd.V_nil _ _ _ _ _ | exact Kd.Q_nil _ _ _ _ _ | exact Kd.S_nil _ _ _ _ _⟩, ⟨IsS48.at HI0⟩, ⟨atK HK⟩, ⟨atB HB⟩⟩
 case round =>
  clear H'
  obtain ⟨x3_1, x4_1, x1001_1, x1002_1, rfl, HA, HK1, HO_3, HI0, HK, HB⟩ := hrel
  cases gk with
  | zero => exact absurd HA.out (by simp [Zav.l0])
  | succ k1 =>
   have H := HA.out
   clear HA
   simp only [Zav.l0] at H
   by_cases c4 : x4_1 > 0
   ·rw [if_pos c4] at H
    have c4b0 := decide_eq_true c4
    clear c4
    replace H := Option.bind_eq_some_iff.mp H
    obtain ⟨⟨t115, t116, t117⟩, A50, H⟩ := H
    replace H : (if x3_1.length < 17592186044416 then (Zav.l0 k1 (x3_1 ++ [t115]) (wrap64 (x4_1 - 1)) s0_0 t116 t117) else (none)) = some (r1, r2, r3) := H
    have A5 := Aside0.mk A50
    clear A50
    obtain ⟨c6, H⟩ := in0_ H
    have LMc6 := Aside0.mk c6
    clear c6
    obtain ⟨y118, hy118⟩ : ∃ y_ : List Int, y_ = (x3_1 ++ [t115]) := ⟨_, rfl⟩
    replace H : (Zav.l0 k1 y118 (wrap64 (x4_1 - 1)) s0_0 t116 t117) = some (r1, r2, r3) := by first | (rw [hy118]; with_reducible exact H) | (have H2_ := (Option.bind_some _ _).symm.trans H; rw [hy118]; with_reducible exact H2_) | (have H2_ := (Option.bind_some _ _).symm.trans H; with_reducible exact H2_) | with_reducible exact H | (rw [hy118]; exact H) | exact H
    have Ny118 := Aside0.mk hy118
    clear hy118
    have H' := Aside0.mk H
    clear H
    go_wp2_with (first | ((with_reducible refine gate_callee (f := 42) rfl ?_); refine goesA (some 14) Try.func42 #[.pointer (some ⟨g, 0, none⟩), .int .i64 3] ?_; (with_reducible refine (Zac.calls g s0_0 x1001_1 x1002_1 3 t115 t116 t117 w0 _ ?side1 ?side2 A5.out).mono ?_); (case side1 => exact IsS48.at HI0); (case side2 => exact atB HB); rintro e w7 ⟨rfl, hi, hb, hk⟩; refine ⟨_, rfl, ?_⟩; replace HO_3 := IsS48.keepR HI0 HO_3 hk; replace HK := upK HK hk; replace HB := Aside0.mk (hb); replace HI0 := Aside0.mk (hi)) | ((with_reducible refine gate_builtin (b := .append) (xs := #[.tmp 12, .tmp 15]) rfl ?_); at_builtin; refine Kd.R_append (Kd.int .i64) w.heap.size rfl (.tmp 12) (.tmp 15) 24 3 (.int .i64 0) 8 rfl Try.underlying24 info3 rfl (by decide) (by omega) u3 x3_1 t115 [.int .i64 t115] (fun _ => True) (fun _ => False) rfl rfl ?aP (fun _ hk => hk.elim) ?aF ?aO (Below.refl _ _) ?aS ?aL ?_; (case aP => exact rfl); (case aF => exact (fun _ _ => trivial)); (case aO => exact (atR HO_3)); (case aS => exact (szK HK)); (case aL => have := LMc6.out; omega); intro v119 w8 ho hb hg hat; rw [← Ny118.out] at ho; have HO120 := Aside0.mk (ho); replace HI0 := Aside0.mk (IsS48.grown (IsS48.at HI0) hg (IsS48.own_ne HI0.out HO_3.out (by decide))); replace HB := Aside0.mk (below_weaken (atB HB) HL.out hb); replace HK := Aside0.mk (KeepBut.trans (atK HK) (KeepBut.of_grown hg g) (Kd.R_base2 HO_3.out)); clear HO_3; clear ho hb hg hat))
    go_roundg k1
    case measure => have := HK1.out; omega
    case rel => exact ⟨(y118), (wrap64 (x4_1 - 1)), (t116), (t117), eqd, H', ⟨by have := HK1.out; omega⟩, ⟨atR HO120⟩, ⟨IsS48.at HI0⟩, ⟨atK HK⟩, ⟨atB HB⟩⟩
   ·rw [if_neg c4] at H
    have c4b0 := decide_eq_false c4
    clear c4
    replace H := Option.bind_eq_some_iff.mp H
    obtain ⟨⟨t121, t122, t123⟩, A90, H⟩ := H
    replace H : (if t121 = 0 then ((Zbi.f s0_0 t122 t123 (([(-1), 5, 6, 4611686018427387904] : List Int))).bind fun bt127 => (if 0 < (x3_1.length : Int) then (some ((x3_1.set (0 : Int).toNat bt127.1), bt127.2.1, bt127.2.2)) else (none))) else (if t121 = 1 then (some (([] : List Int), t122, t123)) else (some (x3_1, t122, t123)))) = some (r1, r2, r3) := H
    have A9 := Aside0.mk A90
    clear A90
    by_cases c10 : t121 = 0
    ·rw [if_pos c10] at H
     have c10b0 : (t121 == 0) = true := beq_iff_eq.mpr c10
     have c10b1 : (t121 != 0) = false := bne_eq_false_iff_eq.mpr c10
     clear c10
     obtain ⟨y124, hy124⟩ : ∃ y_ : List Int, y_ = (([(-1), 5, 6, 4611686018427387904] : List Int)) := ⟨_, rfl⟩
     replace H : ((Zbi.f s0_0 t122 t123 y124).bind fun bt127 => (if 0 < (x3_1.length : Int) then (some ((x3_1.set (0 : Int).toNat bt127.1), bt127.2.1, bt127.2.2)) else (none))) = some (r1, r2, r3) := by first | (rw [hy124]; with_reducible exact H) | (have H2_ := (Option.bind_some _ _).symm.trans H; rw [hy124]; with_reducible exact H2_) | (have H2_ := (Option.bind_some _ _).symm.trans H; with_reducible exact H2_) | with_reducible exact H | (rw [hy124]; exact H) | exact H
     have Ny124 := Aside0.mk hy124
     clear hy124
     replace H := Option.bind_eq_some_iff.mp H
     obtain ⟨⟨t127, t128, t129⟩, A110, H⟩ := H
     replace H : (if 0 < (x3_1.length : Int) then (some ((x3_1.set (0 : Int).toNat t127), t128, t129)) else (none)) = some (r1, r2, r3) := H
     have A11 := Aside0.mk A110
     clear A110
     obtain ⟨c12, H⟩ := in0_ H
     have c12b0 := decide_eq_true c12
     have c12b1 : decide (0 < x3_1.length) = true := decide_eq_true (by omega)
     clear c12
     obtain ⟨y130, hy130⟩ : ∃ y_ : List Int, y_ = (x3_1.set (0 : Int).toNat t127) := ⟨_, rfl⟩
     replace H : (some (y130, t128, t129)) = some (r1, r2, r3) := by first | (rw [hy130]; with_reducible exact H) | (have H2_ := (Option.bind_some _ _).symm.trans H; rw [hy130]; with_reducible exact H2_) | (have H2_ := (Option.bind_some _ _).symm.trans H; with_reducible exact H2_) | with_reducible exact H | (rw [hy130]; exact H) | exact H
     have Ny130 := Aside0.mk hy130
     clear hy130
     simp only [Option.some.injEq, Prod.mk.injEq] at H
     obtain ⟨rfl, rfl, rfl⟩ := H
     go_wp2_with (first | ((with_reducible refine gate_callee (f := 42) rfl ?_); refine goesA (some 18) Try.func42 #[.pointer (some ⟨g, 0, none⟩), .int .i64 12] ?_; (with_reducible refine (Zac.calls g s0_0 x1001_1 x1002_1 12 t121 t122 t123 w0 _ ?side1 ?side2 A9.out).mono ?_); (case side1 => exact IsS48.at HI0); (case side2 => exact atB HB); rintro e w14 ⟨rfl, hi, hb, hk⟩; refine ⟨_, rfl, ?_⟩; replace HO_3 := IsS48.keepR HI0 HO_3 hk; replace HK := upK HK hk; replace HB := Aside0.mk (hb); replace HI0 := Aside0.mk (hi)) | ((with_reducible refine gate_dst (N := 23) rfl ?_); refine Kd.R_lit (Kd.int .i64) _ 3 ?hg (N := 23) ?hd (xs := ([(-1), 5, 6, 4611686018427387904] : List Int)) (inner := [.int .i64 (-1), .int .i64 5, .int .i64 6, .int .i64 4611686018427387904]) (ok := fun _ => True) (okp := fun _ => True) ?hr ?hp (fun _ hk => hk) trivial (Below.refl _ _) (Nat.le_refl _) (by simp) ?_; (case hd => rfl); (case hg => rfl); (case hr => first | (go_simp; done) | (go_simp; rfl)); (case hp => exact repsI _); intro v125 w15 ho16 hb hg_ hnew_; clear hg_ hnew_; (first | rw [← Ny124.out] at ho16 | (simp only [Int.reduceToNat] at ho16; rw [← Ny124.out] at ho16)); have HO126 := Aside0.mk (Kd.R_lower (Kd.R_new' ho16 (ltR HO_3)) (szK HK)); replace HO_3 := eldRR HO_3 ho16 hb; replace HI0 := IsS48.up HI0 hb; replace HK := upKB HK hb; replace HB := upB HB hb; clear hb ho16; obtain ⟨Ao17, co17, eo17⟩ := Kd.R_slice HO126.out; subst eo17) | ((with_reducible refine gate_callee (f := 53) rfl ?_); refine goesA (some 24) Try.func53 #[.pointer (some ⟨g, 0, none⟩), .slice Ao17 y124.length co17] ?_; (with_reducible refine (Zbi.calls g s0_0 t122 t123 _ _ y124 t127 t128 t129 w0 _ ?side1 ?side2 ?side3 ?side4 ?side5 A11.out).mono ?_); (case side1 => exact IsS48.at HI0); (case side2 => exact atB HB); (case side3 => exact atRC HO126); (case side4 => exact (Kd.R_reads' HO126.out).2.1); (case side5 => exact far_slice (IsS48.own_ne HI0.out HO126.out (by decide))); rintro e w18 ⟨rfl, hi, hb, hk⟩; refine ⟨_, rfl, ?_⟩; replace HO_3 := IsS48.keepR HI0 HO_3 hk; replace HO126 := IsS48.keepR HI0 HO126 hk; replace HK := upK HK hk; replace HB := Aside0.mk (hb); replace HI0 := Aside0.mk (hi); have p13 : 0 ≤ (0 : Int) := (by omega); have q13 : (0 : Int) < ((x3_1.length : Int) : Int) := ofd; have qi13 : (0 < x3_1.length) = True := eq_true (by omega); obtain ⟨go13, co13, eo13, gb13, gl13, cl13, HG13⟩ := Kd.R_form HO_3.out (by omega); (first | cases eo13 | (injection eo13 with ea_ en_ ec_; (first | subst ea_ | (injection ea_ with ea_; subst ea_)); subst ec_; clear en_)); have GB13 := Aside0.mk gb13; have GG13 := Aside0.mk HG13; clear gb13 gl13 HG13; obtain ⟨hx13_0, hf13_0⟩ := Kd.R_celln 0 HO_3.out (0 : Int) p13 q13; (try rw [show ((0 : Int)).toNat = 0 from rfl] at hx13_0); (try simp only [Nat.reduceMul, Nat.zero_mul, Nat.zero_add, Nat.reduceAdd] at hx13_0); (try rw [show ((0 : Int)).toNat = 0 from rfl] at hf13_0); (try simp only [Nat.reduceMul, Nat.zero_mul, Nat.zero_add, Nat.reduceAdd] at hf13_0); replace p13 := eq_true p13; replace q13 := eq_true q13; have n_ := Aside0.mk (Kd.R_mono (ok' := (fun k_ => some k_ ≠ (.slice Ao17 y124.length co17 : Value).ownBlock)) HO_3.out (fun k_ hk => hk.2)); clear HO_3; have HO_3 := n_; clear n_; obtain ⟨hy19_, hz19_⟩ := Kd.R_celln 0 HO_3.out (0 : Int) (by omega) (of_decide_eq_true (by first | (with_reducible assumption) | assumption)); (try simp only [Int.reduceToNat, Int.toNat_zero, Int.toNat_ofNat, Nat.reduceMul, Nat.zero_mul, Nat.zero_add] at hy19_ hz19_); (try rw [show ((0 : Int)).toNat = 0 from rfl] at hy19_); (try rw [show ((0 : Int)).toNat = 0 from rfl] at hz19_); have HP19 := Kd.R_putg HO_3.out (0 : Int) t127) | ((with_reducible refine gate_store (t := 3) (p := 25) rfl ?_); refine store_event (t := 3) (p := 25) (v := ?vo_w20) (w1 := (w18.setCell ⟨go13, (0 : Int).toNat, none⟩ (.int .i64 t127))) ?hg ?ho ?hn ?hr ?_; (case ho => rfl); (case hg => rfl); (case hn => rfl); (case hr => first | (go_simp; done) | (go_simp; rfl)); intro w20 hw; have hg : w18.grownBy w20 (some go13) := (by rw [hw]; exact HP19.2); have hp_ : Kd.R (Kd.int .i64) 3 w20 w.heap.size (fun k_ => some k_ ≠ (.slice Ao17 y124.length co17 : Value).ownBlock) (.slice (some ⟨go13, 0, none⟩) x3_1.length co13) y130 := (by rw [hw, Ny130.out]; exact HP19.1); clear HP19; replace HI0 := Aside0.mk (IsS48.grown (IsS48.at HI0) hg (IsS48.own_ne HI0.out HO_3.out (by decide))); replace HO126 := Aside0.mk (Kd.R_after (v := (.slice (some ⟨go13, 0, none⟩) x3_1.length co13)) (v1 := (.slice (some ⟨go13, 0, none⟩) x3_1.length co13)) (ok := (fun _ => True)) (atR HO126) hg (.inl rfl)); replace HB := Aside0.mk ((by rw [hw]; exact below_set (HB.out) (Nat.le_trans HL.out GB13.out) : Below w0.heap.size w0 w20)); replace HK := Aside0.mk (KeepBut.trans (atK HK) (KeepBut.of_grown hg g) (Kd.R_base2 HO_3.out)); replace HO_3 := Aside0.mk (hp_); clear hg hw hp_))
     go_ret
     exact ⟨_, eqr, by (with_reducible repeat (first | apply Kd.R_alloc | apply Kd.R_drewN | apply Kd.R_drew)); exact Kd.R_mono HO_3.out (fun _ hk => trivial), IsS48.at HI0, atB HB, atK HK⟩
    ·rw [if_neg c10] at H
     have c10b0 : (t121 == 0) = false := beq_eq_false_iff_ne.mpr c10
     have c10b1 : (t121 != 0) = true := bne_iff_ne.mpr c10
     by_cases c21 : t121 = 1
     rotate_left
     ·rw [if_neg c21] at H
      have c21b0 : (t121 == 1) = false := beq_eq_false_iff_ne.mpr c21
      have c21b1 : (t121 != 1) = true := bne_iff_ne.mpr c21
      simp only [Option.some.injEq, Prod.mk.injEq] at H
      obtain ⟨rfl, rfl, rfl⟩ := H
      go_wp2_with (first | ((with_reducible refine gate_callee (f := 42) rfl ?_); refine goesA (some 18) Try.func42 #[.pointer (some ⟨g, 0, none⟩), .int .i64 12] ?_; (with_reducible refine (Zac.calls g s0_0 x1001_1 x1002_1 12 t121 t122 t123 w0 _ ?side1 ?side2 A9.out).mono ?_); (case side1 => exact IsS48.at HI0); (case side2 => exact atB HB); rintro e w23 ⟨rfl, hi, hb, hk⟩; refine ⟨_, rfl, ?_⟩; replace HO_3 := IsS48.keepR HI0 HO_3 hk; replace HK := upK HK hk; replace HB := Aside0.mk (hb); replace HI0 := Aside0.mk (hi)))
      go_ret
      exact ⟨_, eqr, atR HO_3, IsS48.at HI0, atB HB, atK HK⟩
     rw [if_pos c21] at H
     have c21b0 : (t121 == 1) = true := beq_iff_eq.mpr c21
     have c21b1 : (t121 != 1) = false := bne_eq_false_iff_eq.mpr c21
     clear c21
     simp only [Option.some.injEq, Prod.mk.injEq] at H
     obtain ⟨rfl, rfl, rfl⟩ := H
     go_wp2_with (first | ((with_reducible refine gate_callee (f := 42) rfl ?_); refine goesA (some 18) Try.func42 #[.pointer (some ⟨g, 0, none⟩), .int .i64 12] ?_; (with_reducible refine (Zac.calls g s0_0 x1001_1 x1002_1 12 t121 t122 t123 w0 _ ?side1 ?side2 A9.out).mono ?_); (case side1 => exact IsS48.at HI0); (case side2 => exact atB HB); rintro e w22 ⟨rfl, hi, hb, hk⟩; refine ⟨_, rfl, ?_⟩; replace HO_3 := IsS48.keepR HI0 HO_3 hk; replace HK := upK HK hk; replace HB := Aside0.mk (hb); replace HI0 := Aside0.mk (hi)))
     go_ret
     exact ⟨_, eqr, by first | exact Kd.R_nil _ _ _ _ _ | exact Kd.N_nil _ _ _ _ _ | exact Kd.V_nil _ _ _ _ _ | exact Kd.Q_nil _ _ _ _ _ | exact Kd.S_nil _ _ _ _ _, IsS48.at HI0, atB HB, atK HK⟩
noncomputable def Zav.L0 (x3 : List Int) (x4 : Int) (x1000 : List Int) (x1001 : Int) (x1002 : Int) : Option (List Int × Int × Int) := lim fun k => Zav.l0 k x3 x4 x1000 x1001 x1002
theorem Zav.L0_lim (x3 : List Int) (x4 : Int) (x1000 : List Int) (x1001 : Int) (x1002 : Int) : Lim (fun k => Zav.l0 k x3 x4 x1000 x1001 x1002) (Zav.L0 x3 x4 x1000 x1001 x1002) := Lim.of fun k => (Zav.mono_l k) x3 x4 x1000 x1001 x1002
noncomputable def Zav.F (s0_0 : List Int) (s0_1 : Int) (s0_2 : Int) : Option (List Int × Int × Int) := lim fun k => Zav.f k s0_0 s0_1 s0_2
theorem Zav.F_lim (s0_0 : List Int) (s0_1 : Int) (s0_2 : Int) : Lim (fun k => Zav.f k s0_0 s0_1 s0_2) (Zav.F s0_0 s0_1 s0_2) := Lim.of fun k => Zav.mono s0_0 s0_1 s0_2 k
theorem Zav.L0_eq (x3 : List Int) (x4 : Int) (x1000 : List Int) (x1001 : Int) (x1002 : Int) : Zav.L0 x3 x4 x1000 x1001 x1002 = (if x4 > 0 then ((Zac.f x1000 x1001 x1002 3).bind fun bt115 => (if x3.length < 17592186044416 then (Zav.L0 (x3 ++ [bt115.1]) (wrap64 (x4 - 1)) x1000 bt115.2.1 bt115.2.2) else (none))) else ((Zac.f x1000 x1001 x1002 12).bind fun bt121 => (if bt121.1 = 0 then ((Zbi.f x1000 bt121.2.1 bt121.2.2 (([(-1), 5, 6, 4611686018427387904] : List Int))).bind fun bt127 => (if 0 < (x3.length : Int) then (some ((x3.set (0 : Int).toNat bt127.1), bt127.2.1, bt127.2.2)) else (none))) else (if bt121.1 = 1 then (some (([] : List Int), bt121.2.1, bt121.2.2)) else (some (x3, bt121.2.1, bt121.2.2)))))) :=
 Lim.step (f := fun k => Zav.l0 (k + 1) x3 x4 x1000 x1001 x1002) (Zav.L0_lim x3 x4 x1000 x1001 x1002) (fun _ => rfl) (by
  simp only [Zav.l0]
  repeat' (first | (with_reducible first | exact Lim.const _ | exact Zav.L0_lim _ _ _ _ _ | refine Lim.ite ?_ ?_ | refine Lim.bind ?_ (fun _ => ?_))))
theorem Zav.F_eq (s0_0 : List Int) (s0_1 : Int) (s0_2 : Int) : Zav.F s0_0 s0_1 s0_2 = ((Zac.f s0_0 s0_1 s0_2 4).bind fun bt112 => (Zav.L0 ([] : List Int) (wrap64 (1 + bt112.1)) s0_0 bt112.2.1 bt112.2.2)) :=
 Lim.unique (Zav.F_lim s0_0 s0_1 s0_2) (by
  unfold Zav.f
  repeat' (first | (with_reducible first | exact Lim.const _ | exact Zav.L0_lim _ _ _ _ _ | refine Lim.ite ?_ ?_ | refine Lim.bind ?_ (fun _ => ?_))))
def Zbw.f (k : Nat) (l0 : List Int) : Option (List Int) := (Zav.f k l0 0 0).bind fun bt132 => (some bt132.1)
theorem Zbw.mono : ∀ a0 k, LeO (Zbw.f k a0) (Zbw.f (k + 1) a0) := by
 intro a0 k
 unfold Zbw.f
 repeat' (first | (with_reducible first | exact Zav.mono _ _ _ _ | exact LeO.refl _ | exact LeO.none _ | refine LeO.ite ?_ ?_ | refine LeO.bind ?_ (fun _ => ?_)) | exact Zav.mono _ _ _ _ | exact LeO.none _ | refine LeO.ite ?_ ?_ | refine LeO.bind ?_ (fun _ => ?_))
theorem Zbw.calls (k : Nat) (A0 : Option Addr) (c0 : Nat) (l0 : List Int) (r : List Int) (w : World) (hr0 : Kd.C (Kd.int .u8) w A0 l0.length l0) (hc0 : l0.length ≤ c0) (h : Zbw.f k l0 = some r) :
  Calls Try.prog 34 #[.slice A0 l0.length c0] w fun e w' => ∃ v0_ : Value, e = .returned (v0_) ∧ Kd.R (Kd.int .i64) 3 w' w.heap.size (fun _ => True) v0_ r ∧ Below w.heap.size w w' := by
 have hu48 := Try.underlying48
 have HR0 := Aside0.mk hr0
 have HC0 := Aside0.mk hc0
 clear hr0 hc0
 have HB := Aside0.mk (Below.refl w.heap.size w)
 have H := h
 unfold Zbw.f at H
 clear h
 replace H := Option.bind_eq_some_iff.mp H
 obtain ⟨⟨t132, t135, t136⟩, A20, H⟩ := H
 replace H : (some t132) = some r := H
 have A2 := Aside0.mk A20
 clear A20
 obtain rfl := Option.some.inj H
 go_enter Try.func34, Try.ntmps34
 go_wp2_with (first | ((with_reducible refine gate_dst (N := 6) rfl ?_); refine box_event ?hg (N := 6) ?hd (cs := #[.slice A0 l0.length c0, .int .i64 0, .int .u64 0]) (t := 48) ?hr ?_; (case hd => rfl); (case hg => rfl); (case hr => first | (go_simp; done) | (go_simp; rfl)); intro gb131 hg w3 hbox hb; have HI131 := Aside0.mk ((⟨_, _, hbox, (by rw [hg]; exact (szB HB) : w.heap.size ≤ gb131), HR0.out⟩ : IsS48 w w3 gb131 l0 0 0)); replace HB := upB HB hb; clear hb hbox hg) | ((with_reducible refine gate_callee (f := 60) rfl ?_); refine goesA (some 8) Try.func60 #[.pointer (some ⟨gb131, 0, none⟩)] ?_; (with_reducible refine (Zav.calls k gb131 l0 0 0 t132 t135 t136 w _ ?side1 ?side2 A2.out).mono ?_); (case side1 => exact IsS48.at HI131); (case side2 => exact atB HB); rintro e w4 ⟨v133, rfl, ho0, hi, hb, hk⟩; refine ⟨_, rfl, ?_⟩; have HO134 := lowR ho0 HB; replace HB := Aside0.mk (hb); replace HI131 := Aside0.mk (hi)))
 go_ret
 exact ⟨_, eqr, atR HO134, atB HB⟩
noncomputable def Zbw.F (l0 : List Int) : Option (List Int) := lim fun k => Zbw.f k l0
theorem Zbw.F_lim (l0 : List Int) : Lim (fun k => Zbw.f k l0) (Zbw.F l0) := Lim.of fun k => Zbw.mono l0 k
theorem Zbw.F_eq (l0 : List Int) : Zbw.F l0 = ((Zav.F l0 0 0).bind fun bt132 => (some bt132.1)) :=
 Lim.unique (Zbw.F_lim l0) (by
  unfold Zbw.f
  repeat' (first | (with_reducible first | exact Lim.const _ | exact Zav.F_lim _ _ _ | refine Lim.ite ?_ ?_ | refine Lim.bind ?_ (fun _ => ?_))))
def Zbo.f (k : Nat) (l0 : List Int) : Option (List Int) := (Zbw.f k l0).bind fun t137 => (some t137)
theorem Zbo.mono : ∀ a0 k, LeO (Zbo.f k a0) (Zbo.f (k + 1) a0) := by
 intro a0 k
 unfold Zbo.f
 repeat' (first | (with_reducible first | exact Zbw.mono _ _ | exact LeO.refl _ | exact LeO.none _ | refine LeO.ite ?_ ?_ | refine LeO.bind ?_ (fun _ => ?_)) | exact Zbw.mono _ _ | exact LeO.none _ | refine LeO.ite ?_ ?_ | refine LeO.bind ?_ (fun _ => ?_))
theorem Zbo.calls (k : Nat) (A0 : Option Addr) (c0 : Nat) (l0 : List Int) (r : List Int) (w : World) (hr0 : Kd.C (Kd.int .u8) w A0 l0.length l0) (hc0 : l0.length ≤ c0) (h : Zbo.f k l0 = some r) :
  Calls Try.prog 5 #[.slice A0 l0.length c0] w fun e w' => ∃ v0_ : Value, e = .returned (v0_) ∧ Kd.R (Kd.int .i64) 3 w' w.heap.size (fun _ => True) v0_ r ∧ Below w.heap.size w w' := by
 have HR0 := Aside0.mk hr0
 have HC0 := Aside0.mk hc0
 clear hr0 hc0
 have HB := Aside0.mk (Below.refl w.heap.size w)
 have H := h
 unfold Zbo.f at H
 clear h
 obtain ⟨t137, A2, H⟩ := bs_ H
 (try dsimp only at H)
 obtain rfl := Option.some.inj H
 go_enter Try.func5, Try.ntmps5
 go_wp2_with (first | ((with_reducible refine gate_callee (f := 34) rfl ?_); refine goesA (some 4) Try.func34 #[.slice A0 l0.length c0] ?_; (with_reducible refine (Zbw.calls k _ _ l0 t137 _ ?side1 ?side2 A2.out).mono ?_); (case side1 => repeat (first | exact HR0.out | (with_reducible refine Kd.C_alloc ?_ _) | (with_reducible refine Kd.C_drewN ?_ _) | (with_reducible refine Kd.C_drew ?_))); (case side2 => exact HC0.out); rintro e w3 ⟨v138, rfl, ho0, hb⟩; refine ⟨_, rfl, ?_⟩; have HO139 := lowR ho0 HB; replace HB := upB HB hb))
 go_ret
 exact ⟨_, eqr, atR HO139, atB HB⟩
noncomputable def Zbo.F (l0 : List Int) : Option (List Int) := lim fun k => Zbo.f k l0
theorem Zbo.F_lim (l0 : List Int) : Lim (fun k => Zbo.f k l0) (Zbo.F l0) := Lim.of fun k => Zbo.mono l0 k
theorem Zbo.F_eq (l0 : List Int) : Zbo.F l0 = ((Zbw.F l0).bind fun t137 => (some t137)) :=
 Lim.unique (Zbo.F_lim l0) (by
  unfold Zbo.f
  repeat' (first | (with_reducible first | exact Lim.const _ | exact Zbw.F_lim _ | refine Lim.ite ?_ ?_ | refine Lim.bind ?_ (fun _ => ?_))))
def Zck.f (l0 : List Int) : Option (List Int) := if l0.length < 17592186044416 then some l0 else none
theorem Zck.app_room {y l : List Int} (h1 : l.length < 17592186044416) (h2 : y = []) : (y.length + l.length) * 8 ≤ 140737488355328 := by
 subst h2; simp; omega
theorem Zck.calls (A0 : Option Addr) (c0 : Nat) (l0 : List Int) (r : List Int) (w : World) (hr0 : Kd.C (Kd.int .i64) w A0 l0.length l0) (hc0 : l0.length ≤ c0) (h : Zck.f l0 = some r) :
  Calls Try.prog 65 #[.slice A0 l0.length c0] w fun e w' => ∃ v0_ : Value, e = .returned (v0_) ∧ Kd.R (Kd.int .i64) 3 w' w.heap.size (fun _ => True) v0_ r ∧ Below w.heap.size w w' := by
 have HR0 := Aside0.mk hr0
 have hlen : l0.length < 17592186044416 := by
  unfold Zck.f at h
  split at h
  ·assumption
  ·cases h
 obtain rfl : l0 = r := by
  unfold Zck.f at h
  rw [if_pos hlen] at h
  exact Option.some.inj h
 have LM := Aside0.mk hlen
 have HB := Aside0.mk (Below.refl w.heap.size w)
 have hu := Try.underlying24
 have heq := fun (w : World) => Lib.run_eql_slice_nil (P := Try.prog) w 24 3 A0 l0.length c0 0 0 hu
 clear h hlen hc0
 cases A0 with
 | none =>
  have hl : l0 = [] := by
   cases l0 with
   | nil => rfl
   | cons x xs =>
    obtain ⟨ad, e, _⟩ := hr0.2.2 (by simp)
    cases e
  have HL := Aside0.mk hl
  clear hr0 hl
  go_enter Try.func65, Try.ntmps65
  go_wp2
  go_ret
  exact ⟨_, rfl, by rw [HL.out]; exact Kd.R_nil _ _ _ _ _, atB HB⟩
 | some ad =>
  clear hr0
  obtain ⟨y113, hy113⟩ : ∃ y_ : List Int, y_ = (([] : List Int)) := ⟨_, rfl⟩
  have Ny113 := Aside0.mk hy113
  clear hy113
  obtain ⟨y116, hy116⟩ : ∃ y_ : List Int, y_ = (y113 ++ l0) := ⟨_, rfl⟩
  have Ny116 := Aside0.mk hy116
  clear hy116
  go_enter Try.func65, Try.ntmps65
  go_wp2_with (first | ((with_reducible refine gate_dst (N := 5) rfl ?_); refine Kd.R_lit (Kd.int .i64) _ 3 ?hg (N := 5) ?hd (xs := ([] : List Int)) (inner := []) (ok := fun _ => True) (okp := fun _ => True) ?hr ?hp (fun _ hk => hk) trivial (Below.refl _ _) (Nat.le_refl _) (by simp) ?_; (case hd => rfl); (case hg => rfl); (case hr => first | (go_simp; done) | (go_simp; rfl)); (case hp => exact (Reps.none _ _)); intro v114 w3 ho4 hb hg_ hnew_; clear hg_ hnew_; (first | rw [← Ny113.out] at ho4 | (simp only [Int.reduceToNat] at ho4; rw [← Ny113.out] at ho4)); have HO115 := lowR ho4 HB; replace HB := upB HB hb; clear hb ho4) | ((with_reducible refine gate_builtin (b := .append) (xs := #[.tmp 5, .tmp 6]) rfl ?_); at_builtin; refine Kd.R_append_rows (Kd.int .i64) (w0 := w) w.heap.size rfl (.tmp 5) (.tmp 6) 24 3 (.int .i64 0) 8 rfl Try.underlying24 info3 rfl (by decide) (by omega) v114 y113 l0 _ _ _ (fun _ => True) (fun _ => False) rfl rfl ?aO ?aR (fun _ _ h => h) (fun _ h => h.elim) ?aF ?aB ?aS ?aL ?_; (case aR => repeat (first | exact (Kd.C_below HR0.out HB.out) | (with_reducible refine Kd.C_alloc ?_ _) | (with_reducible refine Kd.C_drewN ?_ _) | (with_reducible refine Kd.C_drew ?_))); (case aB => exact (atB HB)); (case aF => exact (fun _ _ => trivial)); (case aO => exact (atR HO115)); (case aS => exact (szB HB)); (case aL => exact Zck.app_room LM.out Ny113.out); intro v117 w5 ho hb hg hat; rw [← Ny116.out] at ho; have HO118 := Aside0.mk (ho); replace HB := Aside0.mk (hb); clear HO115; clear ho hb hg hat))
  go_ret
  exact ⟨_, rfl, by (with_reducible repeat (first | apply Kd.R_alloc | apply Kd.R_drewN | apply Kd.R_drew)); have h := HO118.out; rw [Ny116.out, Ny113.out, List.nil_append] at h; exact h, atB HB⟩
def graceLoop (kk : Nat) {σ : Type} (rec : σ → List Int → Option (σ × Bool)) (ps p : List Int) : Nat → Nat → σ → Option (σ × Bool)
 | 0, _, s => some (s, false)
 | m + 1, y, s => (Zah.f kk p (y : Int)).bind fun t => if t = true then graceLoop kk rec ps p m (y + 1) s else (Zay.f kk ps (p ++ [(y : Int)])).bind fun ed => (Zbt.f kk ed).bind fun c => if c = true then ((rec s (p ++ [(y : Int)])).bind fun q => if q.2 = true then some (q.1, true) else graceLoop kk rec ps p m (y + 1) q.1) else graceLoop kk rec ps p m (y + 1) s
def graceF (kk : Nat) {σ : Type} (each : σ → List Int → Option (σ × Bool)) (ps : List Int) : Nat → σ → List Int → Option (σ × Bool)
 | 0, _, _ => none
 | k + 1, s, p => if p.length = ps.length then each s p else graceLoop kk (graceF kk each ps k) ps p ps.length 0 s
theorem graceLoop_mono (kk : Nat) {σ : Type} {rec rec' : σ → List Int → Option (σ × Bool)} (hr : ∀ s p, LeO (rec s p) (rec' s p)) (ps p : List Int) : ∀ (m y : Nat) (s : σ), LeO (graceLoop kk rec ps p m y s) (graceLoop (kk + 1) rec' ps p m y s)
 | 0, _, _ => LeO.refl _
 | m + 1, y, s => LeO.bind (Zah.mono _ _ _) (fun _ => LeO.ite (graceLoop_mono kk hr ps p m (y + 1) s) (LeO.bind (Zay.mono _ _ _) (fun _ => LeO.bind (Zbt.mono _ _) (fun _ => LeO.ite (LeO.bind (hr _ _) (fun q => LeO.ite (LeO.refl _) (graceLoop_mono kk hr ps p m (y + 1) q.1))) (graceLoop_mono kk hr ps p m (y + 1) s)))))
theorem graceF_mono (kk : Nat) {σ : Type} (each : σ → List Int → Option (σ × Bool)) (ps : List Int) : ∀ (k : Nat) (s : σ) (p : List Int), LeO (graceF kk each ps k s p) (graceF (kk + 1) each ps k s p)
 | 0, _, _ => LeO.refl _
 | k + 1, s, p => LeO.ite (LeO.refl _) (graceLoop_mono kk (graceF_mono kk each ps k) ps p ps.length 0 s)
noncomputable def graceLoopF {σ : Type} (rec : σ → List Int → Option (σ × Bool)) (ps p : List Int) : Nat → Nat → σ → Option (σ × Bool)
 | 0, _, s => some (s, false)
 | m + 1, y, s => (Zah.F p (y : Int)).bind fun t => if t = true then graceLoopF rec ps p m (y + 1) s else (Zay.F ps (p ++ [(y : Int)])).bind fun ed => (Zbt.F ed).bind fun c => if c = true then ((rec s (p ++ [(y : Int)])).bind fun q => if q.2 = true then some (q.1, true) else graceLoopF rec ps p m (y + 1) q.1) else graceLoopF rec ps p m (y + 1) s
noncomputable def graceFF {σ : Type} (each : σ → List Int → Option (σ × Bool)) (ps : List Int) : Nat → σ → List Int → Option (σ × Bool)
 | 0, _, _ => none
 | k + 1, s, p => if p.length = ps.length then each s p else graceLoopF (graceFF each ps k) ps p ps.length 0 s
theorem graceLoop_lim {σ : Type} {rec : Nat → σ → List Int → Option (σ × Bool)} {rec' : σ → List Int → Option (σ × Bool)} (hr : ∀ s p, Lim (fun kk => rec kk s p) (rec' s p)) (ps p : List Int) : ∀ (m y : Nat) (s : σ), Lim (fun kk => graceLoop kk (rec kk) ps p m y s) (graceLoopF rec' ps p m y s)
 | 0, _, _ => Lim.const _
 | m + 1, y, s => Lim.bind (Zah.F_lim p (y : Int)) (fun _ => Lim.ite (graceLoop_lim hr ps p m (y + 1) s) (Lim.bind (Zay.F_lim ps (p ++ [(y : Int)])) (fun ed => Lim.bind (Zbt.F_lim ed) (fun _ => Lim.ite (Lim.bind (hr _ _) (fun q => Lim.ite (Lim.const _) (graceLoop_lim hr ps p m (y + 1) q.1))) (graceLoop_lim hr ps p m (y + 1) s)))))
theorem graceF_lim {σ : Type} (each : σ → List Int → Option (σ × Bool)) (ps : List Int) : ∀ (k : Nat) (s : σ) (p : List Int), Lim (fun kk => graceF kk each ps k s p) (graceFF each ps k s p)
 | 0, _, _ => Lim.const _
 | k + 1, s, p => Lim.ite (Lim.const _) (graceLoop_lim (graceF_lim each ps k) ps p ps.length 0 s)
theorem graceful_calls (kk : Nat) {σ : Type} {wb : World} {Y : Nat → Prop} {fid : FuncId} {caps : Array Value} {each : σ → List Int → Option (σ × Bool)} {I : σ → World → Prop} (E : EachR Try.prog 3 wb.heap.size Y fid caps each I) (ps : List Int) (AP : Option Addr) (cP : Nat) (hn : ps.length ≤ 1000) (hps : Kd.C (Kd.int .i64) wb AP ps.length ps) (hcp : ps.length ≤ cP) :
  ∀ (k : Nat) (s s' : σ) (b : Bool) (p : List Int) (A : Option Addr) (c : Nat) (w0 w : World), p.length ≤ ps.length → I s w0 → wb.heap.size ≤ w0.heap.size → Below wb.heap.size wb w → Below w0.heap.size w0 w → Kd.R (Kd.int .i64) 3 w w0.heap.size (fun k => ¬ Y k) (.slice A p.length c) p → graceF kk each ps k s p = some (s', b) →
  Calls Try.prog 45 #[.slice AP ps.length cP, .slice A p.length c, .func (.func fid) #[] caps] w fun e w' => e = .returned (.bool b) ∧ I s' w' ∧ Below wb.heap.size w w' ∧ KeepI 3 Y w w' := by
 obtain ⟨fn, hf1, hf2, hf3⟩ := E.fn
 have HF1 := Aside0.mk hf1
 have HF2 := Aside0.mk hf2
 have HF3 := Aside0.mk hf3
 have HN := Aside0.mk hn
 have HPS := Aside0.mk hps
 have HCP := Aside0.mk hcp
 clear hf1 hf2 hf3 hn hps hcp
 intro k
 induction k with
 | zero =>
  intro s s' b p A c w0 w _ _ _ _ _ _ h
  cases h
 | succ k ih =>
  intro s s' b p A c w0 w hpn hI hb0 hBB hB0 hR h
  have IH := Aside0.mk ih
  have HPN := Aside0.mk hpn
  have HI := Aside0.mk hI
  have HBASE := Aside0.mk hb0
  have HBB := Aside0.mk hBB
  have HB0 := Aside0.mk hB0
  have HR := Aside0.mk hR
  by_cases hlen : p.length = ps.length
  ·have H := Aside0.mk (show each s p = some (s', b) by rw [← h]; exact (if_pos hlen).symm)
   have b1 : ((p.length : Int) == (ps.length : Int)) = true := beq_iff_eq.mpr (by omega)
   clear ih hpn hI hb0 hBB hB0 hR h hlen
   go_enter Try.func45, Try.ntmps45
   go_wp2_with (first | ((with_reducible refine gate_fval (p := 14) rfl ?_); refine goesF_ (some 16) rfl rfl HF1.out HF2.out HF3.out #[.slice A p.length c] rfl (by first | rfl | (simp [Act.eval]; done) | (simp [Act.eval]; rfl)) (by (try simp only [List.map_toArray, List.map_cons, List.map_nil]); first | done | rfl) ?_; refine (E.call s p A c w0 _ s' b HI.out HBASE.out HB0.out HR.out (by have := HPN.out; have := HN.out; omega) H.out).mono ?_; rintro e w1 ⟨rfl, hI1, hB1, hK1⟩; refine ⟨_, rfl, ?_⟩; have HI1 := Aside0.mk hI1; have HB1 := Aside0.mk hB1; have HK1 := Aside0.mk hK1; clear hI1 hB1 hK1))
   go_ret
   exact ⟨rfl, HI1.out, HB1.out, HK1.out⟩
  have H := Aside0.mk (show graceLoop kk (graceF kk each ps k) ps p ps.length 0 s = some (s', b) by rw [← h]; exact (if_neg hlen).symm)
  have b1 : ((p.length : Int) == (ps.length : Int)) = false := beq_eq_false_iff_ne.mpr (by omega)
  have HLT := Aside0.mk (show p.length < ps.length by omega)
  clear ih hpn hI hb0 hBB hB0 hR h hlen
  go_enter Try.func45, Try.ntmps45
  go_wp2
  go_loopw [19] (fun v wr => ∃ (y : Nat) (s1 : σ), y ≤ ps.length ∧ v = .int .i64 y ∧ Aside0 (I s1 wr) ∧ Aside0 (Below wb.heap.size w wr) ∧ Aside0 (KeepI 3 Y w wr) ∧ Aside0 (graceLoop kk (graceF kk each ps k) ps p (ps.length - y) y s1 = some (s', b))) (fun v _ => ps.length - (intOf v).toNat)
  case atStart => exact ⟨0, s, Nat.zero_le _, rfl, ⟨E.stable _ _ _ HI.out HB0.out⟩, ⟨Below.refl _ _⟩, ⟨KeepI.refl _ _ _⟩, ⟨by rw [Nat.sub_zero]; exact H.out⟩⟩
  case round =>
   obtain ⟨y, s1, hy, rfl, HI1, HB1, HK1, H1⟩ := hrel
   by_cases hlt : y < ps.length
   rotate_left
   ·obtain rfl : y = ps.length := by omega
    have h1 := H1.out
    rw [Nat.sub_self] at h1
    obtain ⟨rfl, rfl⟩ := Prod.mk.inj (Option.some.inj (show some (s1, false) = some (s', b) from h1))
    clear h1 H1 hlt hy
    go_wp2
    go_ret
    exact ⟨rfl, HI1.out, HB1.out, HK1.out⟩
   have h1 := H1.out
   rw [show ps.length - y = (ps.length - (y + 1)) + 1 by omega] at h1
   obtain ⟨t, ht, h1⟩ := Option.bind_eq_some_iff.1 h1
   have HKT := Aside0.mk ht
   have HRP := Aside0.mk (HK1.out.R rfl HR.out)
   have HY := Aside0.mk hlt
   have HN1 := HN.out
   have c1 : decide ((y : Int) < (ps.length : Int)) = true := decide_eq_true (by omega)
   clear H1 ht hy
   cases t with
   | true =>
    have HREST := Aside0.mk (show graceLoop kk (graceF kk each ps k) ps p (ps.length - (y + 1)) (y + 1) s1 = some (s', b) from h1)
    clear h1
    go_wp2_with (first | ((with_reducible refine gate_callee (f := 63) rfl ?_); refine goesA (some 24) Try.func63 #[.slice A p.length c, .int .i64 y] ?_; refine (Zah.calls kk A c p y true _ (Kd.R_reads' HRP.out).2.2 (Kd.R_reads' HRP.out).2.1 HKT.out).mono ?_; rintro e w2 ⟨rfl, ⟨nd, rfl⟩⟩; refine ⟨_, rfl, ?_⟩))
    go_roundw
    case rel => exact ⟨y + 1, s1, HY.out, by go_num, ⟨E.stable _ _ _ HI1.out (pw_below_drewN (Below.refl _ _) _)⟩, ⟨HB1.out.trans (pw_below_drewN (Below.refl _ _) _)⟩, ⟨HK1.out.trans (KeepI.of_below (pw_below_drewN (Below.refl _ _) _))⟩, HREST⟩
    case measure => simp [intOf]; have := HY.out; omega
   | false =>
    obtain ⟨ed, he, h1⟩ := Option.bind_eq_some_iff.1 (show (Zay.f kk ps (p ++ [(y : Int)])).bind _ = some (s', b) from h1)
    obtain ⟨cc, hc, h1⟩ := Option.bind_eq_some_iff.1 h1
    have HCL := Aside0.mk (show Zck.f p = some p from if_pos (by have := HLT.out; omega))
    obtain ⟨nx, hnx⟩ : ∃ nx, p ++ [(y : Int)] = nx := ⟨_, rfl⟩
    have HLA := Aside0.mk (show nx.length = p.length + 1 by rw [← hnx]; simp)
    rw [hnx] at h1 he
    have HKC := Aside0.mk hc
    have HKE := Aside0.mk he
    have HNX := Aside0.mk hnx
    clear hc hnx he
    cases cc with
    | false =>
     have HREST := Aside0.mk (show graceLoop kk (graceF kk each ps k) ps p (ps.length - (y + 1)) (y + 1) s1 = some (s', b) from h1)
     clear h1
     go_wp2_with (first | ((with_reducible refine gate_callee (f := 63) rfl ?_); refine goesA (some 24) Try.func63 #[.slice A p.length c, .int .i64 y] ?_; refine (Zah.calls kk A c p y false _ (Kd.R_reads' HRP.out).2.2 (Kd.R_reads' HRP.out).2.1 HKT.out).mono ?_; rintro e w2 ⟨rfl, ⟨nd, rfl⟩⟩; refine ⟨_, rfl, ?_⟩) | ((with_reducible refine gate_callee (f := 65) rfl ?_); refine goesA (some 26) Try.func65 #[.slice A p.length c] ?_; refine (Zck.calls A c p p _ (Kd.R_reads' (Kd.R_drewN HRP.out nd)).2.2 (Kd.R_reads' HRP.out).2.1 HCL.out).mono ?_; rintro e w4 ⟨v4, rfl, hv4, hb4⟩; refine ⟨_, rfl, ?_⟩; obtain ⟨A4, c4, e4⟩ := Kd.R_slice hv4; subst e4; have HV4 := Aside0.mk (Kd.R_mono hv4 (fun k _ => trivial)); have HB4 := Aside0.mk (below_step (pw_below_drewN (Below.refl _ _) nd) hb4); clear hv4 hb4) | ((with_reducible refine gate_builtin (b := .append) (xs := #[.tmp 26, .tmp 28]) rfl ?_); at_builtin; refine Kd.R_append (Kd.int .i64) (w0 := wr) wr.heap.size rfl (.tmp 26) (.tmp 28) 24 3 (.int .i64 0) 8 rfl Try.underlying24 info3 rfl (by decide) (by omega) (.slice A4 p.length c4) p (y : Int) [.int .i64 (y : Int)] (fun _ => True) (fun _ => False) rfl rfl ?aP (fun _ hk => hk.elim) ?aF ?aO ?aB ?aS ?aL ?_; (case aP => exact rfl); (case aF => exact (fun _ _ => trivial)); (case aO => exact HV4.out); (case aB => exact HB4.out); (case aS => exact HB4.out.size); (case aL => have := HLT.out; have := HN.out; omega); intro v5 w5 ho5 hb5 hg5 hat5; rw [HNX.out] at ho5; have HB5 := Aside0.mk hb5; obtain ⟨A5, c5, e5⟩ := Kd.R_slice ho5; subst e5; have HV5 := Aside0.mk (show Kd.R (Kd.int .i64) 3 w5 wr.heap.size (fun k => ¬ Y k) (.slice A5 nx.length c5) nx from Kd.R_mono (Kd.R_bound ho5) (fun k hk => E.fresh _ _ k HI1.out hk.2.1)); have HBW := Aside0.mk (Nat.le_trans HBASE.out (Nat.le_trans HB0.out.size (HB1.out.size))); have HPS5 := Aside0.mk (Kd.C_below HPS.out ((HBB.out.trans HB1.out).trans (hb5.mono HBW.out))); clear ho5 hb5 hg5 hat5) | ((with_reducible refine gate_callee (f := 62) rfl ?_); refine goesA (some 32) Try.func62 #[.slice AP ps.length cP, .slice A5 nx.length c5] ?_; refine (Zay.calls kk AP cP ps A5 c5 nx ed w5 HPS5.out HCP.out (Kd.R_reads' HV5.out).2.2 (Kd.R_reads' HV5.out).2.1 HKE.out).mono ?_; rintro e w6 ⟨v6, rfl, hv6, hb6⟩; refine ⟨_, rfl, ?_⟩; obtain ⟨A6, c6, e6⟩ := Kd.R_slice hv6; subst e6; have HE6 := Aside0.mk hv6; have HB6a := Aside0.mk hb6; have HV6a := Aside0.mk (Kd.R_below HV5.out hb6); clear hv6 hb6) | ((with_reducible refine gate_callee (f := 40) rfl ?_); refine goesA (some 33) Try.func40 #[.slice A6 ed.length c6] ?_; refine (Zbt.calls kk A6 c6 ed false w6 (Kd.R_reads' HE6.out).2.2 (Kd.R_reads' HE6.out).2.1 HKC.out).mono ?_; rintro e w8 ⟨rfl, ⟨nu, rfl⟩⟩; refine ⟨_, rfl, ?_⟩; have HB6 := Aside0.mk (pw_below_drewN HB6a.out nu); have HV6 := Aside0.mk (Kd.R_drewN HV6a.out nu)))
     go_roundw
     case rel => exact ⟨y + 1, s1, HY.out, by go_num, ⟨E.stable _ _ _ HI1.out (HB5.out.trans (HB6.out.mono HB5.out.size))⟩, ⟨HB1.out.trans ((HB5.out.trans (HB6.out.mono HB5.out.size)).mono HBW.out)⟩, ⟨HK1.out.trans (KeepI.of_below (HB5.out.trans (HB6.out.mono HB5.out.size)))⟩, HREST⟩
     case measure => simp [intOf]; have := HY.out; omega
    | true =>
     obtain ⟨⟨s2, b2⟩, hq, h1⟩ := Option.bind_eq_some_iff.1 (show (graceF kk each ps k s1 nx).bind _ = some (s', b) from h1)
     have HQ := Aside0.mk hq
     clear hq
     cases b2 with
     | true =>
      obtain ⟨rfl, rfl⟩ := Prod.mk.inj (Option.some.inj (show some (s2, true) = some (s', b) from h1))
      clear h1
      go_wp2_with (first | ((with_reducible refine gate_callee (f := 63) rfl ?_); refine goesA (some 24) Try.func63 #[.slice A p.length c, .int .i64 y] ?_; refine (Zah.calls kk A c p y false _ (Kd.R_reads' HRP.out).2.2 (Kd.R_reads' HRP.out).2.1 HKT.out).mono ?_; rintro e w2 ⟨rfl, ⟨nd, rfl⟩⟩; refine ⟨_, rfl, ?_⟩) | ((with_reducible refine gate_callee (f := 65) rfl ?_); refine goesA (some 26) Try.func65 #[.slice A p.length c] ?_; refine (Zck.calls A c p p _ (Kd.R_reads' (Kd.R_drewN HRP.out nd)).2.2 (Kd.R_reads' HRP.out).2.1 HCL.out).mono ?_; rintro e w4 ⟨v4, rfl, hv4, hb4⟩; refine ⟨_, rfl, ?_⟩; obtain ⟨A4, c4, e4⟩ := Kd.R_slice hv4; subst e4; have HV4 := Aside0.mk (Kd.R_mono hv4 (fun k _ => trivial)); have HB4 := Aside0.mk (below_step (pw_below_drewN (Below.refl _ _) nd) hb4); clear hv4 hb4) | ((with_reducible refine gate_builtin (b := .append) (xs := #[.tmp 26, .tmp 28]) rfl ?_); at_builtin; refine Kd.R_append (Kd.int .i64) (w0 := wr) wr.heap.size rfl (.tmp 26) (.tmp 28) 24 3 (.int .i64 0) 8 rfl Try.underlying24 info3 rfl (by decide) (by omega) (.slice A4 p.length c4) p (y : Int) [.int .i64 (y : Int)] (fun _ => True) (fun _ => False) rfl rfl ?aP (fun _ hk => hk.elim) ?aF ?aO ?aB ?aS ?aL ?_; (case aP => exact rfl); (case aF => exact (fun _ _ => trivial)); (case aO => exact HV4.out); (case aB => exact HB4.out); (case aS => exact HB4.out.size); (case aL => have := HLT.out; have := HN.out; omega); intro v5 w5 ho5 hb5 hg5 hat5; rw [HNX.out] at ho5; have HB5 := Aside0.mk hb5; obtain ⟨A5, c5, e5⟩ := Kd.R_slice ho5; subst e5; have HV5 := Aside0.mk (show Kd.R (Kd.int .i64) 3 w5 wr.heap.size (fun k => ¬ Y k) (.slice A5 nx.length c5) nx from Kd.R_mono (Kd.R_bound ho5) (fun k hk => E.fresh _ _ k HI1.out hk.2.1)); have HBW := Aside0.mk (Nat.le_trans HBASE.out (Nat.le_trans HB0.out.size (HB1.out.size))); have HPS5 := Aside0.mk (Kd.C_below HPS.out ((HBB.out.trans HB1.out).trans (hb5.mono HBW.out))); clear ho5 hb5 hg5 hat5) | ((with_reducible refine gate_callee (f := 62) rfl ?_); refine goesA (some 32) Try.func62 #[.slice AP ps.length cP, .slice A5 nx.length c5] ?_; refine (Zay.calls kk AP cP ps A5 c5 nx ed w5 HPS5.out HCP.out (Kd.R_reads' HV5.out).2.2 (Kd.R_reads' HV5.out).2.1 HKE.out).mono ?_; rintro e w6 ⟨v6, rfl, hv6, hb6⟩; refine ⟨_, rfl, ?_⟩; obtain ⟨A6, c6, e6⟩ := Kd.R_slice hv6; subst e6; have HE6 := Aside0.mk hv6; have HB6a := Aside0.mk hb6; have HV6a := Aside0.mk (Kd.R_below HV5.out hb6); clear hv6 hb6) | ((with_reducible refine gate_callee (f := 40) rfl ?_); refine goesA (some 33) Try.func40 #[.slice A6 ed.length c6] ?_; refine (Zbt.calls kk A6 c6 ed true w6 (Kd.R_reads' HE6.out).2.2 (Kd.R_reads' HE6.out).2.1 HKC.out).mono ?_; rintro e w8 ⟨rfl, ⟨nu, rfl⟩⟩; refine ⟨_, rfl, ?_⟩; have HB6 := Aside0.mk (pw_below_drewN HB6a.out nu); have HV6 := Aside0.mk (Kd.R_drewN HV6a.out nu)) | (go_at_call 45; refine (IH.out s1 s2 true nx A5 c5 wr (w6.drewN nu) (by have := HLA.out; have := HLT.out; omega) HI1.out HBW.out ((HBB.out.trans HB1.out).trans ((HB5.out.trans (HB6.out.mono HB5.out.size)).mono HBW.out)) (HB5.out.trans (HB6.out.mono HB5.out.size)) HV6.out HQ.out).mono ?_; rintro e w7 ⟨rfl, hI7, hB7, hK7⟩; have HI7 := Aside0.mk hI7; have HB7 := Aside0.mk hB7; have HK7 := Aside0.mk hK7; clear hI7 hB7 hK7))
      try go_wp2
      go_ret
      exact ⟨rfl, HI7.out, HB1.out.trans (((HB5.out.trans (HB6.out.mono HB5.out.size)).mono HBW.out).trans HB7.out), HK1.out.trans ((KeepI.of_below (HB5.out.trans (HB6.out.mono HB5.out.size))).trans HK7.out)⟩
     | false =>
      have HREST := Aside0.mk (show graceLoop kk (graceF kk each ps k) ps p (ps.length - (y + 1)) (y + 1) s2 = some (s', b) from h1)
      clear h1
      go_wp2_with (first | ((with_reducible refine gate_callee (f := 63) rfl ?_); refine goesA (some 24) Try.func63 #[.slice A p.length c, .int .i64 y] ?_; refine (Zah.calls kk A c p y false _ (Kd.R_reads' HRP.out).2.2 (Kd.R_reads' HRP.out).2.1 HKT.out).mono ?_; rintro e w2 ⟨rfl, ⟨nd, rfl⟩⟩; refine ⟨_, rfl, ?_⟩) | ((with_reducible refine gate_callee (f := 65) rfl ?_); refine goesA (some 26) Try.func65 #[.slice A p.length c] ?_; refine (Zck.calls A c p p _ (Kd.R_reads' (Kd.R_drewN HRP.out nd)).2.2 (Kd.R_reads' HRP.out).2.1 HCL.out).mono ?_; rintro e w4 ⟨v4, rfl, hv4, hb4⟩; refine ⟨_, rfl, ?_⟩; obtain ⟨A4, c4, e4⟩ := Kd.R_slice hv4; subst e4; have HV4 := Aside0.mk (Kd.R_mono hv4 (fun k _ => trivial)); have HB4 := Aside0.mk (below_step (pw_below_drewN (Below.refl _ _) nd) hb4); clear hv4 hb4) | ((with_reducible refine gate_builtin (b := .append) (xs := #[.tmp 26, .tmp 28]) rfl ?_); at_builtin; refine Kd.R_append (Kd.int .i64) (w0 := wr) wr.heap.size rfl (.tmp 26) (.tmp 28) 24 3 (.int .i64 0) 8 rfl Try.underlying24 info3 rfl (by decide) (by omega) (.slice A4 p.length c4) p (y : Int) [.int .i64 (y : Int)] (fun _ => True) (fun _ => False) rfl rfl ?aP (fun _ hk => hk.elim) ?aF ?aO ?aB ?aS ?aL ?_; (case aP => exact rfl); (case aF => exact (fun _ _ => trivial)); (case aO => exact HV4.out); (case aB => exact HB4.out); (case aS => exact HB4.out.size); (case aL => have := HLT.out; have := HN.out; omega); intro v5 w5 ho5 hb5 hg5 hat5; rw [HNX.out] at ho5; have HB5 := Aside0.mk hb5; obtain ⟨A5, c5, e5⟩ := Kd.R_slice ho5; subst e5; have HV5 := Aside0.mk (show Kd.R (Kd.int .i64) 3 w5 wr.heap.size (fun k => ¬ Y k) (.slice A5 nx.length c5) nx from Kd.R_mono (Kd.R_bound ho5) (fun k hk => E.fresh _ _ k HI1.out hk.2.1)); have HBW := Aside0.mk (Nat.le_trans HBASE.out (Nat.le_trans HB0.out.size (HB1.out.size))); have HPS5 := Aside0.mk (Kd.C_below HPS.out ((HBB.out.trans HB1.out).trans (hb5.mono HBW.out))); clear ho5 hb5 hg5 hat5) | ((with_reducible refine gate_callee (f := 62) rfl ?_); refine goesA (some 32) Try.func62 #[.slice AP ps.length cP, .slice A5 nx.length c5] ?_; refine (Zay.calls kk AP cP ps A5 c5 nx ed w5 HPS5.out HCP.out (Kd.R_reads' HV5.out).2.2 (Kd.R_reads' HV5.out).2.1 HKE.out).mono ?_; rintro e w6 ⟨v6, rfl, hv6, hb6⟩; refine ⟨_, rfl, ?_⟩; obtain ⟨A6, c6, e6⟩ := Kd.R_slice hv6; subst e6; have HE6 := Aside0.mk hv6; have HB6a := Aside0.mk hb6; have HV6a := Aside0.mk (Kd.R_below HV5.out hb6); clear hv6 hb6) | ((with_reducible refine gate_callee (f := 40) rfl ?_); refine goesA (some 33) Try.func40 #[.slice A6 ed.length c6] ?_; refine (Zbt.calls kk A6 c6 ed true w6 (Kd.R_reads' HE6.out).2.2 (Kd.R_reads' HE6.out).2.1 HKC.out).mono ?_; rintro e w8 ⟨rfl, ⟨nu, rfl⟩⟩; refine ⟨_, rfl, ?_⟩; have HB6 := Aside0.mk (pw_below_drewN HB6a.out nu); have HV6 := Aside0.mk (Kd.R_drewN HV6a.out nu)) | (go_at_call 45; refine (IH.out s1 s2 false nx A5 c5 wr (w6.drewN nu) (by have := HLA.out; have := HLT.out; omega) HI1.out HBW.out ((HBB.out.trans HB1.out).trans ((HB5.out.trans (HB6.out.mono HB5.out.size)).mono HBW.out)) (HB5.out.trans (HB6.out.mono HB5.out.size)) HV6.out HQ.out).mono ?_; rintro e w7 ⟨rfl, hI7, hB7, hK7⟩; have HI7 := Aside0.mk hI7; have HB7 := Aside0.mk hB7; have HK7 := Aside0.mk hK7; clear hI7 hB7 hK7))
      try go_wp2
      go_roundw
      case rel => exact ⟨y + 1, s2, HY.out, by go_num, HI7, ⟨HB1.out.trans (((HB5.out.trans (HB6.out.mono HB5.out.size)).mono HBW.out).trans HB7.out)⟩, ⟨HK1.out.trans ((KeepI.of_below (HB5.out.trans (HB6.out.mono HB5.out.size))).trans HK7.out)⟩, HREST⟩
      case measure => simp [intOf]; have := HY.out; omega
def eachCount (n : Int) (_row : List Int) : Option (Int × Bool) := some (wrap64 (n + 1), false)
def Zbz.f (k : Nat) (l0 : List Int) : Option (Int × Bool) :=
 (Zag.f k l0).bind fun t => if t = true then (if l0.length ≤ 1000 then (graceF k eachCount l0 (l0.length + 1) 0 []).bind fun q => some (q.1, true) else none) else some (0, false)
theorem Zbz.mono : ∀ l0 k, LeO (Zbz.f k l0) (Zbz.f (k + 1) l0) := fun l0 k => LeO.bind (Zag.mono _ _) (fun _ => LeO.ite (LeO.ite (LeO.bind (graceF_mono _ _ _ _ _ _) (fun _ => LeO.refl _)) (LeO.refl _)) (LeO.refl _))
noncomputable def Zbz.F (l0 : List Int) : Option (Int × Bool) := (Zag.F l0).bind fun t => if t = true then (if l0.length ≤ 1000 then (graceFF eachCount l0 (l0.length + 1) 0 []).bind fun q => some (q.1, true) else none) else some (0, false)
theorem Zbz.F_lim {l0 : List Int} : Lim (fun k => Zbz.f k l0) (Zbz.F l0) := Lim.bind (Zag.F_lim l0) (fun _ => Lim.ite (Lim.ite (Lim.bind (graceF_lim _ _ _ _ _) (fun _ => Lim.const _)) (Lim.const _)) (Lim.const _))
structure CountI (base bo : Nat) (n : Int) (w : World) : Prop where
 out : w.heap[bo]? = some (.cells #[.int .i64 n] 3 (0, 0))
 bo : base ≤ bo
theorem CountGraceful1_call {base bo : Nat} (n : Int) (row : List Int) (A : Option Addr) (c : Nat) (w0 w : World) (hI0 : CountI base bo n w0) (hB0 : Below w0.heap.size w0 w) :
  Calls Try.prog 46 #[.slice A row.length c, .pointer (some ⟨bo, 0, none⟩)] w fun e w' => e = .returned (.bool false) ∧ CountI base bo (wrap64 (n + 1)) w' ∧ Below base w w' ∧ KeepI 3 (fun k => k = bo) w w' := by
 obtain ⟨h1, h4⟩ := hI0
 have HO := Aside0.mk (blk_below h1 hB0)
 have H4 := Aside0.mk h4
 have hc2 := cell_of_one HO.out
 have hf2 := free_of_one HO.out
 clear h1 h4 hB0
 go_enter Try.func46, Try.ntmps46
 go_wp2
 go_ret
 refine ⟨rfl, ⟨one_setCell HO.out, H4.out⟩, (Below.refl _ _).setCell (show base ≤ (⟨bo, 0, none⟩ : Addr).block from H4.out) _, fun k cells hk hc => ?_⟩
 exact (Below.heap_setCell w _ _ k (fun e => hk e)).trans hc
theorem CountGraceful1_ok {base bo : Nat} : EachR Try.prog 3 base (fun k => k = bo) 46 #[.pointer (some ⟨bo, 0, none⟩)] eachCount (CountI base bo) := by
 refine ⟨⟨_, Try.func46, by kernel_rfl, rfl⟩, fun s w w' h hb => ⟨blk_below h.out hb, h.bo⟩, fun s w k h hk e => ?_, fun s row A c w0 w s' b hI hb0 hB0 hR hl h => ?_⟩
 ·have := lt_of_cells h.out
  omega
 ·unfold eachCount at h
  obtain ⟨rfl, rfl⟩ := Prod.mk.inj (Option.some.inj h)
  exact CountGraceful1_call s row A c w0 w hI hB0
theorem Zbz.calls (k : Nat) (A0 : Option Addr) (c0 : Nat) (l0 : List Int) (r1 : Int) (r2 : Bool) (w : World) (hr0 : Kd.C (Kd.int .i64) w A0 l0.length l0) (hc0 : l0.length ≤ c0) (h : Zbz.f k l0 = some (r1, r2)) :
  Calls Try.prog 20 #[.slice A0 l0.length c0] w fun e w' => e = .returned (.tuple #[.int .i64 r1, .bool r2]) ∧ Below w.heap.size w w' := by
 have HR0 := Aside0.mk hr0
 have HC0 := Aside0.mk hc0
 unfold Zbz.f at h
 obtain ⟨t, ht, h⟩ := Option.bind_eq_some_iff.1 h
 have HT := Aside0.mk ht
 clear hr0 hc0 ht
 cases t with
 | false =>
  obtain ⟨rfl, rfl⟩ := Prod.mk.inj (Option.some.inj (show some ((0 : Int), false) = some (r1, r2) from h))
  clear h
  go_enter Try.func20, Try.ntmps20
  go_wp2_with (first | ((with_reducible refine gate_callee (f := 19) rfl ?_); refine goesA (some 6) Try.func19 #[.slice A0 l0.length c0] ?_; refine (Zag.calls k A0 c0 l0 false w HR0.out HC0.out HT.out).mono ?_; rintro e w1 ⟨rfl, ⟨nd, rfl⟩⟩; refine ⟨_, rfl, ?_⟩))
  go_ret2
  exact ⟨rfl, pw_below_drewN (Below.refl _ _) _⟩
 | true =>
  replace h : (if l0.length ≤ 1000 then (graceF k eachCount l0 (l0.length + 1) 0 []).bind fun q => some (q.1, true) else none) = some (r1, r2) := h
  by_cases hl : l0.length ≤ 1000
  rotate_left
  ·rw [if_neg hl] at h
   cases h
  rw [if_pos hl] at h
  obtain ⟨⟨n, b⟩, hrun, h⟩ := Option.bind_eq_some_iff.1 h
  obtain ⟨rfl, rfl⟩ := Prod.mk.inj (Option.some.inj h)
  have HRUN := Aside0.mk hrun
  have HN := Aside0.mk hl
  clear h hrun hl
  go_enter Try.func20, Try.ntmps20
  go_wp2_with (first | ((with_reducible refine gate_callee (f := 19) rfl ?_); refine goesA (some 6) Try.func19 #[.slice A0 l0.length c0] ?_; refine (Zag.calls k A0 c0 l0 true w HR0.out HC0.out HT.out).mono ?_; rintro e w1 ⟨rfl, ⟨nd, rfl⟩⟩; refine ⟨_, rfl, ?_⟩; have HC1 := Aside0.mk (Kd.C_below HR0.out (pw_below_drewN (Below.refl _ _) nd))) | ((with_reducible refine gate_dst (N := 4) rfl ?_); refine box_event ?hg (N := 4) ?hd (cs := #[.int .i64 0]) (t := 3) ?hr ?_; (case hd => rfl); (case hg => rfl); (case hr => first | (go_simp; done) | (go_simp; rfl)); intro g4 hg w2 hbox hb; have G4 := Aside0.mk (show (w.drewN nd).heap.size ≤ g4 by omega); have HI1 := Aside0.mk (show CountI (w.drewN nd).heap.size g4 0 (w2.setCell ⟨g4, 0, none⟩ (.int .i64 0)) from ⟨one_setCell hbox, by omega⟩); have HBN := Aside0.mk (show Below (w.drewN nd).heap.size (w.drewN nd) (w2.setCell ⟨g4, 0, none⟩ (.int .i64 0)) from hb.setCell (show (w.drewN nd).heap.size ≤ (⟨g4, 0, none⟩ : Addr).block from G4.out) _); have HB := Aside0.mk (show Below w.heap.size w (w2.setCell ⟨g4, 0, none⟩ (.int .i64 0)) from below_step (pw_below_drewN (Below.refl _ _) nd) HBN.out); have BK := Aside0.mk hbox; have hc2 := cell_of_one hbox; have hf2 := free_of_one hbox; clear hb hbox hg) | ((with_reducible refine gate_callee (f := 45) rfl ?_); refine goesA (some 10) Try.func45 #[.slice A0 l0.length c0, .slice none 0 0, .func (.func 46) #[] #[.pointer (some ⟨g4, 0, none⟩)]] ?_; refine (graceful_calls k (wb := w.drewN nd) (CountGraceful1_ok (base := (w.drewN nd).heap.size) (bo := g4)) l0 A0 c0 HN.out HC1.out HC0.out (l0.length + 1) 0 n b [] none 0 _ _ (Nat.zero_le _) HI1.out HBN.out.size HBN.out (Below.refl _ _) (Kd.R_nil _ _ _ _ _) HRUN.out).mono ?_; rintro e w3 ⟨rfl, hI3, hB3, hK3⟩; refine ⟨_, rfl, ?_⟩; have HB3 := Aside0.mk hB3; have hc3 := cell_of_one hI3.out; clear hI3 hB3 hK3 hc2 hf2))
  go_ret2
  exact ⟨rfl, HB.out.trans (HB3.out)⟩
end Go.Proofs.Ytapffhnkfgkboaa.Fn
