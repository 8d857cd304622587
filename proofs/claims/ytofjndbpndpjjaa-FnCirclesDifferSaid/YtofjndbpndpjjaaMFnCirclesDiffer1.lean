/- The machine's side and plain lemmas for FnCirclesDiffer: texts of this session, merged by its program (part 1). -/
import Derived.Test.YtofjndbpndpjjaaMFnCirclesDiffer0
namespace Go.Proofs.Ytofjndbpndpjjaa.Fn
open Go.RowKit Go.Proofs.YtofjndbpndpjjaaW.PrintWords Go.Proofs.YtofjndbpndpjjaaW.PrintLast Go.Proofs.YtofjndbpndpjjaaW.PrintMore
attribute [local go_sem] max2_int min2_int max_two min_two max_three min_three max_four min_four   -- for this text's walks alone
set_option linter.unusedVariables false
set_option linter.unusedSimpArgs false

/-! ### impl_TimesSet: function 51 -/
def impl_TimesSet.j0 : Nat → Int → List Int → Int → Bool → Option (List Int × Bool)
 | 0, _, _, _, _ => none
 | k + 1, x0, x1, x2, x21 => if x21 = true then (some (([] : List Int), false)) else ((impl_image.f k x0 x1 x2 0).bind fun t888 => ((impl_unlike.f k t888).bind fun t891 => (if t891 = true then (some (t888, true)) else (some (([] : List Int), false)))))
def impl_TimesSet.f (k : Nat) (a0 : Int) (l1 : List Int) (a2 : Int) : Option (List Int × Bool) := (impl_IsCircleSet.f k a0 l1).bind fun t887 => (if t887 = true then (if a2 < 1 then (impl_TimesSet.j0 k a0 l1 a2 true) else (impl_TimesSet.j0 k a0 l1 a2 (decide (a2 ≥ a0)))) else (impl_TimesSet.j0 k a0 l1 a2 true))
theorem impl_TimesSet.mono_l : ∀ k, (∀ y0 y1 y2 y3, LeO (impl_TimesSet.j0 k y0 y1 y2 y3) (impl_TimesSet.j0 (k + 1) y0 y1 y2 y3))
 | 0 => fun _ _ _ _ r h => by simp [impl_TimesSet.j0] at h
 | k + 1 => by
  have ih0 := impl_TimesSet.mono_l k
  ·intro y0 y1 y2 y3
   unfold impl_TimesSet.j0
   repeat' (first | (with_reducible first | exact impl_image.mono _ _ _ _ _ | exact impl_unlike.mono _ _ | exact LeO.refl _ | exact LeO.none _ | refine LeO.ite ?_ ?_ | refine LeO.bind ?_ (fun _ => ?_)) | exact impl_image.mono _ _ _ _ _ | exact impl_unlike.mono _ _ | exact LeO.none _ | refine LeO.ite ?_ ?_ | refine LeO.bind ?_ (fun _ => ?_))
theorem impl_TimesSet.mono : ∀ a0 a1 a2 k, LeO (impl_TimesSet.f k a0 a1 a2) (impl_TimesSet.f (k + 1) a0 a1 a2) := by
 intro a0 a1 a2 k
 have ih0 := impl_TimesSet.mono_l k
 unfold impl_TimesSet.f
 repeat' (first | (with_reducible first | exact ih0 _ _ _ _ | exact impl_IsCircleSet.mono _ _ _ | exact LeO.refl _ | exact LeO.none _ | refine LeO.ite ?_ ?_ | refine LeO.bind ?_ (fun _ => ?_)) | exact ih0 _ _ _ _ | exact impl_IsCircleSet.mono _ _ _ | exact LeO.none _ | refine LeO.ite ?_ ?_ | refine LeO.bind ?_ (fun _ => ?_))
set_option maxHeartbeats 8000000 in
set_option maxRecDepth 100000 in
theorem impl_TimesSet.calls (k : Nat) (a0 : Int) (A1 : Option Addr) (c1 : Nat) (l1 : List Int) (a2 : Int) (r1 : List Int) (r2 : Bool) (w : World) (hr1 : Kd.C (Kd.int .i64) w A1 l1.length l1) (hc1 : l1.length ≤ c1) (h : impl_TimesSet.f k a0 l1 a2 = some (r1, r2)) :
  Calls Try.prog 51 #[.int .i64 a0, .slice A1 l1.length c1, .int .i64 a2] w fun e w' => ∃ v0_ : Value, e = .returned (.tuple #[v0_, .bool r2]) ∧ Kd.R (Kd.int .i64) 3 w' w.heap.size (fun _ => True) v0_ r1 ∧ Below w.heap.size w w' := by
 have HR1 := Aside0.mk hr1
 have HC1 := Aside0.mk hc1
 clear hr1 hc1
 have HB := Aside0.mk (Below.refl w.heap.size w)
 have H := h
 unfold impl_TimesSet.f at H
 clear h
 have HC4 := Aside0.mk H
 clear H
 go_enter Try.func51, Try.ntmps51
 go_upto_region 1 with (fail)
 go_cut [21] (fun v21 wc => ∃ (kq : Nat) (x21_3 : Bool), v21 = .bool x21_3 ∧ Aside0 (impl_TimesSet.j0 kq a0 l1 a2 x21_3 = some (r1, r2)) ∧ Aside0 (kq ≤ k) ∧ Aside0 (Below w.heap.size w wc))
 case first =>
  have H := HC4.out
  clear HC4
  replace H := Option.bind_eq_some_iff.mp H
  obtain ⟨t887, A50, H⟩ := H
  replace H : (if t887 = true then (if a2 < 1 then (impl_TimesSet.j0 k a0 l1 a2 true) else (impl_TimesSet.j0 k a0 l1 a2 (decide (a2 ≥ a0)))) else (impl_TimesSet.j0 k a0 l1 a2 true)) = some (r1, r2) := H
  have A5 := Aside0.mk A50
  clear A50
  by_cases c6 : t887 = true
  ·subst c6
   have H1 : (if a2 < 1 then (impl_TimesSet.j0 k a0 l1 a2 true) else (impl_TimesSet.j0 k a0 l1 a2 (decide (a2 ≥ a0)))) = some (r1, r2) := by rw [if_pos rfl] at H; exact H
   clear H
   have H := H1
   clear H1
   by_cases c7 : a2 < 1
   ·rw [if_pos c7] at H
    have c7b0 : decide (a2 < 1) = true := decide_eq_true c7
    clear c7
    (first | rw [c7b0] | (simp only [i64_w, i32_w]; rw [c7b0]) | skip)
    have H' := Aside0.mk H
    clear H
    go_wp2_with (first | ((with_reducible refine gate_callee (f := 45) rfl ?_); refine goesA (some 11) Try.func45 #[.int .i64 a0, .slice A1 l1.length c1] ?_; (with_reducible refine (impl_IsCircleSet.calls k a0 _ _ l1 true _ ?side1 ?side2 A5.out).mono ?_); (case side1 => repeat (first | exact (Kd.C_below HR1.out HB.out) | (with_reducible refine Kd.C_alloc ?_ _) | (with_reducible refine Kd.C_drewN ?_ _) | (with_reducible refine Kd.C_drew ?_))); (case side2 => exact HC1.out); rintro e w' ⟨rfl, ⟨nd, rfl⟩⟩; refine ⟨_, rfl, ?_⟩))
    go_meet
    case rel => exact ⟨_, (true), eqd, H', ⟨leD⟩, ⟨atB HB⟩⟩
   ·rw [if_neg c7] at H
    have c7b0 : decide (a2 < 1) = false := decide_eq_false c7
    clear c7
    (first | rw [c7b0] | (simp only [i64_w, i32_w]; rw [c7b0]) | skip)
    have H' := Aside0.mk H
    clear H
    go_wp2_with (first | ((with_reducible refine gate_callee (f := 45) rfl ?_); refine goesA (some 11) Try.func45 #[.int .i64 a0, .slice A1 l1.length c1] ?_; (with_reducible refine (impl_IsCircleSet.calls k a0 _ _ l1 true _ ?side1 ?side2 A5.out).mono ?_); (case side1 => repeat (first | exact (Kd.C_below HR1.out HB.out) | (with_reducible refine Kd.C_alloc ?_ _) | (with_reducible refine Kd.C_drewN ?_ _) | (with_reducible refine Kd.C_drew ?_))); (case side2 => exact HC1.out); rintro e w' ⟨rfl, ⟨nd, rfl⟩⟩; refine ⟨_, rfl, ?_⟩))
    go_meet
    case rel => exact ⟨_, (decide (a2 ≥ a0)), eqd, H', ⟨leD⟩, ⟨atB HB⟩⟩
  ·replace c6 := Bool.eq_false_iff.mpr c6
   subst c6
   have H1 : (impl_TimesSet.j0 k a0 l1 a2 true) = some (r1, r2) := by rw [if_neg (show ¬ (false = true) by decide)] at H; exact H
   clear H
   have H := H1
   clear H1
   have H' := Aside0.mk H
   clear H
   go_wp2_with (first | ((with_reducible refine gate_callee (f := 45) rfl ?_); refine goesA (some 11) Try.func45 #[.int .i64 a0, .slice A1 l1.length c1] ?_; (with_reducible refine (impl_IsCircleSet.calls k a0 _ _ l1 false _ ?side1 ?side2 A5.out).mono ?_); (case side1 => repeat (first | exact (Kd.C_below HR1.out HB.out) | (with_reducible refine Kd.C_alloc ?_ _) | (with_reducible refine Kd.C_drewN ?_ _) | (with_reducible refine Kd.C_drew ?_))); (case side2 => exact HC1.out); rintro e w' ⟨rfl, ⟨nd, rfl⟩⟩; refine ⟨_, rfl, ?_⟩))
   go_meet
   case rel => exact ⟨_, (true), eqd, H', ⟨leD⟩, ⟨atB HB⟩⟩
 case rest =>
  clear HC4
  try clear c1
  try clear p2
  try clear c4
  try clear c5
  try clear c6
  try clear c7
  try clear c7b0
  obtain ⟨kq, x21_3, rfl, HA, HJ3, HB⟩ := hcut
  cases kq with
  | zero => exact absurd HA.out (by simp [impl_TimesSet.j0])
  | succ kj3 =>
   have H := HA.out
   clear HA
   simp only [impl_TimesSet.j0] at H
   by_cases c8 : x21_3 = true
   ·subst c8
    have H1 : (some (([] : List Int), false)) = some (r1, r2) := by rw [if_pos rfl] at H; exact H
    clear H
    have H := H1
    clear H1
    simp only [Option.some.injEq, Prod.mk.injEq] at H
    obtain ⟨rfl, rfl⟩ := H
    go_wp2
    go_ret2
    exact ⟨_, eqr, by first | exact Kd.R_nil _ _ _ _ _ | exact Kd.N_nil _ _ _ _ _ | exact Kd.V_nil _ _ _ _ _ | exact Kd.Q_nil _ _ _ _ _ | exact Kd.S_nil _ _ _ _ _, atB HB⟩
   ·replace c8 := Bool.eq_false_iff.mpr c8
    subst c8
    have H1 : ((impl_image.f kj3 a0 l1 a2 0).bind fun t888 => ((impl_unlike.f kj3 t888).bind fun t891 => (if t891 = true then (some (t888, true)) else (some (([] : List Int), false))))) = some (r1, r2) := by rw [if_neg (show ¬ (false = true) by decide)] at H; exact H
    clear H
    have H := H1
    clear H1
    replace H := Option.bind_eq_some_iff.mp H
    obtain ⟨t888, A90, H⟩ := H
    replace H : ((impl_unlike.f kj3 t888).bind fun t891 => (if t891 = true then (some (t888, true)) else (some (([] : List Int), false)))) = some (r1, r2) := H
    have A9 := Aside0.mk A90
    clear A90
    replace H := Option.bind_eq_some_iff.mp H
    obtain ⟨t891, A100, H⟩ := H
    replace H : (if t891 = true then (some (t888, true)) else (some (([] : List Int), false))) = some (r1, r2) := H
    have A10 := Aside0.mk A100
    clear A100
    by_cases c11 : t891 = true
    ·subst c11
     have H1 : (some (t888, true)) = some (r1, r2) := by rw [if_pos rfl] at H; exact H
     clear H
     have H := H1
     clear H1
     simp only [Option.some.injEq, Prod.mk.injEq] at H
     obtain ⟨rfl, rfl⟩ := H
     go_wp2_with (first | ((with_reducible refine gate_callee (f := 86) rfl ?_); refine goesA (some 25) Try.func86 #[.int .i64 a0, .slice A1 l1.length c1, .int .i64 a2, .int .i64 0] ?_; (with_reducible refine (impl_image.calls kj3 a0 _ _ l1 a2 0 t888 _ ?side1 ?side2 A9.out).mono ?_); (case side1 => repeat (first | exact (Kd.C_below HR1.out HB.out) | (with_reducible refine Kd.C_alloc ?_ _) | (with_reducible refine Kd.C_drewN ?_ _) | (with_reducible refine Kd.C_drew ?_))); (case side2 => exact HC1.out); rintro e w12 ⟨v889, rfl, ho0, hb⟩; refine ⟨_, rfl, ?_⟩; have HO890 := lowR ho0 HB; replace HB := upB HB hb; (try clear hb); (try clear hb2); (try clear hk); (try clear hi); (try clear ho0); obtain ⟨Ao13, co13, eo13⟩ := Kd.R_slice HO890.out; subst eo13) | ((with_reducible refine gate_callee (f := 94) rfl ?_); refine goesA (some 27) Try.func94 #[.slice Ao13 t888.length co13] ?_; (with_reducible refine (impl_unlike.calls kj3 _ _ t888 true _ ?side1 ?side2 A10.out).mono ?_); (case side1 => exact atRC HO890); (case side2 => exact (Kd.R_reads' HO890.out).2.1); rintro e w' ⟨rfl, ⟨nd, rfl⟩⟩; refine ⟨_, rfl, ?_⟩))
     go_ret2
     exact ⟨_, eqr, atR HO890, atB HB⟩
    ·replace c11 := Bool.eq_false_iff.mpr c11
     subst c11
     have H1 : (some (([] : List Int), false)) = some (r1, r2) := by rw [if_neg (show ¬ (false = true) by decide)] at H; exact H
     clear H
     have H := H1
     clear H1
     simp only [Option.some.injEq, Prod.mk.injEq] at H
     obtain ⟨rfl, rfl⟩ := H
     go_wp2_with (first | ((with_reducible refine gate_callee (f := 86) rfl ?_); refine goesA (some 25) Try.func86 #[.int .i64 a0, .slice A1 l1.length c1, .int .i64 a2, .int .i64 0] ?_; (with_reducible refine (impl_image.calls kj3 a0 _ _ l1 a2 0 t888 _ ?side1 ?side2 A9.out).mono ?_); (case side1 => repeat (first | exact (Kd.C_below HR1.out HB.out) | (with_reducible refine Kd.C_alloc ?_ _) | (with_reducible refine Kd.C_drewN ?_ _) | (with_reducible refine Kd.C_drew ?_))); (case side2 => exact HC1.out); rintro e w14 ⟨v889, rfl, ho0, hb⟩; refine ⟨_, rfl, ?_⟩; have HO890 := lowR ho0 HB; replace HB := upB HB hb; (try clear hb); (try clear hb2); (try clear hk); (try clear hi); (try clear ho0); obtain ⟨Ao15, co15, eo15⟩ := Kd.R_slice HO890.out; subst eo15) | ((with_reducible refine gate_callee (f := 94) rfl ?_); refine goesA (some 27) Try.func94 #[.slice Ao15 t888.length co15] ?_; (with_reducible refine (impl_unlike.calls kj3 _ _ t888 false _ ?side1 ?side2 A10.out).mono ?_); (case side1 => exact atRC HO890); (case side2 => exact (Kd.R_reads' HO890.out).2.1); rintro e w' ⟨rfl, ⟨nd, rfl⟩⟩; refine ⟨_, rfl, ?_⟩))
     go_ret2
     exact ⟨_, eqr, by first | exact Kd.R_nil _ _ _ _ _ | exact Kd.N_nil _ _ _ _ _ | exact Kd.V_nil _ _ _ _ _ | exact Kd.Q_nil _ _ _ _ _ | exact Kd.S_nil _ _ _ _ _, atB HB⟩

noncomputable def impl_TimesSet.J0 (x0 : Int) (x1 : List Int) (x2 : Int) (x21 : Bool) : Option (List Int × Bool) := lim fun k => impl_TimesSet.j0 k x0 x1 x2 x21
theorem impl_TimesSet.J0_lim (x0 : Int) (x1 : List Int) (x2 : Int) (x21 : Bool) : Lim (fun k => impl_TimesSet.j0 k x0 x1 x2 x21) (impl_TimesSet.J0 x0 x1 x2 x21) := Lim.of fun k => (impl_TimesSet.mono_l k) x0 x1 x2 x21
noncomputable def impl_TimesSet.F (a0 : Int) (l1 : List Int) (a2 : Int) : Option (List Int × Bool) := lim fun k => impl_TimesSet.f k a0 l1 a2
theorem impl_TimesSet.F_lim (a0 : Int) (l1 : List Int) (a2 : Int) : Lim (fun k => impl_TimesSet.f k a0 l1 a2) (impl_TimesSet.F a0 l1 a2) := Lim.of fun k => impl_TimesSet.mono a0 l1 a2 k
theorem impl_TimesSet.J0_eq (x0 : Int) (x1 : List Int) (x2 : Int) (x21 : Bool) : impl_TimesSet.J0 x0 x1 x2 x21 = (if x21 = true then (some (([] : List Int), false)) else ((impl_image.F x0 x1 x2 0).bind fun t888 => ((impl_unlike.F t888).bind fun t891 => (if t891 = true then (some (t888, true)) else (some (([] : List Int), false)))))) :=
 Lim.step (f := fun k => impl_TimesSet.j0 (k + 1) x0 x1 x2 x21) (impl_TimesSet.J0_lim x0 x1 x2 x21) (fun _ => rfl) (by
  simp only [impl_TimesSet.j0]
  repeat' (first | (with_reducible first | exact Lim.const _ | exact impl_image.F_lim _ _ _ _ | exact impl_unlike.F_lim _ | refine Lim.ite ?_ ?_ | refine Lim.bind ?_ (fun _ => ?_))))
theorem impl_TimesSet.F_eq (a0 : Int) (l1 : List Int) (a2 : Int) : impl_TimesSet.F a0 l1 a2 = ((impl_IsCircleSet.F a0 l1).bind fun t887 => (if t887 = true then (if a2 < 1 then (impl_TimesSet.J0 a0 l1 a2 true) else (impl_TimesSet.J0 a0 l1 a2 (decide (a2 ≥ a0)))) else (impl_TimesSet.J0 a0 l1 a2 true))) :=
 Lim.unique (impl_TimesSet.F_lim a0 l1 a2) (by
  unfold impl_TimesSet.f
  repeat' (first | (with_reducible first | exact Lim.const _ | exact impl_IsCircleSet.F_lim _ _ | exact impl_TimesSet.J0_lim _ _ _ _ | refine Lim.ite ?_ ?_ | refine Lim.bind ?_ (fun _ => ?_))))

end Go.Proofs.Ytofjndbpndpjjaa.Fn
namespace Go.Proofs.Ytofjndbpndpjjaa.Fn
open Go.RowKit Go.Proofs.YtofjndbpndpjjaaW.PrintWords Go.Proofs.YtofjndbpndpjjaaW.PrintLast Go.Proofs.YtofjndbpndpjjaaW.PrintMore
attribute [local go_sem] max2_int min2_int max_two min_two max_three min_three max_four min_four   -- for this text's walks alone
set_option linter.unusedVariables false
set_option linter.unusedSimpArgs false

/-! ### spec_ciSet: function 104 -/
mutual
def spec_ciSet.l0 : Nat → Int → List Int → List Int → Int → Option (List Int)
 | 0, _, _, _, _ => none
 | k + 1, x0, x1, x5, x6 => if x6 < x0 then (spec_ciSet.l1 k x0 x1 x5 x6 x1 (x1.length : Int) 0) else (some x5)
def spec_ciSet.l1 : Nat → Int → List Int → List Int → Int → List Int → Int → Int → Option (List Int)
 | 0, _, _, _, _, _, _, _ => none
 | k + 1, x0, x1, x5, x6, x14, x15, x16 => if x16 < x15 then (if 0 ≤ x16 then (if x16 < (x14.length : Int) then (if x0 = 0 then (none) else (if (Int.tmod (rd x14 x16) x0) = x6 then (if x5.length < 17592186044416 then (spec_ciSet.l0 k x0 x1 (x5 ++ [x6]) (wrap64 (x6 + 1))) else (none)) else (spec_ciSet.l1 k x0 x1 x5 x6 x14 x15 (wrap64 (x16 + 1))))) else (none)) else (none)) else (spec_ciSet.l0 k x0 x1 x5 (wrap64 (x6 + 1)))
end
def spec_ciSet.f (k : Nat) (a0 : Int) (l1 : List Int) : Option (List Int) := spec_ciSet.l0 k a0 l1 ([] : List Int) 0
theorem spec_ciSet.mono_l : ∀ k, (∀ y0 y1 y2 y3, LeO (spec_ciSet.l0 k y0 y1 y2 y3) (spec_ciSet.l0 (k + 1) y0 y1 y2 y3)) ∧ (∀ y0 y1 y2 y3 y4 y5 y6, LeO (spec_ciSet.l1 k y0 y1 y2 y3 y4 y5 y6) (spec_ciSet.l1 (k + 1) y0 y1 y2 y3 y4 y5 y6))
 | 0 => ⟨fun _ _ _ _ r h => by simp [spec_ciSet.l0] at h, fun _ _ _ _ _ _ _ r h => by simp [spec_ciSet.l1] at h⟩
 | k + 1 => by
  obtain ⟨ih0, ih1⟩ := spec_ciSet.mono_l k
  refine ⟨?_, ?_⟩
  ·intro y0 y1 y2 y3
   unfold spec_ciSet.l0
   repeat' (first | (with_reducible first | exact ih1 _ _ _ _ _ _ _ | exact LeO.refl _ | exact LeO.none _ | refine LeO.ite ?_ ?_ | refine LeO.bind ?_ (fun _ => ?_)) | exact ih1 _ _ _ _ _ _ _ | exact LeO.none _ | refine LeO.ite ?_ ?_ | refine LeO.bind ?_ (fun _ => ?_))
  ·intro y0 y1 y2 y3 y4 y5 y6
   unfold spec_ciSet.l1
   repeat' (first | (with_reducible first | exact ih0 _ _ _ _ | exact ih1 _ _ _ _ _ _ _ | exact LeO.refl _ | exact LeO.none _ | refine LeO.ite ?_ ?_ | refine LeO.bind ?_ (fun _ => ?_)) | exact ih0 _ _ _ _ | exact ih1 _ _ _ _ _ _ _ | exact LeO.none _ | refine LeO.ite ?_ ?_ | refine LeO.bind ?_ (fun _ => ?_))
theorem spec_ciSet.mono : ∀ a0 a1 k, LeO (spec_ciSet.f k a0 a1) (spec_ciSet.f (k + 1) a0 a1) := by
 intro a0 a1 k
 obtain ⟨ih0, ih1⟩ := spec_ciSet.mono_l k
 unfold spec_ciSet.f
 repeat' (first | (with_reducible first | exact ih0 _ _ _ _ | exact LeO.refl _ | exact LeO.none _ | refine LeO.ite ?_ ?_ | refine LeO.bind ?_ (fun _ => ?_)) | exact ih0 _ _ _ _ | exact LeO.none _ | refine LeO.ite ?_ ?_ | refine LeO.bind ?_ (fun _ => ?_))
set_option maxHeartbeats 8000000 in
set_option maxRecDepth 100000 in
theorem spec_ciSet.calls (k : Nat) (a0 : Int) (A1 : Option Addr) (c1 : Nat) (l1 : List Int) (r : List Int) (w : World) (hr1 : Kd.C (Kd.int .i64) w A1 l1.length l1) (hc1 : l1.length ≤ c1) (h : spec_ciSet.f k a0 l1 = some r) :
  Calls Try.prog 104 #[.int .i64 a0, .slice A1 l1.length c1] w fun e w' => ∃ v0_ : Value, e = .returned (v0_) ∧ Kd.R (Kd.int .i64) 3 w' w.heap.size (fun _ => True) v0_ r ∧ Below w.heap.size w w' := by
 have HR1 := Aside0.mk hr1
 have HC1 := Aside0.mk hc1
 clear hr1 hc1
 have HB := Aside0.mk (Below.refl w.heap.size w)
 have H := h
 unfold spec_ciSet.f at H
 clear h
 have H' := Aside0.mk H
 clear H
 go_enter Try.func104, Try.ntmps104
 go_wp2
 go_loopg [5, 6] k (fun kq v5 v6 w' => ∃ (x5_1 : List Int) (x6_1 : Int), v6 = .int .i64 x6_1 ∧ Aside0 (spec_ciSet.l0 kq a0 l1 x5_1 x6_1 = some r) ∧ Aside0 (kq ≤ k) ∧ Aside0 (Kd.R (Kd.int .i64) 3 w' w.heap.size (fun _ => True) v5 x5_1) ∧ Aside0 (Below w.heap.size w w'))
 case atStart => exact ⟨(([] : List Int)), (0), eqd, H', ⟨Nat.le_refl _⟩, ⟨by first | exact Kd.R_nil _ _ _ _ _ | exact Kd.N_nil _ _ _ _ _ | exact Kd.V_nil _ _ _ _ _ | exact Kd.Q_nil _ _ _ _ _ | exact Kd.S_nil _ _ _ _ _⟩, ⟨atB HB⟩⟩
 case round =>
  clear H'
  try clear c1
  try clear p2
  obtain ⟨x5_1, x6_1, rfl, HA, HK1, HO_5, HB⟩ := hrel
  cases gk with
  | zero => exact absurd HA.out (by simp [spec_ciSet.l0])
  | succ k1 =>
   have H := HA.out
   clear HA
   simp only [spec_ciSet.l0] at H
   by_cases c3 : x6_1 < a0
   ·rw [if_pos c3] at H
    have c3b0 : decide (x6_1 < a0) = true := decide_eq_true c3
    clear c3
    have H' := Aside0.mk H
    clear H
    go_wp2
    go_loopg [5, 16] k1 (fun kq v5 v16 w' => ∃ (x5_2 : List Int) (x16_2 : Int), v16 = .int .i64 x16_2 ∧ Aside0 (spec_ciSet.l1 kq a0 l1 x5_2 x6_1 l1 (l1.length : Int) x16_2 = some r) ∧ Aside0 (kq ≤ k1) ∧ Aside0 (Kd.R (Kd.int .i64) 3 w' w.heap.size (fun _ => True) v5 x5_2) ∧ Aside0 (Below w.heap.size w w'))
    case atStart => exact ⟨(x5_1), (0), eqd, H', ⟨Nat.le_refl _⟩, ⟨atR HO_5⟩, ⟨atB HB⟩⟩
    case round =>
     clear H'
     try clear c1
     try clear p2
     try clear c3
     try clear c3b0
     try clear p2
     obtain ⟨x5_2, x16_2, rfl, HA, HK2, HO_5, HB⟩ := hrel
     cases gk with
     | zero => exact absurd HA.out (by simp [spec_ciSet.l1])
     | succ k2 =>
      have H := HA.out
      clear HA
      simp only [spec_ciSet.l1] at H
      by_cases c4 : x16_2 < (l1.length : Int)
      ·rw [if_pos c4] at H
       have c4b0 : decide (x16_2 < (l1.length : Int)) = true := decide_eq_true c4
       clear c4
       by_cases c5 : 0 ≤ x16_2
       ·rw [if_pos c5] at H
        have c5b0 : decide (0 ≤ x16_2) = true := decide_eq_true c5
        clear c5
        by_cases c6 : x16_2 < (l1.length : Int)
        ·rw [if_pos c6] at H
         have c6b0 : decide (x16_2 < (l1.length : Int)) = true := decide_eq_true c6
         clear c6
         by_cases c7 : a0 = 0
         ·rw [if_pos c7] at H
          exact absurd H (by simp)
         ·rw [if_neg c7] at H
          have c7b0 : (a0 == 0) = false := beq_eq_false_iff_ne.mpr c7
          have c7b1 : (a0 != 0) = true := bne_iff_ne.mpr c7
          by_cases c8 : (Int.tmod (rd l1 x16_2) a0) = x6_1
          ·rw [if_pos c8] at H
           have c8b0 : ((Int.tmod (rd l1 x16_2) a0) == x6_1) = true := beq_iff_eq.mpr c8
           have c8b1 : ((Int.tmod (rd l1 x16_2) a0) != x6_1) = false := bne_eq_false_iff_eq.mpr c8
           clear c8
           by_cases c9 : x5_2.length < 17592186044416
           ·rw [if_pos c9] at H
            have LMc9 := Aside0.mk c9
            clear c9
            obtain ⟨y642, hy642⟩ : ∃ y_ : List Int, y_ = (x5_2 ++ [x6_1]) := ⟨_, rfl⟩
            replace H : (spec_ciSet.l0 k2 a0 l1 y642 (wrap64 (x6_1 + 1))) = some r := by first | (rw [hy642]; with_reducible exact H) | (have H2_ := (Option.bind_some _ _).symm.trans H; rw [hy642]; with_reducible exact H2_) | (have H2_ := (Option.bind_some _ _).symm.trans H; with_reducible exact H2_) | with_reducible exact H | (rw [hy642]; exact H) | exact H
            have Ny642 := Aside0.mk hy642
            clear hy642
            have H' := Aside0.mk H
            clear H
            have p641 : 0 ≤ (x16_2 : Int) := ofd
            have q641 : x16_2 < (l1.length : Int) := ofd
            obtain ⟨ad641, e641, hx641_0⟩ := Kd.at_int HR1.out x16_2 p641 q641
            cases e641
            (try replace hx641_0 := (HB.out.cell (World.block_lt_of_cell? w _ hx641_0)).trans hx641_0)
            replace p641 := eq_true p641
            replace q641 := eq_true q641
            go_wp2_with (first | ((with_reducible refine gate_builtin (b := .append) (xs := #[.tmp 25, .tmp 27]) rfl ?_); at_builtin; refine Kd.R_append (Kd.int .i64) (w0 := w) w.heap.size rfl (.tmp 25) (.tmp 27) 24 3 (.int .i64 0) 8 rfl Try.underlying24 info3 rfl (by decide) (by omega) u5 x5_2 x6_1 [.int .i64 x6_1] (fun _ => True) (fun _ => False) rfl rfl ?aP (fun _ hk => hk.elim) ?aF ?aO ?aB ?aS ?aL ?_; (case aP => exact rfl); (case aB => exact (atB HB)); (case aF => exact (fun _ _ => trivial)); (case aO => exact (atR HO_5)); (case aS => exact (szB HB)); (case aL => have := LMc9.out; omega); intro v643 w10 ho hb hg hat; rw [← Ny642.out] at ho; have HO644 := Aside0.mk (ho); replace HB := Aside0.mk (hb); clear HO_5; clear ho hb hg hat))
            go_roundg k2
            case measure => have := HK1.out; have := HK2.out; omega
            case rel => exact ⟨(y642), (wrap64 (x6_1 + 1)), eqd, H', ⟨by have := HK1.out; have := HK2.out; omega⟩, ⟨atR HO644⟩, ⟨atB HB⟩⟩
           ·rw [if_neg c9] at H
            exact absurd H (by simp)
          ·rw [if_neg c8] at H
           have c8b0 : ((Int.tmod (rd l1 x16_2) a0) == x6_1) = false := beq_eq_false_iff_ne.mpr c8
           have c8b1 : ((Int.tmod (rd l1 x16_2) a0) != x6_1) = true := bne_iff_ne.mpr c8
           have H' := Aside0.mk H
           clear H
           have p641 : 0 ≤ (x16_2 : Int) := ofd
           have q641 : x16_2 < (l1.length : Int) := ofd
           obtain ⟨ad641, e641, hx641_0⟩ := Kd.at_int HR1.out x16_2 p641 q641
           cases e641
           (try replace hx641_0 := (HB.out.cell (World.block_lt_of_cell? w _ hx641_0)).trans hx641_0)
           replace p641 := eq_true p641
           replace q641 := eq_true q641
           go_wp2
           go_roundg k2
           case measure => have := HK1.out; have := HK2.out; omega
           case rel => exact ⟨(x5_2), (wrap64 (x16_2 + 1)), eqd, H', ⟨by have := HK1.out; have := HK2.out; omega⟩, ⟨atR HO_5⟩, ⟨atB HB⟩⟩
        ·rw [if_neg c6] at H
         exact absurd H (by simp)
       ·rw [if_neg c5] at H
        exact absurd H (by simp)
      ·rw [if_neg c4] at H
       have c4b0 : decide (x16_2 < (l1.length : Int)) = false := decide_eq_false c4
       clear c4
       have H' := Aside0.mk H
       clear H
       go_wp2
       go_roundg k2
       case measure => have := HK1.out; have := HK2.out; omega
       case rel => exact ⟨(x5_2), (wrap64 (x6_1 + 1)), eqd, H', ⟨by have := HK1.out; have := HK2.out; omega⟩, ⟨atR HO_5⟩, ⟨atB HB⟩⟩
   ·rw [if_neg c3] at H
    have c3b0 : decide (x6_1 < a0) = false := decide_eq_false c3
    clear c3
    obtain rfl := Option.some.inj H
    go_wp2
    go_ret
    exact ⟨_, eqr, atR HO_5, atB HB⟩

noncomputable def spec_ciSet.L0 (x0 : Int) (x1 : List Int) (x5 : List Int) (x6 : Int) : Option (List Int) := lim fun k => spec_ciSet.l0 k x0 x1 x5 x6
theorem spec_ciSet.L0_lim (x0 : Int) (x1 : List Int) (x5 : List Int) (x6 : Int) : Lim (fun k => spec_ciSet.l0 k x0 x1 x5 x6) (spec_ciSet.L0 x0 x1 x5 x6) := Lim.of fun k => (spec_ciSet.mono_l k).1 x0 x1 x5 x6
noncomputable def spec_ciSet.L1 (x0 : Int) (x1 : List Int) (x5 : List Int) (x6 : Int) (x14 : List Int) (x15 : Int) (x16 : Int) : Option (List Int) := lim fun k => spec_ciSet.l1 k x0 x1 x5 x6 x14 x15 x16
theorem spec_ciSet.L1_lim (x0 : Int) (x1 : List Int) (x5 : List Int) (x6 : Int) (x14 : List Int) (x15 : Int) (x16 : Int) : Lim (fun k => spec_ciSet.l1 k x0 x1 x5 x6 x14 x15 x16) (spec_ciSet.L1 x0 x1 x5 x6 x14 x15 x16) := Lim.of fun k => (spec_ciSet.mono_l k).2 x0 x1 x5 x6 x14 x15 x16
noncomputable def spec_ciSet.F (a0 : Int) (l1 : List Int) : Option (List Int) := lim fun k => spec_ciSet.f k a0 l1
theorem spec_ciSet.F_lim (a0 : Int) (l1 : List Int) : Lim (fun k => spec_ciSet.f k a0 l1) (spec_ciSet.F a0 l1) := Lim.of fun k => spec_ciSet.mono a0 l1 k
theorem spec_ciSet.L0_eq (x0 : Int) (x1 : List Int) (x5 : List Int) (x6 : Int) : spec_ciSet.L0 x0 x1 x5 x6 = (if x6 < x0 then (spec_ciSet.L1 x0 x1 x5 x6 x1 (x1.length : Int) 0) else (some x5)) :=
 Lim.step (f := fun k => spec_ciSet.l0 (k + 1) x0 x1 x5 x6) (spec_ciSet.L0_lim x0 x1 x5 x6) (fun _ => rfl) (by
  simp only [spec_ciSet.l0]
  repeat' (first | (with_reducible first | exact Lim.const _ | exact spec_ciSet.L1_lim _ _ _ _ _ _ _ | refine Lim.ite ?_ ?_ | refine Lim.bind ?_ (fun _ => ?_))))
theorem spec_ciSet.L1_eq (x0 : Int) (x1 : List Int) (x5 : List Int) (x6 : Int) (x14 : List Int) (x15 : Int) (x16 : Int) : spec_ciSet.L1 x0 x1 x5 x6 x14 x15 x16 = (if x16 < x15 then (if 0 ≤ x16 then (if x16 < (x14.length : Int) then (if x0 = 0 then (none) else (if (Int.tmod (rd x14 x16) x0) = x6 then (if x5.length < 17592186044416 then (spec_ciSet.L0 x0 x1 (x5 ++ [x6]) (wrap64 (x6 + 1))) else (none)) else (spec_ciSet.L1 x0 x1 x5 x6 x14 x15 (wrap64 (x16 + 1))))) else (none)) else (none)) else (spec_ciSet.L0 x0 x1 x5 (wrap64 (x6 + 1)))) :=
 Lim.step (f := fun k => spec_ciSet.l1 (k + 1) x0 x1 x5 x6 x14 x15 x16) (spec_ciSet.L1_lim x0 x1 x5 x6 x14 x15 x16) (fun _ => rfl) (by
  simp only [spec_ciSet.l1]
  repeat' (first | (with_reducible first | exact Lim.const _ | exact spec_ciSet.L0_lim _ _ _ _ | exact spec_ciSet.L1_lim _ _ _ _ _ _ _ | refine Lim.ite ?_ ?_ | refine Lim.bind ?_ (fun _ => ?_))))
theorem spec_ciSet.F_eq (a0 : Int) (l1 : List Int) : spec_ciSet.F a0 l1 = (spec_ciSet.L0 a0 l1 ([] : List Int) 0) :=
 Lim.unique (spec_ciSet.F_lim a0 l1) (by
  unfold spec_ciSet.f
  repeat' (first | (with_reducible first | exact Lim.const _ | exact spec_ciSet.L0_lim _ _ _ _ | refine Lim.ite ?_ ?_ | refine Lim.bind ?_ (fun _ => ?_))))

end Go.Proofs.Ytofjndbpndpjjaa.Fn
namespace Go.Proofs.Ytofjndbpndpjjaa.Fn
open Go.RowKit Go.Proofs.YtofjndbpndpjjaaW.PrintWords Go.Proofs.YtofjndbpndpjjaaW.PrintLast Go.Proofs.YtofjndbpndpjjaaW.PrintMore
attribute [local go_sem] max2_int min2_int max_two min_two max_three min_three max_four min_four   -- for this text's walks alone
set_option linter.unusedVariables false
set_option linter.unusedSimpArgs false

/-! ### spec_l1Cur_among: function 77 -/
def spec_l1Cur_among.f (s0_0 : List Int) (s0_1 : Int) (s0_2 : Int) (l1 : List Int) : Option (Int × Int × Int) := (spec_l1Cur_pick.f s0_0 s0_1 s0_2 (l1.length : Int)).bind fun bt125 => (if 0 ≤ bt125.1 then (if bt125.1 < (l1.length : Int) then (some (rd l1 bt125.1, bt125.2.1, bt125.2.2)) else (none)) else (none))
set_option maxHeartbeats 8000000 in
set_option maxRecDepth 100000 in
theorem spec_l1Cur_among.calls (g : Nat) (s0_0 : List Int) (s0_1 : Int) (s0_2 : Int) (A1 : Option Addr) (c1 : Nat) (l1 : List Int) (r1 : Int) (r2 : Int) (r3 : Int) (w0 w : World) (hI : IsS58 w0 w g s0_0 s0_1 s0_2) (hB : Below w0.heap.size w0 w) (hr1 : Kd.C (Kd.int .i64) w A1 l1.length l1) (hc1 : l1.length ≤ c1) (hf1 : ∀ ad, A1 = some ad → 0 < l1.length → ad.block ≠ g) (h : spec_l1Cur_among.f s0_0 s0_1 s0_2 l1 = some (r1, r2, r3)) :
  Calls Try.prog 77 #[.pointer (some ⟨g, 0, none⟩), .slice A1 l1.length c1] w fun e w' => e = .returned (.int .i64 r1) ∧ IsS58 w0 w' g s0_0 r2 r3 ∧ Below w0.heap.size w0 w' ∧ KeepBut w w' g none := by
 have HR1 := Aside0.mk hr1
 have HC1 := Aside0.mk hc1
 clear hr1 hc1
 have HI0 := Aside0.mk hI
 have HK := Aside0.mk (KeepBut.refl w g none)
 have HL := Aside0.mk hB.size
 clear hI
 have HW0 := Aside0.mk hB.size
 have HB := Aside0.mk hB
 clear hB
 have H := h
 unfold spec_l1Cur_among.f at H
 clear h
 replace H := Option.bind_eq_some_iff.mp H
 obtain ⟨⟨t125, t126, t127⟩, A30, H⟩ := H
 replace H : (if 0 ≤ t125 then (if t125 < (l1.length : Int) then (some (rd l1 t125, t126, t127)) else (none)) else (none)) = some (r1, r2, r3) := H
 have A3 := Aside0.mk A30
 clear A30
 by_cases c4 : 0 ≤ t125
 ·rw [if_pos c4] at H
  have c4b0 : decide (0 ≤ t125) = true := decide_eq_true c4
  clear c4
  by_cases c5 : t125 < (l1.length : Int)
  ·rw [if_pos c5] at H
   have c5b0 : decide (t125 < (l1.length : Int)) = true := decide_eq_true c5
   clear c5
   simp only [Option.some.injEq, Prod.mk.injEq] at H
   obtain ⟨rfl, rfl, rfl⟩ := H
   go_enter Try.func77, Try.ntmps77
   go_wp2_with (first | ((with_reducible refine gate_callee (f := 78) rfl ?_); refine goesA (some 9) Try.func78 #[.pointer (some ⟨g, 0, none⟩), .int .i64 (l1.length : Int)] ?_; (with_reducible refine (spec_l1Cur_pick.calls g s0_0 s0_1 s0_2 (l1.length : Int) t125 t126 t127 w0 _ ?side1 ?side2 A3.out).mono ?_); (case side1 => exact IsS58.at HI0); (case side2 => exact atB HB); rintro e w6 ⟨rfl, hi, hb, hk⟩; refine ⟨_, rfl, ?_⟩; replace HK := upK HK hk; replace HB := Aside0.mk (hb); replace HI0 := Aside0.mk (hi); (try clear hb); (try clear hb2); (try clear hk); (try clear hi); have p128 : 0 ≤ (t125 : Int) := ofd; have q128 : t125 < (l1.length : Int) := ofd; obtain ⟨ad128, e128, hx128_0⟩ := Kd.at_int HR1.out t125 p128 q128; cases e128; replace hx128_0 := keep_cell HK.out hx128_0 (by first | (rw [add_block]; exact hf1 _ rfl (by omega)) | exact hf1 _ rfl (by omega) | exact hf1 ad128 rfl (by omega)); replace p128 := eq_true p128; replace q128 := eq_true q128))
   go_ret
   exact ⟨eqr, IsS58.at HI0, atB HB, atK HK⟩
  ·rw [if_neg c5] at H
   exact absurd H (by simp)
 ·rw [if_neg c4] at H
  exact absurd H (by simp)


end Go.Proofs.Ytofjndbpndpjjaa.Fn
namespace Go.Proofs.Ytofjndbpndpjjaa.Fn
open Go.RowKit Go.Proofs.YtofjndbpndpjjaaW.PrintWords Go.Proofs.YtofjndbpndpjjaaW.PrintLast Go.Proofs.YtofjndbpndpjjaaW.PrintMore
attribute [local go_sem] max2_int min2_int max_two min_two max_three min_three max_four min_four   -- for this text's walks alone
set_option linter.unusedVariables false
set_option linter.unusedSimpArgs false

/-! ### spec_ciMove: function 91 -/
def spec_ciMove.l0 : Nat → Int → Int → List Int → List Int → Int → Int → Option (List Int)
 | 0, _, _, _, _, _, _ => none
 | k + 1, x0, x2, x7, x10, x11, x12 => if x12 < x11 then (if 0 ≤ x12 then (if x12 < (x10.length : Int) then (if x7.length < 17592186044416 then (spec_ciMove.l0 k x0 x2 (x7 ++ [wrap64 ((rd x10 x12) + x2)]) x10 x11 (wrap64 (x12 + 1))) else (none)) else (none)) else (none)) else ((spec_ciSet.f k x0 x7).bind fun t649 => (some t649))
def spec_ciMove.f (k : Nat) (a0 : Int) (l1 : List Int) (a2 : Int) : Option (List Int) := spec_ciMove.l0 k a0 a2 ([] : List Int) l1 (l1.length : Int) 0
theorem spec_ciMove.mono_l : ∀ k, (∀ y0 y1 y2 y3 y4 y5, LeO (spec_ciMove.l0 k y0 y1 y2 y3 y4 y5) (spec_ciMove.l0 (k + 1) y0 y1 y2 y3 y4 y5))
 | 0 => fun _ _ _ _ _ _ r h => by simp [spec_ciMove.l0] at h
 | k + 1 => by
  have ih0 := spec_ciMove.mono_l k
  ·intro y0 y1 y2 y3 y4 y5
   unfold spec_ciMove.l0
   repeat' (first | (with_reducible first | exact ih0 _ _ _ _ _ _ | exact spec_ciSet.mono _ _ _ | exact LeO.refl _ | exact LeO.none _ | refine LeO.ite ?_ ?_ | refine LeO.bind ?_ (fun _ => ?_)) | exact ih0 _ _ _ _ _ _ | exact spec_ciSet.mono _ _ _ | exact LeO.none _ | refine LeO.ite ?_ ?_ | refine LeO.bind ?_ (fun _ => ?_))
theorem spec_ciMove.mono : ∀ a0 a1 a2 k, LeO (spec_ciMove.f k a0 a1 a2) (spec_ciMove.f (k + 1) a0 a1 a2) := by
 intro a0 a1 a2 k
 have ih0 := spec_ciMove.mono_l k
 unfold spec_ciMove.f
 repeat' (first | (with_reducible first | exact ih0 _ _ _ _ _ _ | exact LeO.refl _ | exact LeO.none _ | refine LeO.ite ?_ ?_ | refine LeO.bind ?_ (fun _ => ?_)) | exact ih0 _ _ _ _ _ _ | exact LeO.none _ | refine LeO.ite ?_ ?_ | refine LeO.bind ?_ (fun _ => ?_))
set_option maxHeartbeats 8000000 in
set_option maxRecDepth 100000 in
theorem spec_ciMove.calls (k : Nat) (a0 : Int) (A1 : Option Addr) (c1 : Nat) (l1 : List Int) (a2 : Int) (r : List Int) (w : World) (hr1 : Kd.C (Kd.int .i64) w A1 l1.length l1) (hc1 : l1.length ≤ c1) (h : spec_ciMove.f k a0 l1 a2 = some r) :
  Calls Try.prog 91 #[.int .i64 a0, .slice A1 l1.length c1, .int .i64 a2] w fun e w' => ∃ v0_ : Value, e = .returned (v0_) ∧ Kd.R (Kd.int .i64) 3 w' w.heap.size (fun _ => True) v0_ r ∧ Below w.heap.size w w' := by
 have HR1 := Aside0.mk hr1
 have HC1 := Aside0.mk hc1
 clear hr1 hc1
 have HB := Aside0.mk (Below.refl w.heap.size w)
 have H := h
 unfold spec_ciMove.f at H
 clear h
 have H' := Aside0.mk H
 clear H
 go_enter Try.func91, Try.ntmps91
 go_wp2
 go_loopg [7, 12] k (fun kq v7 v12 w' => ∃ (x7_1 : List Int) (x12_1 : Int), v12 = .int .i64 x12_1 ∧ Aside0 (spec_ciMove.l0 kq a0 a2 x7_1 l1 (l1.length : Int) x12_1 = some r) ∧ Aside0 (kq ≤ k) ∧ Aside0 (Kd.R (Kd.int .i64) 3 w' w.heap.size (fun _ => True) v7 x7_1) ∧ Aside0 (Below w.heap.size w w'))
 case atStart => exact ⟨(([] : List Int)), (0), eqd, H', ⟨Nat.le_refl _⟩, ⟨by first | exact Kd.R_nil _ _ _ _ _ | exact Kd.N_nil _ _ _ _ _ | exact Kd.V_nil _ _ _ _ _ | exact Kd.Q_nil _ _ _ _ _ | exact Kd.S_nil _ _ _ _ _⟩, ⟨atB HB⟩⟩
 case round =>
  clear H'
  try clear c1
  try clear p2
  obtain ⟨x7_1, x12_1, rfl, HA, HK1, HO_7, HB⟩ := hrel
  cases gk with
  | zero => exact absurd HA.out (by simp [spec_ciMove.l0])
  | succ k1 =>
   have H := HA.out
   clear HA
   simp only [spec_ciMove.l0] at H
   by_cases c4 : x12_1 < (l1.length : Int)
   ·rw [if_pos c4] at H
    have c4b0 : decide (x12_1 < (l1.length : Int)) = true := decide_eq_true c4
    clear c4
    by_cases c5 : 0 ≤ x12_1
    ·rw [if_pos c5] at H
     have c5b0 : decide (0 ≤ x12_1) = true := decide_eq_true c5
     clear c5
     by_cases c6 : x12_1 < (l1.length : Int)
     ·rw [if_pos c6] at H
      have c6b0 : decide (x12_1 < (l1.length : Int)) = true := decide_eq_true c6
      clear c6
      by_cases c7 : x7_1.length < 17592186044416
      ·rw [if_pos c7] at H
       have LMc7 := Aside0.mk c7
       clear c7
       obtain ⟨y646, hy646⟩ : ∃ y_ : List Int, y_ = (x7_1 ++ [wrap64 ((rd l1 x12_1) + a2)]) := ⟨_, rfl⟩
       replace H : (spec_ciMove.l0 k1 a0 a2 y646 l1 (l1.length : Int) (wrap64 (x12_1 + 1))) = some r := by first | (rw [hy646]; with_reducible exact H) | (have H2_ := (Option.bind_some _ _).symm.trans H; rw [hy646]; with_reducible exact H2_) | (have H2_ := (Option.bind_some _ _).symm.trans H; with_reducible exact H2_) | with_reducible exact H | (rw [hy646]; exact H) | exact H
       have Ny646 := Aside0.mk hy646
       clear hy646
       have H' := Aside0.mk H
       clear H
       have p645 : 0 ≤ (x12_1 : Int) := ofd
       have q645 : x12_1 < (l1.length : Int) := ofd
       obtain ⟨ad645, e645, hx645_0⟩ := Kd.at_int HR1.out x12_1 p645 q645
       cases e645
       (try replace hx645_0 := (HB.out.cell (World.block_lt_of_cell? w _ hx645_0)).trans hx645_0)
       replace p645 := eq_true p645
       replace q645 := eq_true q645
       go_wp2_with (first | ((with_reducible refine gate_builtin (b := .append) (xs := #[.tmp 16, .tmp 20]) rfl ?_); at_builtin; refine Kd.R_append (Kd.int .i64) (w0 := w) w.heap.size rfl (.tmp 16) (.tmp 20) 24 3 (.int .i64 0) 8 rfl Try.underlying24 info3 rfl (by decide) (by omega) u7 x7_1 (wrap64 ((rd l1 x12_1) + a2)) [.int .i64 (wrap64 ((rd l1 x12_1) + a2))] (fun _ => True) (fun _ => False) rfl rfl ?aP (fun _ hk => hk.elim) ?aF ?aO ?aB ?aS ?aL ?_; (case aP => exact rfl); (case aB => exact (atB HB)); (case aF => exact (fun _ _ => trivial)); (case aO => exact (atR HO_7)); (case aS => exact (szB HB)); (case aL => have := LMc7.out; omega); intro v647 w8 ho hb hg hat; rw [← Ny646.out] at ho; have HO648 := Aside0.mk (ho); replace HB := Aside0.mk (hb); clear HO_7; clear ho hb hg hat))
       go_roundg k1
       case measure => have := HK1.out; omega
       case rel => exact ⟨(y646), (wrap64 (x12_1 + 1)), eqd, H', ⟨by have := HK1.out; omega⟩, ⟨atR HO648⟩, ⟨atB HB⟩⟩
      ·rw [if_neg c7] at H
       exact absurd H (by simp)
     ·rw [if_neg c6] at H
      exact absurd H (by simp)
    ·rw [if_neg c5] at H
     exact absurd H (by simp)
   ·rw [if_neg c4] at H
    have c4b0 : decide (x12_1 < (l1.length : Int)) = false := decide_eq_false c4
    clear c4
    replace H := Option.bind_eq_some_iff.mp H
    obtain ⟨t649, A90, H⟩ := H
    replace H : (some t649) = some r := H
    have A9 := Aside0.mk A90
    clear A90
    obtain rfl := Option.some.inj H
    obtain ⟨Ao10, co10, eo10⟩ := Kd.R_slice HO_7.out
    subst eo10
    go_wp2_with (first | ((with_reducible refine gate_callee (f := 104) rfl ?_); refine goesA (some 25) Try.func104 #[.int .i64 a0, .slice Ao10 x7_1.length co10] ?_; (with_reducible refine (spec_ciSet.calls k1 a0 _ _ x7_1 t649 _ ?side1 ?side2 A9.out).mono ?_); (case side1 => exact atRC HO_7); (case side2 => exact (Kd.R_reads' HO_7.out).2.1); rintro e w11 ⟨v650, rfl, ho0, hb⟩; refine ⟨_, rfl, ?_⟩; have HO651 := Aside0.mk (Kd.R_lower (Kd.R_new' ho0 (ltR HO_7)) (szB HB)); replace HO_7 := eldRR HO_7 ho0 hb; replace HB := upB HB hb; (try clear hb); (try clear hb2); (try clear hk); (try clear hi); (try clear ho0)))
    go_ret
    exact ⟨_, eqr, by (with_reducible repeat (first | apply Kd.R_alloc | apply Kd.R_drewN | apply Kd.R_drew)); exact Kd.R_mono HO651.out (fun _ hk => trivial), atB HB⟩

noncomputable def spec_ciMove.L0 (x0 : Int) (x2 : Int) (x7 : List Int) (x10 : List Int) (x11 : Int) (x12 : Int) : Option (List Int) := lim fun k => spec_ciMove.l0 k x0 x2 x7 x10 x11 x12
theorem spec_ciMove.L0_lim (x0 : Int) (x2 : Int) (x7 : List Int) (x10 : List Int) (x11 : Int) (x12 : Int) : Lim (fun k => spec_ciMove.l0 k x0 x2 x7 x10 x11 x12) (spec_ciMove.L0 x0 x2 x7 x10 x11 x12) := Lim.of fun k => (spec_ciMove.mono_l k) x0 x2 x7 x10 x11 x12
noncomputable def spec_ciMove.F (a0 : Int) (l1 : List Int) (a2 : Int) : Option (List Int) := lim fun k => spec_ciMove.f k a0 l1 a2
theorem spec_ciMove.F_lim (a0 : Int) (l1 : List Int) (a2 : Int) : Lim (fun k => spec_ciMove.f k a0 l1 a2) (spec_ciMove.F a0 l1 a2) := Lim.of fun k => spec_ciMove.mono a0 l1 a2 k
theorem spec_ciMove.L0_eq (x0 : Int) (x2 : Int) (x7 : List Int) (x10 : List Int) (x11 : Int) (x12 : Int) : spec_ciMove.L0 x0 x2 x7 x10 x11 x12 = (if x12 < x11 then (if 0 ≤ x12 then (if x12 < (x10.length : Int) then (if x7.length < 17592186044416 then (spec_ciMove.L0 x0 x2 (x7 ++ [wrap64 ((rd x10 x12) + x2)]) x10 x11 (wrap64 (x12 + 1))) else (none)) else (none)) else (none)) else ((spec_ciSet.F x0 x7).bind fun t649 => (some t649))) :=
 Lim.step (f := fun k => spec_ciMove.l0 (k + 1) x0 x2 x7 x10 x11 x12) (spec_ciMove.L0_lim x0 x2 x7 x10 x11 x12) (fun _ => rfl) (by
  simp only [spec_ciMove.l0]
  repeat' (first | (with_reducible first | exact Lim.const _ | exact spec_ciMove.L0_lim _ _ _ _ _ _ | exact spec_ciSet.F_lim _ _ | refine Lim.ite ?_ ?_ | refine Lim.bind ?_ (fun _ => ?_))))
theorem spec_ciMove.F_eq (a0 : Int) (l1 : List Int) (a2 : Int) : spec_ciMove.F a0 l1 a2 = (spec_ciMove.L0 a0 a2 ([] : List Int) l1 (l1.length : Int) 0) :=
 Lim.unique (spec_ciMove.F_lim a0 l1 a2) (by
  unfold spec_ciMove.f
  repeat' (first | (with_reducible first | exact Lim.const _ | exact spec_ciMove.L0_lim _ _ _ _ _ _ | refine Lim.ite ?_ ?_ | refine Lim.bind ?_ (fun _ => ?_))))

end Go.Proofs.Ytofjndbpndpjjaa.Fn
namespace Go.Proofs.Ytofjndbpndpjjaa.Fn
open Go.RowKit Go.Proofs.YtofjndbpndpjjaaW.PrintWords Go.Proofs.YtofjndbpndpjjaaW.PrintLast Go.Proofs.YtofjndbpndpjjaaW.PrintMore
attribute [local go_sem] max2_int min2_int max_two min_two max_three min_three max_four min_four   -- for this text's walks alone
set_option linter.unusedVariables false
set_option linter.unusedSimpArgs false

/-! ### spec_l1Cur_circle: function 95 -/
mutual
def spec_l1Cur_circle.j0 : Nat → Bool → List Int → Int → Int → Option (Int × List Int × Int × Int)
 | 0, _, _, _, _ => none
 | k + 1, x24, x1000, x1001, x1002 => if x24 = true then ((some (([(([0, 1, 3] : List Int)), (([0, 1, 2, 4] : List Int)), (([0, 1, 3, 9] : List Int)), (([0, 1, 4, 14, 16] : List Int)), (([0, 1, 3, 8, 12, 18] : List Int)), (([0, 1, 2, 4, 5, 8, 10] : List Int)), (([0, 1, 3, 4, 5, 9] : List Int)), (([0, 1] : List Int))] : List (List Int)) : List (List Int))).bind fun y700 => ((some (([7, 7, 13, 21, 31, 15, 11, 3] : List Int) : List Int)).bind fun y703 => ((spec_l1Cur_pick.f x1000 x1001 x1002 (y700.length : Int)).bind fun bt706 => (if 0 ≤ bt706.1 then (if bt706.1 < (y703.length : Int) then (if bt706.1 < (y700.length : Int) then ((spec_l1Cur_pick.f x1000 bt706.2.1 bt706.2.2 (rd y703 bt706.1)).bind fun bt713 => ((spec_ciMove.f k (rd y703 bt706.1) (rd_L2 y700 bt706.1) bt713.1).bind fun t716 => (some (rd y703 bt706.1, t716, bt713.2.1, bt713.2.2)))) else (none)) else (none)) else (none))))) else ((spec_l1Cur_pick.f x1000 x1001 x1002 14).bind fun bt719 => ((spec_l1Cur_pick.f x1000 bt719.2.1 bt719.2.2 5).bind fun bt722 => (spec_l1Cur_circle.l0 k (wrap64 (2 + bt719.1)) ([] : List Int) (wrap64 (1 + bt722.1)) x1000 bt722.2.1 bt722.2.2)))
def spec_l1Cur_circle.l0 : Nat → Int → List Int → Int → List Int → Int → Int → Option (Int × List Int × Int × Int)
 | 0, _, _, _, _, _, _ => none
 | k + 1, x7, x8, x9, x1000, x1001, x1002 => if x9 > 0 then ((spec_l1Cur_pick.f x1000 x1001 x1002 x7).bind fun bt725 => (if x8.length < 17592186044416 then (spec_l1Cur_circle.l0 k x7 (x8 ++ [bt725.1]) (wrap64 (x9 - 1)) x1000 bt725.2.1 bt725.2.2) else (none))) else ((spec_ciSet.f k x7 x8).bind fun t731 => (some (x7, t731, x1001, x1002)))
end
def spec_l1Cur_circle.f (k : Nat) (s0_0 : List Int) (s0_1 : Int) (s0_2 : Int) : Option (Int × List Int × Int × Int) := (spec_l1Cur_pick.f s0_0 s0_1 s0_2 12).bind fun bt652 => (if bt652.1 = 0 then ((spec_l1Cur_among.f s0_0 bt652.2.1 bt652.2.2 (([1, 2, 7, 31, 32, (-1), 4611686018427387904] : List Int))).bind fun bt658 => ((spec_l1Cur_among.f s0_0 bt658.2.1 bt658.2.2 (([(-1), 0, 1, 31] : List Int))).bind fun bt664 => ((spec_l1Cur_among.f s0_0 bt664.2.1 bt664.2.2 (([1, 6, 4611686018427387904] : List Int))).bind fun bt670 => (some (bt658.1, (([bt664.1, bt670.1] : List Int)), bt670.2.1, bt670.2.2))))) else (if bt652.1 = 1 then (spec_l1Cur_circle.j0 k (bt652.1 == 1) s0_0 bt652.2.1 bt652.2.2) else (if bt652.1 = 2 then (spec_l1Cur_circle.j0 k (bt652.1 == 2) s0_0 bt652.2.1 bt652.2.2) else (if bt652.1 = 3 then (spec_l1Cur_circle.j0 k (bt652.1 == 3) s0_0 bt652.2.1 bt652.2.2) else (spec_l1Cur_circle.j0 k (bt652.1 == 4) s0_0 bt652.2.1 bt652.2.2)))))
theorem spec_l1Cur_circle.mono_l : ∀ k, (∀ y0 y1 y2 y3, LeO (spec_l1Cur_circle.j0 k y0 y1 y2 y3) (spec_l1Cur_circle.j0 (k + 1) y0 y1 y2 y3)) ∧ (∀ y0 y1 y2 y3 y4 y5, LeO (spec_l1Cur_circle.l0 k y0 y1 y2 y3 y4 y5) (spec_l1Cur_circle.l0 (k + 1) y0 y1 y2 y3 y4 y5))
 | 0 => ⟨fun _ _ _ _ r h => by simp [spec_l1Cur_circle.j0] at h, fun _ _ _ _ _ _ r h => by simp [spec_l1Cur_circle.l0] at h⟩
 | k + 1 => by
  obtain ⟨ih0, ih1⟩ := spec_l1Cur_circle.mono_l k
  refine ⟨?_, ?_⟩
  ·intro y0 y1 y2 y3
   unfold spec_l1Cur_circle.j0
   repeat' (first | (with_reducible first | exact ih1 _ _ _ _ _ _ | exact spec_ciMove.mono _ _ _ _ | exact LeO.refl _ | exact LeO.none _ | refine LeO.ite ?_ ?_ | refine LeO.bind ?_ (fun _ => ?_)) | exact ih1 _ _ _ _ _ _ | exact spec_ciMove.mono _ _ _ _ | exact LeO.none _ | refine LeO.ite ?_ ?_ | refine LeO.bind ?_ (fun _ => ?_))
  ·intro y0 y1 y2 y3 y4 y5
   unfold spec_l1Cur_circle.l0
   repeat' (first | (with_reducible first | exact ih1 _ _ _ _ _ _ | exact spec_ciSet.mono _ _ _ | exact LeO.refl _ | exact LeO.none _ | refine LeO.ite ?_ ?_ | refine LeO.bind ?_ (fun _ => ?_)) | exact ih1 _ _ _ _ _ _ | exact spec_ciSet.mono _ _ _ | exact LeO.none _ | refine LeO.ite ?_ ?_ | refine LeO.bind ?_ (fun _ => ?_))
theorem spec_l1Cur_circle.mono : ∀ a0 a1 a2 k, LeO (spec_l1Cur_circle.f k a0 a1 a2) (spec_l1Cur_circle.f (k + 1) a0 a1 a2) := by
 intro a0 a1 a2 k
 obtain ⟨ih0, ih1⟩ := spec_l1Cur_circle.mono_l k
 unfold spec_l1Cur_circle.f
 repeat' (first | (with_reducible first | exact ih0 _ _ _ _ | exact LeO.refl _ | exact LeO.none _ | refine LeO.ite ?_ ?_ | refine LeO.bind ?_ (fun _ => ?_)) | exact ih0 _ _ _ _ | exact LeO.none _ | refine LeO.ite ?_ ?_ | refine LeO.bind ?_ (fun _ => ?_))
def spec_l1Cur_circle.T11 : Bool × List (List Nat × List Nat) := (true, [([], []), ([], []), ([0, 1], [0, 1]), ([2], [2]), ([], []), ([], []), ([4, 5], [4, 5]), ([6], [6]), ([], []), ([], []), ([8, 9], [8, 9]), ([10], [10]), ([], []), ([], []), ([], []), ([13, 14], [13, 14]), ([15], [15]), ([12, 16], [12, 16]), ([7, 11, 17, 17], [7, 11, 17]), ([3, 18, 0, 1, 2, 3], [3]), ([18, 19, 0, 1, 2, 3, 4, 5, 6, 7, 8, 9, 10, 11, 12, 13, 14, 15, 16, 17, 18, 19], [18])])
def spec_l1Cur_circle.B11 : List Nat := [0, 0, 3, 7, 0, 0, 48, 112, 0, 0, 768, 1792, 0, 0, 0, 24576, 57344, 126976, 262128, 524287, 1048575]
theorem spec_l1Cur_circle.tab11 : rtab .any (opsOf Try.f95 11) = spec_l1Cur_circle.T11 := by kernel_rfl
theorem spec_l1Cur_circle.bits11 : waitsOk spec_l1Cur_circle.T11.2 spec_l1Cur_circle.B11 = true := by kernel_rfl
set_option maxHeartbeats 8000000 in
set_option maxRecDepth 100000 in
theorem spec_l1Cur_circle.calls (k : Nat) (g : Nat) (s0_0 : List Int) (s0_1 : Int) (s0_2 : Int) (r1 : Int) (r2 : List Int) (r3 : Int) (r4 : Int) (w0 w : World) (hI : IsS58 w0 w g s0_0 s0_1 s0_2) (hB : Below w0.heap.size w0 w) (h : spec_l1Cur_circle.f k s0_0 s0_1 s0_2 = some (r1, r2, r3, r4)) :
  Calls Try.prog 95 #[.pointer (some ⟨g, 0, none⟩)] w fun e w' => ∃ v1_ : Value, e = .returned (.tuple #[.int .i64 r1, v1_]) ∧ Kd.R (Kd.int .i64) 3 w' w.heap.size (fun _ => True) v1_ r2 ∧ IsS58 w0 w' g s0_0 r3 r4 ∧ Below w0.heap.size w0 w' ∧ KeepBut w w' g none := by
 have HI0 := Aside0.mk hI
 have HK := Aside0.mk (KeepBut.refl w g none)
 have HL := Aside0.mk hB.size
 clear hI
 have HW0 := Aside0.mk hB.size
 have HB := Aside0.mk hB
 clear hB
 have H := h
 unfold spec_l1Cur_circle.f at H
 clear h
 replace H := Option.bind_eq_some_iff.mp H
 obtain ⟨⟨t652, t653, t654⟩, A20, H⟩ := H
 replace H : (if t652 = 0 then ((spec_l1Cur_among.f s0_0 t653 t654 (([1, 2, 7, 31, 32, (-1), 4611686018427387904] : List Int))).bind fun bt658 => ((spec_l1Cur_among.f s0_0 bt658.2.1 bt658.2.2 (([(-1), 0, 1, 31] : List Int))).bind fun bt664 => ((spec_l1Cur_among.f s0_0 bt664.2.1 bt664.2.2 (([1, 6, 4611686018427387904] : List Int))).bind fun bt670 => (some (bt658.1, (([bt664.1, bt670.1] : List Int)), bt670.2.1, bt670.2.2))))) else (if t652 = 1 then (spec_l1Cur_circle.j0 k (t652 == 1) s0_0 t653 t654) else (if t652 = 2 then (spec_l1Cur_circle.j0 k (t652 == 2) s0_0 t653 t654) else (if t652 = 3 then (spec_l1Cur_circle.j0 k (t652 == 3) s0_0 t653 t654) else (spec_l1Cur_circle.j0 k (t652 == 4) s0_0 t653 t654))))) = some (r1, r2, r3, r4) := H
 have A2 := Aside0.mk A20
 clear A20
 by_cases c3 : t652 = 0
 ·rw [if_pos c3] at H
  have c3b0 : (t652 == 0) = true := beq_iff_eq.mpr c3
  have c3b1 : (t652 != 0) = false := bne_eq_false_iff_eq.mpr c3
  clear c3
  obtain ⟨y655, hy655⟩ : ∃ y_ : List Int, y_ = (([1, 2, 7, 31, 32, (-1), 4611686018427387904] : List Int)) := ⟨_, rfl⟩
  replace H : ((spec_l1Cur_among.f s0_0 t653 t654 y655).bind fun bt658 => ((spec_l1Cur_among.f s0_0 bt658.2.1 bt658.2.2 (([(-1), 0, 1, 31] : List Int))).bind fun bt664 => ((spec_l1Cur_among.f s0_0 bt664.2.1 bt664.2.2 (([1, 6, 4611686018427387904] : List Int))).bind fun bt670 => (some (bt658.1, (([bt664.1, bt670.1] : List Int)), bt670.2.1, bt670.2.2))))) = some (r1, r2, r3, r4) := by first | (rw [hy655]; with_reducible exact H) | (have H2_ := (Option.bind_some _ _).symm.trans H; rw [hy655]; with_reducible exact H2_) | (have H2_ := (Option.bind_some _ _).symm.trans H; with_reducible exact H2_) | with_reducible exact H | (rw [hy655]; exact H) | exact H
  have Ny655 := Aside0.mk hy655
  clear hy655
  replace H := Option.bind_eq_some_iff.mp H
  obtain ⟨⟨t658, t659, t660⟩, A40, H⟩ := H
  replace H : ((spec_l1Cur_among.f s0_0 t659 t660 (([(-1), 0, 1, 31] : List Int))).bind fun bt664 => ((spec_l1Cur_among.f s0_0 bt664.2.1 bt664.2.2 (([1, 6, 4611686018427387904] : List Int))).bind fun bt670 => (some (t658, (([bt664.1, bt670.1] : List Int)), bt670.2.1, bt670.2.2)))) = some (r1, r2, r3, r4) := H
  have A4 := Aside0.mk A40
  clear A40
  obtain ⟨y661, hy661⟩ : ∃ y_ : List Int, y_ = (([(-1), 0, 1, 31] : List Int)) := ⟨_, rfl⟩
  replace H : ((spec_l1Cur_among.f s0_0 t659 t660 y661).bind fun bt664 => ((spec_l1Cur_among.f s0_0 bt664.2.1 bt664.2.2 (([1, 6, 4611686018427387904] : List Int))).bind fun bt670 => (some (t658, (([bt664.1, bt670.1] : List Int)), bt670.2.1, bt670.2.2)))) = some (r1, r2, r3, r4) := by first | (rw [hy661]; with_reducible exact H) | (have H2_ := (Option.bind_some _ _).symm.trans H; rw [hy661]; with_reducible exact H2_) | (have H2_ := (Option.bind_some _ _).symm.trans H; with_reducible exact H2_) | with_reducible exact H | (rw [hy661]; exact H) | exact H
  have Ny661 := Aside0.mk hy661
  clear hy661
  replace H := Option.bind_eq_some_iff.mp H
  obtain ⟨⟨t664, t665, t666⟩, A50, H⟩ := H
  replace H : ((spec_l1Cur_among.f s0_0 t665 t666 (([1, 6, 4611686018427387904] : List Int))).bind fun bt670 => (some (t658, (([t664, bt670.1] : List Int)), bt670.2.1, bt670.2.2))) = some (r1, r2, r3, r4) := H
  have A5 := Aside0.mk A50
  clear A50
  obtain ⟨y667, hy667⟩ : ∃ y_ : List Int, y_ = (([1, 6, 4611686018427387904] : List Int)) := ⟨_, rfl⟩
  replace H : ((spec_l1Cur_among.f s0_0 t665 t666 y667).bind fun bt670 => (some (t658, (([t664, bt670.1] : List Int)), bt670.2.1, bt670.2.2))) = some (r1, r2, r3, r4) := by first | (rw [hy667]; with_reducible exact H) | (have H2_ := (Option.bind_some _ _).symm.trans H; rw [hy667]; with_reducible exact H2_) | (have H2_ := (Option.bind_some _ _).symm.trans H; with_reducible exact H2_) | with_reducible exact H | (rw [hy667]; exact H) | exact H
  have Ny667 := Aside0.mk hy667
  clear hy667
  replace H := Option.bind_eq_some_iff.mp H
  obtain ⟨⟨t670, t671, t672⟩, A60, H⟩ := H
  replace H : (some (t658, (([t664, t670] : List Int)), t671, t672)) = some (r1, r2, r3, r4) := H
  have A6 := Aside0.mk A60
  clear A60
  obtain ⟨y673, hy673⟩ : ∃ y_ : List Int, y_ = (([t664, t670] : List Int)) := ⟨_, rfl⟩
  replace H : (some (t658, y673, t671, t672)) = some (r1, r2, r3, r4) := by first | (rw [hy673]; with_reducible exact H) | (have H2_ := (Option.bind_some _ _).symm.trans H; rw [hy673]; with_reducible exact H2_) | (have H2_ := (Option.bind_some _ _).symm.trans H; with_reducible exact H2_) | with_reducible exact H | (rw [hy673]; exact H) | exact H
  have Ny673 := Aside0.mk hy673
  clear hy673
  simp only [Option.some.injEq, Prod.mk.injEq] at H
  obtain ⟨rfl, rfl, rfl, rfl⟩ := H
  go_enter Try.func95, Try.ntmps95
  go_wp2_with (first | ((with_reducible refine gate_callee (f := 78) rfl ?_); refine goesA (some 11) Try.func78 #[.pointer (some ⟨g, 0, none⟩), .int .i64 12] ?_; (with_reducible refine (spec_l1Cur_pick.calls g s0_0 s0_1 s0_2 12 t652 t653 t654 w0 _ ?side1 ?side2 A2.out).mono ?_); (case side1 => exact IsS58.at HI0); (case side2 => exact atB HB); rintro e w7 ⟨rfl, hi, hb, hk⟩; refine ⟨_, rfl, ?_⟩; replace HK := upK HK hk; replace HB := Aside0.mk (hb); replace HI0 := Aside0.mk (hi); (try clear hb); (try clear hb2); (try clear hk); (try clear hi)) | ((with_reducible refine gate_dst (N := 15) rfl ?_); refine Kd.R_lit (Kd.int .i64) _ 3 ?hg (N := 15) ?hd (xs := ([1, 2, 7, 31, 32, (-1), 4611686018427387904] : List Int)) (inner := [.int .i64 1, .int .i64 2, .int .i64 7, .int .i64 31, .int .i64 32, .int .i64 (-1), .int .i64 4611686018427387904]) (ok := fun _ => True) (okp := fun _ => True) ?hr ?hp (fun _ hk => hk) trivial (Below.refl _ _) (Nat.le_refl _) (by simp) ?_; (case hd => rfl); (case hg => rfl); (case hr => first | (go_simp; done) | (go_simp; rfl)); (case hp => exact repsI _); intro v656 w8 ho9 hb hg_ hnew_; clear hg_ hnew_; (first | rw [← Ny655.out] at ho9 | (simp only [Int.reduceToNat] at ho9; rw [← Ny655.out] at ho9)); have HO657 := lowKR ho9 HK; replace HI0 := IsS58.up HI0 hb; replace HK := upKB HK hb; replace HB := upB HB hb; clear hb ho9; obtain ⟨Ao10, co10, eo10⟩ := Kd.R_slice HO657.out; subst eo10) | ((with_reducible refine gate_callee (f := 77) rfl ?_); refine goesA (some 16) Try.func77 #[.pointer (some ⟨g, 0, none⟩), .slice Ao10 y655.length co10] ?_; (with_reducible refine (spec_l1Cur_among.calls g s0_0 t653 t654 _ _ y655 t658 t659 t660 w0 _ ?side1 ?side2 ?side3 ?side4 ?side5 A4.out).mono ?_); (case side1 => exact IsS58.at HI0); (case side2 => exact atB HB); (case side3 => exact atRC HO657); (case side4 => exact (Kd.R_reads' HO657.out).2.1); (case side5 => exact far_slice (IsS58.own_ne HI0.out HO657.out (by decide))); rintro e w11 ⟨rfl, hi, hb, hk⟩; refine ⟨_, rfl, ?_⟩; replace HO657 := IsS58.keepR HI0 HO657 hk; replace HK := upK HK hk; replace HB := Aside0.mk (hb); replace HI0 := Aside0.mk (hi); (try clear hb); (try clear hb2); (try clear hk); (try clear hi)) | ((with_reducible refine gate_dst (N := 18) rfl ?_); refine Kd.R_lit (Kd.int .i64) _ 3 ?hg (N := 18) ?hd (xs := ([(-1), 0, 1, 31] : List Int)) (inner := [.int .i64 (-1), .int .i64 0, .int .i64 1, .int .i64 31]) (ok := fun _ => True) (okp := fun _ => True) ?hr ?hp (fun _ hk => hk) trivial (Below.refl _ _) (Nat.le_refl _) (by simp) ?_; (case hd => rfl); (case hg => rfl); (case hr => first | (go_simp; done) | (go_simp; rfl)); (case hp => exact repsI _); intro v662 w12 ho13 hb hg_ hnew_; clear hg_ hnew_; (first | rw [← Ny661.out] at ho13 | (simp only [Int.reduceToNat] at ho13; rw [← Ny661.out] at ho13)); have HO663 := Aside0.mk (Kd.R_lower (Kd.R_new' ho13 (ltR HO657)) (szK HK)); replace HO657 := eldRR HO657 ho13 hb; replace HI0 := IsS58.up HI0 hb; replace HK := upKB HK hb; replace HB := upB HB hb; clear hb ho13; obtain ⟨Ao14, co14, eo14⟩ := Kd.R_slice HO663.out; subst eo14) | ((with_reducible refine gate_callee (f := 77) rfl ?_); refine goesA (some 19) Try.func77 #[.pointer (some ⟨g, 0, none⟩), .slice Ao14 y661.length co14] ?_; (with_reducible refine (spec_l1Cur_among.calls g s0_0 t659 t660 _ _ y661 t664 t665 t666 w0 _ ?side1 ?side2 ?side3 ?side4 ?side5 A5.out).mono ?_); (case side1 => exact IsS58.at HI0); (case side2 => exact atB HB); (case side3 => exact atRC HO663); (case side4 => exact (Kd.R_reads' HO663.out).2.1); (case side5 => exact far_slice (IsS58.own_ne HI0.out HO663.out (by decide))); rintro e w15 ⟨rfl, hi, hb, hk⟩; refine ⟨_, rfl, ?_⟩; replace HO657 := IsS58.keepR HI0 HO657 hk; replace HO663 := IsS58.keepR HI0 HO663 hk; replace HK := upK HK hk; replace HB := Aside0.mk (hb); replace HI0 := Aside0.mk (hi); (try clear hb); (try clear hb2); (try clear hk); (try clear hi)) | ((with_reducible refine gate_dst (N := 21) rfl ?_); refine Kd.R_lit (Kd.int .i64) _ 3 ?hg (N := 21) ?hd (xs := ([1, 6, 4611686018427387904] : List Int)) (inner := [.int .i64 1, .int .i64 6, .int .i64 4611686018427387904]) (ok := fun _ => True) (okp := fun _ => True) ?hr ?hp (fun _ hk => hk) trivial (Below.refl _ _) (Nat.le_refl _) (by simp) ?_; (case hd => rfl); (case hg => rfl); (case hr => first | (go_simp; done) | (go_simp; rfl)); (case hp => exact repsI _); intro v668 w16 ho17 hb hg_ hnew_; clear hg_ hnew_; (first | rw [← Ny667.out] at ho17 | (simp only [Int.reduceToNat] at ho17; rw [← Ny667.out] at ho17)); have HO669 := Aside0.mk (Kd.R_lower (Kd.R_new' (Kd.R_new' ho17 (ltR HO657)) (ltR HO663)) (szK HK)); replace HO657 := eldRR HO657 ho17 hb; replace HO663 := eldRR HO663 ho17 hb; replace HI0 := IsS58.up HI0 hb; replace HK := upKB HK hb; replace HB := upB HB hb; clear hb ho17; obtain ⟨Ao18, co18, eo18⟩ := Kd.R_slice HO669.out; subst eo18) | ((with_reducible refine gate_callee (f := 77) rfl ?_); refine goesA (some 22) Try.func77 #[.pointer (some ⟨g, 0, none⟩), .slice Ao18 y667.length co18] ?_; (with_reducible refine (spec_l1Cur_among.calls g s0_0 t665 t666 _ _ y667 t670 t671 t672 w0 _ ?side1 ?side2 ?side3 ?side4 ?side5 A6.out).mono ?_); (case side1 => exact IsS58.at HI0); (case side2 => exact atB HB); (case side3 => exact atRC HO669); (case side4 => exact (Kd.R_reads' HO669.out).2.1); (case side5 => exact far_slice (IsS58.own_ne HI0.out HO669.out (by decide))); rintro e w19 ⟨rfl, hi, hb, hk⟩; refine ⟨_, rfl, ?_⟩; replace HO657 := IsS58.keepR HI0 HO657 hk; replace HO663 := IsS58.keepR HI0 HO663 hk; replace HO669 := IsS58.keepR HI0 HO669 hk; replace HK := upK HK hk; replace HB := Aside0.mk (hb); replace HI0 := Aside0.mk (hi); (try clear hb); (try clear hb2); (try clear hk); (try clear hi)) | ((with_reducible refine gate_dst (N := 23) rfl ?_); refine Kd.R_lit (Kd.int .i64) _ 3 ?hg (N := 23) ?hd (xs := ([t664, t670] : List Int)) (inner := [.int .i64 t664, .int .i64 t670]) (ok := fun _ => True) (okp := fun _ => True) ?hr ?hp (fun _ hk => hk) trivial (Below.refl _ _) (Nat.le_refl _) (by simp) ?_; (case hd => rfl); (case hg => rfl); (case hr => first | (go_simp; done) | (go_simp; rfl)); (case hp => exact repsI _); intro v674 w20 ho21 hb hg_ hnew_; clear hg_ hnew_; (first | rw [← Ny673.out] at ho21 | (simp only [Int.reduceToNat] at ho21; rw [← Ny673.out] at ho21)); have HO675 := Aside0.mk (Kd.R_lower (Kd.R_new' (Kd.R_new' (Kd.R_new' ho21 (ltR HO657)) (ltR HO663)) (ltR HO669)) (szK HK)); replace HO657 := eldRR HO657 ho21 hb; replace HO663 := eldRR HO663 ho21 hb; replace HO669 := eldRR HO669 ho21 hb; replace HI0 := IsS58.up HI0 hb; replace HK := upKB HK hb; replace HB := upB HB hb; clear hb ho21))
  go_ret2
  exact ⟨_, eqr, by (with_reducible repeat (first | apply Kd.R_alloc | apply Kd.R_drewN | apply Kd.R_drew)); exact Kd.R_mono HO675.out (fun _ hk => trivial), IsS58.at HI0, atB HB, atK HK⟩
 ·rw [if_neg c3] at H
  have c3b0 : (t652 == 0) = false := beq_eq_false_iff_ne.mpr c3
  have c3b1 : (t652 != 0) = true := bne_iff_ne.mpr c3
  have HC22 := Aside0.mk H
  clear H
  go_enter Try.func95, Try.ntmps95
  go_upto_if 24 with (first | ((with_reducible refine gate_callee (f := 78) rfl ?_); refine goesA (some 11) Try.func78 #[.pointer (some ⟨g, 0, none⟩), .int .i64 12] ?_; (with_reducible refine (spec_l1Cur_pick.calls g s0_0 s0_1 s0_2 12 t652 t653 t654 w0 _ ?side1 ?side2 A2.out).mono ?_); (case side1 => exact IsS58.at HI0); (case side2 => exact atB HB); rintro e w23 ⟨rfl, hi, hb, hk⟩; refine ⟨_, rfl, ?_⟩; replace HK := upK HK hk; replace HB := Aside0.mk (hb); replace HI0 := Aside0.mk (hi); (try clear hb); (try clear hb2); (try clear hk); (try clear hi)))
  (try simp only [Act.put, List.setIfInBounds_toArray, List.set_cons_zero, List.set_cons_succ])
  go_cut [24] (fun v24 wc => ∃ (kq : Nat) (x24_21 : Bool), v24 = .bool x24_21 ∧ Aside0 (spec_l1Cur_circle.j0 kq x24_21 s0_0 t653 t654 = some (r1, r2, r3, r4)) ∧ Aside0 (kq ≤ k) ∧ Aside0 (IsS58 w0 wc g s0_0 t653 t654) ∧ Aside0 (KeepBut w wc g none) ∧ Aside0 (Below w0.heap.size w0 wc))
  case first =>
   have H := HC22.out
   clear HC22
   by_cases c24 : t652 = 1
   ·rw [if_pos c24] at H
    have c24b0 : (t652 == 1) = true := beq_iff_eq.mpr c24
    have c24b1 : (t652 != 1) = false := bne_eq_false_iff_eq.mpr c24
    clear c24
    (first | rw [c24b0] | (simp only [i64_w, i32_w]; rw [c24b0]) | skip)
    have H' := Aside0.mk H
    clear H
    go_wp2
    go_meet
    case rel => exact ⟨_, ((t652 == 1)), eqd, H', ⟨leD⟩, ⟨IsS58.at HI0⟩, ⟨atK HK⟩, ⟨atB HB⟩⟩
   ·rw [if_neg c24] at H
    have c24b0 : (t652 == 1) = false := beq_eq_false_iff_ne.mpr c24
    have c24b1 : (t652 != 1) = true := bne_iff_ne.mpr c24
    (first | rw [c24b0] | (simp only [i64_w, i32_w]; rw [c24b0]) | skip)
    by_cases c25 : t652 = 2
    ·rw [if_pos c25] at H
     have c25b0 : (t652 == 2) = true := beq_iff_eq.mpr c25
     have c25b1 : (t652 != 2) = false := bne_eq_false_iff_eq.mpr c25
     clear c25
     have H' := Aside0.mk H
     clear H
     go_wp2
     go_meet
     case rel => exact ⟨_, ((t652 == 2)), eqd, H', ⟨leD⟩, ⟨IsS58.at HI0⟩, ⟨atK HK⟩, ⟨atB HB⟩⟩
    ·rw [if_neg c25] at H
     have c25b0 : (t652 == 2) = false := beq_eq_false_iff_ne.mpr c25
     have c25b1 : (t652 != 2) = true := bne_iff_ne.mpr c25
     by_cases c26 : t652 = 3
     ·rw [if_pos c26] at H
      have c26b0 : (t652 == 3) = true := beq_iff_eq.mpr c26
      have c26b1 : (t652 != 3) = false := bne_eq_false_iff_eq.mpr c26
      clear c26
      have H' := Aside0.mk H
      clear H
      go_wp2
      go_meet
      case rel => exact ⟨_, ((t652 == 3)), eqd, H', ⟨leD⟩, ⟨IsS58.at HI0⟩, ⟨atK HK⟩, ⟨atB HB⟩⟩
     ·rw [if_neg c26] at H
      have c26b0 : (t652 == 3) = false := beq_eq_false_iff_ne.mpr c26
      have c26b1 : (t652 != 3) = true := bne_iff_ne.mpr c26
      have H' := Aside0.mk H
      clear H
      go_wp2
      go_meet
      case rel => exact ⟨_, ((t652 == 4)), eqd, H', ⟨leD⟩, ⟨IsS58.at HI0⟩, ⟨atK HK⟩, ⟨atB HB⟩⟩
  case rest =>
   clear HC22
   try clear c2
   try clear p2
   try clear c3
   try clear c3b0
   try clear c3b1
   try clear c7
   try clear c9
   try clear c24
   try clear c24b0
   try clear c24b1
   try clear c25
   try clear c25b0
   try clear c25b1
   try clear c26
   try clear c26b0
   try clear c26b1
   obtain ⟨kq, x24_21, rfl, HA, HJ21, HI0, HK, HB⟩ := hcut
   cases kq with
   | zero => exact absurd HA.out (by simp [spec_l1Cur_circle.j0])
   | succ kj21 =>
    have H := HA.out
    clear HA
    simp only [spec_l1Cur_circle.j0] at H
    by_cases c27 : x24_21 = true
    ·subst c27
     have H1 : ((some (([(([0, 1, 3] : List Int)), (([0, 1, 2, 4] : List Int)), (([0, 1, 3, 9] : List Int)), (([0, 1, 4, 14, 16] : List Int)), (([0, 1, 3, 8, 12, 18] : List Int)), (([0, 1, 2, 4, 5, 8, 10] : List Int)), (([0, 1, 3, 4, 5, 9] : List Int)), (([0, 1] : List Int))] : List (List Int)) : List (List Int))).bind fun y700 => ((some (([7, 7, 13, 21, 31, 15, 11, 3] : List Int) : List Int)).bind fun y703 => ((spec_l1Cur_pick.f s0_0 t653 t654 (y700.length : Int)).bind fun bt706 => (if 0 ≤ bt706.1 then (if bt706.1 < (y703.length : Int) then (if bt706.1 < (y700.length : Int) then ((spec_l1Cur_pick.f s0_0 bt706.2.1 bt706.2.2 (rd y703 bt706.1)).bind fun bt713 => ((spec_ciMove.f kj21 (rd y703 bt706.1) (rd_L2 y700 bt706.1) bt713.1).bind fun t716 => (some (rd y703 bt706.1, t716, bt713.2.1, bt713.2.2)))) else (none)) else (none)) else (none))))) = some (r1, r2, r3, r4) := by rw [if_pos rfl] at H; exact H
     clear H
     have H := H1
     clear H1
     obtain ⟨y676, hy676⟩ : ∃ y_ : List Int, y_ = (([0, 1, 3] : List Int)) := ⟨_, rfl⟩
     replace H : ((some (([y676, (([0, 1, 2, 4] : List Int)), (([0, 1, 3, 9] : List Int)), (([0, 1, 4, 14, 16] : List Int)), (([0, 1, 3, 8, 12, 18] : List Int)), (([0, 1, 2, 4, 5, 8, 10] : List Int)), (([0, 1, 3, 4, 5, 9] : List Int)), (([0, 1] : List Int))] : List (List Int)) : List (List Int))).bind fun y700 => ((some (([7, 7, 13, 21, 31, 15, 11, 3] : List Int) : List Int)).bind fun y703 => ((spec_l1Cur_pick.f s0_0 t653 t654 (y700.length : Int)).bind fun bt706 => (if 0 ≤ bt706.1 then (if bt706.1 < (y703.length : Int) then (if bt706.1 < (y700.length : Int) then ((spec_l1Cur_pick.f s0_0 bt706.2.1 bt706.2.2 (rd y703 bt706.1)).bind fun bt713 => ((spec_ciMove.f kj21 (rd y703 bt706.1) (rd_L2 y700 bt706.1) bt713.1).bind fun t716 => (some (rd y703 bt706.1, t716, bt713.2.1, bt713.2.2)))) else (none)) else (none)) else (none))))) = some (r1, r2, r3, r4) := by first | (rw [hy676]; with_reducible exact H) | (have H2_ := (Option.bind_some _ _).symm.trans H; rw [hy676]; with_reducible exact H2_) | (have H2_ := (Option.bind_some _ _).symm.trans H; with_reducible exact H2_) | with_reducible exact H | (rw [hy676]; exact H) | exact H
     have Ny676 := Aside0.mk hy676
     clear hy676
     obtain ⟨y679, hy679⟩ : ∃ y_ : List Int, y_ = (([0, 1, 2, 4] : List Int)) := ⟨_, rfl⟩
     replace H : ((some (([y676, y679, (([0, 1, 3, 9] : List Int)), (([0, 1, 4, 14, 16] : List Int)), (([0, 1, 3, 8, 12, 18] : List Int)), (([0, 1, 2, 4, 5, 8, 10] : List Int)), (([0, 1, 3, 4, 5, 9] : List Int)), (([0, 1] : List Int))] : List (List Int)) : List (List Int))).bind fun y700 => ((some (([7, 7, 13, 21, 31, 15, 11, 3] : List Int) : List Int)).bind fun y703 => ((spec_l1Cur_pick.f s0_0 t653 t654 (y700.length : Int)).bind fun bt706 => (if 0 ≤ bt706.1 then (if bt706.1 < (y703.length : Int) then (if bt706.1 < (y700.length : Int) then ((spec_l1Cur_pick.f s0_0 bt706.2.1 bt706.2.2 (rd y703 bt706.1)).bind fun bt713 => ((spec_ciMove.f kj21 (rd y703 bt706.1) (rd_L2 y700 bt706.1) bt713.1).bind fun t716 => (some (rd y703 bt706.1, t716, bt713.2.1, bt713.2.2)))) else (none)) else (none)) else (none))))) = some (r1, r2, r3, r4) := by first | (rw [hy679]; with_reducible exact H) | (have H2_ := (Option.bind_some _ _).symm.trans H; rw [hy679]; with_reducible exact H2_) | (have H2_ := (Option.bind_some _ _).symm.trans H; with_reducible exact H2_) | with_reducible exact H | (rw [hy679]; exact H) | exact H
     have Ny679 := Aside0.mk hy679
     clear hy679
     obtain ⟨y682, hy682⟩ : ∃ y_ : List Int, y_ = (([0, 1, 3, 9] : List Int)) := ⟨_, rfl⟩
     replace H : ((some (([y676, y679, y682, (([0, 1, 4, 14, 16] : List Int)), (([0, 1, 3, 8, 12, 18] : List Int)), (([0, 1, 2, 4, 5, 8, 10] : List Int)), (([0, 1, 3, 4, 5, 9] : List Int)), (([0, 1] : List Int))] : List (List Int)) : List (List Int))).bind fun y700 => ((some (([7, 7, 13, 21, 31, 15, 11, 3] : List Int) : List Int)).bind fun y703 => ((spec_l1Cur_pick.f s0_0 t653 t654 (y700.length : Int)).bind fun bt706 => (if 0 ≤ bt706.1 then (if bt706.1 < (y703.length : Int) then (if bt706.1 < (y700.length : Int) then ((spec_l1Cur_pick.f s0_0 bt706.2.1 bt706.2.2 (rd y703 bt706.1)).bind fun bt713 => ((spec_ciMove.f kj21 (rd y703 bt706.1) (rd_L2 y700 bt706.1) bt713.1).bind fun t716 => (some (rd y703 bt706.1, t716, bt713.2.1, bt713.2.2)))) else (none)) else (none)) else (none))))) = some (r1, r2, r3, r4) := by first | (rw [hy682]; with_reducible exact H) | (have H2_ := (Option.bind_some _ _).symm.trans H; rw [hy682]; with_reducible exact H2_) | (have H2_ := (Option.bind_some _ _).symm.trans H; with_reducible exact H2_) | with_reducible exact H | (rw [hy682]; exact H) | exact H
     have Ny682 := Aside0.mk hy682
     clear hy682
     obtain ⟨y685, hy685⟩ : ∃ y_ : List Int, y_ = (([0, 1, 4, 14, 16] : List Int)) := ⟨_, rfl⟩
     replace H : ((some (([y676, y679, y682, y685, (([0, 1, 3, 8, 12, 18] : List Int)), (([0, 1, 2, 4, 5, 8, 10] : List Int)), (([0, 1, 3, 4, 5, 9] : List Int)), (([0, 1] : List Int))] : List (List Int)) : List (List Int))).bind fun y700 => ((some (([7, 7, 13, 21, 31, 15, 11, 3] : List Int) : List Int)).bind fun y703 => ((spec_l1Cur_pick.f s0_0 t653 t654 (y700.length : Int)).bind fun bt706 => (if 0 ≤ bt706.1 then (if bt706.1 < (y703.length : Int) then (if bt706.1 < (y700.length : Int) then ((spec_l1Cur_pick.f s0_0 bt706.2.1 bt706.2.2 (rd y703 bt706.1)).bind fun bt713 => ((spec_ciMove.f kj21 (rd y703 bt706.1) (rd_L2 y700 bt706.1) bt713.1).bind fun t716 => (some (rd y703 bt706.1, t716, bt713.2.1, bt713.2.2)))) else (none)) else (none)) else (none))))) = some (r1, r2, r3, r4) := by first | (rw [hy685]; with_reducible exact H) | (have H2_ := (Option.bind_some _ _).symm.trans H; rw [hy685]; with_reducible exact H2_) | (have H2_ := (Option.bind_some _ _).symm.trans H; with_reducible exact H2_) | with_reducible exact H | (rw [hy685]; exact H) | exact H
     have Ny685 := Aside0.mk hy685
     clear hy685
     obtain ⟨y688, hy688⟩ : ∃ y_ : List Int, y_ = (([0, 1, 3, 8, 12, 18] : List Int)) := ⟨_, rfl⟩
     replace H : ((some (([y676, y679, y682, y685, y688, (([0, 1, 2, 4, 5, 8, 10] : List Int)), (([0, 1, 3, 4, 5, 9] : List Int)), (([0, 1] : List Int))] : List (List Int)) : List (List Int))).bind fun y700 => ((some (([7, 7, 13, 21, 31, 15, 11, 3] : List Int) : List Int)).bind fun y703 => ((spec_l1Cur_pick.f s0_0 t653 t654 (y700.length : Int)).bind fun bt706 => (if 0 ≤ bt706.1 then (if bt706.1 < (y703.length : Int) then (if bt706.1 < (y700.length : Int) then ((spec_l1Cur_pick.f s0_0 bt706.2.1 bt706.2.2 (rd y703 bt706.1)).bind fun bt713 => ((spec_ciMove.f kj21 (rd y703 bt706.1) (rd_L2 y700 bt706.1) bt713.1).bind fun t716 => (some (rd y703 bt706.1, t716, bt713.2.1, bt713.2.2)))) else (none)) else (none)) else (none))))) = some (r1, r2, r3, r4) := by first | (rw [hy688]; with_reducible exact H) | (have H2_ := (Option.bind_some _ _).symm.trans H; rw [hy688]; with_reducible exact H2_) | (have H2_ := (Option.bind_some _ _).symm.trans H; with_reducible exact H2_) | with_reducible exact H | (rw [hy688]; exact H) | exact H
     have Ny688 := Aside0.mk hy688
     clear hy688
     obtain ⟨y691, hy691⟩ : ∃ y_ : List Int, y_ = (([0, 1, 2, 4, 5, 8, 10] : List Int)) := ⟨_, rfl⟩
     replace H : ((some (([y676, y679, y682, y685, y688, y691, (([0, 1, 3, 4, 5, 9] : List Int)), (([0, 1] : List Int))] : List (List Int)) : List (List Int))).bind fun y700 => ((some (([7, 7, 13, 21, 31, 15, 11, 3] : List Int) : List Int)).bind fun y703 => ((spec_l1Cur_pick.f s0_0 t653 t654 (y700.length : Int)).bind fun bt706 => (if 0 ≤ bt706.1 then (if bt706.1 < (y703.length : Int) then (if bt706.1 < (y700.length : Int) then ((spec_l1Cur_pick.f s0_0 bt706.2.1 bt706.2.2 (rd y703 bt706.1)).bind fun bt713 => ((spec_ciMove.f kj21 (rd y703 bt706.1) (rd_L2 y700 bt706.1) bt713.1).bind fun t716 => (some (rd y703 bt706.1, t716, bt713.2.1, bt713.2.2)))) else (none)) else (none)) else (none))))) = some (r1, r2, r3, r4) := by first | (rw [hy691]; with_reducible exact H) | (have H2_ := (Option.bind_some _ _).symm.trans H; rw [hy691]; with_reducible exact H2_) | (have H2_ := (Option.bind_some _ _).symm.trans H; with_reducible exact H2_) | with_reducible exact H | (rw [hy691]; exact H) | exact H
     have Ny691 := Aside0.mk hy691
     clear hy691
     obtain ⟨y694, hy694⟩ : ∃ y_ : List Int, y_ = (([0, 1, 3, 4, 5, 9] : List Int)) := ⟨_, rfl⟩
     replace H : ((some (([y676, y679, y682, y685, y688, y691, y694, (([0, 1] : List Int))] : List (List Int)) : List (List Int))).bind fun y700 => ((some (([7, 7, 13, 21, 31, 15, 11, 3] : List Int) : List Int)).bind fun y703 => ((spec_l1Cur_pick.f s0_0 t653 t654 (y700.length : Int)).bind fun bt706 => (if 0 ≤ bt706.1 then (if bt706.1 < (y703.length : Int) then (if bt706.1 < (y700.length : Int) then ((spec_l1Cur_pick.f s0_0 bt706.2.1 bt706.2.2 (rd y703 bt706.1)).bind fun bt713 => ((spec_ciMove.f kj21 (rd y703 bt706.1) (rd_L2 y700 bt706.1) bt713.1).bind fun t716 => (some (rd y703 bt706.1, t716, bt713.2.1, bt713.2.2)))) else (none)) else (none)) else (none))))) = some (r1, r2, r3, r4) := by first | (rw [hy694]; with_reducible exact H) | (have H2_ := (Option.bind_some _ _).symm.trans H; rw [hy694]; with_reducible exact H2_) | (have H2_ := (Option.bind_some _ _).symm.trans H; with_reducible exact H2_) | with_reducible exact H | (rw [hy694]; exact H) | exact H
     have Ny694 := Aside0.mk hy694
     clear hy694
     obtain ⟨y697, hy697⟩ : ∃ y_ : List Int, y_ = (([0, 1] : List Int)) := ⟨_, rfl⟩
     replace H : ((some (([y676, y679, y682, y685, y688, y691, y694, y697] : List (List Int)) : List (List Int))).bind fun y700 => ((some (([7, 7, 13, 21, 31, 15, 11, 3] : List Int) : List Int)).bind fun y703 => ((spec_l1Cur_pick.f s0_0 t653 t654 (y700.length : Int)).bind fun bt706 => (if 0 ≤ bt706.1 then (if bt706.1 < (y703.length : Int) then (if bt706.1 < (y700.length : Int) then ((spec_l1Cur_pick.f s0_0 bt706.2.1 bt706.2.2 (rd y703 bt706.1)).bind fun bt713 => ((spec_ciMove.f kj21 (rd y703 bt706.1) (rd_L2 y700 bt706.1) bt713.1).bind fun t716 => (some (rd y703 bt706.1, t716, bt713.2.1, bt713.2.2)))) else (none)) else (none)) else (none))))) = some (r1, r2, r3, r4) := by first | (rw [hy697]; with_reducible exact H) | (have H2_ := (Option.bind_some _ _).symm.trans H; rw [hy697]; with_reducible exact H2_) | (have H2_ := (Option.bind_some _ _).symm.trans H; with_reducible exact H2_) | with_reducible exact H | (rw [hy697]; exact H) | exact H
     have Ny697 := Aside0.mk hy697
     clear hy697
     obtain ⟨y700, hy700⟩ : ∃ y_ : List (List Int), y_ = (([y676, y679, y682, y685, y688, y691, y694, y697] : List (List Int))) := ⟨_, rfl⟩
     replace H : ((some (([7, 7, 13, 21, 31, 15, 11, 3] : List Int) : List Int)).bind fun y703 => ((spec_l1Cur_pick.f s0_0 t653 t654 (y700.length : Int)).bind fun bt706 => (if 0 ≤ bt706.1 then (if bt706.1 < (y703.length : Int) then (if bt706.1 < (y700.length : Int) then ((spec_l1Cur_pick.f s0_0 bt706.2.1 bt706.2.2 (rd y703 bt706.1)).bind fun bt713 => ((spec_ciMove.f kj21 (rd y703 bt706.1) (rd_L2 y700 bt706.1) bt713.1).bind fun t716 => (some (rd y703 bt706.1, t716, bt713.2.1, bt713.2.2)))) else (none)) else (none)) else (none)))) = some (r1, r2, r3, r4) := by first | (rw [hy700]; with_reducible exact H) | (have H2_ := (Option.bind_some _ _).symm.trans H; rw [hy700]; with_reducible exact H2_) | (have H2_ := (Option.bind_some _ _).symm.trans H; with_reducible exact H2_) | with_reducible exact H | (rw [hy700]; exact H) | exact H
     have Ny700 := Aside0.mk hy700
     clear hy700
     obtain ⟨y703, hy703⟩ : ∃ y_ : List Int, y_ = (([7, 7, 13, 21, 31, 15, 11, 3] : List Int)) := ⟨_, rfl⟩
     replace H : ((spec_l1Cur_pick.f s0_0 t653 t654 (y700.length : Int)).bind fun bt706 => (if 0 ≤ bt706.1 then (if bt706.1 < (y703.length : Int) then (if bt706.1 < (y700.length : Int) then ((spec_l1Cur_pick.f s0_0 bt706.2.1 bt706.2.2 (rd y703 bt706.1)).bind fun bt713 => ((spec_ciMove.f kj21 (rd y703 bt706.1) (rd_L2 y700 bt706.1) bt713.1).bind fun t716 => (some (rd y703 bt706.1, t716, bt713.2.1, bt713.2.2)))) else (none)) else (none)) else (none))) = some (r1, r2, r3, r4) := by first | (rw [hy703]; with_reducible exact H) | (have H2_ := (Option.bind_some _ _).symm.trans H; rw [hy703]; with_reducible exact H2_) | (have H2_ := (Option.bind_some _ _).symm.trans H; with_reducible exact H2_) | with_reducible exact H | (rw [hy703]; exact H) | exact H
     have Ny703 := Aside0.mk hy703
     clear hy703
     replace H := Option.bind_eq_some_iff.mp H
     obtain ⟨⟨t706, t707, t708⟩, A280, H⟩ := H
     replace H : (if 0 ≤ t706 then (if t706 < (y703.length : Int) then (if t706 < (y700.length : Int) then ((spec_l1Cur_pick.f s0_0 t707 t708 (rd y703 t706)).bind fun bt713 => ((spec_ciMove.f kj21 (rd y703 t706) (rd_L2 y700 t706) bt713.1).bind fun t716 => (some (rd y703 t706, t716, bt713.2.1, bt713.2.2)))) else (none)) else (none)) else (none)) = some (r1, r2, r3, r4) := H
     have A28 := Aside0.mk A280
     clear A280
     by_cases c29 : 0 ≤ t706
     ·rw [if_pos c29] at H
      have c29b0 : decide (0 ≤ t706) = true := decide_eq_true c29
      clear c29
      by_cases c30 : t706 < (y703.length : Int)
      ·rw [if_pos c30] at H
       have c30b0 : decide (t706 < (y703.length : Int)) = true := decide_eq_true c30
       clear c30
       by_cases c31 : t706 < (y700.length : Int)
       ·rw [if_pos c31] at H
        have c31b0 : decide (t706 < (y700.length : Int)) = true := decide_eq_true c31
        clear c31
        replace H := Option.bind_eq_some_iff.mp H
        obtain ⟨⟨t713, t714, t715⟩, A320, H⟩ := H
        replace H : ((spec_ciMove.f kj21 (rd y703 t706) (rd_L2 y700 t706) t713).bind fun t716 => (some (rd y703 t706, t716, t714, t715))) = some (r1, r2, r3, r4) := H
        have A32 := Aside0.mk A320
        clear A320
        replace H := Option.bind_eq_some_iff.mp H
        obtain ⟨t716, A330, H⟩ := H
        replace H : (some (rd y703 t706, t716, t714, t715)) = some (r1, r2, r3, r4) := H
        have A33 := Aside0.mk A330
        clear A330
        simp only [Option.some.injEq, Prod.mk.injEq] at H
        obtain ⟨rfl, rfl, rfl, rfl⟩ := H
        try go_wp2_with (first | ((with_reducible refine gate_dst (N := 29) rfl ?_); refine Kd.R_lit (Kd.int .i64) _ 3 ?hg (N := 29) ?hd (xs := ([0, 1, 3] : List Int)) (inner := [.int .i64 0, .int .i64 1, .int .i64 3]) (ok := fun _ => True) (okp := fun _ => True) ?hr ?hp (fun _ hk => hk) trivial (Below.refl _ _) (Nat.le_refl _) (by simp) ?_; (case hd => rfl); (case hg => rfl); (case hr => first | (go_simp; done) | (go_simp; rfl)); (case hp => exact repsI _); intro v677 w34 ho35 hb hg_ hnew_; clear hg_ hnew_; (first | rw [← Ny676.out] at ho35 | (simp only [Int.reduceToNat] at ho35; rw [← Ny676.out] at ho35)); have HO678 := lowKR ho35 HK; replace HI0 := IsS58.up HI0 hb; replace HK := upKB HK hb; replace HB := upB HB hb; clear hb ho35) | ((with_reducible refine gate_dst (N := 30) rfl ?_); refine Kd.R_lit (Kd.int .i64) _ 3 ?hg (N := 30) ?hd (xs := ([0, 1, 2, 4] : List Int)) (inner := [.int .i64 0, .int .i64 1, .int .i64 2, .int .i64 4]) (ok := fun _ => True) (okp := fun _ => True) ?hr ?hp (fun _ hk => hk) trivial (Below.refl _ _) (Nat.le_refl _) (by simp) ?_; (case hd => rfl); (case hg => rfl); (case hr => first | (go_simp; done) | (go_simp; rfl)); (case hp => exact repsI _); intro v680 w36 ho37 hb hg_ hnew_; clear hg_ hnew_; (first | rw [← Ny679.out] at ho37 | (simp only [Int.reduceToNat] at ho37; rw [← Ny679.out] at ho37)); have HO681 := Aside0.mk (Kd.R_lower (Kd.R_new' ho37 (ltR HO678)) (szK HK)); replace HO678 := eldRR HO678 ho37 hb; replace HI0 := IsS58.up HI0 hb; replace HK := upKB HK hb; replace HB := upB HB hb; clear hb ho37) | ((with_reducible refine gate_dst (N := 31) rfl ?_); refine Kd.R_lit (Kd.int .i64) _ 3 ?hg (N := 31) ?hd (xs := ([0, 1, 3, 9] : List Int)) (inner := [.int .i64 0, .int .i64 1, .int .i64 3, .int .i64 9]) (ok := fun _ => True) (okp := fun _ => True) ?hr ?hp (fun _ hk => hk) trivial (Below.refl _ _) (Nat.le_refl _) (by simp) ?_; (case hd => rfl); (case hg => rfl); (case hr => first | (go_simp; done) | (go_simp; rfl)); (case hp => exact repsI _); intro v683 w38 ho39 hb hg_ hnew_; clear hg_ hnew_; (first | rw [← Ny682.out] at ho39 | (simp only [Int.reduceToNat] at ho39; rw [← Ny682.out] at ho39)); have HO684 := Aside0.mk (Kd.R_lower (Kd.R_new' (Kd.R_new' ho39 (ltR HO678)) (ltR HO681)) (szK HK)); replace HO678 := eldRR HO678 ho39 hb; replace HO681 := eldRR HO681 ho39 hb; replace HI0 := IsS58.up HI0 hb; replace HK := upKB HK hb; replace HB := upB HB hb; clear hb ho39) | ((with_reducible refine gate_dst (N := 32) rfl ?_); refine Kd.R_lit (Kd.int .i64) _ 3 ?hg (N := 32) ?hd (xs := ([0, 1, 4, 14, 16] : List Int)) (inner := [.int .i64 0, .int .i64 1, .int .i64 4, .int .i64 14, .int .i64 16]) (ok := fun _ => True) (okp := fun _ => True) ?hr ?hp (fun _ hk => hk) trivial (Below.refl _ _) (Nat.le_refl _) (by simp) ?_; (case hd => rfl); (case hg => rfl); (case hr => first | (go_simp; done) | (go_simp; rfl)); (case hp => exact repsI _); intro v686 w40 ho41 hb hg_ hnew_; clear hg_ hnew_; (first | rw [← Ny685.out] at ho41 | (simp only [Int.reduceToNat] at ho41; rw [← Ny685.out] at ho41)); have HO687 := Aside0.mk (Kd.R_lower (Kd.R_new' (Kd.R_new' (Kd.R_new' ho41 (ltR HO678)) (ltR HO681)) (ltR HO684)) (szK HK)); replace HO678 := eldRR HO678 ho41 hb; replace HO681 := eldRR HO681 ho41 hb; replace HO684 := eldRR HO684 ho41 hb; replace HI0 := IsS58.up HI0 hb; replace HK := upKB HK hb; replace HB := upB HB hb; clear hb ho41) | ((with_reducible refine gate_dst (N := 33) rfl ?_); refine Kd.R_lit (Kd.int .i64) _ 3 ?hg (N := 33) ?hd (xs := ([0, 1, 3, 8, 12, 18] : List Int)) (inner := [.int .i64 0, .int .i64 1, .int .i64 3, .int .i64 8, .int .i64 12, .int .i64 18]) (ok := fun _ => True) (okp := fun _ => True) ?hr ?hp (fun _ hk => hk) trivial (Below.refl _ _) (Nat.le_refl _) (by simp) ?_; (case hd => rfl); (case hg => rfl); (case hr => first | (go_simp; done) | (go_simp; rfl)); (case hp => exact repsI _); intro v689 w42 ho43 hb hg_ hnew_; clear hg_ hnew_; (first | rw [← Ny688.out] at ho43 | (simp only [Int.reduceToNat] at ho43; rw [← Ny688.out] at ho43)); have HO690 := Aside0.mk (Kd.R_lower (Kd.R_new' (Kd.R_new' (Kd.R_new' (Kd.R_new' ho43 (ltR HO678)) (ltR HO681)) (ltR HO684)) (ltR HO687)) (szK HK)); replace HO678 := eldRR HO678 ho43 hb; replace HO681 := eldRR HO681 ho43 hb; replace HO684 := eldRR HO684 ho43 hb; replace HO687 := eldRR HO687 ho43 hb; replace HI0 := IsS58.up HI0 hb; replace HK := upKB HK hb; replace HB := upB HB hb; clear hb ho43) | ((with_reducible refine gate_dst (N := 34) rfl ?_); refine Kd.R_lit (Kd.int .i64) _ 3 ?hg (N := 34) ?hd (xs := ([0, 1, 2, 4, 5, 8, 10] : List Int)) (inner := [.int .i64 0, .int .i64 1, .int .i64 2, .int .i64 4, .int .i64 5, .int .i64 8, .int .i64 10]) (ok := fun _ => True) (okp := fun _ => True) ?hr ?hp (fun _ hk => hk) trivial (Below.refl _ _) (Nat.le_refl _) (by simp) ?_; (case hd => rfl); (case hg => rfl); (case hr => first | (go_simp; done) | (go_simp; rfl)); (case hp => exact repsI _); intro v692 w44 ho45 hb hg_ hnew_; clear hg_ hnew_; (first | rw [← Ny691.out] at ho45 | (simp only [Int.reduceToNat] at ho45; rw [← Ny691.out] at ho45)); have HO693 := Aside0.mk (Kd.R_lower (Kd.R_new' (Kd.R_new' (Kd.R_new' (Kd.R_new' (Kd.R_new' ho45 (ltR HO678)) (ltR HO681)) (ltR HO684)) (ltR HO687)) (ltR HO690)) (szK HK)); replace HO678 := eldRR HO678 ho45 hb; replace HO681 := eldRR HO681 ho45 hb; replace HO684 := eldRR HO684 ho45 hb; replace HO687 := eldRR HO687 ho45 hb; replace HO690 := eldRR HO690 ho45 hb; replace HI0 := IsS58.up HI0 hb; replace HK := upKB HK hb; replace HB := upB HB hb; clear hb ho45) | ((with_reducible refine gate_dst (N := 35) rfl ?_); refine Kd.R_lit (Kd.int .i64) _ 3 ?hg (N := 35) ?hd (xs := ([0, 1, 3, 4, 5, 9] : List Int)) (inner := [.int .i64 0, .int .i64 1, .int .i64 3, .int .i64 4, .int .i64 5, .int .i64 9]) (ok := fun _ => True) (okp := fun _ => True) ?hr ?hp (fun _ hk => hk) trivial (Below.refl _ _) (Nat.le_refl _) (by simp) ?_; (case hd => rfl); (case hg => rfl); (case hr => first | (go_simp; done) | (go_simp; rfl)); (case hp => exact repsI _); intro v695 w46 ho47 hb hg_ hnew_; clear hg_ hnew_; (first | rw [← Ny694.out] at ho47 | (simp only [Int.reduceToNat] at ho47; rw [← Ny694.out] at ho47)); have HO696 := Aside0.mk (Kd.R_lower (Kd.R_new' (Kd.R_new' (Kd.R_new' (Kd.R_new' (Kd.R_new' (Kd.R_new' ho47 (ltR HO678)) (ltR HO681)) (ltR HO684)) (ltR HO687)) (ltR HO690)) (ltR HO693)) (szK HK)); replace HO678 := eldRR HO678 ho47 hb; replace HO681 := eldRR HO681 ho47 hb; replace HO684 := eldRR HO684 ho47 hb; replace HO687 := eldRR HO687 ho47 hb; replace HO690 := eldRR HO690 ho47 hb; replace HO693 := eldRR HO693 ho47 hb; replace HI0 := IsS58.up HI0 hb; replace HK := upKB HK hb; replace HB := upB HB hb; clear hb ho47) | ((with_reducible refine gate_dst (N := 36) rfl ?_); refine Kd.R_lit (Kd.int .i64) _ 3 ?hg (N := 36) ?hd (xs := ([0, 1] : List Int)) (inner := [.int .i64 0, .int .i64 1]) (ok := fun _ => True) (okp := fun _ => True) ?hr ?hp (fun _ hk => hk) trivial (Below.refl _ _) (Nat.le_refl _) (by simp) ?_; (case hd => rfl); (case hg => rfl); (case hr => first | (go_simp; done) | (go_simp; rfl)); (case hp => exact repsI _); intro v698 w48 ho49 hb hg_ hnew_; clear hg_ hnew_; (first | rw [← Ny697.out] at ho49 | (simp only [Int.reduceToNat] at ho49; rw [← Ny697.out] at ho49)); have HO699 := Aside0.mk (Kd.R_lower (Kd.R_new' (Kd.R_new' (Kd.R_new' (Kd.R_new' (Kd.R_new' (Kd.R_new' (Kd.R_new' ho49 (ltR HO678)) (ltR HO681)) (ltR HO684)) (ltR HO687)) (ltR HO690)) (ltR HO693)) (ltR HO696)) (szK HK)); replace HO678 := eldRR HO678 ho49 hb; replace HO681 := eldRR HO681 ho49 hb; replace HO684 := eldRR HO684 ho49 hb; replace HO687 := eldRR HO687 ho49 hb; replace HO690 := eldRR HO690 ho49 hb; replace HO693 := eldRR HO693 ho49 hb; replace HO696 := eldRR HO696 ho49 hb; replace HI0 := IsS58.up HI0 hb; replace HK := upKB HK hb; replace HB := upB HB hb; clear hb ho49; obtain ⟨Ao50, co50, eo50⟩ := Kd.R_slice HO678.out; subst eo50; obtain ⟨Ao51, co51, eo51⟩ := Kd.R_slice HO681.out; subst eo51; obtain ⟨Ao52, co52, eo52⟩ := Kd.R_slice HO684.out; subst eo52; obtain ⟨Ao53, co53, eo53⟩ := Kd.R_slice HO687.out; subst eo53; obtain ⟨Ao54, co54, eo54⟩ := Kd.R_slice HO690.out; subst eo54; obtain ⟨Ao55, co55, eo55⟩ := Kd.R_slice HO693.out; subst eo55; obtain ⟨Ao56, co56, eo56⟩ := Kd.R_slice HO696.out; subst eo56; obtain ⟨Ao57, co57, eo57⟩ := Kd.R_slice HO699.out; subst eo57) | ((with_reducible refine gate_dst (N := 37) rfl ?_); refine N_lit0 (Kd.slice 3 (Kd.int .i64)) 24 ?hg (N' := 37) ?hd (xs := ([y676, y679, y682, y685, y688, y691, y694, y697] : List (List Int))) (inner := [.slice Ao50 y676.length co50, .slice Ao51 y679.length co51, .slice Ao52 y682.length co52, .slice Ao53 y685.length co53, .slice Ao54 y688.length co54, .slice Ao55 y691.length co55, .slice Ao56 y694.length co56, .slice Ao57 y697.length co57]) (ok := (fun k_ => k_ ≠ g)) (okp := (fun k_ => k_ ≠ g)) ?hr ?hp (fun _ hk => hk) (by exact (show ∀ k_, w48.heap.size ≤ k_ → (fun k_ => k_ ≠ g) k_ from fun k_ hk => IsS58.fresh (IsS58.at HI0) k_ hk) _ (Nat.le_refl _)) (by simp) ?_; (case hd => rfl); (case hg => rfl); (case hr => first | (go_simp; done) | (go_simp; rfl)); (case hp => exact (Reps.one (show Kd.FK (Kd.slice 3 (Kd.int .i64)) _ _ y676 [.slice Ao50 y676.length co50] from (Kd.FK_slice_mk (Kd.R_reads' (Kd.R_mono (ok' := (fun k_ => k_ ≠ g)) (IsS58.apart HI0.out (HO678.out) (by decide)) (fun k_ hk => hk.2))).2.1 (Kd.R_F (Kd.R_mono (ok' := (fun k_ => k_ ≠ g)) (IsS58.apart HI0.out (HO678.out) (by decide)) (fun k_ hk => hk.2))))) (Reps.one (show Kd.FK (Kd.slice 3 (Kd.int .i64)) _ _ y679 [.slice Ao51 y679.length co51] from (Kd.FK_slice_mk (Kd.R_reads' (Kd.R_mono (ok' := (fun k_ => k_ ≠ g)) (IsS58.apart HI0.out (HO681.out) (by decide)) (fun k_ hk => hk.2))).2.1 (Kd.R_F (Kd.R_mono (ok' := (fun k_ => k_ ≠ g)) (IsS58.apart HI0.out (HO681.out) (by decide)) (fun k_ hk => hk.2))))) (Reps.one (show Kd.FK (Kd.slice 3 (Kd.int .i64)) _ _ y682 [.slice Ao52 y682.length co52] from (Kd.FK_slice_mk (Kd.R_reads' (Kd.R_mono (ok' := (fun k_ => k_ ≠ g)) (IsS58.apart HI0.out (HO684.out) (by decide)) (fun k_ hk => hk.2))).2.1 (Kd.R_F (Kd.R_mono (ok' := (fun k_ => k_ ≠ g)) (IsS58.apart HI0.out (HO684.out) (by decide)) (fun k_ hk => hk.2))))) (Reps.one (show Kd.FK (Kd.slice 3 (Kd.int .i64)) _ _ y685 [.slice Ao53 y685.length co53] from (Kd.FK_slice_mk (Kd.R_reads' (Kd.R_mono (ok' := (fun k_ => k_ ≠ g)) (IsS58.apart HI0.out (HO687.out) (by decide)) (fun k_ hk => hk.2))).2.1 (Kd.R_F (Kd.R_mono (ok' := (fun k_ => k_ ≠ g)) (IsS58.apart HI0.out (HO687.out) (by decide)) (fun k_ hk => hk.2))))) (Reps.one (show Kd.FK (Kd.slice 3 (Kd.int .i64)) _ _ y688 [.slice Ao54 y688.length co54] from (Kd.FK_slice_mk (Kd.R_reads' (Kd.R_mono (ok' := (fun k_ => k_ ≠ g)) (IsS58.apart HI0.out (HO690.out) (by decide)) (fun k_ hk => hk.2))).2.1 (Kd.R_F (Kd.R_mono (ok' := (fun k_ => k_ ≠ g)) (IsS58.apart HI0.out (HO690.out) (by decide)) (fun k_ hk => hk.2))))) (Reps.one (show Kd.FK (Kd.slice 3 (Kd.int .i64)) _ _ y691 [.slice Ao55 y691.length co55] from (Kd.FK_slice_mk (Kd.R_reads' (Kd.R_mono (ok' := (fun k_ => k_ ≠ g)) (IsS58.apart HI0.out (HO693.out) (by decide)) (fun k_ hk => hk.2))).2.1 (Kd.R_F (Kd.R_mono (ok' := (fun k_ => k_ ≠ g)) (IsS58.apart HI0.out (HO693.out) (by decide)) (fun k_ hk => hk.2))))) (Reps.one (show Kd.FK (Kd.slice 3 (Kd.int .i64)) _ _ y694 [.slice Ao56 y694.length co56] from (Kd.FK_slice_mk (Kd.R_reads' (Kd.R_mono (ok' := (fun k_ => k_ ≠ g)) (IsS58.apart HI0.out (HO696.out) (by decide)) (fun k_ hk => hk.2))).2.1 (Kd.R_F (Kd.R_mono (ok' := (fun k_ => k_ ≠ g)) (IsS58.apart HI0.out (HO696.out) (by decide)) (fun k_ hk => hk.2))))) (Reps.one (show Kd.FK (Kd.slice 3 (Kd.int .i64)) _ _ y697 [.slice Ao57 y697.length co57] from (Kd.FK_slice_mk (Kd.R_reads' (Kd.R_mono (ok' := (fun k_ => k_ ≠ g)) (IsS58.apart HI0.out (HO699.out) (by decide)) (fun k_ hk => hk.2))).2.1 (Kd.R_F (Kd.R_mono (ok' := (fun k_ => k_ ≠ g)) (IsS58.apart HI0.out (HO699.out) (by decide)) (fun k_ hk => hk.2))))) (Reps.none _ _)))))))))); intro v701 w58 ho59 hb hg_ hnew_; clear hg_ hnew_; (first | rw [← Ny700.out] at ho59 | (simp only [Int.reduceToNat] at ho59; rw [← Ny700.out] at ho59)); have HO702 := Aside0.mk (Kd.N_lower ho59 (szK HK)); replace HI0 := IsS58.up HI0 hb; replace HK := upKB HK hb; replace HB := upB HB hb; clear HO678 HO681 HO684 HO687 HO690 HO693 HO696 HO699; clear hb ho59) | ((with_reducible refine gate_dst (N := 38) rfl ?_); refine Kd.R_lit (Kd.int .i64) _ 3 ?hg (N := 38) ?hd (xs := ([7, 7, 13, 21, 31, 15, 11, 3] : List Int)) (inner := [.int .i64 7, .int .i64 7, .int .i64 13, .int .i64 21, .int .i64 31, .int .i64 15, .int .i64 11, .int .i64 3]) (ok := fun _ => True) (okp := fun _ => True) ?hr ?hp (fun _ hk => hk) trivial (Below.refl _ _) (Nat.le_refl _) (by simp) ?_; (case hd => rfl); (case hg => rfl); (case hr => first | (go_simp; done) | (go_simp; rfl)); (case hp => exact repsI _); intro v704 w60 ho61 hb hg_ hnew_; clear hg_ hnew_; (first | rw [← Ny703.out] at ho61 | (simp only [Int.reduceToNat] at ho61; rw [← Ny703.out] at ho61)); have HO705 := lowKR ho61 HK; replace HO702 := Aside0.mk (Kd.N_elder' (by (with_reducible repeat (first | apply Kd.N_alloc | apply Kd.N_drewN | apply Kd.N_drew)); exact HO702.out) (Kd.R_base ho61) hb); replace HI0 := IsS58.up HI0 hb; replace HK := upKB HK hb; replace HB := upB HB hb; clear hb ho61; obtain ⟨Ao62, co62, eo62⟩ := Kd.N_slice HO702.out; subst eo62) | ((with_reducible refine gate_callee (f := 78) rfl ?_); refine goesA (some 42) Try.func78 #[.pointer (some ⟨g, 0, none⟩), .int .i64 (y700.length : Int)] ?_; (with_reducible refine (spec_l1Cur_pick.calls g s0_0 t653 t654 (y700.length : Int) t706 t707 t708 w0 _ ?side1 ?side2 A28.out).mono ?_); (case side1 => exact IsS58.at HI0); (case side2 => exact atB HB); rintro e w63 ⟨rfl, hi, hb, hk⟩; refine ⟨_, rfl, ?_⟩; replace HO702 := Aside0.mk (Kd.N_mono (Kd.N_keep (Kd.N_mono (ok := fun k_ => (k_ ≠ g ∧ some k_ ≠ (v704 : Value).ownBlock)) (by (with_reducible repeat (first | apply Kd.N_alloc | apply Kd.N_drewN | apply Kd.N_drew)); exact HO702.out) (fun k_ hk_ => (⟨hk_, hk_.1⟩ : _ ∧ k_ ≠ g))) hk (fun _ h => h.2)) (fun _ h => h.1)); replace HO705 := IsS58.keepR HI0 HO705 hk; replace HK := upK HK hk; replace HB := Aside0.mk (hb); replace HI0 := Aside0.mk (hi); (try clear hb); (try clear hb2); (try clear hk); (try clear hi)))
        have n0_ := Aside0.mk (Kd.N_drew HO702.out)
        have n1_ := Aside0.mk (Kd.R_drew HO705.out)
        have n2_ := Aside0.mk (IsS58.drew HI0.out)
        have n3_ := Aside0.mk (keep_drew HK.out)
        have n4_ := Aside0.mk (below_drew1 HB.out)
        clear HO702
        clear HO705
        clear HI0
        clear HK
        clear HB
        have HO702 := n0_
        have HO705 := n1_
        have HI0 := n2_
        have HK := n3_
        have HB := n4_
        clear n0_ n1_ n2_ n3_ n4_
        obtain ⟨Ao65, co65, eo65⟩ := Kd.R_slice HO705.out
        (first | subst eo65 | (injection eo65 with f1_ f2_ f3_; have f4_ := f1_.symm; have f5_ := f3_.symm; clear f1_ f2_ f3_; subst f4_; subst f5_))
        have p709 : 0 ≤ (t706 : Int) := ofd
        have q709 : t706 < (y703.length : Int) := ofd
        obtain ⟨ad709, e709, hx709_0⟩ := Kd.at_int (Kd.R_reads' HO705.out).2.2 t706 p709 q709
        cases e709
        replace p709 := eq_true p709
        replace q709 := eq_true q709
        have p710 : 0 ≤ (t706 : Int) := ofd
        have q710 : t706 < (y703.length : Int) := ofd
        obtain ⟨ad710, e710, hx710_0⟩ := Kd.at_int (Kd.R_reads' HO705.out).2.2 t706 p710 q710
        obtain rfl : ad709 = ad710 := (by injection e710)
        replace p710 := eq_true p710
        replace q710 := eq_true q710
        have p711 : 0 ≤ (t706 : Int) := ofd
        have q711 : t706 < (y700.length : Int) := ofd
        obtain ⟨ad711, A711_0, c711_0, e711, hx711_0, hl711_0, hi711_0⟩ := at_L2 (Kd.N_reads' HO702.out).2.2 t706 p711 q711
        cases e711
        obtain ⟨ce711, hce711, hMe711, hcc711⟩ := Kd.N_get HO702.out [] t706 p711 (by first | exact q711 | exact of_decide_eq_true (by first | (with_reducible assumption) | assumption) | (have e_ := (Kd.N_reads' HO702.out).1; omega))
        obtain ⟨ua711_0, uc711_0, rfl, ul711_0, ge711_0⟩ := Kd.FK_slice_open hMe711
        have hv711_0 := hcc711 0 _ rfl
        rw [Nat.add_zero, show ((Kd.slice 3 (Kd.int .i64))).sz = 1 from rfl, Nat.mul_one] at hv711_0
        replace hv711_0 := Option.some.inj (hv711_0.symm.trans hx711_0)
        injection hv711_0 with hva_ hvn_ hvc_
        rw [hva_] at ge711_0
        rw [hvc_] at ul711_0
        have HL711_0 := Aside0.mk (show Kd.V (Kd.int .i64) 3 _ w.heap.size _ _ (rd_L2 y700 t706) from Kd.V_mk ul711_0 ge711_0)
        clear hva_ hvn_ hvc_ ge711_0 ul711_0
        clear hcc711 hce711
        have HR711_0 := Aside0.mk hi711_0
        have HC711_0 := Aside0.mk hl711_0
        clear hi711_0 hl711_0
        replace p711 := eq_true p711
        replace q711 := eq_true q711
        have p712 : 0 ≤ (t706 : Int) := ofd
        have q712 : t706 < (y703.length : Int) := ofd
        obtain ⟨ad712, e712, hx712_0⟩ := Kd.at_int (Kd.R_reads' HO705.out).2.2 t706 p712 q712
        obtain rfl : ad709 = ad712 := (by injection e712)
        replace p712 := eq_true p712
        replace q712 := eq_true q712
        refine start_ (n := 21) (S := fun w' => w'.cell? (ad709.add (t706).toNat) = some (.int .i64 (rd y703 t706)) ∧ w'.cell? (ad709.add (t706).toNat) = some (.int .i64 (rd y703 t706)) ∧ w'.cell? (ad711.add (t706).toNat) = some (.slice A711_0 (rd_L2 y700 t706).length c711_0) ∧ w'.cell? (ad709.add (t706).toNat) = some (.int .i64 (rd y703 t706))) (ds := []) #[false, false, false, false, false, false, false, false, false, false, false, false, false, false, false, false, false, false, false, false, false] (by kernel_rfl) rfl rfl ⟨hx709_0, hx710_0, hx711_0, hx712_0⟩ (fun hHeld => ?_); refine with_tabW spec_l1Cur_circle.tab11 spec_l1Cur_circle.bits11 (fun HT_ HW_ => ?_)
        generalize w63.drew = w64 at HO702 HO705 HI0 HK HB HL711_0 HR711_0 hx709_0 hx710_0 hx711_0 hx712_0 hHeld ⊢
        refine pure_ (i := 0) (N := some 43) (v := ?_) (a' := ?_) #[true, false, false, false, false, false, false, false, false, false, false, false, false, false, false, false, false, false, false, false, false] rfl rfl (any_of HT_.out (by kernel_rfl)) (fun _ _ _ h => h) (Or.inl ⟨by rfl, ?_⟩) ?_ ?_
        rotate_left
        ·intro w'
         go_simp
         with_reducible rfl
        rotate_left
        ·simp only [Act.put, List.setIfInBounds_toArray, List.set_cons_zero, List.set_cons_succ, i64_w, i32_w]
         rfl
        refine pure_ (i := 1) (N := some 44) (v := ?_) (a' := ?_) #[true, true, false, false, false, false, false, false, false, false, false, false, false, false, false, false, false, false, false, false, false] rfl rfl (any_of HT_.out (by kernel_rfl)) (fun _ _ _ h => h) (Or.inl ⟨by rfl, ?_⟩) ?_ ?_
        rotate_left
        ·intro w'
         go_simp
         with_reducible rfl
        rotate_left
        ·simp only [Act.put, List.setIfInBounds_toArray, List.set_cons_zero, List.set_cons_succ, i64_w, i32_w]
         rfl
        refine pure_ (i := 2) (N := some 45) (v := ?_) (a' := ?_) #[true, true, true, false, false, false, false, false, false, false, false, false, false, false, false, false, false, false, false, false, false] rfl rfl (any_of HT_.out (by kernel_rfl)) (fun _ _ _ h => h) (Or.inl ⟨by rfl, ?_⟩) ?_ ?_
        rotate_left
        ·intro w'
         go_simp
         with_reducible rfl
        rotate_left
        ·simp only [Act.put, List.setIfInBounds_toArray, List.set_cons_zero, List.set_cons_succ, i64_w, i32_w]
         rfl
        refine pure_ (i := 4) (N := some 47) (v := ?_) (a' := ?_) #[true, true, true, false, true, false, false, false, false, false, false, false, false, false, false, false, false, false, false, false, false] rfl rfl (any_of HT_.out (by kernel_rfl)) (fun _ _ _ h => h) (Or.inl ⟨by rfl, ?_⟩) ?_ ?_
        rotate_left
        ·intro w'
         go_simp
         with_reducible rfl
        rotate_left
        ·simp only [Act.put, List.setIfInBounds_toArray, List.set_cons_zero, List.set_cons_succ, i64_w, i32_w]
         rfl
        refine pure_ (i := 5) (N := some 48) (v := ?_) (a' := ?_) #[true, true, true, false, true, true, false, false, false, false, false, false, false, false, false, false, false, false, false, false, false] rfl rfl (any_of HT_.out (by kernel_rfl)) (fun _ _ _ h => h) (Or.inl ⟨by rfl, ?_⟩) ?_ ?_
        rotate_left
        ·intro w'
         go_simp
         with_reducible rfl
        rotate_left
        ·simp only [Act.put, List.setIfInBounds_toArray, List.set_cons_zero, List.set_cons_succ, i64_w, i32_w]
         rfl
        refine pure_ (i := 6) (N := some 49) (v := ?_) (a' := ?_) #[true, true, true, false, true, true, true, false, false, false, false, false, false, false, false, false, false, false, false, false, false] rfl rfl (any_of HT_.out (by kernel_rfl)) (fun _ _ _ h => h) (Or.inl ⟨by rfl, ?_⟩) ?_ ?_
        rotate_left
        ·intro w'
         go_simp
         with_reducible rfl
        rotate_left
        ·simp only [Act.put, List.setIfInBounds_toArray, List.set_cons_zero, List.set_cons_succ, i64_w, i32_w]
         rfl
        refine pure_ (i := 8) (N := some 51) (v := ?_) (a' := ?_) #[true, true, true, false, true, true, true, false, true, false, false, false, false, false, false, false, false, false, false, false, false] rfl rfl (any_of HT_.out (by kernel_rfl)) (fun _ _ _ h => h) (Or.inl ⟨by rfl, ?_⟩) ?_ ?_
        rotate_left
        ·intro w'
         go_simp
         with_reducible rfl
        rotate_left
        ·simp only [Act.put, List.setIfInBounds_toArray, List.set_cons_zero, List.set_cons_succ, i64_w, i32_w]
         rfl
        refine pure_ (i := 9) (N := some 52) (v := ?_) (a' := ?_) #[true, true, true, false, true, true, true, false, true, true, false, false, false, false, false, false, false, false, false, false, false] rfl rfl (any_of HT_.out (by kernel_rfl)) (fun _ _ _ h => h) (Or.inl ⟨by rfl, ?_⟩) ?_ ?_
        rotate_left
        ·intro w'
         go_simp
         with_reducible rfl
        rotate_left
        ·simp only [Act.put, List.setIfInBounds_toArray, List.set_cons_zero, List.set_cons_succ, i64_w, i32_w]
         rfl
        refine pure_ (i := 10) (N := some 53) (v := ?_) (a' := ?_) #[true, true, true, false, true, true, true, false, true, true, true, false, false, false, false, false, false, false, false, false, false] rfl rfl (any_of HT_.out (by kernel_rfl)) (fun _ _ _ h => h) (Or.inl ⟨by rfl, ?_⟩) ?_ ?_
        rotate_left
        ·intro w'
         go_simp
         with_reducible rfl
        rotate_left
        ·simp only [Act.put, List.setIfInBounds_toArray, List.set_cons_zero, List.set_cons_succ, i64_w, i32_w]
         rfl
        refine pure_ (i := 12) (N := some 55) (v := ?_) (a' := ?_) #[true, true, true, false, true, true, true, false, true, true, true, false, true, false, false, false, false, false, false, false, false] rfl rfl (any_of HT_.out (by kernel_rfl)) (fun _ _ _ h => h) (Or.inl ⟨by rfl, ?_⟩) ?_ ?_
        rotate_left
        ·intro w'
         go_simp
         with_reducible rfl
        rotate_left
        ·simp only [Act.put, List.setIfInBounds_toArray, List.set_cons_zero, List.set_cons_succ, i64_w, i32_w]
         rfl
        refine pure_ (i := 13) (N := some 56) (v := ?_) (a' := ?_) #[true, true, true, false, true, true, true, false, true, true, true, false, true, true, false, false, false, false, false, false, false] rfl rfl (any_of HT_.out (by kernel_rfl)) (fun _ _ _ h => h) (Or.inl ⟨by rfl, ?_⟩) ?_ ?_
        rotate_left
        ·intro w'
         go_simp
         with_reducible rfl
        rotate_left
        ·simp only [Act.put, List.setIfInBounds_toArray, List.set_cons_zero, List.set_cons_succ, i64_w, i32_w]
         rfl
        refine pure_ (i := 14) (N := some 57) (v := ?_) (a' := ?_) #[true, true, true, false, true, true, true, false, true, true, true, false, true, true, true, false, false, false, false, false, false] rfl rfl (any_of HT_.out (by kernel_rfl)) (fun _ _ _ h => h) (Or.inl ⟨by rfl, ?_⟩) ?_ ?_
        rotate_left
        ·intro w'
         go_simp
         with_reducible rfl
        rotate_left
        ·simp only [Act.put, List.setIfInBounds_toArray, List.set_cons_zero, List.set_cons_succ, i64_w, i32_w]
         rfl
        refine pure_ (i := 15) (N := some 58) (v := ?_) (a' := ?_) #[true, true, true, false, true, true, true, false, true, true, true, false, true, true, true, true, false, false, false, false, false] rfl rfl (any_of HT_.out (by kernel_rfl)) (fun _ _ _ h => h) (Or.inl ⟨by rfl, ?_⟩) ?_ ?_
        rotate_left
        ·intro w'
         go_simp
         with_reducible rfl
        rotate_left
        ·simp only [Act.put, List.setIfInBounds_toArray, List.set_cons_zero, List.set_cons_succ, i64_w, i32_w]
         rfl
        refine take_ (i := 3) (N := some 46) (v := ?_) (a' := ?_) #[true, true, true, true, true, true, true, false, true, true, true, false, true, true, true, true, false, false, false, false, false] rfl rfl (take_ofW HT_.out HW_.out (by kernel_rfl)) (fun _ _ _ h => h) (Or.inl ⟨by rfl, ?_⟩) hHeld ?_ ?_
        rotate_left
        ·rintro w' ⟨s0, s1, s2, s3⟩
         go_simp
         with_reducible rfl
        rotate_left
        ·simp only [Act.put, List.setIfInBounds_toArray, List.set_cons_zero, List.set_cons_succ, i64_w, i32_w]
         rfl
        refine take_ (i := 7) (N := some 50) (v := ?_) (a' := ?_) #[true, true, true, true, true, true, true, true, true, true, true, false, true, true, true, true, false, false, false, false, false] rfl rfl (take_ofW HT_.out HW_.out (by kernel_rfl)) (fun _ _ _ h => h) (Or.inl ⟨by rfl, ?_⟩) hHeld ?_ ?_
        rotate_left
        ·rintro w' ⟨s0, s1, s2, s3⟩
         go_simp
         with_reducible rfl
        rotate_left
        ·simp only [Act.put, List.setIfInBounds_toArray, List.set_cons_zero, List.set_cons_succ, i64_w, i32_w]
         rfl
        refine take_ (i := 11) (N := some 54) (v := ?_) (a' := ?_) #[true, true, true, true, true, true, true, true, true, true, true, true, true, true, true, true, false, false, false, false, false] rfl rfl (take_ofW HT_.out HW_.out (by kernel_rfl)) (fun _ _ _ h => h) (Or.inl ⟨by rfl, ?_⟩) hHeld ?_ ?_
        rotate_left
        ·rintro w' ⟨s0, s1, s2, s3⟩
         go_simp
         with_reducible rfl
        rotate_left
        ·simp only [Act.put, List.setIfInBounds_toArray, List.set_cons_zero, List.set_cons_succ, i64_w, i32_w]
         rfl
        refine take_ (i := 16) (N := some 59) (v := ?_) (a' := ?_) #[true, true, true, true, true, true, true, true, true, true, true, true, true, true, true, true, true, false, false, false, false] rfl rfl (take_ofW HT_.out HW_.out (by kernel_rfl)) (fun _ _ _ h => h) (Or.inl ⟨by rfl, ?_⟩) hHeld ?_ ?_
        rotate_left
        ·rintro w' ⟨s0, s1, s2, s3⟩
         go_simp
         with_reducible rfl
        rotate_left
        ·simp only [Act.put, List.setIfInBounds_toArray, List.set_cons_zero, List.set_cons_succ, i64_w, i32_w]
         rfl
        refine one_ (i := 17) (N := some 60) #[true, true, true, true, true, true, true, true, true, true, true, true, true, true, true, true, true, true, false, false, false] rfl rfl (one_of HT_.out (by kernel_rfl)) (by decide) (fun K hK => ?_)
        refine goes_ Try.func78 (by kernel_rfl) rfl #[.pointer (some ⟨g, 0, none⟩), .int .i64 (rd y703 t706)] (by rfl) rfl rfl (by (try simp only [List.map_toArray, List.map_cons, List.map_nil]); first | done | rfl | (simp only [List.length_drop, List.length_take]; rfl)) ?_
        with_reducible refine (spec_l1Cur_pick.calls g s0_0 t707 t708 (rd y703 t706) t713 t714 t715 w0 _ ?side1 ?side2 A32.out).mono ?_
        (case side1 => exact IsS58.at HI0)
        (case side2 => exact atB HB)
        rintro e w66 ⟨rfl, hi, hb, hk⟩
        have HS0_ := keep_cell hk (hHeld.1) (by first | (rw [add_block]; exact Kd.own_blk (IsS58.own_ne HI0.out HO705.out (by decide))) | (show (Addr.add _ _).block ≠ _; rw [add_block]; exact Kd.own_blk (IsS58.own_ne HI0.out HO705.out (by decide))) | exact Kd.own_blk (IsS58.own_ne HI0.out HO705.out (by decide)))
        have HS1_ := keep_cell hk (hHeld.2.1) (by first | (rw [add_block]; exact Kd.own_blk (IsS58.own_ne HI0.out HO705.out (by decide))) | (show (Addr.add _ _).block ≠ _; rw [add_block]; exact Kd.own_blk (IsS58.own_ne HI0.out HO705.out (by decide))) | exact Kd.own_blk (IsS58.own_ne HI0.out HO705.out (by decide)))
        have HS2_ := keep_cell hk (hHeld.2.2.1) (by first | (rw [add_block]; exact Kd.own_blk (IsS58.own_neN HI0.out HO702.out (by decide))) | (show (Addr.add _ _).block ≠ _; rw [add_block]; exact Kd.own_blk (IsS58.own_neN HI0.out HO702.out (by decide))) | exact Kd.own_blk (IsS58.own_neN HI0.out HO702.out (by decide)))
        have HS3_ := keep_cell hk (hHeld.2.2.2) (by first | (rw [add_block]; exact Kd.own_blk (IsS58.own_ne HI0.out HO705.out (by decide))) | (show (Addr.add _ _).block ≠ _; rw [add_block]; exact Kd.own_blk (IsS58.own_ne HI0.out HO705.out (by decide))) | exact Kd.own_blk (IsS58.own_ne HI0.out HO705.out (by decide)))
        refine ⟨_, rfl, ?_⟩
        have n0_ := Aside0.mk (Kd.N_mono (Kd.N_keep (Kd.N_mono (ok := fun k_ => (k_ ≠ g ∧ some k_ ≠ (.slice (some ad709) y703.length co65 : Value).ownBlock)) (by (with_reducible repeat (first | apply Kd.N_alloc | apply Kd.N_drewN | apply Kd.N_drew)); exact HO702.out) (fun k_ hk_ => (⟨hk_, hk_.1⟩ : _ ∧ k_ ≠ g))) hk (fun _ h => h.2)) (fun _ h => h.1))
        have n1_ := IsS58.keepR HI0 HO705 hk
        have n2_ := Aside0.mk (Kd.V_mono (Kd.V_keep (Kd.V_mono (ok := fun k_ => ((k_ ≠ g ∧ some k_ ≠ (.slice (some ad709) y703.length co65 : Value).ownBlock) ∧ some k_ ≠ (.slice (some ad711) y700.length co62 : Value).ownBlock)) (by (with_reducible repeat (first | apply Kd.V_alloc | apply Kd.V_drewN | apply Kd.V_drew)); exact HL711_0.out) (fun k_ hk_ => (⟨hk_, hk_.1.1⟩ : _ ∧ k_ ≠ g))) hk (fun _ h => h.2)) (fun _ h => h.1))
        have n3_ := upK HK hk
        have n4_ := Aside0.mk (hb)
        have n5_ := Aside0.mk (hi)
        clear HO702
        clear HO705
        clear HL711_0
        clear HK
        clear HB
        clear HI0
        have HO702 := n0_
        have HO705 := n1_
        have HL711_0 := n2_
        have HK := n3_
        have HB := n4_
        have HI0 := n5_
        clear n0_ n1_ n2_ n3_ n4_ n5_
        (try clear hb)
        (try clear hb2)
        (try clear hk)
        (try clear hi)
        refine hK.out _ _ ⟨HS0_, HS1_, HS2_, HS3_⟩ (fun hHeld => ?_)
        clear hK K
        refine norm_ (a' := ?_) ?_ ?_
        rotate_left
        ·show Act.put _ (some 60) _ = _
         simp only [Act.put, List.setIfInBounds_toArray, List.set_cons_zero, List.set_cons_succ, i64_w, i32_w]
         rfl
        refine one_ (i := 18) (N := some 61) #[true, true, true, true, true, true, true, true, true, true, true, true, true, true, true, true, true, true, true, false, false] rfl rfl (one_of HT_.out (by kernel_rfl)) (by decide) (fun K hK => ?_)
        refine goes_ Try.func91 (by kernel_rfl) rfl #[.int .i64 (rd y703 t706), .slice A711_0 (rd_L2 y700 t706).length c711_0, .int .i64 t713] (by rfl) rfl rfl (by (try simp only [List.map_toArray, List.map_cons, List.map_nil]); first | done | rfl | (simp only [List.length_drop, List.length_take]; rfl)) ?_
        with_reducible refine (spec_ciMove.calls kj21 (rd y703 t706) _ _ (rd_L2 y700 t706) t713 t716 _ ?side1 ?side2 A33.out).mono ?_
        (case side1 => repeat (first | exact ((Kd.V_reads' (by (with_reducible repeat (first | apply Kd.V_alloc | apply Kd.V_drewN | apply Kd.V_drew)); exact HL711_0.out)).2.2) | (with_reducible refine Kd.C_alloc ?_ _) | (with_reducible refine Kd.C_drewN ?_ _) | (with_reducible refine Kd.C_drew ?_)))
        (case side2 => exact HC711_0.out)
        rintro e w67 ⟨v717, rfl, ho0, hb⟩
        have HS0_ := (hb.cell (World.block_lt_of_cell? _ _ (hHeld.1))).trans (hHeld.1)
        have HS1_ := (hb.cell (World.block_lt_of_cell? _ _ (hHeld.2.1))).trans (hHeld.2.1)
        have HS2_ := (hb.cell (World.block_lt_of_cell? _ _ (hHeld.2.2.1))).trans (hHeld.2.2.1)
        have HS3_ := (hb.cell (World.block_lt_of_cell? _ _ (hHeld.2.2.2))).trans (hHeld.2.2.2)
        refine ⟨_, rfl, ?_⟩
        have n0_ := Aside0.mk (Kd.N_elder' (by (with_reducible repeat (first | apply Kd.N_alloc | apply Kd.N_drewN | apply Kd.N_drew)); exact HO702.out) (Kd.R_base ho0) hb)
        have n1_ := eldRR HO705 ho0 hb
        have n2_ := Aside0.mk (Kd.V_elder' (by (with_reducible repeat (first | apply Kd.V_alloc | apply Kd.V_drewN | apply Kd.V_drew)); exact HL711_0.out) (Kd.R_base ho0) hb)
        have n3_ := Aside0.mk (Kd.R_lower (Kd.R_new' ho0 (ltR HO705)) (szK HK))
        have n4_ := IsS58.up HI0 hb
        have n5_ := upKB HK hb
        have n6_ := upB HB hb
        clear HO702
        clear HO705
        clear HL711_0
        clear HI0
        clear HK
        clear HB
        have HO702 := n0_
        have HO705 := n1_
        have HL711_0 := n2_
        have HO718 := n3_
        have HI0 := n4_
        have HK := n5_
        have HB := n6_
        clear n0_ n1_ n2_ n3_ n4_ n5_ n6_
        (try clear hb)
        (try clear hb2)
        (try clear hk)
        (try clear hi)
        (try clear ho0)
        refine hK.out _ _ ⟨HS0_, HS1_, HS2_, HS3_⟩ (fun hHeld => ?_)
        clear hK K
        refine norm_ (a' := ?_) ?_ ?_
        rotate_left
        ·show Act.put _ (some 61) _ = _
         simp only [Act.put, List.setIfInBounds_toArray, List.set_cons_zero, List.set_cons_succ, i64_w, i32_w]
         rfl
        refine pure_ (i := 19) (N := some 2) (v := ?_) (a' := ?_) #[true, true, true, true, true, true, true, true, true, true, true, true, true, true, true, true, true, true, true, true, false] rfl rfl (any_of HT_.out (by kernel_rfl)) (fun _ _ _ h => h) (Or.inl ⟨by rfl, ?_⟩) ?_ ?_
        rotate_left
        ·intro w'
         go_simp
         with_reducible rfl
        rotate_left
        ·simp only [Act.put, List.setIfInBounds_toArray, List.set_cons_zero, List.set_cons_succ, i64_w, i32_w]
         rfl
        refine pure_ (i := 20) (N := some 3) (v := ?_) (a' := ?_) #[true, true, true, true, true, true, true, true, true, true, true, true, true, true, true, true, true, true, true, true, true] rfl rfl (any_of HT_.out (by kernel_rfl)) (fun _ _ _ h => h) (Or.inl ⟨by rfl, ?_⟩) ?_ ?_
        rotate_left
        ·intro w'
         go_simp
         with_reducible rfl
        rotate_left
        ·simp only [Act.put, List.setIfInBounds_toArray, List.set_cons_zero, List.set_cons_succ, i64_w, i32_w]
         rfl
        refine done_ (done_of HT_.out (by kernel_rfl)) ?_
        try go_wp2
        go_ret2
        exact ⟨_, eqr, by (with_reducible repeat (first | apply Kd.R_alloc | apply Kd.R_drewN | apply Kd.R_drew)); exact Kd.R_mono HO718.out (fun _ hk => trivial), IsS58.at HI0, atB HB, atK HK⟩
       ·rw [if_neg c31] at H
        exact absurd H (by simp)
      ·rw [if_neg c30] at H
       exact absurd H (by simp)
     ·rw [if_neg c29] at H
      exact absurd H (by simp)
    ·replace c27 := Bool.eq_false_iff.mpr c27
     subst c27
     have H1 : ((spec_l1Cur_pick.f s0_0 t653 t654 14).bind fun bt719 => ((spec_l1Cur_pick.f s0_0 bt719.2.1 bt719.2.2 5).bind fun bt722 => (spec_l1Cur_circle.l0 kj21 (wrap64 (2 + bt719.1)) ([] : List Int) (wrap64 (1 + bt722.1)) s0_0 bt722.2.1 bt722.2.2))) = some (r1, r2, r3, r4) := by rw [if_neg (show ¬ (false = true) by decide)] at H; exact H
     clear H
     have H := H1
     clear H1
     replace H := Option.bind_eq_some_iff.mp H
     obtain ⟨⟨t719, t720, t721⟩, A680, H⟩ := H
     replace H : ((spec_l1Cur_pick.f s0_0 t720 t721 5).bind fun bt722 => (spec_l1Cur_circle.l0 kj21 (wrap64 (2 + t719)) ([] : List Int) (wrap64 (1 + bt722.1)) s0_0 bt722.2.1 bt722.2.2)) = some (r1, r2, r3, r4) := H
     have A68 := Aside0.mk A680
     clear A680
     replace H := Option.bind_eq_some_iff.mp H
     obtain ⟨⟨t722, t723, t724⟩, A690, H⟩ := H
     replace H : (spec_l1Cur_circle.l0 kj21 (wrap64 (2 + t719)) ([] : List Int) (wrap64 (1 + t722)) s0_0 t723 t724) = some (r1, r2, r3, r4) := H
     have A69 := Aside0.mk A690
     clear A690
     have H' := Aside0.mk H
     clear H
     go_wp2_with (first | ((with_reducible refine gate_callee (f := 78) rfl ?_); refine goesA (some 63) Try.func78 #[.pointer (some ⟨g, 0, none⟩), .int .i64 14] ?_; (with_reducible refine (spec_l1Cur_pick.calls g s0_0 t653 t654 14 t719 t720 t721 w0 _ ?side1 ?side2 A68.out).mono ?_); (case side1 => exact IsS58.at HI0); (case side2 => exact atB HB); rintro e w70 ⟨rfl, hi, hb, hk⟩; refine ⟨_, rfl, ?_⟩; replace HK := upK HK hk; replace HB := Aside0.mk (hb); replace HI0 := Aside0.mk (hi); (try clear hb); (try clear hb2); (try clear hk); (try clear hi)) | ((with_reducible refine gate_callee (f := 78) rfl ?_); refine goesA (some 66) Try.func78 #[.pointer (some ⟨g, 0, none⟩), .int .i64 5] ?_; (with_reducible refine (spec_l1Cur_pick.calls g s0_0 t720 t721 5 t722 t723 t724 w0 _ ?side1 ?side2 A69.out).mono ?_); (case side1 => exact IsS58.at HI0); (case side2 => exact atB HB); rintro e w71 ⟨rfl, hi, hb, hk⟩; refine ⟨_, rfl, ?_⟩; replace HK := upK HK hk; replace HB := Aside0.mk (hb); replace HI0 := Aside0.mk (hi); (try clear hb); (try clear hb2); (try clear hk); (try clear hi)))
     go_loopg [8, 9] kj21 (fun kq v8 v9 w' => ∃ (x8_2 : List Int) (x9_2 : Int) (x1001_2 : Int) (x1002_2 : Int), v9 = .int .i64 x9_2 ∧ Aside0 (spec_l1Cur_circle.l0 kq (wrap64 (2 + t719)) x8_2 x9_2 s0_0 x1001_2 x1002_2 = some (r1, r2, r3, r4)) ∧ Aside0 (kq ≤ kj21) ∧ Aside0 (Kd.R (Kd.int .i64) 3 w' w.heap.size (fun _ => True) v8 x8_2) ∧ Aside0 (IsS58 w0 w' g s0_0 x1001_2 x1002_2) ∧ Aside0 (KeepBut w w' g none) ∧ Aside0 (Below w0.heap.size w0 w'))
     case atStart => exact ⟨(([] : List Int)), (wrap64 (1 + t722)), (t723), (t724), eqd, H', ⟨Nat.le_refl _⟩, ⟨by first | exact Kd.R_nil _ _ _ _ _ | exact Kd.N_nil _ _ _ _ _ | exact Kd.V_nil _ _ _ _ _ | exact Kd.Q_nil _ _ _ _ _ | exact Kd.S_nil _ _ _ _ _⟩, ⟨IsS58.at HI0⟩, ⟨atK HK⟩, ⟨atB HB⟩⟩
     case round =>
      clear H'
      try clear c2
      try clear p2
      try clear c3
      try clear c3b0
      try clear c3b1
      try clear p6
      try clear c7
      try clear p7
      try clear q7
      try clear hx7
      try clear c9
      try clear c24
      try clear c24b0
      try clear c24b1
      try clear c25
      try clear c25b0
      try clear c25b1
      try clear c26
      try clear c26b0
      try clear c26b1
      try clear c27
      try clear c29
      try clear c29b0
      try clear c30
      try clear c30b0
      try clear c31
      try clear c31b0
      try clear p64
      try clear p70
      try clear q70
      try clear hx70
      try clear c71
      try clear p71
      try clear q71
      try clear hx71
      try clear hx709_0
      try clear hx710_0
      try clear hx711_0
      try clear hx712_0
      try clear p2
      try clear p709
      try clear p710
      try clear p711
      try clear p712
      try clear q709
      try clear q710
      try clear q711
      try clear q712
      obtain ⟨x8_2, x9_2, x1001_2, x1002_2, rfl, HA, HK2, HO_8, HI0, HK, HB⟩ := hrel
      cases gk with
      | zero => exact absurd HA.out (by simp [spec_l1Cur_circle.l0])
      | succ k2 =>
       have H := HA.out
       clear HA
       simp only [spec_l1Cur_circle.l0] at H
       by_cases c72 : x9_2 > 0
       ·rw [if_pos c72] at H
        have c72b0 : decide (0 < x9_2) = true := decide_eq_true c72
        clear c72
        replace H := Option.bind_eq_some_iff.mp H
        obtain ⟨⟨t725, t726, t727⟩, A730, H⟩ := H
        replace H : (if x8_2.length < 17592186044416 then (spec_l1Cur_circle.l0 k2 (wrap64 (2 + t719)) (x8_2 ++ [t725]) (wrap64 (x9_2 - 1)) s0_0 t726 t727) else (none)) = some (r1, r2, r3, r4) := H
        have A73 := Aside0.mk A730
        clear A730
        by_cases c74 : x8_2.length < 17592186044416
        ·rw [if_pos c74] at H
         have LMc74 := Aside0.mk c74
         clear c74
         obtain ⟨y728, hy728⟩ : ∃ y_ : List Int, y_ = (x8_2 ++ [t725]) := ⟨_, rfl⟩
         replace H : (spec_l1Cur_circle.l0 k2 (wrap64 (2 + t719)) y728 (wrap64 (x9_2 - 1)) s0_0 t726 t727) = some (r1, r2, r3, r4) := by first | (rw [hy728]; with_reducible exact H) | (have H2_ := (Option.bind_some _ _).symm.trans H; rw [hy728]; with_reducible exact H2_) | (have H2_ := (Option.bind_some _ _).symm.trans H; with_reducible exact H2_) | with_reducible exact H | (rw [hy728]; exact H) | exact H
         have Ny728 := Aside0.mk hy728
         clear hy728
         have H' := Aside0.mk H
         clear H
         go_wp2_with (first | ((with_reducible refine gate_callee (f := 78) rfl ?_); refine goesA (some 75) Try.func78 #[.pointer (some ⟨g, 0, none⟩), .int .i64 (wrap64 (2 + t719))] ?_; (with_reducible refine (spec_l1Cur_pick.calls g s0_0 x1001_2 x1002_2 (wrap64 (2 + t719)) t725 t726 t727 w0 _ ?side1 ?side2 A73.out).mono ?_); (case side1 => exact IsS58.at HI0); (case side2 => exact atB HB); rintro e w75 ⟨rfl, hi, hb, hk⟩; refine ⟨_, rfl, ?_⟩; replace HO_8 := IsS58.keepR HI0 HO_8 hk; replace HK := upK HK hk; replace HB := Aside0.mk (hb); replace HI0 := Aside0.mk (hi); (try clear hb); (try clear hb2); (try clear hk); (try clear hi)) | ((with_reducible refine gate_builtin (b := .append) (xs := #[.tmp 72, .tmp 76]) rfl ?_); at_builtin; refine Kd.R_append (Kd.int .i64) w.heap.size rfl (.tmp 72) (.tmp 76) 24 3 (.int .i64 0) 8 rfl Try.underlying24 info3 rfl (by decide) (by omega) u8 x8_2 t725 [.int .i64 t725] (fun _ => True) (fun _ => False) rfl rfl ?aP (fun _ hk => hk.elim) ?aF ?aO (Below.refl _ _) ?aS ?aL ?_; (case aP => exact rfl); (case aF => exact (fun _ _ => trivial)); (case aO => exact (atR HO_8)); (case aS => exact (szK HK)); (case aL => have := LMc74.out; omega); intro v729 w76 ho hb hg hat; rw [← Ny728.out] at ho; have HO730 := Aside0.mk (ho); replace HI0 := Aside0.mk (IsS58.grown (IsS58.at HI0) hg (IsS58.own_ne HI0.out HO_8.out (by decide))); replace HB := Aside0.mk (below_weaken (atB HB) HL.out hb); replace HK := Aside0.mk (KeepBut.trans (atK HK) (KeepBut.of_grown hg g) (Kd.R_base2 HO_8.out)); clear HO_8; clear ho hb hg hat))
         go_roundg k2
         case measure => have := HJ21.out; have := HK2.out; omega
         case rel => exact ⟨(y728), (wrap64 (x9_2 - 1)), (t726), (t727), eqd, H', ⟨by have := HJ21.out; have := HK2.out; omega⟩, ⟨atR HO730⟩, ⟨IsS58.at HI0⟩, ⟨atK HK⟩, ⟨atB HB⟩⟩
        ·rw [if_neg c74] at H
         exact absurd H (by simp)
       ·rw [if_neg c72] at H
        have c72b0 : decide (0 < x9_2) = false := decide_eq_false c72
        clear c72
        replace H := Option.bind_eq_some_iff.mp H
        obtain ⟨t731, A770, H⟩ := H
        replace H : (some ((wrap64 (2 + t719)), t731, x1001_2, x1002_2)) = some (r1, r2, r3, r4) := H
        have A77 := Aside0.mk A770
        clear A770
        simp only [Option.some.injEq, Prod.mk.injEq] at H
        obtain ⟨rfl, rfl, rfl, rfl⟩ := H
        obtain ⟨Ao78, co78, eo78⟩ := Kd.R_slice HO_8.out
        subst eo78
        go_wp2_with (first | ((with_reducible refine gate_callee (f := 104) rfl ?_); refine goesA (some 81) Try.func104 #[.int .i64 (wrap64 (2 + t719)), .slice Ao78 x8_2.length co78] ?_; (with_reducible refine (spec_ciSet.calls k2 (wrap64 (2 + t719)) _ _ x8_2 t731 _ ?side1 ?side2 A77.out).mono ?_); (case side1 => exact atRC HO_8); (case side2 => exact (Kd.R_reads' HO_8.out).2.1); rintro e w79 ⟨v732, rfl, ho0, hb⟩; refine ⟨_, rfl, ?_⟩; have HO733 := Aside0.mk (Kd.R_lower (Kd.R_new' ho0 (ltR HO_8)) (szK HK)); replace HO_8 := eldRR HO_8 ho0 hb; replace HI0 := IsS58.up HI0 hb; replace HK := upKB HK hb; replace HB := upB HB hb; (try clear hb); (try clear hb2); (try clear hk); (try clear hi); (try clear ho0)))
        go_ret2
        exact ⟨_, eqr, by (with_reducible repeat (first | apply Kd.R_alloc | apply Kd.R_drewN | apply Kd.R_drew)); exact Kd.R_mono HO733.out (fun _ hk => trivial), IsS58.at HI0, atB HB, atK HK⟩

noncomputable def spec_l1Cur_circle.J0 (x24 : Bool) (x1000 : List Int) (x1001 : Int) (x1002 : Int) : Option (Int × List Int × Int × Int) := lim fun k => spec_l1Cur_circle.j0 k x24 x1000 x1001 x1002
theorem spec_l1Cur_circle.J0_lim (x24 : Bool) (x1000 : List Int) (x1001 : Int) (x1002 : Int) : Lim (fun k => spec_l1Cur_circle.j0 k x24 x1000 x1001 x1002) (spec_l1Cur_circle.J0 x24 x1000 x1001 x1002) := Lim.of fun k => (spec_l1Cur_circle.mono_l k).1 x24 x1000 x1001 x1002
noncomputable def spec_l1Cur_circle.L0 (x7 : Int) (x8 : List Int) (x9 : Int) (x1000 : List Int) (x1001 : Int) (x1002 : Int) : Option (Int × List Int × Int × Int) := lim fun k => spec_l1Cur_circle.l0 k x7 x8 x9 x1000 x1001 x1002
theorem spec_l1Cur_circle.L0_lim (x7 : Int) (x8 : List Int) (x9 : Int) (x1000 : List Int) (x1001 : Int) (x1002 : Int) : Lim (fun k => spec_l1Cur_circle.l0 k x7 x8 x9 x1000 x1001 x1002) (spec_l1Cur_circle.L0 x7 x8 x9 x1000 x1001 x1002) := Lim.of fun k => (spec_l1Cur_circle.mono_l k).2 x7 x8 x9 x1000 x1001 x1002
noncomputable def spec_l1Cur_circle.F (s0_0 : List Int) (s0_1 : Int) (s0_2 : Int) : Option (Int × List Int × Int × Int) := lim fun k => spec_l1Cur_circle.f k s0_0 s0_1 s0_2
theorem spec_l1Cur_circle.F_lim (s0_0 : List Int) (s0_1 : Int) (s0_2 : Int) : Lim (fun k => spec_l1Cur_circle.f k s0_0 s0_1 s0_2) (spec_l1Cur_circle.F s0_0 s0_1 s0_2) := Lim.of fun k => spec_l1Cur_circle.mono s0_0 s0_1 s0_2 k
theorem spec_l1Cur_circle.J0_eq (x24 : Bool) (x1000 : List Int) (x1001 : Int) (x1002 : Int) : spec_l1Cur_circle.J0 x24 x1000 x1001 x1002 = (if x24 = true then ((some (([(([0, 1, 3] : List Int)), (([0, 1, 2, 4] : List Int)), (([0, 1, 3, 9] : List Int)), (([0, 1, 4, 14, 16] : List Int)), (([0, 1, 3, 8, 12, 18] : List Int)), (([0, 1, 2, 4, 5, 8, 10] : List Int)), (([0, 1, 3, 4, 5, 9] : List Int)), (([0, 1] : List Int))] : List (List Int)) : List (List Int))).bind fun y700 => ((some (([7, 7, 13, 21, 31, 15, 11, 3] : List Int) : List Int)).bind fun y703 => ((spec_l1Cur_pick.f x1000 x1001 x1002 (y700.length : Int)).bind fun bt706 => (if 0 ≤ bt706.1 then (if bt706.1 < (y703.length : Int) then (if bt706.1 < (y700.length : Int) then ((spec_l1Cur_pick.f x1000 bt706.2.1 bt706.2.2 (rd y703 bt706.1)).bind fun bt713 => ((spec_ciMove.F (rd y703 bt706.1) (rd_L2 y700 bt706.1) bt713.1).bind fun t716 => (some (rd y703 bt706.1, t716, bt713.2.1, bt713.2.2)))) else (none)) else (none)) else (none))))) else ((spec_l1Cur_pick.f x1000 x1001 x1002 14).bind fun bt719 => ((spec_l1Cur_pick.f x1000 bt719.2.1 bt719.2.2 5).bind fun bt722 => (spec_l1Cur_circle.L0 (wrap64 (2 + bt719.1)) ([] : List Int) (wrap64 (1 + bt722.1)) x1000 bt722.2.1 bt722.2.2)))) :=
 Lim.step (f := fun k => spec_l1Cur_circle.j0 (k + 1) x24 x1000 x1001 x1002) (spec_l1Cur_circle.J0_lim x24 x1000 x1001 x1002) (fun _ => rfl) (by
  simp only [spec_l1Cur_circle.j0]
  repeat' (first | (with_reducible first | exact Lim.const _ | exact spec_ciMove.F_lim _ _ _ | exact spec_l1Cur_circle.L0_lim _ _ _ _ _ _ | refine Lim.ite ?_ ?_ | refine Lim.bind ?_ (fun _ => ?_))))
theorem spec_l1Cur_circle.L0_eq (x7 : Int) (x8 : List Int) (x9 : Int) (x1000 : List Int) (x1001 : Int) (x1002 : Int) : spec_l1Cur_circle.L0 x7 x8 x9 x1000 x1001 x1002 = (if x9 > 0 then ((spec_l1Cur_pick.f x1000 x1001 x1002 x7).bind fun bt725 => (if x8.length < 17592186044416 then (spec_l1Cur_circle.L0 x7 (x8 ++ [bt725.1]) (wrap64 (x9 - 1)) x1000 bt725.2.1 bt725.2.2) else (none))) else ((spec_ciSet.F x7 x8).bind fun t731 => (some (x7, t731, x1001, x1002)))) :=
 Lim.step (f := fun k => spec_l1Cur_circle.l0 (k + 1) x7 x8 x9 x1000 x1001 x1002) (spec_l1Cur_circle.L0_lim x7 x8 x9 x1000 x1001 x1002) (fun _ => rfl) (by
  simp only [spec_l1Cur_circle.l0]
  repeat' (first | (with_reducible first | exact Lim.const _ | exact spec_ciSet.F_lim _ _ | exact spec_l1Cur_circle.L0_lim _ _ _ _ _ _ | refine Lim.ite ?_ ?_ | refine Lim.bind ?_ (fun _ => ?_))))
theorem spec_l1Cur_circle.F_eq (s0_0 : List Int) (s0_1 : Int) (s0_2 : Int) : spec_l1Cur_circle.F s0_0 s0_1 s0_2 = ((spec_l1Cur_pick.f s0_0 s0_1 s0_2 12).bind fun bt652 => (if bt652.1 = 0 then ((spec_l1Cur_among.f s0_0 bt652.2.1 bt652.2.2 (([1, 2, 7, 31, 32, (-1), 4611686018427387904] : List Int))).bind fun bt658 => ((spec_l1Cur_among.f s0_0 bt658.2.1 bt658.2.2 (([(-1), 0, 1, 31] : List Int))).bind fun bt664 => ((spec_l1Cur_among.f s0_0 bt664.2.1 bt664.2.2 (([1, 6, 4611686018427387904] : List Int))).bind fun bt670 => (some (bt658.1, (([bt664.1, bt670.1] : List Int)), bt670.2.1, bt670.2.2))))) else (if bt652.1 = 1 then (spec_l1Cur_circle.J0 (bt652.1 == 1) s0_0 bt652.2.1 bt652.2.2) else (if bt652.1 = 2 then (spec_l1Cur_circle.J0 (bt652.1 == 2) s0_0 bt652.2.1 bt652.2.2) else (if bt652.1 = 3 then (spec_l1Cur_circle.J0 (bt652.1 == 3) s0_0 bt652.2.1 bt652.2.2) else (spec_l1Cur_circle.J0 (bt652.1 == 4) s0_0 bt652.2.1 bt652.2.2)))))) :=
 Lim.unique (spec_l1Cur_circle.F_lim s0_0 s0_1 s0_2) (by
  unfold spec_l1Cur_circle.f
  repeat' (first | (with_reducible first | exact Lim.const _ | exact spec_l1Cur_circle.J0_lim _ _ _ _ | refine Lim.ite ?_ ?_ | refine Lim.bind ?_ (fun _ => ?_))))

end Go.Proofs.Ytofjndbpndpjjaa.Fn
namespace Go.Proofs.Ytofjndbpndpjjaa.Fn
open Go.RowKit Go.Proofs.YtofjndbpndpjjaaW.PrintWords Go.Proofs.YtofjndbpndpjjaaW.PrintLast Go.Proofs.YtofjndbpndpjjaaW.PrintMore
attribute [local go_sem] max2_int min2_int max_two min_two max_three min_three max_four min_four   -- for this text's walks alone
set_option linter.unusedVariables false
set_option linter.unusedSimpArgs false

/-! ### spec_DrawIsCircleSet: function 79 -/
def spec_DrawIsCircleSet.f (k : Nat) (l0 : List Int) : Option (Int × List Int) := (spec_l1Cur_circle.f k l0 0 0).bind fun bt735 => (some (bt735.1, bt735.2.1))
theorem spec_DrawIsCircleSet.mono : ∀ a0 k, LeO (spec_DrawIsCircleSet.f k a0) (spec_DrawIsCircleSet.f (k + 1) a0) := by
 intro a0 k
 unfold spec_DrawIsCircleSet.f
 repeat' (first | (with_reducible first | exact spec_l1Cur_circle.mono _ _ _ _ | exact LeO.refl _ | exact LeO.none _ | refine LeO.ite ?_ ?_ | refine LeO.bind ?_ (fun _ => ?_)) | exact spec_l1Cur_circle.mono _ _ _ _ | exact LeO.none _ | refine LeO.ite ?_ ?_ | refine LeO.bind ?_ (fun _ => ?_))
set_option maxHeartbeats 8000000 in
set_option maxRecDepth 100000 in
theorem spec_DrawIsCircleSet.calls (k : Nat) (A0 : Option Addr) (c0 : Nat) (l0 : List Int) (r1 : Int) (r2 : List Int) (w : World) (hr0 : Kd.C (Kd.int .u8) w A0 l0.length l0) (hc0 : l0.length ≤ c0) (h : spec_DrawIsCircleSet.f k l0 = some (r1, r2)) :
  Calls Try.prog 79 #[.slice A0 l0.length c0] w fun e w' => ∃ v1_ : Value, e = .returned (.tuple #[.int .i64 r1, v1_]) ∧ Kd.R (Kd.int .i64) 3 w' w.heap.size (fun _ => True) v1_ r2 ∧ Below w.heap.size w w' := by
 have hu58 := Try.underlying58
 have HR0 := Aside0.mk hr0
 have HC0 := Aside0.mk hc0
 clear hr0 hc0
 have HB := Aside0.mk (Below.refl w.heap.size w)
 have H := h
 unfold spec_DrawIsCircleSet.f at H
 clear h
 replace H := Option.bind_eq_some_iff.mp H
 obtain ⟨⟨t735, t736, t739, t740⟩, A20, H⟩ := H
 replace H : (some (t735, t736)) = some (r1, r2) := H
 have A2 := Aside0.mk A20
 clear A20
 simp only [Option.some.injEq, Prod.mk.injEq] at H
 obtain ⟨rfl, rfl⟩ := H
 go_enter Try.func79, Try.ntmps79
 go_wp2_with (first | ((with_reducible refine gate_dst (N := 7) rfl ?_); refine box_event ?hg (N := 7) ?hd (cs := #[.slice A0 l0.length c0, .int .i64 0, .int .u64 0]) (t := 58) ?hr ?_; (case hd => rfl); (case hg => rfl); (case hr => first | (go_simp; done) | (go_simp; rfl)); intro gb734 hg w3 hbox hb; have HI734 := Aside0.mk ((⟨_, _, hbox, (by rw [hg]; exact (szB HB) : w.heap.size ≤ gb734), HR0.out⟩ : IsS58 w w3 gb734 l0 0 0)); replace HB := upB HB hb; clear hb hbox hg) | ((with_reducible refine gate_callee (f := 95) rfl ?_); refine goesA (some 9) Try.func95 #[.pointer (some ⟨gb734, 0, none⟩)] ?_; (with_reducible refine (spec_l1Cur_circle.calls k gb734 l0 0 0 t735 t736 t739 t740 w _ ?side1 ?side2 A2.out).mono ?_); (case side1 => exact IsS58.at HI734); (case side2 => exact atB HB); rintro e w4 ⟨v737, rfl, ho0, hi, hb, hk⟩; refine ⟨_, rfl, ?_⟩; have HO738 := lowR ho0 HB; replace HB := Aside0.mk (hb); replace HI734 := Aside0.mk (hi); (try clear hb); (try clear hb2); (try clear hk); (try clear hi); (try clear ho0)))
 go_ret2
 exact ⟨_, eqr, atR HO738, atB HB⟩

noncomputable def spec_DrawIsCircleSet.F (l0 : List Int) : Option (Int × List Int) := lim fun k => spec_DrawIsCircleSet.f k l0
theorem spec_DrawIsCircleSet.F_lim (l0 : List Int) : Lim (fun k => spec_DrawIsCircleSet.f k l0) (spec_DrawIsCircleSet.F l0) := Lim.of fun k => spec_DrawIsCircleSet.mono l0 k
theorem spec_DrawIsCircleSet.F_eq (l0 : List Int) : spec_DrawIsCircleSet.F l0 = ((spec_l1Cur_circle.F l0 0 0).bind fun bt735 => (some (bt735.1, bt735.2.1))) :=
 Lim.unique (spec_DrawIsCircleSet.F_lim l0) (by
  unfold spec_DrawIsCircleSet.f
  repeat' (first | (with_reducible first | exact Lim.const _ | exact spec_l1Cur_circle.F_lim _ _ _ | refine Lim.ite ?_ ?_ | refine Lim.bind ?_ (fun _ => ?_))))

end Go.Proofs.Ytofjndbpndpjjaa.Fn
namespace Go.Proofs.Ytofjndbpndpjjaa.Fn
open Go.RowKit Go.Proofs.YtofjndbpndpjjaaW.PrintWords Go.Proofs.YtofjndbpndpjjaaW.PrintLast Go.Proofs.YtofjndbpndpjjaaW.PrintMore
attribute [local go_sem] max2_int min2_int max_two min_two max_three min_three max_four min_four   -- for this text's walks alone
set_option linter.unusedVariables false
set_option linter.unusedSimpArgs false

/-! ### spec_DrawLambdaOf: function 33 -/
def spec_DrawLambdaOf.f (k : Nat) (l0 : List Int) : Option (Int × List Int) := (spec_DrawIsCircleSet.f k l0).bind fun bt741 => (some (bt741.1, bt741.2))
theorem spec_DrawLambdaOf.mono : ∀ a0 k, LeO (spec_DrawLambdaOf.f k a0) (spec_DrawLambdaOf.f (k + 1) a0) := by
 intro a0 k
 unfold spec_DrawLambdaOf.f
 repeat' (first | (with_reducible first | exact spec_DrawIsCircleSet.mono _ _ | exact LeO.refl _ | exact LeO.none _ | refine LeO.ite ?_ ?_ | refine LeO.bind ?_ (fun _ => ?_)) | exact spec_DrawIsCircleSet.mono _ _ | exact LeO.none _ | refine LeO.ite ?_ ?_ | refine LeO.bind ?_ (fun _ => ?_))
set_option maxHeartbeats 8000000 in
set_option maxRecDepth 100000 in
theorem spec_DrawLambdaOf.calls (k : Nat) (A0 : Option Addr) (c0 : Nat) (l0 : List Int) (r1 : Int) (r2 : List Int) (w : World) (hr0 : Kd.C (Kd.int .u8) w A0 l0.length l0) (hc0 : l0.length ≤ c0) (h : spec_DrawLambdaOf.f k l0 = some (r1, r2)) :
  Calls Try.prog 33 #[.slice A0 l0.length c0] w fun e w' => ∃ v1_ : Value, e = .returned (.tuple #[.int .i64 r1, v1_]) ∧ Kd.R (Kd.int .i64) 3 w' w.heap.size (fun _ => True) v1_ r2 ∧ Below w.heap.size w w' := by
 have HR0 := Aside0.mk hr0
 have HC0 := Aside0.mk hc0
 clear hr0 hc0
 have HB := Aside0.mk (Below.refl w.heap.size w)
 have H := h
 unfold spec_DrawLambdaOf.f at H
 clear h
 replace H := Option.bind_eq_some_iff.mp H
 obtain ⟨⟨t741, t742⟩, A20, H⟩ := H
 replace H : (some (t741, t742)) = some (r1, r2) := H
 have A2 := Aside0.mk A20
 clear A20
 simp only [Option.some.injEq, Prod.mk.injEq] at H
 obtain ⟨rfl, rfl⟩ := H
 go_enter Try.func33, Try.ntmps33
 go_wp2_with (first | ((with_reducible refine gate_callee (f := 79) rfl ?_); refine goesA (some 5) Try.func79 #[.slice A0 l0.length c0] ?_; (with_reducible refine (spec_DrawIsCircleSet.calls k _ _ l0 t741 t742 _ ?side1 ?side2 A2.out).mono ?_); (case side1 => repeat (first | exact HR0.out | (with_reducible refine Kd.C_alloc ?_ _) | (with_reducible refine Kd.C_drewN ?_ _) | (with_reducible refine Kd.C_drew ?_))); (case side2 => exact HC0.out); rintro e w3 ⟨v743, rfl, ho0, hb⟩; refine ⟨_, rfl, ?_⟩; have HO744 := lowR ho0 HB; replace HB := upB HB hb; (try clear hb); (try clear hb2); (try clear hk); (try clear hi); (try clear ho0)))
 go_ret2
 exact ⟨_, eqr, atR HO744, atB HB⟩

noncomputable def spec_DrawLambdaOf.F (l0 : List Int) : Option (Int × List Int) := lim fun k => spec_DrawLambdaOf.f k l0
theorem spec_DrawLambdaOf.F_lim (l0 : List Int) : Lim (fun k => spec_DrawLambdaOf.f k l0) (spec_DrawLambdaOf.F l0) := Lim.of fun k => spec_DrawLambdaOf.mono l0 k
theorem spec_DrawLambdaOf.F_eq (l0 : List Int) : spec_DrawLambdaOf.F l0 = ((spec_DrawIsCircleSet.F l0).bind fun bt741 => (some (bt741.1, bt741.2))) :=
 Lim.unique (spec_DrawLambdaOf.F_lim l0) (by
  unfold spec_DrawLambdaOf.f
  repeat' (first | (with_reducible first | exact Lim.const _ | exact spec_DrawIsCircleSet.F_lim _ | refine Lim.ite ?_ ?_ | refine Lim.bind ?_ (fun _ => ?_))))

end Go.Proofs.Ytofjndbpndpjjaa.Fn
namespace Go.Proofs.Ytofjndbpndpjjaa.Fn
open Go.RowKit Go.Proofs.YtofjndbpndpjjaaW.PrintWords Go.Proofs.YtofjndbpndpjjaaW.PrintLast Go.Proofs.YtofjndbpndpjjaaW.PrintMore
attribute [local go_sem] max2_int min2_int max_two min_two max_three min_three max_four min_four   -- for this text's walks alone
set_option linter.unusedVariables false
set_option linter.unusedSimpArgs false

/-! ### spec_l1In: function 96 -/
def spec_l1In.f (a0 : Int) (a1 : Int) (a2 : Int) : Option (Bool) := if a0 ≥ a1 then (some (decide (a0 ≤ a2))) else (some false)
set_option maxHeartbeats 8000000 in
set_option maxRecDepth 100000 in
theorem spec_l1In.calls (a0 : Int) (a1 : Int) (a2 : Int) (r : Bool) (w : World) (h : spec_l1In.f a0 a1 a2 = some r) :
  Calls Try.prog 96 #[.int .i64 a0, .int .i64 a1, .int .i64 a2] w fun e w' => e = .returned (.bool r) ∧ Drawn0 w w' := by
 have H := h
 unfold spec_l1In.f at H
 clear h
 by_cases c4 : a0 ≥ a1
 ·rw [if_pos c4] at H
  have c4b0 : decide (a1 ≤ a0) = true := decide_eq_true c4
  clear c4
  obtain rfl := Option.some.inj H
  go_enter Try.func96, Try.ntmps96
  go_wp2
  go_ret
  exact ⟨by first | rfl | (simp; done) | (simp [*]; done), by repeat (first | exact Drawn0.refl _ | apply Drawn0.step)⟩
 ·rw [if_neg c4] at H
  have c4b0 : decide (a1 ≤ a0) = false := decide_eq_false c4
  clear c4
  obtain rfl := Option.some.inj H
  go_enter Try.func96, Try.ntmps96
  go_wp2
  go_ret
  exact ⟨by first | rfl | (simp; done) | (simp [*]; done), by repeat (first | exact Drawn0.refl _ | apply Drawn0.step)⟩


end Go.Proofs.Ytofjndbpndpjjaa.Fn
namespace Go.Proofs.Ytofjndbpndpjjaa.Fn
open Go.RowKit Go.Proofs.YtofjndbpndpjjaaW.PrintWords Go.Proofs.YtofjndbpndpjjaaW.PrintLast Go.Proofs.YtofjndbpndpjjaaW.PrintMore
attribute [local go_sem] max2_int min2_int max_two min_two max_three min_three max_four min_four   -- for this text's walks alone
set_option linter.unusedVariables false
set_option linter.unusedSimpArgs false

/-! ### spec_l1All: function 102 -/
def spec_l1All.l0 : Nat → Int → Int → List Int → Int → Int → Option (Bool)
 | 0, _, _, _, _, _ => none
 | k + 1, x1, x2, x9, x10, x11 => if x11 < x10 then (if 0 ≤ x11 then (if x11 < (x9.length : Int) then ((spec_l1In.f (rd x9 x11) x1 x2).bind fun t765 => (if t765 = true then (spec_l1All.l0 k x1 x2 x9 x10 (wrap64 (x11 + 1))) else (some false))) else (none)) else (none)) else (some true)
def spec_l1All.f (k : Nat) (l0 : List Int) (a1 : Int) (a2 : Int) : Option (Bool) := spec_l1All.l0 k a1 a2 l0 (l0.length : Int) 0
theorem spec_l1All.mono_l : ∀ k, (∀ y0 y1 y2 y3 y4, LeO (spec_l1All.l0 k y0 y1 y2 y3 y4) (spec_l1All.l0 (k + 1) y0 y1 y2 y3 y4))
 | 0 => fun _ _ _ _ _ r h => by simp [spec_l1All.l0] at h
 | k + 1 => by
  have ih0 := spec_l1All.mono_l k
  ·intro y0 y1 y2 y3 y4
   unfold spec_l1All.l0
   repeat' (first | (with_reducible first | exact ih0 _ _ _ _ _ | exact LeO.refl _ | exact LeO.none _ | refine LeO.ite ?_ ?_ | refine LeO.bind ?_ (fun _ => ?_)) | exact ih0 _ _ _ _ _ | exact LeO.none _ | refine LeO.ite ?_ ?_ | refine LeO.bind ?_ (fun _ => ?_))
theorem spec_l1All.mono : ∀ a0 a1 a2 k, LeO (spec_l1All.f k a0 a1 a2) (spec_l1All.f (k + 1) a0 a1 a2) := by
 intro a0 a1 a2 k
 have ih0 := spec_l1All.mono_l k
 unfold spec_l1All.f
 repeat' (first | (with_reducible first | exact ih0 _ _ _ _ _ | exact LeO.refl _ | exact LeO.none _ | refine LeO.ite ?_ ?_ | refine LeO.bind ?_ (fun _ => ?_)) | exact ih0 _ _ _ _ _ | exact LeO.none _ | refine LeO.ite ?_ ?_ | refine LeO.bind ?_ (fun _ => ?_))
set_option maxHeartbeats 8000000 in
set_option maxRecDepth 100000 in
theorem spec_l1All.calls (k : Nat) (A0 : Option Addr) (c0 : Nat) (l0 : List Int) (a1 : Int) (a2 : Int) (r : Bool) (w : World) (hr0 : Kd.C (Kd.int .i64) w A0 l0.length l0) (hc0 : l0.length ≤ c0) (h : spec_l1All.f k l0 a1 a2 = some r) :
  Calls Try.prog 102 #[.slice A0 l0.length c0, .int .i64 a1, .int .i64 a2] w fun e w' => e = .returned (.bool r) ∧ Drawn0 w w' := by
 have HR0 := Aside0.mk hr0
 have HC0 := Aside0.mk hc0
 clear hr0 hc0
 have H := h
 unfold spec_l1All.f at H
 clear h
 have H' := Aside0.mk H
 clear H
 go_enter Try.func102, Try.ntmps102
 go_wp2
 go_loopg [11] k (fun kq v11 w' => ∃ (x11_1 : Int), v11 = .int .i64 x11_1 ∧ Aside0 (spec_l1All.l0 kq a1 a2 l0 (l0.length : Int) x11_1 = some r) ∧ Aside0 (kq ≤ k) ∧ Drawn0 w w')
 case atStart => exact ⟨(0), eqd, H', ⟨Nat.le_refl _⟩, by repeat (first | exact Drawn0.refl _ | apply Drawn0.step)⟩
 case round =>
  clear H'
  try clear c1
  try clear p2
  obtain ⟨x11_1, rfl, HA, HK1, ⟨m1, rfl⟩⟩ := hrel
  cases gk with
  | zero => exact absurd HA.out (by simp [spec_l1All.l0])
  | succ k1 =>
   have H := HA.out
   clear HA
   simp only [spec_l1All.l0] at H
   by_cases c4 : x11_1 < (l0.length : Int)
   ·rw [if_pos c4] at H
    have c4b0 : decide (x11_1 < (l0.length : Int)) = true := decide_eq_true c4
    clear c4
    by_cases c5 : 0 ≤ x11_1
    ·rw [if_pos c5] at H
     have c5b0 : decide (0 ≤ x11_1) = true := decide_eq_true c5
     clear c5
     by_cases c6 : x11_1 < (l0.length : Int)
     ·rw [if_pos c6] at H
      have c6b0 : decide (x11_1 < (l0.length : Int)) = true := decide_eq_true c6
      clear c6
      replace H := Option.bind_eq_some_iff.mp H
      obtain ⟨t765, A70, H⟩ := H
      replace H : (if t765 = true then (spec_l1All.l0 k1 a1 a2 l0 (l0.length : Int) (wrap64 (x11_1 + 1))) else (some false)) = some r := H
      have A7 := Aside0.mk A70
      clear A70
      by_cases c8 : t765 = true
      ·subst c8
       have H1 : (spec_l1All.l0 k1 a1 a2 l0 (l0.length : Int) (wrap64 (x11_1 + 1))) = some r := by rw [if_pos rfl] at H; exact H
       clear H
       have H := H1
       clear H1
       have H' := Aside0.mk H
       clear H
       have p764 : 0 ≤ (x11_1 : Int) := ofd
       have q764 : x11_1 < (l0.length : Int) := ofd
       obtain ⟨ad764, e764, hx764_0⟩ := Kd.at_int HR0.out x11_1 p764 q764
       cases e764
       replace p764 := eq_true p764
       replace q764 := eq_true q764
       go_wp2_with (first | ((with_reducible refine gate_callee (f := 96) rfl ?_); refine goesA (some 18) Try.func96 #[.int .i64 (rd l0 x11_1), .int .i64 a1, .int .i64 a2] ?_; (with_reducible refine (spec_l1In.calls (rd l0 x11_1) a1 a2 true _ A7.out).mono ?_); rintro e w' ⟨rfl, ⟨nd, rfl⟩⟩; refine ⟨_, rfl, ?_⟩))
       go_roundg k1
       case measure => have := HK1.out; omega
       case rel => exact ⟨(wrap64 (x11_1 + 1)), eqd, H', ⟨by have := HK1.out; omega⟩, by repeat (first | exact Drawn0.refl _ | apply Drawn0.step)⟩
      ·replace c8 := Bool.eq_false_iff.mpr c8
       subst c8
       have H1 : (some false) = some r := by rw [if_neg (show ¬ (false = true) by decide)] at H; exact H
       clear H
       have H := H1
       clear H1
       obtain rfl := Option.some.inj H
       have p764 : 0 ≤ (x11_1 : Int) := ofd
       have q764 : x11_1 < (l0.length : Int) := ofd
       obtain ⟨ad764, e764, hx764_0⟩ := Kd.at_int HR0.out x11_1 p764 q764
       cases e764
       replace p764 := eq_true p764
       replace q764 := eq_true q764
       go_wp2_with (first | ((with_reducible refine gate_callee (f := 96) rfl ?_); refine goesA (some 18) Try.func96 #[.int .i64 (rd l0 x11_1), .int .i64 a1, .int .i64 a2] ?_; (with_reducible refine (spec_l1In.calls (rd l0 x11_1) a1 a2 false _ A7.out).mono ?_); rintro e w' ⟨rfl, ⟨nd, rfl⟩⟩; refine ⟨_, rfl, ?_⟩))
       go_ret
       exact ⟨by first | rfl | (simp; done) | (simp [*]; done), by repeat (first | exact Drawn0.refl _ | apply Drawn0.step)⟩
     ·rw [if_neg c6] at H
      exact absurd H (by simp)
    ·rw [if_neg c5] at H
     exact absurd H (by simp)
   ·rw [if_neg c4] at H
    have c4b0 : decide (x11_1 < (l0.length : Int)) = false := decide_eq_false c4
    clear c4
    obtain rfl := Option.some.inj H
    go_wp2
    go_ret
    exact ⟨by first | rfl | (simp; done) | (simp [*]; done), by repeat (first | exact Drawn0.refl _ | apply Drawn0.step)⟩

noncomputable def spec_l1All.L0 (x1 : Int) (x2 : Int) (x9 : List Int) (x10 : Int) (x11 : Int) : Option (Bool) := lim fun k => spec_l1All.l0 k x1 x2 x9 x10 x11
theorem spec_l1All.L0_lim (x1 : Int) (x2 : Int) (x9 : List Int) (x10 : Int) (x11 : Int) : Lim (fun k => spec_l1All.l0 k x1 x2 x9 x10 x11) (spec_l1All.L0 x1 x2 x9 x10 x11) := Lim.of fun k => (spec_l1All.mono_l k) x1 x2 x9 x10 x11
noncomputable def spec_l1All.F (l0 : List Int) (a1 : Int) (a2 : Int) : Option (Bool) := lim fun k => spec_l1All.f k l0 a1 a2
theorem spec_l1All.F_lim (l0 : List Int) (a1 : Int) (a2 : Int) : Lim (fun k => spec_l1All.f k l0 a1 a2) (spec_l1All.F l0 a1 a2) := Lim.of fun k => spec_l1All.mono l0 a1 a2 k
theorem spec_l1All.L0_eq (x1 : Int) (x2 : Int) (x9 : List Int) (x10 : Int) (x11 : Int) : spec_l1All.L0 x1 x2 x9 x10 x11 = (if x11 < x10 then (if 0 ≤ x11 then (if x11 < (x9.length : Int) then ((spec_l1In.f (rd x9 x11) x1 x2).bind fun t765 => (if t765 = true then (spec_l1All.L0 x1 x2 x9 x10 (wrap64 (x11 + 1))) else (some false))) else (none)) else (none)) else (some true)) :=
 Lim.step (f := fun k => spec_l1All.l0 (k + 1) x1 x2 x9 x10 x11) (spec_l1All.L0_lim x1 x2 x9 x10 x11) (fun _ => rfl) (by
  simp only [spec_l1All.l0]
  repeat' (first | (with_reducible first | exact Lim.const _ | exact spec_l1All.L0_lim _ _ _ _ _ | refine Lim.ite ?_ ?_ | refine Lim.bind ?_ (fun _ => ?_))))
theorem spec_l1All.F_eq (l0 : List Int) (a1 : Int) (a2 : Int) : spec_l1All.F l0 a1 a2 = (spec_l1All.L0 a1 a2 l0 (l0.length : Int) 0) :=
 Lim.unique (spec_l1All.F_lim l0 a1 a2) (by
  unfold spec_l1All.f
  repeat' (first | (with_reducible first | exact Lim.const _ | exact spec_l1All.L0_lim _ _ _ _ _ | refine Lim.ite ?_ ?_ | refine Lim.bind ?_ (fun _ => ?_))))

end Go.Proofs.Ytofjndbpndpjjaa.Fn
namespace Go.Proofs.Ytofjndbpndpjjaa.Fn
open Go.RowKit Go.Proofs.YtofjndbpndpjjaaW.PrintWords Go.Proofs.YtofjndbpndpjjaaW.PrintLast Go.Proofs.YtofjndbpndpjjaaW.PrintMore
attribute [local go_sem] max2_int min2_int max_two min_two max_three min_three max_four min_four   -- for this text's walks alone
set_option linter.unusedVariables false
set_option linter.unusedSimpArgs false

/-! ### spec_ciGood: function 82 -/
mutual
def spec_ciGood.j0 : Nat → List Int → Bool → Option (Bool)
 | 0, _, _ => none
 | k + 1, x1, x27 => if x27 = true then (some false) else (spec_ciGood.l0 k x1 1)
def spec_ciGood.l0 : Nat → List Int → Int → Option (Bool)
 | 0, _, _ => none
 | k + 1, x1, x5 => if x5 < (x1.length : Int) then (if 0 ≤ (wrap64 (x5 - 1)) then (if (wrap64 (x5 - 1)) < (x1.length : Int) then (if 0 ≤ x5 then (if (rd x1 (wrap64 (x5 - 1))) ≥ (rd x1 x5) then (some false) else (spec_ciGood.l0 k x1 (wrap64 (x5 + 1)))) else (none)) else (none)) else (none)) else (some true)
end
def spec_ciGood.f (k : Nat) (a0 : Int) (l1 : List Int) : Option (Bool) := (spec_l1In.f a0 2 31).bind fun t766 => (if t766 = true then ((spec_l1In.f (l1.length : Int) 1 8).bind fun t767 => (if t767 = true then (if (l1.length : Int) ≥ a0 then (spec_ciGood.j0 k l1 true) else ((spec_l1All.f k l1 0 (wrap64 (a0 - 1))).bind fun t768 => (spec_ciGood.j0 k l1 (!t768)))) else (spec_ciGood.j0 k l1 true))) else (spec_ciGood.j0 k l1 true))
theorem spec_ciGood.mono_l : ∀ k, (∀ y0 y1, LeO (spec_ciGood.j0 k y0 y1) (spec_ciGood.j0 (k + 1) y0 y1)) ∧ (∀ y0 y1, LeO (spec_ciGood.l0 k y0 y1) (spec_ciGood.l0 (k + 1) y0 y1))
 | 0 => ⟨fun _ _ r h => by simp [spec_ciGood.j0] at h, fun _ _ r h => by simp [spec_ciGood.l0] at h⟩
 | k + 1 => by
  obtain ⟨ih0, ih1⟩ := spec_ciGood.mono_l k
  refine ⟨?_, ?_⟩
  ·intro y0 y1
   unfold spec_ciGood.j0
   repeat' (first | (with_reducible first | exact ih1 _ _ | exact LeO.refl _ | exact LeO.none _ | refine LeO.ite ?_ ?_ | refine LeO.bind ?_ (fun _ => ?_)) | exact ih1 _ _ | exact LeO.none _ | refine LeO.ite ?_ ?_ | refine LeO.bind ?_ (fun _ => ?_))
  ·intro y0 y1
   unfold spec_ciGood.l0
   repeat' (first | (with_reducible first | exact ih1 _ _ | exact LeO.refl _ | exact LeO.none _ | refine LeO.ite ?_ ?_ | refine LeO.bind ?_ (fun _ => ?_)) | exact ih1 _ _ | exact LeO.none _ | refine LeO.ite ?_ ?_ | refine LeO.bind ?_ (fun _ => ?_))
theorem spec_ciGood.mono : ∀ a0 a1 k, LeO (spec_ciGood.f k a0 a1) (spec_ciGood.f (k + 1) a0 a1) := by
 intro a0 a1 k
 obtain ⟨ih0, ih1⟩ := spec_ciGood.mono_l k
 unfold spec_ciGood.f
 repeat' (first | (with_reducible first | exact ih0 _ _ | exact spec_l1All.mono _ _ _ _ | exact LeO.refl _ | exact LeO.none _ | refine LeO.ite ?_ ?_ | refine LeO.bind ?_ (fun _ => ?_)) | exact ih0 _ _ | exact spec_l1All.mono _ _ _ _ | exact LeO.none _ | refine LeO.ite ?_ ?_ | refine LeO.bind ?_ (fun _ => ?_))
set_option maxHeartbeats 8000000 in
set_option maxRecDepth 100000 in
theorem spec_ciGood.calls (k : Nat) (a0 : Int) (A1 : Option Addr) (c1 : Nat) (l1 : List Int) (r : Bool) (w : World) (hr1 : Kd.C (Kd.int .i64) w A1 l1.length l1) (hc1 : l1.length ≤ c1) (h : spec_ciGood.f k a0 l1 = some r) :
  Calls Try.prog 82 #[.int .i64 a0, .slice A1 l1.length c1] w fun e w' => e = .returned (.bool r) ∧ Drawn0 w w' := by
 have HR1 := Aside0.mk hr1
 have HC1 := Aside0.mk hc1
 clear hr1 hc1
 have H := h
 unfold spec_ciGood.f at H
 clear h
 have HC3 := Aside0.mk H
 clear H
 go_enter Try.func82, Try.ntmps82
 go_upto_region 1 with (fail)
 repeat (go_quiet (fail); go_upto_region 1 with (fail))
 go_cut [27] (fun v27 wc => ∃ (kq : Nat) (x27_2 : Bool), v27 = .bool x27_2 ∧ Aside0 (spec_ciGood.j0 kq l1 x27_2 = some r) ∧ Aside0 (kq ≤ k) ∧ Drawn0 w wc)
 case first =>
  have H := HC3.out
  clear HC3
  replace H := Option.bind_eq_some_iff.mp H
  obtain ⟨t766, A40, H⟩ := H
  replace H : (if t766 = true then ((spec_l1In.f (l1.length : Int) 1 8).bind fun t767 => (if t767 = true then (if (l1.length : Int) ≥ a0 then (spec_ciGood.j0 k l1 true) else ((spec_l1All.f k l1 0 (wrap64 (a0 - 1))).bind fun t768 => (spec_ciGood.j0 k l1 (!t768)))) else (spec_ciGood.j0 k l1 true))) else (spec_ciGood.j0 k l1 true)) = some r := H
  have A4 := Aside0.mk A40
  clear A40
  by_cases c5 : t766 = true
  ·subst c5
   have H1 : ((spec_l1In.f (l1.length : Int) 1 8).bind fun t767 => (if t767 = true then (if (l1.length : Int) ≥ a0 then (spec_ciGood.j0 k l1 true) else ((spec_l1All.f k l1 0 (wrap64 (a0 - 1))).bind fun t768 => (spec_ciGood.j0 k l1 (!t768)))) else (spec_ciGood.j0 k l1 true))) = some r := by rw [if_pos rfl] at H; exact H
   clear H
   have H := H1
   clear H1
   replace H := Option.bind_eq_some_iff.mp H
   obtain ⟨t767, A60, H⟩ := H
   replace H : (if t767 = true then (if (l1.length : Int) ≥ a0 then (spec_ciGood.j0 k l1 true) else ((spec_l1All.f k l1 0 (wrap64 (a0 - 1))).bind fun t768 => (spec_ciGood.j0 k l1 (!t768)))) else (spec_ciGood.j0 k l1 true)) = some r := H
   have A6 := Aside0.mk A60
   clear A60
   by_cases c7 : t767 = true
   ·subst c7
    have H1 : (if (l1.length : Int) ≥ a0 then (spec_ciGood.j0 k l1 true) else ((spec_l1All.f k l1 0 (wrap64 (a0 - 1))).bind fun t768 => (spec_ciGood.j0 k l1 (!t768)))) = some r := by rw [if_pos rfl] at H; exact H
    clear H
    have H := H1
    clear H1
    by_cases c8 : (l1.length : Int) ≥ a0
    ·rw [if_pos c8] at H
     have c8b0 : decide (a0 ≤ (l1.length : Int)) = true := decide_eq_true c8
     clear c8
     (first | rw [c8b0] | (simp only [i64_w, i32_w]; rw [c8b0]) | skip)
     have H' := Aside0.mk H
     clear H
     go_wp2_with (first | (go_at_call 96; (with_reducible refine (spec_l1In.calls a0 2 31 true _ A4.out).mono ?_); rintro e w' ⟨rfl, ⟨nd, rfl⟩⟩; (try first | exact ⟨rfl, _, World.drewN_drewN _ _ _⟩ | exact ⟨rfl, _, Eq.trans (World.drewN_drewN _ _ _) (congrArg (World.drewN _) (Nat.add_assoc _ _ _))⟩)) | (go_at_call 96; (with_reducible refine (spec_l1In.calls (l1.length : Int) 1 8 true _ A6.out).mono ?_); rintro e w' ⟨rfl, ⟨nd, rfl⟩⟩; (try first | exact ⟨rfl, _, World.drewN_drewN _ _ _⟩ | exact ⟨rfl, _, Eq.trans (World.drewN_drewN _ _ _) (congrArg (World.drewN _) (Nat.add_assoc _ _ _))⟩)))
     repeat (go_quiet (first | (go_at_call 96; (with_reducible refine (spec_l1In.calls a0 2 31 true _ A4.out).mono ?_); rintro e w' ⟨rfl, ⟨nd, rfl⟩⟩; (try first | exact ⟨rfl, _, World.drewN_drewN _ _ _⟩ | exact ⟨rfl, _, Eq.trans (World.drewN_drewN _ _ _) (congrArg (World.drewN _) (Nat.add_assoc _ _ _))⟩)) | (go_at_call 96; (with_reducible refine (spec_l1In.calls (l1.length : Int) 1 8 true _ A6.out).mono ?_); rintro e w' ⟨rfl, ⟨nd, rfl⟩⟩; (try first | exact ⟨rfl, _, World.drewN_drewN _ _ _⟩ | exact ⟨rfl, _, Eq.trans (World.drewN_drewN _ _ _) (congrArg (World.drewN _) (Nat.add_assoc _ _ _))⟩))); try go_wp2_with (first | (go_at_call 96; (with_reducible refine (spec_l1In.calls a0 2 31 true _ A4.out).mono ?_); rintro e w' ⟨rfl, ⟨nd, rfl⟩⟩; (try first | exact ⟨rfl, _, World.drewN_drewN _ _ _⟩ | exact ⟨rfl, _, Eq.trans (World.drewN_drewN _ _ _) (congrArg (World.drewN _) (Nat.add_assoc _ _ _))⟩)) | (go_at_call 96; (with_reducible refine (spec_l1In.calls (l1.length : Int) 1 8 true _ A6.out).mono ?_); rintro e w' ⟨rfl, ⟨nd, rfl⟩⟩; (try first | exact ⟨rfl, _, World.drewN_drewN _ _ _⟩ | exact ⟨rfl, _, Eq.trans (World.drewN_drewN _ _ _) (congrArg (World.drewN _) (Nat.add_assoc _ _ _))⟩))))
     go_meet
     case rel => exact ⟨_, (true), eqd, H', ⟨leD⟩, by repeat (first | exact Drawn0.refl _ | apply Drawn0.step)⟩
    ·rw [if_neg c8] at H
     have c8b0 : decide (a0 ≤ (l1.length : Int)) = false := decide_eq_false c8
     clear c8
     (first | rw [c8b0] | (simp only [i64_w, i32_w]; rw [c8b0]) | skip)
     replace H := Option.bind_eq_some_iff.mp H
     obtain ⟨t768, A90, H⟩ := H
     replace H : (spec_ciGood.j0 k l1 (!t768)) = some r := H
     have A9 := Aside0.mk A90
     clear A90
     have H' := Aside0.mk H
     clear H
     go_wp2_with (first | (go_at_call 96; (with_reducible refine (spec_l1In.calls a0 2 31 true _ A4.out).mono ?_); rintro e w' ⟨rfl, ⟨nd, rfl⟩⟩; (try first | exact ⟨rfl, _, World.drewN_drewN _ _ _⟩ | exact ⟨rfl, _, Eq.trans (World.drewN_drewN _ _ _) (congrArg (World.drewN _) (Nat.add_assoc _ _ _))⟩)) | (go_at_call 96; (with_reducible refine (spec_l1In.calls (l1.length : Int) 1 8 true _ A6.out).mono ?_); rintro e w' ⟨rfl, ⟨nd, rfl⟩⟩; (try first | exact ⟨rfl, _, World.drewN_drewN _ _ _⟩ | exact ⟨rfl, _, Eq.trans (World.drewN_drewN _ _ _) (congrArg (World.drewN _) (Nat.add_assoc _ _ _))⟩)) | (go_at_call 102; (with_reducible refine (spec_l1All.calls k _ _ l1 0 (wrap64 (a0 - 1)) t768 _ ?side1 ?side2 A9.out).mono ?_); (case side1 => repeat (first | exact HR1.out | (with_reducible refine Kd.C_alloc ?_ _) | (with_reducible refine Kd.C_drewN ?_ _) | (with_reducible refine Kd.C_drew ?_))); (case side2 => exact HC1.out); rintro e w' ⟨rfl, ⟨nd, rfl⟩⟩; (try first | exact ⟨rfl, _, World.drewN_drewN _ _ _⟩ | exact ⟨rfl, _, Eq.trans (World.drewN_drewN _ _ _) (congrArg (World.drewN _) (Nat.add_assoc _ _ _))⟩)))
     repeat (go_quiet (first | (go_at_call 96; (with_reducible refine (spec_l1In.calls a0 2 31 true _ A4.out).mono ?_); rintro e w' ⟨rfl, ⟨nd, rfl⟩⟩; (try first | exact ⟨rfl, _, World.drewN_drewN _ _ _⟩ | exact ⟨rfl, _, Eq.trans (World.drewN_drewN _ _ _) (congrArg (World.drewN _) (Nat.add_assoc _ _ _))⟩)) | (go_at_call 96; (with_reducible refine (spec_l1In.calls (l1.length : Int) 1 8 true _ A6.out).mono ?_); rintro e w' ⟨rfl, ⟨nd, rfl⟩⟩; (try first | exact ⟨rfl, _, World.drewN_drewN _ _ _⟩ | exact ⟨rfl, _, Eq.trans (World.drewN_drewN _ _ _) (congrArg (World.drewN _) (Nat.add_assoc _ _ _))⟩)) | (go_at_call 102; (with_reducible refine (spec_l1All.calls k _ _ l1 0 (wrap64 (a0 - 1)) t768 _ ?side1 ?side2 A9.out).mono ?_); (case side1 => repeat (first | exact HR1.out | (with_reducible refine Kd.C_alloc ?_ _) | (with_reducible refine Kd.C_drewN ?_ _) | (with_reducible refine Kd.C_drew ?_))); (case side2 => exact HC1.out); rintro e w' ⟨rfl, ⟨nd, rfl⟩⟩; (try first | exact ⟨rfl, _, World.drewN_drewN _ _ _⟩ | exact ⟨rfl, _, Eq.trans (World.drewN_drewN _ _ _) (congrArg (World.drewN _) (Nat.add_assoc _ _ _))⟩))); try go_wp2_with (first | (go_at_call 96; (with_reducible refine (spec_l1In.calls a0 2 31 true _ A4.out).mono ?_); rintro e w' ⟨rfl, ⟨nd, rfl⟩⟩; (try first | exact ⟨rfl, _, World.drewN_drewN _ _ _⟩ | exact ⟨rfl, _, Eq.trans (World.drewN_drewN _ _ _) (congrArg (World.drewN _) (Nat.add_assoc _ _ _))⟩)) | (go_at_call 96; (with_reducible refine (spec_l1In.calls (l1.length : Int) 1 8 true _ A6.out).mono ?_); rintro e w' ⟨rfl, ⟨nd, rfl⟩⟩; (try first | exact ⟨rfl, _, World.drewN_drewN _ _ _⟩ | exact ⟨rfl, _, Eq.trans (World.drewN_drewN _ _ _) (congrArg (World.drewN _) (Nat.add_assoc _ _ _))⟩)) | (go_at_call 102; (with_reducible refine (spec_l1All.calls k _ _ l1 0 (wrap64 (a0 - 1)) t768 _ ?side1 ?side2 A9.out).mono ?_); (case side1 => repeat (first | exact HR1.out | (with_reducible refine Kd.C_alloc ?_ _) | (with_reducible refine Kd.C_drewN ?_ _) | (with_reducible refine Kd.C_drew ?_))); (case side2 => exact HC1.out); rintro e w' ⟨rfl, ⟨nd, rfl⟩⟩; (try first | exact ⟨rfl, _, World.drewN_drewN _ _ _⟩ | exact ⟨rfl, _, Eq.trans (World.drewN_drewN _ _ _) (congrArg (World.drewN _) (Nat.add_assoc _ _ _))⟩))))
     go_meet
     case rel => exact ⟨_, (!t768), eqd, H', ⟨leD⟩, by repeat (first | exact Drawn0.refl _ | apply Drawn0.step)⟩
   ·replace c7 := Bool.eq_false_iff.mpr c7
    subst c7
    have H1 : (spec_ciGood.j0 k l1 true) = some r := by rw [if_neg (show ¬ (false = true) by decide)] at H; exact H
    clear H
    have H := H1
    clear H1
    have H' := Aside0.mk H
    clear H
    go_wp2_with (first | (go_at_call 96; (with_reducible refine (spec_l1In.calls a0 2 31 true _ A4.out).mono ?_); rintro e w' ⟨rfl, ⟨nd, rfl⟩⟩; (try first | exact ⟨rfl, _, World.drewN_drewN _ _ _⟩ | exact ⟨rfl, _, Eq.trans (World.drewN_drewN _ _ _) (congrArg (World.drewN _) (Nat.add_assoc _ _ _))⟩)) | (go_at_call 96; (with_reducible refine (spec_l1In.calls (l1.length : Int) 1 8 false _ A6.out).mono ?_); rintro e w' ⟨rfl, ⟨nd, rfl⟩⟩; (try first | exact ⟨rfl, _, World.drewN_drewN _ _ _⟩ | exact ⟨rfl, _, Eq.trans (World.drewN_drewN _ _ _) (congrArg (World.drewN _) (Nat.add_assoc _ _ _))⟩)))
    repeat (go_quiet (first | (go_at_call 96; (with_reducible refine (spec_l1In.calls a0 2 31 true _ A4.out).mono ?_); rintro e w' ⟨rfl, ⟨nd, rfl⟩⟩; (try first | exact ⟨rfl, _, World.drewN_drewN _ _ _⟩ | exact ⟨rfl, _, Eq.trans (World.drewN_drewN _ _ _) (congrArg (World.drewN _) (Nat.add_assoc _ _ _))⟩)) | (go_at_call 96; (with_reducible refine (spec_l1In.calls (l1.length : Int) 1 8 false _ A6.out).mono ?_); rintro e w' ⟨rfl, ⟨nd, rfl⟩⟩; (try first | exact ⟨rfl, _, World.drewN_drewN _ _ _⟩ | exact ⟨rfl, _, Eq.trans (World.drewN_drewN _ _ _) (congrArg (World.drewN _) (Nat.add_assoc _ _ _))⟩))); try go_wp2_with (first | (go_at_call 96; (with_reducible refine (spec_l1In.calls a0 2 31 true _ A4.out).mono ?_); rintro e w' ⟨rfl, ⟨nd, rfl⟩⟩; (try first | exact ⟨rfl, _, World.drewN_drewN _ _ _⟩ | exact ⟨rfl, _, Eq.trans (World.drewN_drewN _ _ _) (congrArg (World.drewN _) (Nat.add_assoc _ _ _))⟩)) | (go_at_call 96; (with_reducible refine (spec_l1In.calls (l1.length : Int) 1 8 false _ A6.out).mono ?_); rintro e w' ⟨rfl, ⟨nd, rfl⟩⟩; (try first | exact ⟨rfl, _, World.drewN_drewN _ _ _⟩ | exact ⟨rfl, _, Eq.trans (World.drewN_drewN _ _ _) (congrArg (World.drewN _) (Nat.add_assoc _ _ _))⟩))))
    go_meet
    case rel => exact ⟨_, (true), eqd, H', ⟨leD⟩, by repeat (first | exact Drawn0.refl _ | apply Drawn0.step)⟩
  ·replace c5 := Bool.eq_false_iff.mpr c5
   subst c5
   have H1 : (spec_ciGood.j0 k l1 true) = some r := by rw [if_neg (show ¬ (false = true) by decide)] at H; exact H
   clear H
   have H := H1
   clear H1
   have H' := Aside0.mk H
   clear H
   go_wp2_with (first | (go_at_call 96; (with_reducible refine (spec_l1In.calls a0 2 31 false _ A4.out).mono ?_); rintro e w' ⟨rfl, ⟨nd, rfl⟩⟩; (try first | exact ⟨rfl, _, World.drewN_drewN _ _ _⟩ | exact ⟨rfl, _, Eq.trans (World.drewN_drewN _ _ _) (congrArg (World.drewN _) (Nat.add_assoc _ _ _))⟩)))
   repeat (go_quiet (first | (go_at_call 96; (with_reducible refine (spec_l1In.calls a0 2 31 false _ A4.out).mono ?_); rintro e w' ⟨rfl, ⟨nd, rfl⟩⟩; (try first | exact ⟨rfl, _, World.drewN_drewN _ _ _⟩ | exact ⟨rfl, _, Eq.trans (World.drewN_drewN _ _ _) (congrArg (World.drewN _) (Nat.add_assoc _ _ _))⟩))); try go_wp2_with (first | (go_at_call 96; (with_reducible refine (spec_l1In.calls a0 2 31 false _ A4.out).mono ?_); rintro e w' ⟨rfl, ⟨nd, rfl⟩⟩; (try first | exact ⟨rfl, _, World.drewN_drewN _ _ _⟩ | exact ⟨rfl, _, Eq.trans (World.drewN_drewN _ _ _) (congrArg (World.drewN _) (Nat.add_assoc _ _ _))⟩))))
   go_meet
   case rel => exact ⟨_, (true), eqd, H', ⟨leD⟩, by repeat (first | exact Drawn0.refl _ | apply Drawn0.step)⟩
 case rest =>
  clear HC3
  try clear c1
  try clear p2
  try clear c5
  try clear p6
  try clear c7
  try clear c8
  try clear c8b0
  obtain ⟨kq, x27_2, rfl, HA, HJ2, ⟨mc2, rfl⟩⟩ := hcut
  cases kq with
  | zero => exact absurd HA.out (by simp [spec_ciGood.j0])
  | succ kj2 =>
   have H := HA.out
   clear HA
   simp only [spec_ciGood.j0] at H
   by_cases c10 : x27_2 = true
   ·subst c10
    have H1 : (some false) = some r := by rw [if_pos rfl] at H; exact H
    clear H
    have H := H1
    clear H1
    obtain rfl := Option.some.inj H
    go_wp2
    repeat (go_quiet (fail); try go_wp2)
    go_ret
    exact ⟨by first | rfl | (simp; done) | (simp [*]; done), by repeat (first | exact Drawn0.refl _ | apply Drawn0.step)⟩
   ·replace c10 := Bool.eq_false_iff.mpr c10
    subst c10
    have H1 : (spec_ciGood.l0 kj2 l1 1) = some r := by rw [if_neg (show ¬ (false = true) by decide)] at H; exact H
    clear H
    have H := H1
    clear H1
    have H' := Aside0.mk H
    clear H
    go_wp2
    repeat (go_quiet (fail); try go_wp2)
    go_loopg [5] kj2 (fun kq v5 w' => ∃ (x5_2 : Int), v5 = .int .i64 x5_2 ∧ Aside0 (spec_ciGood.l0 kq l1 x5_2 = some r) ∧ Aside0 (kq ≤ kj2) ∧ Drawn0 w w')
    case atStart => exact ⟨(1), eqd, H', ⟨Nat.le_refl _⟩, by repeat (first | exact Drawn0.refl _ | apply Drawn0.step)⟩
    case round =>
     clear H'
     try clear c1
     try clear c2
     try clear p2
     try clear c5
     try clear p6
     try clear c7
     try clear c8
     try clear c8b0
     try clear c10
     try clear p2
     try clear p6
     obtain ⟨x5_2, rfl, HA, HK2, ⟨m2, rfl⟩⟩ := hrel
     cases gk with
     | zero => exact absurd HA.out (by simp [spec_ciGood.l0])
     | succ k2 =>
      have H := HA.out
      clear HA
      simp only [spec_ciGood.l0] at H
      by_cases c11 : x5_2 < (l1.length : Int)
      ·rw [if_pos c11] at H
       have c11b0 : decide (x5_2 < (l1.length : Int)) = true := decide_eq_true c11
       clear c11
       obtain ⟨ji12, hji12⟩ : ∃ j_ : Int, (wrap64 (x5_2 - 1)) = j_ := ⟨_, rfl⟩
       replace H : (if 0 ≤ (ji12) then (if (ji12) < (l1.length : Int) then (if 0 ≤ x5_2 then (if (rd l1 (ji12)) ≥ (rd l1 x5_2) then (some false) else (spec_ciGood.l0 k2 l1 (wrap64 (x5_2 + 1)))) else (none)) else (none)) else (none)) = some r := by first | (rw [hji12] at H; exact H) | (simp only [hji12] at H ⊢; exact H)
       have hji12w : (IntKind.i64.wrap (x5_2 - 1)) = ji12 := (i64_w _).trans hji12
       by_cases c13 : 0 ≤ (ji12)
       ·rw [if_pos c13] at H
        have c13b0 : decide (0 ≤ (ji12)) = true := decide_eq_true c13
        clear c13
        by_cases c14 : (ji12) < (l1.length : Int)
        ·rw [if_pos c14] at H
         have c14b0 : decide ((ji12) < (l1.length : Int)) = true := decide_eq_true c14
         clear c14
         by_cases c15 : 0 ≤ x5_2
         ·rw [if_pos c15] at H
          have c15b0 : decide (0 ≤ x5_2) = true := decide_eq_true c15
          clear c15
          by_cases c16 : (rd l1 (ji12)) ≥ (rd l1 x5_2)
          ·rw [if_pos c16] at H
           have c16b0 : decide ((rd l1 x5_2) ≤ (rd l1 (ji12))) = true := decide_eq_true c16
           clear c16
           obtain rfl := Option.some.inj H
           have p769 : 0 ≤ ((ji12) : Int) := ofd
           have q769 : (ji12) < (l1.length : Int) := ofd
           obtain ⟨ad769, e769, hx769_0⟩ := Kd.at_int HR1.out (ji12) p769 q769
           cases e769
           replace p769 := eq_true p769
           replace q769 := eq_true q769
           have p770 : 0 ≤ (x5_2 : Int) := ofd
           have q770 : x5_2 < (l1.length : Int) := ofd
           obtain ⟨ad770, e770, hx770_0⟩ := Kd.at_int HR1.out x5_2 p770 q770
           obtain rfl : ad769 = ad770 := (by injection e770)
           replace p770 := eq_true p770
           replace q770 := eq_true q770
           go_wp2
           repeat (go_quiet (fail); try go_wp2)
           go_ret
           exact ⟨by first | rfl | (simp; done) | (simp only [← hji12] <;> (first | rfl | simp)) | (simp [*]; done), by repeat (first | exact Drawn0.refl _ | apply Drawn0.step)⟩
          ·rw [if_neg c16] at H
           have c16b0 : decide ((rd l1 x5_2) ≤ (rd l1 (ji12))) = false := decide_eq_false c16
           clear c16
           have H' := Aside0.mk H
           clear H
           have p769 : 0 ≤ ((ji12) : Int) := ofd
           have q769 : (ji12) < (l1.length : Int) := ofd
           obtain ⟨ad769, e769, hx769_0⟩ := Kd.at_int HR1.out (ji12) p769 q769
           cases e769
           replace p769 := eq_true p769
           replace q769 := eq_true q769
           have p770 : 0 ≤ (x5_2 : Int) := ofd
           have q770 : x5_2 < (l1.length : Int) := ofd
           obtain ⟨ad770, e770, hx770_0⟩ := Kd.at_int HR1.out x5_2 p770 q770
           obtain rfl : ad769 = ad770 := (by injection e770)
           replace p770 := eq_true p770
           replace q770 := eq_true q770
           go_wp2
           repeat (go_quiet (fail); try go_wp2)
           first | go_roundg k2 | ((try subst hji12); go_roundg k2)
           case measure => have := HJ2.out; have := HK2.out; omega
           case rel => exact ⟨(wrap64 (x5_2 + 1)), eqd, H', ⟨by have := HJ2.out; have := HK2.out; omega⟩, by repeat (first | exact Drawn0.refl _ | apply Drawn0.step)⟩
         ·rw [if_neg c15] at H
          exact absurd H (by simp)
        ·rw [if_neg c14] at H
         exact absurd H (by simp)
       ·rw [if_neg c13] at H
        exact absurd H (by simp)
      ·rw [if_neg c11] at H
       have c11b0 : decide (x5_2 < (l1.length : Int)) = false := decide_eq_false c11
       clear c11
       obtain rfl := Option.some.inj H
       go_wp2
       repeat (go_quiet (fail); try go_wp2)
       go_ret
       exact ⟨by first | rfl | (simp; done) | (simp [*]; done), by repeat (first | exact Drawn0.refl _ | apply Drawn0.step)⟩

noncomputable def spec_ciGood.J0 (x1 : List Int) (x27 : Bool) : Option (Bool) := lim fun k => spec_ciGood.j0 k x1 x27
theorem spec_ciGood.J0_lim (x1 : List Int) (x27 : Bool) : Lim (fun k => spec_ciGood.j0 k x1 x27) (spec_ciGood.J0 x1 x27) := Lim.of fun k => (spec_ciGood.mono_l k).1 x1 x27
noncomputable def spec_ciGood.L0 (x1 : List Int) (x5 : Int) : Option (Bool) := lim fun k => spec_ciGood.l0 k x1 x5
theorem spec_ciGood.L0_lim (x1 : List Int) (x5 : Int) : Lim (fun k => spec_ciGood.l0 k x1 x5) (spec_ciGood.L0 x1 x5) := Lim.of fun k => (spec_ciGood.mono_l k).2 x1 x5
noncomputable def spec_ciGood.F (a0 : Int) (l1 : List Int) : Option (Bool) := lim fun k => spec_ciGood.f k a0 l1
theorem spec_ciGood.F_lim (a0 : Int) (l1 : List Int) : Lim (fun k => spec_ciGood.f k a0 l1) (spec_ciGood.F a0 l1) := Lim.of fun k => spec_ciGood.mono a0 l1 k
theorem spec_ciGood.J0_eq (x1 : List Int) (x27 : Bool) : spec_ciGood.J0 x1 x27 = (if x27 = true then (some false) else (spec_ciGood.L0 x1 1)) :=
 Lim.step (f := fun k => spec_ciGood.j0 (k + 1) x1 x27) (spec_ciGood.J0_lim x1 x27) (fun _ => rfl) (by
  simp only [spec_ciGood.j0]
  repeat' (first | (with_reducible first | exact Lim.const _ | exact spec_ciGood.L0_lim _ _ | refine Lim.ite ?_ ?_ | refine Lim.bind ?_ (fun _ => ?_))))
theorem spec_ciGood.L0_eq (x1 : List Int) (x5 : Int) : spec_ciGood.L0 x1 x5 = (if x5 < (x1.length : Int) then (if 0 ≤ (wrap64 (x5 - 1)) then (if (wrap64 (x5 - 1)) < (x1.length : Int) then (if 0 ≤ x5 then (if (rd x1 (wrap64 (x5 - 1))) ≥ (rd x1 x5) then (some false) else (spec_ciGood.L0 x1 (wrap64 (x5 + 1)))) else (none)) else (none)) else (none)) else (some true)) :=
 Lim.step (f := fun k => spec_ciGood.l0 (k + 1) x1 x5) (spec_ciGood.L0_lim x1 x5) (fun _ => rfl) (by
  simp only [spec_ciGood.l0]
  repeat' (first | (with_reducible first | exact Lim.const _ | exact spec_ciGood.L0_lim _ _ | refine Lim.ite ?_ ?_ | refine Lim.bind ?_ (fun _ => ?_))))
theorem spec_ciGood.F_eq (a0 : Int) (l1 : List Int) : spec_ciGood.F a0 l1 = ((spec_l1In.f a0 2 31).bind fun t766 => (if t766 = true then ((spec_l1In.f (l1.length : Int) 1 8).bind fun t767 => (if t767 = true then (if (l1.length : Int) ≥ a0 then (spec_ciGood.J0 l1 true) else ((spec_l1All.F l1 0 (wrap64 (a0 - 1))).bind fun t768 => (spec_ciGood.J0 l1 (!t768)))) else (spec_ciGood.J0 l1 true))) else (spec_ciGood.J0 l1 true))) :=
 Lim.unique (spec_ciGood.F_lim a0 l1) (by
  unfold spec_ciGood.f
  repeat' (first | (with_reducible first | exact Lim.const _ | exact spec_ciGood.J0_lim _ _ | exact spec_l1All.F_lim _ _ _ | refine Lim.ite ?_ ?_ | refine Lim.bind ?_ (fun _ => ?_))))

end Go.Proofs.Ytofjndbpndpjjaa.Fn
namespace Go.Proofs.Ytofjndbpndpjjaa.Fn
open Go.RowKit Go.Proofs.YtofjndbpndpjjaaW.PrintWords Go.Proofs.YtofjndbpndpjjaaW.PrintLast Go.Proofs.YtofjndbpndpjjaaW.PrintMore
attribute [local go_sem] max2_int min2_int max_two min_two max_three min_three max_four min_four   -- for this text's walks alone
set_option linter.unusedVariables false
set_option linter.unusedSimpArgs false

/-! ### spec_ciAdd: function 103 -/
mutual
def spec_ciAdd.l0 : Nat → Int → List Int → List Int → List Int → Int → Int → Option (List Int)
 | 0, _, _, _, _, _, _ => none
 | k + 1, x0, x1, x2, x10, x11, x12 => if x12 < x11 then (if 0 ≤ x12 then (if x12 < (x10.length : Int) then (spec_ciAdd.l1 k x0 x1 x2 x12 (rd x10 x12) x10 x11 x12 x1 (x1.length : Int) 0) else (none)) else (none)) else (some x2)
def spec_ciAdd.l1 : Nat → Int → List Int → List Int → Int → Int → List Int → Int → Int → List Int → Int → Int → Option (List Int)
 | 0, _, _, _, _, _, _, _, _, _, _, _ => none
 | k + 1, x0, x1, x2, x6, x7, x10, x11, x12, x17, x18, x19 => if x19 < x18 then (if 0 ≤ x19 then (if x19 < (x17.length : Int) then (if x6 = x19 then (spec_ciAdd.l1 k x0 x1 x2 x6 x7 x10 x11 x12 x17 x18 (wrap64 (x19 + 1))) else (if x0 = 0 then (none) else (if 0 ≤ (Int.tmod (wrap64 ((wrap64 (x7 - (rd x17 x19))) + x0)) x0) then (if (Int.tmod (wrap64 ((wrap64 (x7 - (rd x17 x19))) + x0)) x0) < (x2.length : Int) then (spec_ciAdd.l1 k x0 x1 (x2.set ((Int.tmod (wrap64 ((wrap64 (x7 - (rd x17 x19))) + x0)) x0) : Int).toNat (wrap64 ((rd x2 (Int.tmod (wrap64 ((wrap64 (x7 - (rd x17 x19))) + x0)) x0)) + 1))) x6 x7 x10 x11 x12 x17 x18 (wrap64 (x19 + 1))) else (none)) else (none)))) else (none)) else (none)) else (spec_ciAdd.l0 k x0 x1 x2 x10 x11 (wrap64 (x12 + 1)))
end
def spec_ciAdd.f (k : Nat) (a0 : Int) (l1 : List Int) (l2 : List Int) : Option (List Int) := spec_ciAdd.l0 k a0 l1 l2 l1 (l1.length : Int) 0
theorem spec_ciAdd.mono_l : ∀ k, (∀ y0 y1 y2 y3 y4 y5, LeO (spec_ciAdd.l0 k y0 y1 y2 y3 y4 y5) (spec_ciAdd.l0 (k + 1) y0 y1 y2 y3 y4 y5)) ∧ (∀ y0 y1 y2 y3 y4 y5 y6 y7 y8 y9 y10, LeO (spec_ciAdd.l1 k y0 y1 y2 y3 y4 y5 y6 y7 y8 y9 y10) (spec_ciAdd.l1 (k + 1) y0 y1 y2 y3 y4 y5 y6 y7 y8 y9 y10))
 | 0 => ⟨fun _ _ _ _ _ _ r h => by simp [spec_ciAdd.l0] at h, fun _ _ _ _ _ _ _ _ _ _ _ r h => by simp [spec_ciAdd.l1] at h⟩
 | k + 1 => by
  obtain ⟨ih0, ih1⟩ := spec_ciAdd.mono_l k
  refine ⟨?_, ?_⟩
  ·intro y0 y1 y2 y3 y4 y5
   unfold spec_ciAdd.l0
   repeat' (first | (with_reducible first | exact ih1 _ _ _ _ _ _ _ _ _ _ _ | exact LeO.refl _ | exact LeO.none _ | refine LeO.ite ?_ ?_ | refine LeO.bind ?_ (fun _ => ?_)) | exact ih1 _ _ _ _ _ _ _ _ _ _ _ | exact LeO.none _ | refine LeO.ite ?_ ?_ | refine LeO.bind ?_ (fun _ => ?_))
  ·intro y0 y1 y2 y3 y4 y5 y6 y7 y8 y9 y10
   unfold spec_ciAdd.l1
   repeat' (first | (with_reducible first | exact ih0 _ _ _ _ _ _ | exact ih1 _ _ _ _ _ _ _ _ _ _ _ | exact LeO.refl _ | exact LeO.none _ | refine LeO.ite ?_ ?_ | refine LeO.bind ?_ (fun _ => ?_)) | exact ih0 _ _ _ _ _ _ | exact ih1 _ _ _ _ _ _ _ _ _ _ _ | exact LeO.none _ | refine LeO.ite ?_ ?_ | refine LeO.bind ?_ (fun _ => ?_))
theorem spec_ciAdd.mono : ∀ a0 a1 a2 k, LeO (spec_ciAdd.f k a0 a1 a2) (spec_ciAdd.f (k + 1) a0 a1 a2) := by
 intro a0 a1 a2 k
 obtain ⟨ih0, ih1⟩ := spec_ciAdd.mono_l k
 unfold spec_ciAdd.f
 repeat' (first | (with_reducible first | exact ih0 _ _ _ _ _ _ | exact LeO.refl _ | exact LeO.none _ | refine LeO.ite ?_ ?_ | refine LeO.bind ?_ (fun _ => ?_)) | exact ih0 _ _ _ _ _ _ | exact LeO.none _ | refine LeO.ite ?_ ?_ | refine LeO.bind ?_ (fun _ => ?_))
set_option maxHeartbeats 8000000 in
set_option maxRecDepth 100000 in
theorem spec_ciAdd.calls (k : Nat) (a0 : Int) (A1 : Option Addr) (c1 : Nat) (l1 : List Int) (P2_ : Nat → Prop) (u9000_ : Value) (l2 : List Int) (r : List Int) (w0 w : World) (hB : Below w0.heap.size w0 w) (hr1 : ∀ W_, Kept w W_ (fun k_ => P2_ k_) → Kd.C (Kd.int .i64) W_ A1 l1.length l1) (hc1 : l1.length ≤ c1) (ho2 : Kd.R (Kd.int .i64) 3 w w0.heap.size P2_ u9000_ l2) (h : spec_ciAdd.f k a0 l1 l2 = some r) :
  Calls Try.prog 103 #[.int .i64 a0, .slice A1 l1.length c1, u9000_] w fun e w' => e = .returned (.tuple #[]) ∧ Kd.R (Kd.int .i64) 3 w' w0.heap.size (fun k_ => (P2_ k_ ∨ w.heap.size ≤ k_)) u9000_ r ∧ Below w0.heap.size w0 w' ∧ Kept w w' (fun k_ => P2_ k_) := by
 have HR1 := Aside0.mk hr1
 have HC1 := Aside0.mk hc1
 clear hr1 hc1
 have HO2 := Aside0.mk (show Kd.R (Kd.int .i64) 3 w w0.heap.size (fun k_ => (P2_ k_ ∨ w.heap.size ≤ k_)) u9000_ l2 from Kd.R_mono ho2 (fun k_ hk => (.inl hk)))
 have HK := Aside0.mk (Kept.refl w (fun k_ => P2_ k_))
 have HW0 := Aside0.mk hB.size
 have HB := Aside0.mk hB
 clear hB
 have H := h
 unfold spec_ciAdd.f at H
 clear h
 have H' := Aside0.mk H
 clear H
 go_enter Try.func103, Try.ntmps103
 go_wp2
 go_loopg [12] k (fun kq v12 w' => ∃ (x2_1 : List Int) (x12_1 : Int), v12 = .int .i64 x12_1 ∧ Aside0 (spec_ciAdd.l0 kq a0 l1 x2_1 l1 (l1.length : Int) x12_1 = some r) ∧ Aside0 (kq ≤ k) ∧ Aside0 (Kd.R (Kd.int .i64) 3 w' w0.heap.size (fun k_ => (P2_ k_ ∨ w.heap.size ≤ k_)) u9000_ x2_1) ∧ Aside0 (Kept w w' (fun k_ => P2_ k_)) ∧ Aside0 (Below w0.heap.size w0 w'))
 case atStart => exact ⟨(l2), (0), eqd, H', ⟨Nat.le_refl _⟩, ⟨atR HO2⟩, ⟨by repeat (first | (with_reducible first | exact HK.out | apply Kept.alloc | apply Kept.drewN | apply Kept.drew) | exact HK.out)⟩, ⟨atB HB⟩⟩
 case round =>
  clear H'
  try clear c1
  try clear p2
  obtain ⟨x2_1, x12_1, rfl, HA, HK1, HO_2, HK, HB⟩ := hrel
  cases gk with
  | zero => exact absurd HA.out (by simp [spec_ciAdd.l0])
  | succ k1 =>
   have H := HA.out
   clear HA
   simp only [spec_ciAdd.l0] at H
   by_cases c4 : x12_1 < (l1.length : Int)
   ·rw [if_pos c4] at H
    have c4b0 : decide (x12_1 < (l1.length : Int)) = true := decide_eq_true c4
    clear c4
    by_cases c5 : 0 ≤ x12_1
    ·rw [if_pos c5] at H
     have c5b0 : decide (0 ≤ x12_1) = true := decide_eq_true c5
     clear c5
     by_cases c6 : x12_1 < (l1.length : Int)
     ·rw [if_pos c6] at H
      have c6b0 : decide (x12_1 < (l1.length : Int)) = true := decide_eq_true c6
      clear c6
      have H' := Aside0.mk H
      clear H
      have p771 : 0 ≤ (x12_1 : Int) := ofd
      have q771 : x12_1 < (l1.length : Int) := ofd
      obtain ⟨ad771, e771, hx771_0⟩ := Kd.at_int (Kd.C_kept_now HR1.out HK.out) x12_1 p771 q771
      cases e771
      replace p771 := eq_true p771
      replace q771 := eq_true q771
      go_wp2
      go_loopg [19] k1 (fun kq v19 w' => ∃ (x2_2 : List Int) (x19_2 : Int), v19 = .int .i64 x19_2 ∧ Aside0 (spec_ciAdd.l1 kq a0 l1 x2_2 x12_1 (rd l1 x12_1) l1 (l1.length : Int) x12_1 l1 (l1.length : Int) x19_2 = some r) ∧ Aside0 (kq ≤ k1) ∧ Aside0 (Kd.R (Kd.int .i64) 3 w' w0.heap.size (fun k_ => (P2_ k_ ∨ w.heap.size ≤ k_)) u9000_ x2_2) ∧ Aside0 (Kept w w' (fun k_ => P2_ k_)) ∧ Aside0 (Below w0.heap.size w0 w'))
      case atStart => exact ⟨(x2_1), (0), eqd, H', ⟨Nat.le_refl _⟩, ⟨atR HO_2⟩, ⟨by repeat (first | (with_reducible first | exact HK.out | apply Kept.alloc | apply Kept.drewN | apply Kept.drew) | exact HK.out)⟩, ⟨atB HB⟩⟩
      case round =>
       clear H'
       try clear c1
       try clear p2
       try clear c4
       try clear c4b0
       try clear c5
       try clear c5b0
       try clear c6
       try clear c6b0
       try clear hx771_0
       try clear p2
       try clear p771
       try clear q771
       obtain ⟨x2_2, x19_2, rfl, HA, HK2, HO_2, HK, HB⟩ := hrel
       cases gk with
       | zero => exact absurd HA.out (by simp [spec_ciAdd.l1])
       | succ k2 =>
        have H := HA.out
        clear HA
        simp only [spec_ciAdd.l1] at H
        by_cases c7 : x19_2 < (l1.length : Int)
        ·rw [if_pos c7] at H
         have c7b0 : decide (x19_2 < (l1.length : Int)) = true := decide_eq_true c7
         clear c7
         by_cases c8 : 0 ≤ x19_2
         ·rw [if_pos c8] at H
          have c8b0 : decide (0 ≤ x19_2) = true := decide_eq_true c8
          clear c8
          by_cases c9 : x19_2 < (l1.length : Int)
          ·rw [if_pos c9] at H
           have c9b0 : decide (x19_2 < (l1.length : Int)) = true := decide_eq_true c9
           clear c9
           by_cases c10 : x12_1 = x19_2
           ·rw [if_pos c10] at H
            have c10b0 : (x12_1 == x19_2) = true := beq_iff_eq.mpr c10
            have c10b1 : (x12_1 != x19_2) = false := bne_eq_false_iff_eq.mpr c10
            clear c10
            have H' := Aside0.mk H
            clear H
            have p772 : 0 ≤ (x19_2 : Int) := ofd
            have q772 : x19_2 < (l1.length : Int) := ofd
            obtain ⟨ad772, e772, hx772_0⟩ := Kd.at_int (Kd.C_kept_now HR1.out HK.out) x19_2 p772 q772
            obtain rfl : ad771 = ad772 := (by injection e772)
            replace p772 := eq_true p772
            replace q772 := eq_true q772
            go_wp2
            go_roundg k2
            case measure => have := HK1.out; have := HK2.out; omega
            case rel => exact ⟨(x2_2), (wrap64 (x19_2 + 1)), eqd, H', ⟨by have := HK1.out; have := HK2.out; omega⟩, ⟨atR HO_2⟩, ⟨by repeat (first | (with_reducible first | exact HK.out | apply Kept.alloc | apply Kept.drewN | apply Kept.drew) | exact HK.out)⟩, ⟨atB HB⟩⟩
           ·rw [if_neg c10] at H
            have c10b0 : (x12_1 == x19_2) = false := beq_eq_false_iff_ne.mpr c10
            have c10b1 : (x12_1 != x19_2) = true := bne_iff_ne.mpr c10
            by_cases c11 : a0 = 0
            ·rw [if_pos c11] at H
             exact absurd H (by simp)
            ·rw [if_neg c11] at H
             have c11b0 : (a0 == 0) = false := beq_eq_false_iff_ne.mpr c11
             have c11b1 : (a0 != 0) = true := bne_iff_ne.mpr c11
             obtain ⟨ji12, hji12⟩ : ∃ j_ : Int, (Int.tmod (wrap64 ((wrap64 ((rd l1 x12_1) - (rd l1 x19_2))) + a0)) a0) = j_ := ⟨_, rfl⟩
             replace H : (if 0 ≤ (ji12) then (if (ji12) < (x2_2.length : Int) then (spec_ciAdd.l1 k2 a0 l1 (x2_2.set ((ji12) : Int).toNat (wrap64 ((rd x2_2 (ji12)) + 1))) x12_1 (rd l1 x12_1) l1 (l1.length : Int) x12_1 l1 (l1.length : Int) (wrap64 (x19_2 + 1))) else (none)) else (none)) = some r := by first | (rw [hji12] at H; exact H) | (simp only [hji12] at H ⊢; exact H)
             by_cases c13 : 0 ≤ (ji12)
             ·rw [if_pos c13] at H
              have c13b0 : decide (0 ≤ (ji12)) = true := decide_eq_true c13
              clear c13
              by_cases c14 : (ji12) < (x2_2.length : Int)
              ·rw [if_pos c14] at H
               have c14b0 : decide ((ji12) < (x2_2.length : Int)) = true := decide_eq_true c14
               clear c14
               obtain ⟨y774, hy774⟩ : ∃ y_ : List Int, y_ = (x2_2.set ((ji12) : Int).toNat (wrap64 ((rd x2_2 (ji12)) + 1))) := ⟨_, rfl⟩
               replace H : (spec_ciAdd.l1 k2 a0 l1 y774 x12_1 (rd l1 x12_1) l1 (l1.length : Int) x12_1 l1 (l1.length : Int) (wrap64 (x19_2 + 1))) = some r := by first | (rw [hy774]; with_reducible exact H) | (have H2_ := (Option.bind_some _ _).symm.trans H; rw [hy774]; with_reducible exact H2_) | (have H2_ := (Option.bind_some _ _).symm.trans H; with_reducible exact H2_) | with_reducible exact H | (rw [hy774]; exact H) | exact H
               have Ny774 := Aside0.mk hy774
               clear hy774
               have H' := Aside0.mk H
               clear H
               have p772 : 0 ≤ (x19_2 : Int) := ofd
               have q772 : x19_2 < (l1.length : Int) := ofd
               obtain ⟨ad772, e772, hx772_0⟩ := Kd.at_int (Kd.C_kept_now HR1.out HK.out) x19_2 p772 q772
               obtain rfl : ad771 = ad772 := (by injection e772)
               replace p772 := eq_true p772
               replace q772 := eq_true q772
               obtain ⟨Ao16, co16, eo16⟩ := Kd.R_slice HO_2.out
               subst eo16
               have p773 : 0 ≤ ((ji12) : Int) := ofd
               have q773 : (ji12) < (x2_2.length : Int) := ofd
               obtain ⟨ad773, e773, hx773_0⟩ := Kd.at_int (Kd.R_reads' HO_2.out).2.2 (ji12) p773 q773
               cases e773
               replace p773 := eq_true p773
               replace q773 := eq_true q773
               have p15 : 0 ≤ ((ji12) : Int) := ofd
               have q15 : ((ji12) : Int) < ((x2_2.length : Int) : Int) := ofd
               obtain ⟨go15, co15, eo15, gb15, gl15, cl15, HG15⟩ := Kd.R_form HO_2.out (by omega)
               (first | cases eo15 | (injection eo15 with ea_ en_ ec_; (first | subst ea_ | (injection ea_ with ea_; subst ea_)); subst ec_; clear en_))
               have GB15 := Aside0.mk gb15
               have GG15 := Aside0.mk HG15
               clear gb15 gl15 HG15
               have HMgo15 := Aside0.mk (show (P2_ go15 ∨ w.heap.size ≤ go15) from (HO_2.out.1 _ rfl))
               (first | simp only [add_plain] at hx773_0 | skip)
               obtain ⟨hx15_0, hf15_0⟩ := Kd.R_celln 0 HO_2.out ((ji12) : Int) p15 q15
               replace p15 := eq_true p15
               replace q15 := eq_true q15
               have HP17 := Kd.R_putg HO_2.out ((ji12) : Int) (wrap64 ((rd x2_2 (ji12)) + 1))
               go_wp2_with (first | ((with_reducible refine gate_store (t := 3) (p := 38) rfl ?_); refine store_event (t := 3) (p := 38) (v := ?vo_w18) (w1 := (wr.setCell ⟨go15, ((ji12) : Int).toNat, none⟩ (.int .i64 (wrap64 ((rd x2_2 (ji12)) + 1))))) ?hg ?ho ?hn ?hr ?_; (case ho => rfl); (case hg => rfl); (case hn => rfl); (case hr => first | (go_simp; done) | (go_simp; rfl)); intro w18 hw; have hg : wr.grownBy w18 (some go15) := (by rw [hw]; exact HP17.2); have hp_ : Kd.R (Kd.int .i64) 3 w18 w0.heap.size (fun k_ => (P2_ k_ ∨ w.heap.size ≤ k_)) (.slice (some ⟨go15, 0, none⟩) x2_2.length co16) y774 := (by rw [hw, Ny774.out]; exact HP17.1); clear HP17; replace HB := Aside0.mk ((by rw [hw]; exact below_set (HB.out) GB15.out : Below w0.heap.size w0 w18)); replace HK := Aside0.mk (Kept.of_grown (S := (fun k_ => P2_ k_)) hg (by repeat (first | (with_reducible first | exact HK.out | apply Kept.alloc | apply Kept.drewN | apply Kept.drew) | exact HK.out)) (fun k_ e_ => (HO_2.out.1 k_ e_))); replace HO_2 := Aside0.mk (hp_); clear hg hw hp_))
               first | go_roundg k2 | ((try subst hji12); go_roundg k2)
               case measure => have := HK1.out; have := HK2.out; omega
               case rel => exact ⟨(y774), (wrap64 (x19_2 + 1)), eqd, H', ⟨by have := HK1.out; have := HK2.out; omega⟩, ⟨atR HO_2⟩, ⟨by repeat (first | (with_reducible first | exact HK.out | apply Kept.alloc | apply Kept.drewN | apply Kept.drew) | exact HK.out)⟩, ⟨atB HB⟩⟩
              ·rw [if_neg c14] at H
               exact absurd H (by simp)
             ·rw [if_neg c13] at H
              exact absurd H (by simp)
          ·rw [if_neg c9] at H
           exact absurd H (by simp)
         ·rw [if_neg c8] at H
          exact absurd H (by simp)
        ·rw [if_neg c7] at H
         have c7b0 : decide (x19_2 < (l1.length : Int)) = false := decide_eq_false c7
         clear c7
         have H' := Aside0.mk H
         clear H
         go_wp2
         go_roundg k2
         case measure => have := HK1.out; have := HK2.out; omega
         case rel => exact ⟨(x2_2), (wrap64 (x12_1 + 1)), eqd, H', ⟨by have := HK1.out; have := HK2.out; omega⟩, ⟨atR HO_2⟩, ⟨by repeat (first | (with_reducible first | exact HK.out | apply Kept.alloc | apply Kept.drewN | apply Kept.drew) | exact HK.out)⟩, ⟨atB HB⟩⟩
     ·rw [if_neg c6] at H
      exact absurd H (by simp)
    ·rw [if_neg c5] at H
     exact absurd H (by simp)
   ·rw [if_neg c4] at H
    have c4b0 : decide (x12_1 < (l1.length : Int)) = false := decide_eq_false c4
    clear c4
    obtain rfl := Option.some.inj H
    go_wp2
    first | go_end0 | ((try simp only [Exit.inBlock, Exit.then]); refine bodyPost_ret (results_none rfl _ _ _) rfl ?_)
    exact ⟨eqr, atR HO_2, atB HB, by repeat (first | (with_reducible first | exact HK.out | apply Kept.alloc | apply Kept.drewN | apply Kept.drew) | exact HK.out)⟩

noncomputable def spec_ciAdd.L0 (x0 : Int) (x1 : List Int) (x2 : List Int) (x10 : List Int) (x11 : Int) (x12 : Int) : Option (List Int) := lim fun k => spec_ciAdd.l0 k x0 x1 x2 x10 x11 x12
theorem spec_ciAdd.L0_lim (x0 : Int) (x1 : List Int) (x2 : List Int) (x10 : List Int) (x11 : Int) (x12 : Int) : Lim (fun k => spec_ciAdd.l0 k x0 x1 x2 x10 x11 x12) (spec_ciAdd.L0 x0 x1 x2 x10 x11 x12) := Lim.of fun k => (spec_ciAdd.mono_l k).1 x0 x1 x2 x10 x11 x12
noncomputable def spec_ciAdd.L1 (x0 : Int) (x1 : List Int) (x2 : List Int) (x6 : Int) (x7 : Int) (x10 : List Int) (x11 : Int) (x12 : Int) (x17 : List Int) (x18 : Int) (x19 : Int) : Option (List Int) := lim fun k => spec_ciAdd.l1 k x0 x1 x2 x6 x7 x10 x11 x12 x17 x18 x19
theorem spec_ciAdd.L1_lim (x0 : Int) (x1 : List Int) (x2 : List Int) (x6 : Int) (x7 : Int) (x10 : List Int) (x11 : Int) (x12 : Int) (x17 : List Int) (x18 : Int) (x19 : Int) : Lim (fun k => spec_ciAdd.l1 k x0 x1 x2 x6 x7 x10 x11 x12 x17 x18 x19) (spec_ciAdd.L1 x0 x1 x2 x6 x7 x10 x11 x12 x17 x18 x19) := Lim.of fun k => (spec_ciAdd.mono_l k).2 x0 x1 x2 x6 x7 x10 x11 x12 x17 x18 x19
noncomputable def spec_ciAdd.F (a0 : Int) (l1 : List Int) (l2 : List Int) : Option (List Int) := lim fun k => spec_ciAdd.f k a0 l1 l2
theorem spec_ciAdd.F_lim (a0 : Int) (l1 : List Int) (l2 : List Int) : Lim (fun k => spec_ciAdd.f k a0 l1 l2) (spec_ciAdd.F a0 l1 l2) := Lim.of fun k => spec_ciAdd.mono a0 l1 l2 k
theorem spec_ciAdd.L0_eq (x0 : Int) (x1 : List Int) (x2 : List Int) (x10 : List Int) (x11 : Int) (x12 : Int) : spec_ciAdd.L0 x0 x1 x2 x10 x11 x12 = (if x12 < x11 then (if 0 ≤ x12 then (if x12 < (x10.length : Int) then (spec_ciAdd.L1 x0 x1 x2 x12 (rd x10 x12) x10 x11 x12 x1 (x1.length : Int) 0) else (none)) else (none)) else (some x2)) :=
 Lim.step (f := fun k => spec_ciAdd.l0 (k + 1) x0 x1 x2 x10 x11 x12) (spec_ciAdd.L0_lim x0 x1 x2 x10 x11 x12) (fun _ => rfl) (by
  simp only [spec_ciAdd.l0]
  repeat' (first | (with_reducible first | exact Lim.const _ | exact spec_ciAdd.L1_lim _ _ _ _ _ _ _ _ _ _ _ | refine Lim.ite ?_ ?_ | refine Lim.bind ?_ (fun _ => ?_))))
theorem spec_ciAdd.L1_eq (x0 : Int) (x1 : List Int) (x2 : List Int) (x6 : Int) (x7 : Int) (x10 : List Int) (x11 : Int) (x12 : Int) (x17 : List Int) (x18 : Int) (x19 : Int) : spec_ciAdd.L1 x0 x1 x2 x6 x7 x10 x11 x12 x17 x18 x19 = (if x19 < x18 then (if 0 ≤ x19 then (if x19 < (x17.length : Int) then (if x6 = x19 then (spec_ciAdd.L1 x0 x1 x2 x6 x7 x10 x11 x12 x17 x18 (wrap64 (x19 + 1))) else (if x0 = 0 then (none) else (if 0 ≤ (Int.tmod (wrap64 ((wrap64 (x7 - (rd x17 x19))) + x0)) x0) then (if (Int.tmod (wrap64 ((wrap64 (x7 - (rd x17 x19))) + x0)) x0) < (x2.length : Int) then (spec_ciAdd.L1 x0 x1 (x2.set ((Int.tmod (wrap64 ((wrap64 (x7 - (rd x17 x19))) + x0)) x0) : Int).toNat (wrap64 ((rd x2 (Int.tmod (wrap64 ((wrap64 (x7 - (rd x17 x19))) + x0)) x0)) + 1))) x6 x7 x10 x11 x12 x17 x18 (wrap64 (x19 + 1))) else (none)) else (none)))) else (none)) else (none)) else (spec_ciAdd.L0 x0 x1 x2 x10 x11 (wrap64 (x12 + 1)))) :=
 Lim.step (f := fun k => spec_ciAdd.l1 (k + 1) x0 x1 x2 x6 x7 x10 x11 x12 x17 x18 x19) (spec_ciAdd.L1_lim x0 x1 x2 x6 x7 x10 x11 x12 x17 x18 x19) (fun _ => rfl) (by
  simp only [spec_ciAdd.l1]
  repeat' (first | (with_reducible first | exact Lim.const _ | exact spec_ciAdd.L0_lim _ _ _ _ _ _ | exact spec_ciAdd.L1_lim _ _ _ _ _ _ _ _ _ _ _ | refine Lim.ite ?_ ?_ | refine Lim.bind ?_ (fun _ => ?_))))
theorem spec_ciAdd.F_eq (a0 : Int) (l1 : List Int) (l2 : List Int) : spec_ciAdd.F a0 l1 l2 = (spec_ciAdd.L0 a0 l1 l2 l1 (l1.length : Int) 0) :=
 Lim.unique (spec_ciAdd.F_lim a0 l1 l2) (by
  unfold spec_ciAdd.f
  repeat' (first | (with_reducible first | exact Lim.const _ | exact spec_ciAdd.L0_lim _ _ _ _ _ _ | refine Lim.ite ?_ ?_ | refine Lim.bind ?_ (fun _ => ?_))))

end Go.Proofs.Ytofjndbpndpjjaa.Fn
namespace Go.Proofs.Ytofjndbpndpjjaa.Fn
open Go.RowKit Go.Proofs.YtofjndbpndpjjaaW.PrintWords Go.Proofs.YtofjndbpndpjjaaW.PrintLast Go.Proofs.YtofjndbpndpjjaaW.PrintMore
attribute [local go_sem] max2_int min2_int max_two min_two max_three min_three max_four min_four   -- for this text's walks alone
set_option linter.unusedVariables false
set_option linter.unusedSimpArgs false

/-! ### spec_ciCounts: function 84 -/
def spec_ciCounts.l0 : Nat → Int → List Int → List (List Int) → Int → Int → Option (List Int)
 | 0, _, _, _, _, _ => none
 | k + 1, x0, x5, x10, x11, x12 => if x12 < x11 then (if 0 ≤ x12 then (if x12 < (x10.length : Int) then ((spec_ciAdd.f k x0 (rd_L2 x10 x12) x5).bind fun t779 => (spec_ciCounts.l0 k x0 t779 x10 x11 (wrap64 (x12 + 1)))) else (none)) else (none)) else (some x5)
def spec_ciCounts.f (k : Nat) (a0 : Int) (l1 : List (List Int)) : Option (List Int) := if 0 ≤ a0 then (if (a0 : Int).toNat ≤ 35184372088832 then (spec_ciCounts.l0 k a0 (List.replicate (a0 : Int).toNat 0) l1 (l1.length : Int) 0) else (none)) else (none)
theorem spec_ciCounts.mono_l : ∀ k, (∀ y0 y1 y2 y3 y4, LeO (spec_ciCounts.l0 k y0 y1 y2 y3 y4) (spec_ciCounts.l0 (k + 1) y0 y1 y2 y3 y4))
 | 0 => fun _ _ _ _ _ r h => by simp [spec_ciCounts.l0] at h
 | k + 1 => by
  have ih0 := spec_ciCounts.mono_l k
  ·intro y0 y1 y2 y3 y4
   unfold spec_ciCounts.l0
   repeat' (first | (with_reducible first | exact ih0 _ _ _ _ _ | exact spec_ciAdd.mono _ _ _ _ | exact LeO.refl _ | exact LeO.none _ | refine LeO.ite ?_ ?_ | refine LeO.bind ?_ (fun _ => ?_)) | exact ih0 _ _ _ _ _ | exact spec_ciAdd.mono _ _ _ _ | exact LeO.none _ | refine LeO.ite ?_ ?_ | refine LeO.bind ?_ (fun _ => ?_))
theorem spec_ciCounts.mono : ∀ a0 a1 k, LeO (spec_ciCounts.f k a0 a1) (spec_ciCounts.f (k + 1) a0 a1) := by
 intro a0 a1 k
 have ih0 := spec_ciCounts.mono_l k
 unfold spec_ciCounts.f
 repeat' (first | (with_reducible first | exact ih0 _ _ _ _ _ | exact LeO.refl _ | exact LeO.none _ | refine LeO.ite ?_ ?_ | refine LeO.bind ?_ (fun _ => ?_)) | exact ih0 _ _ _ _ _ | exact LeO.none _ | refine LeO.ite ?_ ?_ | refine LeO.bind ?_ (fun _ => ?_))
set_option maxHeartbeats 8000000 in
set_option maxRecDepth 100000 in
theorem spec_ciCounts.calls (k : Nat) (a0 : Int) (A1 : Option Addr) (c1 : Nat) (l1 : List (List Int)) (r : List Int) (w : World) (hr1 : Kd.C (Kd.slice 3 (Kd.int .i64)) w A1 l1.length l1) (hc1 : l1.length ≤ c1) (h : spec_ciCounts.f k a0 l1 = some r) :
  Calls Try.prog 84 #[.int .i64 a0, .slice A1 l1.length c1] w fun e w' => ∃ v0_ : Value, e = .returned (v0_) ∧ Kd.R (Kd.int .i64) 3 w' w.heap.size (fun _ => True) v0_ r ∧ Below w.heap.size w w' := by
 have HR1 := Aside0.mk hr1
 have HC1 := Aside0.mk hc1
 clear hr1 hc1
 have HB := Aside0.mk (Below.refl w.heap.size w)
 have H := h
 unfold spec_ciCounts.f at H
 clear h
 by_cases c3 : 0 ≤ a0
 ·rw [if_pos c3] at H
  have c3b0 := eq_true c3
  have c3b1 : decide (0 ≤ a0) = true := decide_eq_true c3
  clear c3
  by_cases c4 : (a0 : Int).toNat ≤ 35184372088832
  ·rw [if_pos c4] at H
   have c4b0 := eq_true c4
   have c4b1 : decide ((a0 : Int).toNat ≤ 35184372088832) = true := decide_eq_true c4
   clear c4
   obtain ⟨y775, hy775⟩ : ∃ y_ : List Int, y_ = (List.replicate (a0 : Int).toNat 0) := ⟨_, rfl⟩
   replace H : (spec_ciCounts.l0 k a0 y775 l1 (l1.length : Int) 0) = some r := by first | (rw [hy775]; with_reducible exact H) | (have H2_ := (Option.bind_some _ _).symm.trans H; rw [hy775]; with_reducible exact H2_) | (have H2_ := (Option.bind_some _ _).symm.trans H; with_reducible exact H2_) | with_reducible exact H | (rw [hy775]; exact H) | exact H
   have Ny775 := Aside0.mk hy775
   clear hy775
   have H' := Aside0.mk H
   clear H
   go_enter Try.func84, Try.ntmps84
   go_wp2_with (first | ((with_reducible refine gate_dst (N := 9) rfl ?_); refine Kd.R_make (Kd.int .i64) _ 3 rfl (N := 9) rfl 24 _ _ rfl a0 rfl rfl Try.underlying24 (.int .i64 0) 8 info3 rfl (by decide) (by omega) 0 (ok := fun _ => True) (okp := fun _ => True) rfl (fun _ hk => hk) trivial (of_decide_eq_true (by first | (with_reducible assumption) | assumption)) (Nat.le_trans (Nat.mul_le_mul_right _ (of_decide_eq_true (by first | (with_reducible assumption) | assumption) : a0.toNat ≤ 35184372088832)) (by omega)) (Below.refl _ _) (Nat.le_refl _) ?_; intro v776 w5 ho6 hb hg_ hnew_; clear hg_ hnew_; (first | rw [← Ny775.out] at ho6 | (simp only [Int.reduceToNat] at ho6; rw [← Ny775.out] at ho6)); have HO777 := lowR ho6 HB; replace HB := upB HB hb; clear hb ho6))
   go_loopg [12] k (fun kq v12 w' => ∃ (x5_1 : List Int) (x12_1 : Int), v12 = .int .i64 x12_1 ∧ Aside0 (spec_ciCounts.l0 kq a0 x5_1 l1 (l1.length : Int) x12_1 = some r) ∧ Aside0 (kq ≤ k) ∧ Aside0 (Kd.R (Kd.int .i64) 3 w' w.heap.size (fun _ => True) v776 x5_1) ∧ Aside0 (Below w.heap.size w w'))
   case atStart => exact ⟨(y775), (0), eqd, H', ⟨Nat.le_refl _⟩, ⟨atR HO777⟩, ⟨atB HB⟩⟩
   case round =>
    clear H'
    try clear c1
    try clear p2
    try clear c3
    try clear c3b0
    try clear c3b1
    try clear c4
    try clear c4b0
    try clear c4b1
    obtain ⟨x5_1, x12_1, rfl, HA, HK1, HO_5, HB⟩ := hrel
    cases gk with
    | zero => exact absurd HA.out (by simp [spec_ciCounts.l0])
    | succ k1 =>
     have H := HA.out
     clear HA
     simp only [spec_ciCounts.l0] at H
     by_cases c7 : x12_1 < (l1.length : Int)
     ·rw [if_pos c7] at H
      have c7b0 : decide (x12_1 < (l1.length : Int)) = true := decide_eq_true c7
      clear c7
      by_cases c8 : 0 ≤ x12_1
      ·rw [if_pos c8] at H
       have c8b0 : decide (0 ≤ x12_1) = true := decide_eq_true c8
       clear c8
       by_cases c9 : x12_1 < (l1.length : Int)
       ·rw [if_pos c9] at H
        have c9b0 : decide (x12_1 < (l1.length : Int)) = true := decide_eq_true c9
        clear c9
        replace H := Option.bind_eq_some_iff.mp H
        obtain ⟨t779, A100, H⟩ := H
        replace H : (spec_ciCounts.l0 k1 a0 t779 l1 (l1.length : Int) (wrap64 (x12_1 + 1))) = some r := H
        have A10 := Aside0.mk A100
        clear A100
        have H' := Aside0.mk H
        clear H
        have p778 : 0 ≤ (x12_1 : Int) := ofd
        have q778 : x12_1 < (l1.length : Int) := ofd
        obtain ⟨ad778, A778_0, c778_0, e778, hx778_0, hl778_0, hi778_0⟩ := at_L2 HR1.out x12_1 p778 q778
        cases e778
        (try replace hx778_0 := (HB.out.cell (World.block_lt_of_cell? w _ hx778_0)).trans hx778_0)
        have HR778_0 := Aside0.mk hi778_0
        have HC778_0 := Aside0.mk hl778_0
        clear hi778_0 hl778_0
        replace p778 := eq_true p778
        replace q778 := eq_true q778
        obtain ⟨Ao11, co11, eo11⟩ := Kd.R_slice HO_5.out
        subst eo11
        go_wp2_with (first | ((with_reducible refine gate_callee (f := 103) rfl ?_); refine goesA (some 19) Try.func103 #[.int .i64 a0, .slice A778_0 (rd_L2 l1 x12_1).length c778_0, .slice Ao11 x5_1.length co11] ?_; (with_reducible refine (spec_ciAdd.calls k1 a0 _ _ (rd_L2 l1 x12_1) (fun k_ => some k_ = (.slice Ao11 x5_1.length co11 : Value).ownBlock) (.slice Ao11 x5_1.length co11) x5_1 t779 w _ ?side1 ?side2 ?side3 ?side4 A10.out).mono ?_); (case side1 => exact atB HB); (case side2 => exact Kd.C_kept_came (Kd.heap_int .i64) HR778_0.out (atB HB) (fun k_ hs_ => (fun e_ => Kd.R_base HO_5.out k_ e_.symm) hs_)); (case side3 => exact HC778_0.out); (case side4 => exact Kd.R_tight rfl HO_5.out); rintro e w12 ⟨rfl, hy0, hb, hkp⟩; refine ⟨_, rfl, ?_⟩; replace HO_5 := Aside0.mk (Kd.R_reok rfl hy0 (fun k_ e_ => HO_5.out.1 k_ e_)); replace HB := Aside0.mk (hb); (try clear hb); (try clear hkp); (try clear hy0)))
        go_roundg k1
        case measure => have := HK1.out; omega
        case rel => exact ⟨(t779), (wrap64 (x12_1 + 1)), eqd, H', ⟨by have := HK1.out; omega⟩, ⟨atR HO_5⟩, ⟨atB HB⟩⟩
       ·rw [if_neg c9] at H
        exact absurd H (by simp)
      ·rw [if_neg c8] at H
       exact absurd H (by simp)
     ·rw [if_neg c7] at H
      have c7b0 : decide (x12_1 < (l1.length : Int)) = false := decide_eq_false c7
      clear c7
      obtain rfl := Option.some.inj H
      go_wp2
      go_ret
      exact ⟨_, eqr, atR HO_5, atB HB⟩
  ·rw [if_neg c4] at H
   exact absurd H (by simp)
 ·rw [if_neg c3] at H
  exact absurd H (by simp)

noncomputable def spec_ciCounts.L0 (x0 : Int) (x5 : List Int) (x10 : List (List Int)) (x11 : Int) (x12 : Int) : Option (List Int) := lim fun k => spec_ciCounts.l0 k x0 x5 x10 x11 x12
theorem spec_ciCounts.L0_lim (x0 : Int) (x5 : List Int) (x10 : List (List Int)) (x11 : Int) (x12 : Int) : Lim (fun k => spec_ciCounts.l0 k x0 x5 x10 x11 x12) (spec_ciCounts.L0 x0 x5 x10 x11 x12) := Lim.of fun k => (spec_ciCounts.mono_l k) x0 x5 x10 x11 x12
noncomputable def spec_ciCounts.F (a0 : Int) (l1 : List (List Int)) : Option (List Int) := lim fun k => spec_ciCounts.f k a0 l1
theorem spec_ciCounts.F_lim (a0 : Int) (l1 : List (List Int)) : Lim (fun k => spec_ciCounts.f k a0 l1) (spec_ciCounts.F a0 l1) := Lim.of fun k => spec_ciCounts.mono a0 l1 k
theorem spec_ciCounts.L0_eq (x0 : Int) (x5 : List Int) (x10 : List (List Int)) (x11 : Int) (x12 : Int) : spec_ciCounts.L0 x0 x5 x10 x11 x12 = (if x12 < x11 then (if 0 ≤ x12 then (if x12 < (x10.length : Int) then ((spec_ciAdd.F x0 (rd_L2 x10 x12) x5).bind fun t779 => (spec_ciCounts.L0 x0 t779 x10 x11 (wrap64 (x12 + 1)))) else (none)) else (none)) else (some x5)) :=
 Lim.step (f := fun k => spec_ciCounts.l0 (k + 1) x0 x5 x10 x11 x12) (spec_ciCounts.L0_lim x0 x5 x10 x11 x12) (fun _ => rfl) (by
  simp only [spec_ciCounts.l0]
  repeat' (first | (with_reducible first | exact Lim.const _ | exact spec_ciAdd.F_lim _ _ _ | exact spec_ciCounts.L0_lim _ _ _ _ _ | refine Lim.ite ?_ ?_ | refine Lim.bind ?_ (fun _ => ?_))))
theorem spec_ciCounts.F_eq (a0 : Int) (l1 : List (List Int)) : spec_ciCounts.F a0 l1 = (if 0 ≤ a0 then (if (a0 : Int).toNat ≤ 35184372088832 then (spec_ciCounts.L0 a0 (List.replicate (a0 : Int).toNat 0) l1 (l1.length : Int) 0) else (none)) else (none)) :=
 Lim.unique (spec_ciCounts.F_lim a0 l1) (by
  unfold spec_ciCounts.f
  repeat' (first | (with_reducible first | exact Lim.const _ | exact spec_ciCounts.L0_lim _ _ _ _ _ | refine Lim.ite ?_ ?_ | refine Lim.bind ?_ (fun _ => ?_))))

end Go.Proofs.Ytofjndbpndpjjaa.Fn
namespace Go.Proofs.Ytofjndbpndpjjaa.Fn
open Go.RowKit Go.Proofs.YtofjndbpndpjjaaW.PrintWords Go.Proofs.YtofjndbpndpjjaaW.PrintLast Go.Proofs.YtofjndbpndpjjaaW.PrintMore
attribute [local go_sem] max2_int min2_int max_two min_two max_three min_three max_four min_four   -- for this text's walks alone
set_option linter.unusedVariables false
set_option linter.unusedSimpArgs false

/-! ### spec_ciLambda: function 83 -/
def spec_ciLambda.l0 : Nat → List Int → List Int → Int → Int → Option (Int)
 | 0, _, _, _, _ => none
 | k + 1, x5, x12, x13, x14 => if x14 < x13 then (if 0 ≤ x14 then (if x14 < (x12.length : Int) then (if 1 < (x5.length : Int) then (if (rd x12 x14) = (rd x5 1) then (spec_ciLambda.l0 k x5 x12 x13 (wrap64 (x14 + 1))) else (some 0)) else (none)) else (none)) else (none)) else (if 1 < (x5.length : Int) then (some (rd x5 1)) else (none))
def spec_ciLambda.f (k : Nat) (a0 : Int) (l1 : List (List Int)) : Option (Int) := (spec_ciCounts.f k a0 l1).bind fun t780 => (if 1 ≤ (t780.length : Int) then ((some (t780.drop 1 : List Int)).bind fun y783 => (spec_ciLambda.l0 k t780 y783 (y783.length : Int) 0)) else (none))
theorem spec_ciLambda.mono_l : ∀ k, (∀ y0 y1 y2 y3, LeO (spec_ciLambda.l0 k y0 y1 y2 y3) (spec_ciLambda.l0 (k + 1) y0 y1 y2 y3))
 | 0 => fun _ _ _ _ r h => by simp [spec_ciLambda.l0] at h
 | k + 1 => by
  have ih0 := spec_ciLambda.mono_l k
  ·intro y0 y1 y2 y3
   unfold spec_ciLambda.l0
   repeat' (first | (with_reducible first | exact ih0 _ _ _ _ | exact LeO.refl _ | exact LeO.none _ | refine LeO.ite ?_ ?_ | refine LeO.bind ?_ (fun _ => ?_)) | exact ih0 _ _ _ _ | exact LeO.none _ | refine LeO.ite ?_ ?_ | refine LeO.bind ?_ (fun _ => ?_))
theorem spec_ciLambda.mono : ∀ a0 a1 k, LeO (spec_ciLambda.f k a0 a1) (spec_ciLambda.f (k + 1) a0 a1) := by
 intro a0 a1 k
 have ih0 := spec_ciLambda.mono_l k
 unfold spec_ciLambda.f
 repeat' (first | (with_reducible first | exact ih0 _ _ _ _ | exact spec_ciCounts.mono _ _ _ | exact LeO.refl _ | exact LeO.none _ | refine LeO.ite ?_ ?_ | refine LeO.bind ?_ (fun _ => ?_)) | exact ih0 _ _ _ _ | exact spec_ciCounts.mono _ _ _ | exact LeO.none _ | refine LeO.ite ?_ ?_ | refine LeO.bind ?_ (fun _ => ?_))
set_option maxHeartbeats 8000000 in
set_option maxRecDepth 100000 in
theorem spec_ciLambda.calls (k : Nat) (a0 : Int) (A1 : Option Addr) (c1 : Nat) (l1 : List (List Int)) (r : Int) (w : World) (hr1 : Kd.C (Kd.slice 3 (Kd.int .i64)) w A1 l1.length l1) (hc1 : l1.length ≤ c1) (h : spec_ciLambda.f k a0 l1 = some r) :
  Calls Try.prog 83 #[.int .i64 a0, .slice A1 l1.length c1] w fun e w' => e = .returned (.int .i64 r) ∧ Below w.heap.size w w' := by
 have HR1 := Aside0.mk hr1
 have HC1 := Aside0.mk hc1
 clear hr1 hc1
 have HB := Aside0.mk (Below.refl w.heap.size w)
 have H := h
 unfold spec_ciLambda.f at H
 clear h
 replace H := Option.bind_eq_some_iff.mp H
 obtain ⟨t780, A30, H⟩ := H
 replace H : (if 1 ≤ (t780.length : Int) then ((some (t780.drop 1 : List Int)).bind fun y783 => (spec_ciLambda.l0 k t780 y783 (y783.length : Int) 0)) else (none)) = some r := H
 have A3 := Aside0.mk A30
 clear A30
 by_cases c4 : 1 ≤ (t780.length : Int)
 ·rw [if_pos c4] at H
  have c4b0 := eq_true c4
  have c4b1 : decide (1 ≤ (t780.length : Int)) = true := decide_eq_true c4
  clear c4
  obtain ⟨y783, hy783⟩ : ∃ y_ : List Int, y_ = (t780.drop 1) := ⟨_, rfl⟩
  replace H : (spec_ciLambda.l0 k t780 y783 (y783.length : Int) 0) = some r := by first | (rw [hy783]; with_reducible exact H) | (have H2_ := (Option.bind_some _ _).symm.trans H; rw [hy783]; with_reducible exact H2_) | (have H2_ := (Option.bind_some _ _).symm.trans H; with_reducible exact H2_) | with_reducible exact H | (rw [hy783]; exact H) | exact H
  have Ny783 := Aside0.mk hy783
  clear hy783
  have H' := Aside0.mk H
  clear H
  go_enter Try.func83, Try.ntmps83
  go_wp2_with (first | ((with_reducible refine gate_callee (f := 84) rfl ?_); refine goesA (some 10) Try.func84 #[.int .i64 a0, .slice A1 l1.length c1] ?_; (with_reducible refine (spec_ciCounts.calls k a0 _ _ l1 t780 _ ?side1 ?side2 A3.out).mono ?_); (case side1 => repeat (first | exact HR1.out | (with_reducible refine Kd.C_alloc ?_ _) | (with_reducible refine Kd.C_drewN ?_ _) | (with_reducible refine Kd.C_drew ?_))); (case side2 => exact HC1.out); rintro e w5 ⟨v781, rfl, ho0, hb⟩; refine ⟨_, rfl, ?_⟩; have HO782 := lowR ho0 HB; replace HB := upB HB hb; (try clear hb); (try clear hb2); (try clear hk); (try clear hi); (try clear ho0); obtain ⟨Ao7, co7, eo7⟩ := Kd.R_slice HO782.out; subst eo7; have q6 : (1 : Int) ≤ ((t780.length : Int) : Int) := ofd; obtain ⟨i06, hi06, _, hsz6, _⟩ := info_parts info3; have hroom6 : t780.length ≤ co7 := (Kd.R_reads' HO782.out).2.1; have hC6 : Kd.C (Kd.int .i64) _ Ao7 t780.length t780 := (Kd.R_reads' HO782.out).2.2; have hcut6 := cut_from (P := Try.prog) 24 3 .i64 Try.underlying24 hi06 1 hsz6 Ao7 t780.length co7 1 (by omega) q6; have hr6 := Kd.C_drop (m := (1 : Int).toNat) (c := co7) hC6 (by omega) hroom6; obtain ⟨A6, hA6⟩ : ∃ A1, A1 = (if co7 = (1 : Int).toNat then Ao7 else (Ao7 : Option Addr).map (·.add ((1 : Int).toNat * 1))) := ⟨_, rfl⟩; obtain ⟨c6, hc6⟩ : ∃ c1, c1 = co7 - (1 : Int).toNat := ⟨_, rfl⟩; have hy6 : y783.length = t780.length - (1 : Int).toNat := (by rw [Ny783.out, List.length_drop] <;> omega); rw [show (t780).drop (1 : Int).toNat = y783 from Ny783.out.symm] at hr6; replace hr6 : Kd.C (Kd.int .i64) _ A6 y783.length y783 := (by rw [hA6]; exact hr6); rw [← hy6, ← hA6, ← hc6] at hcut6; have HR786 := Aside0.mk hr6; have HC786 := Aside0.mk (show y783.length ≤ c6 from by rw [hy6, hc6]; exact Nat.sub_le_sub_right hroom6 _); clear hr6 hC6 hroom6 hi06 hsz6 hc6; have KY6 := Aside0.mk hy6; have KA6 := Aside0.mk hA6; clear hy6 hA6; have KL6 := Aside0.mk (show 1 ≤ t780.length from by omega); replace q6 := eq_true q6))
  go_loopg [14] k (fun kq v14 w' => ∃ (x14_1 : Int), v14 = .int .i64 x14_1 ∧ Aside0 (spec_ciLambda.l0 kq t780 y783 (y783.length : Int) x14_1 = some r) ∧ Aside0 (kq ≤ k) ∧ Aside0 (Kd.R (Kd.int .i64) 3 w' w.heap.size (fun _ => True) (.slice Ao7 t780.length co7) t780) ∧ Aside0 (Kd.C (Kd.int .i64) w' A6 y783.length y783) ∧ Aside0 (Below w.heap.size w w'))
  case atStart => exact ⟨(0), eqd, H', ⟨Nat.le_refl _⟩, ⟨atR HO782⟩, ⟨atC HR786⟩, ⟨atB HB⟩⟩
  case round =>
   clear H'
   try clear c1
   try clear p2
   try clear c4
   try clear c4b0
   try clear c4b1
   try clear c6
   try clear q6
   try clear q6
   obtain ⟨x14_1, rfl, HA, HK1, HO_5, HR786, HB⟩ := hrel
   cases gk with
   | zero => exact absurd HA.out (by simp [spec_ciLambda.l0])
   | succ k1 =>
    have H := HA.out
    clear HA
    simp only [spec_ciLambda.l0] at H
    by_cases c8 : x14_1 < (y783.length : Int)
    ·rw [if_pos c8] at H
     have c8b0 : decide (x14_1 < (y783.length : Int)) = true := decide_eq_true c8
     clear c8
     by_cases c9 : 0 ≤ x14_1
     ·rw [if_pos c9] at H
      have c9b0 : decide (0 ≤ x14_1) = true := decide_eq_true c9
      clear c9
      by_cases c10 : x14_1 < (y783.length : Int)
      ·rw [if_pos c10] at H
       have c10b0 : decide (x14_1 < (y783.length : Int)) = true := decide_eq_true c10
       clear c10
       by_cases c11 : 1 < (t780.length : Int)
       ·rw [if_pos c11] at H
        have c11b0 : decide (1 < (t780.length : Int)) = true := decide_eq_true c11
        have c11b1 : decide (1 < t780.length) = true := decide_eq_true (by omega)
        clear c11
        by_cases c12 : (rd y783 x14_1) = (rd t780 1)
        ·rw [if_pos c12] at H
         have c12b0 : ((rd y783 x14_1) == (rd t780 1)) = true := beq_iff_eq.mpr c12
         have c12b1 : ((rd y783 x14_1) != (rd t780 1)) = false := bne_eq_false_iff_eq.mpr c12
         clear c12
         have H' := Aside0.mk H
         clear H
         have p787 : 0 ≤ (x14_1 : Int) := ofd
         have q787 : x14_1 < (y783.length : Int) := ofd
         obtain ⟨ad787, e787, hx787_0⟩ := Kd.at_int HR786.out x14_1 p787 q787
         cases e787
         (try replace hx787_0 := (HB.out.cell (World.block_lt_of_cell? w _ hx787_0)).trans hx787_0)
         replace p787 := eq_true p787
         replace q787 := eq_true q787
         have q787m := q787; (try rw [List.length_drop] at q787m); (try rw [List.drop_one] at q787m)
         have p788 : 0 ≤ (1 : Int) := (by omega)
         have q788 : 1 < (t780.length : Int) := ofd
         obtain ⟨ad788, e788, hx788_0⟩ := Kd.at_int (Kd.R_reads' HO_5.out).2.2 1 p788 q788
         cases e788
         (try simp only [show (1 : Int).toNat = 1 from rfl, Nat.reduceMul, Nat.reduceEqDiff, Go.Addr.add, ↓reduceIte] at hx788_0)
         have qi788 : (1 < t780.length) = True := eq_true (by omega)
         (try rw [show ((1 : Int)).toNat = 1 from rfl] at hx788_0)
         replace p788 := eq_true p788
         replace q788 := eq_true q788
         have q788m := q788; (try rw [List.length_drop] at q788m); (try rw [List.drop_one] at q788m)
         go_wp2
         go_roundg k1
         case measure => have := HK1.out; omega
         case rel => exact ⟨(wrap64 (x14_1 + 1)), eqd, H', ⟨by have := HK1.out; omega⟩, ⟨atR HO_5⟩, ⟨atC HR786⟩, ⟨atB HB⟩⟩
        ·rw [if_neg c12] at H
         have c12b0 : ((rd y783 x14_1) == (rd t780 1)) = false := beq_eq_false_iff_ne.mpr c12
         have c12b1 : ((rd y783 x14_1) != (rd t780 1)) = true := bne_iff_ne.mpr c12
         obtain rfl := Option.some.inj H
         have p787 : 0 ≤ (x14_1 : Int) := ofd
         have q787 : x14_1 < (y783.length : Int) := ofd
         obtain ⟨ad787, e787, hx787_0⟩ := Kd.at_int HR786.out x14_1 p787 q787
         cases e787
         (try replace hx787_0 := (HB.out.cell (World.block_lt_of_cell? w _ hx787_0)).trans hx787_0)
         replace p787 := eq_true p787
         replace q787 := eq_true q787
         have q787m := q787; (try rw [List.length_drop] at q787m); (try rw [List.drop_one] at q787m)
         have p788 : 0 ≤ (1 : Int) := (by omega)
         have q788 : 1 < (t780.length : Int) := ofd
         obtain ⟨ad788, e788, hx788_0⟩ := Kd.at_int (Kd.R_reads' HO_5.out).2.2 1 p788 q788
         cases e788
         (try simp only [show (1 : Int).toNat = 1 from rfl, Nat.reduceMul, Nat.reduceEqDiff, Go.Addr.add, ↓reduceIte] at hx788_0)
         have qi788 : (1 < t780.length) = True := eq_true (by omega)
         (try rw [show ((1 : Int)).toNat = 1 from rfl] at hx788_0)
         replace p788 := eq_true p788
         replace q788 := eq_true q788
         have q788m := q788; (try rw [List.length_drop] at q788m); (try rw [List.drop_one] at q788m)
         go_wp2
         go_ret
         exact ⟨eqr, atB HB⟩
       ·rw [if_neg c11] at H
        exact absurd H (by simp)
      ·rw [if_neg c10] at H
       exact absurd H (by simp)
     ·rw [if_neg c9] at H
      exact absurd H (by simp)
    ·rw [if_neg c8] at H
     have c8b0 : decide (x14_1 < (y783.length : Int)) = false := decide_eq_false c8
     clear c8
     by_cases c13 : 1 < (t780.length : Int)
     ·rw [if_pos c13] at H
      have c13b0 : decide (1 < (t780.length : Int)) = true := decide_eq_true c13
      have c13b1 : decide (1 < t780.length) = true := decide_eq_true (by omega)
      clear c13
      obtain rfl := Option.some.inj H
      have p789 : 0 ≤ (1 : Int) := (by omega)
      have q789 : 1 < (t780.length : Int) := ofd
      obtain ⟨ad789, e789, hx789_0⟩ := Kd.at_int (Kd.R_reads' HO_5.out).2.2 1 p789 q789
      cases e789
      (try simp only [show (1 : Int).toNat = 1 from rfl, Nat.reduceMul, Nat.reduceEqDiff, Go.Addr.add, ↓reduceIte] at hx789_0)
      have qi789 : (1 < t780.length) = True := eq_true (by omega)
      (try rw [show ((1 : Int)).toNat = 1 from rfl] at hx789_0)
      replace p789 := eq_true p789
      replace q789 := eq_true q789
      have q789m := q789; (try rw [List.length_drop] at q789m); (try rw [List.drop_one] at q789m)
      go_wp2
      go_ret
      exact ⟨eqr, atB HB⟩
     ·rw [if_neg c13] at H
      exact absurd H (by simp)
 ·rw [if_neg c4] at H
  exact absurd H (by simp)

noncomputable def spec_ciLambda.L0 (x5 : List Int) (x12 : List Int) (x13 : Int) (x14 : Int) : Option (Int) := lim fun k => spec_ciLambda.l0 k x5 x12 x13 x14
theorem spec_ciLambda.L0_lim (x5 : List Int) (x12 : List Int) (x13 : Int) (x14 : Int) : Lim (fun k => spec_ciLambda.l0 k x5 x12 x13 x14) (spec_ciLambda.L0 x5 x12 x13 x14) := Lim.of fun k => (spec_ciLambda.mono_l k) x5 x12 x13 x14
noncomputable def spec_ciLambda.F (a0 : Int) (l1 : List (List Int)) : Option (Int) := lim fun k => spec_ciLambda.f k a0 l1
theorem spec_ciLambda.F_lim (a0 : Int) (l1 : List (List Int)) : Lim (fun k => spec_ciLambda.f k a0 l1) (spec_ciLambda.F a0 l1) := Lim.of fun k => spec_ciLambda.mono a0 l1 k
theorem spec_ciLambda.L0_eq (x5 : List Int) (x12 : List Int) (x13 : Int) (x14 : Int) : spec_ciLambda.L0 x5 x12 x13 x14 = (if x14 < x13 then (if 0 ≤ x14 then (if x14 < (x12.length : Int) then (if 1 < (x5.length : Int) then (if (rd x12 x14) = (rd x5 1) then (spec_ciLambda.L0 x5 x12 x13 (wrap64 (x14 + 1))) else (some 0)) else (none)) else (none)) else (none)) else (if 1 < (x5.length : Int) then (some (rd x5 1)) else (none))) :=
 Lim.step (f := fun k => spec_ciLambda.l0 (k + 1) x5 x12 x13 x14) (spec_ciLambda.L0_lim x5 x12 x13 x14) (fun _ => rfl) (by
  simp only [spec_ciLambda.l0]
  repeat' (first | (with_reducible first | exact Lim.const _ | exact spec_ciLambda.L0_lim _ _ _ _ | refine Lim.ite ?_ ?_ | refine Lim.bind ?_ (fun _ => ?_))))
theorem spec_ciLambda.F_eq (a0 : Int) (l1 : List (List Int)) : spec_ciLambda.F a0 l1 = ((spec_ciCounts.F a0 l1).bind fun t780 => (if 1 ≤ (t780.length : Int) then ((some (t780.drop 1 : List Int)).bind fun y783 => (spec_ciLambda.L0 t780 y783 (y783.length : Int) 0)) else (none))) :=
 Lim.unique (spec_ciLambda.F_lim a0 l1) (by
  unfold spec_ciLambda.f
  repeat' (first | (with_reducible first | exact Lim.const _ | exact spec_ciCounts.F_lim _ _ | exact spec_ciLambda.L0_lim _ _ _ _ | refine Lim.ite ?_ ?_ | refine Lim.bind ?_ (fun _ => ?_))))

end Go.Proofs.Ytofjndbpndpjjaa.Fn
namespace Go.Proofs.Ytofjndbpndpjjaa.Fn
open Go.RowKit Go.Proofs.YtofjndbpndpjjaaW.PrintWords Go.Proofs.YtofjndbpndpjjaaW.PrintLast Go.Proofs.YtofjndbpndpjjaaW.PrintMore
attribute [local go_sem] max2_int min2_int max_two min_two max_three min_three max_four min_four   -- for this text's walks alone
set_option linter.unusedVariables false
set_option linter.unusedSimpArgs false

/-! ### spec_LambdaOf: function 35 -/
def spec_LambdaOf.f (k : Nat) (a0 : Int) (l1 : List Int) : Option (Int × Bool) := (spec_ciGood.f k a0 l1).bind fun t790 => (if t790 = true then ((spec_ciLambda.f k a0 (([l1] : List (List Int)))).bind fun t794 => (some (t794, decide (t794 > 0)))) else (some (0, false)))
theorem spec_LambdaOf.mono : ∀ a0 a1 k, LeO (spec_LambdaOf.f k a0 a1) (spec_LambdaOf.f (k + 1) a0 a1) := by
 intro a0 a1 k
 unfold spec_LambdaOf.f
 repeat' (first | (with_reducible first | exact spec_ciGood.mono _ _ _ | exact spec_ciLambda.mono _ _ _ | exact LeO.refl _ | exact LeO.none _ | refine LeO.ite ?_ ?_ | refine LeO.bind ?_ (fun _ => ?_)) | exact spec_ciGood.mono _ _ _ | exact spec_ciLambda.mono _ _ _ | exact LeO.none _ | refine LeO.ite ?_ ?_ | refine LeO.bind ?_ (fun _ => ?_))
set_option maxHeartbeats 8000000 in
set_option maxRecDepth 100000 in
theorem spec_LambdaOf.calls (k : Nat) (a0 : Int) (P1_ : Nat → Prop) (A1 : Option Addr) (c1 : Nat) (l1 : List Int) (r1 : Int) (r2 : Bool) (w : World) (hs1 : Kd.V (Kd.int .i64) 3 w w.heap.size (fun k_ => P1_ k_) (.slice A1 l1.length c1) l1) (h : spec_LambdaOf.f k a0 l1 = some (r1, r2)) :
  Calls Try.prog 35 #[.int .i64 a0, .slice A1 l1.length c1] w fun e w' => e = .returned (.tuple #[.int .i64 r1, .bool r2]) ∧ Below w.heap.size w w' := by
 have HO1 := Aside0.mk (show Kd.V (Kd.int .i64) 3 w w.heap.size (fun k_ => (P1_ k_ ∨ w.heap.size ≤ k_)) (.slice A1 l1.length c1) l1 from Kd.V_mono hs1 (fun k_ hk => .inl hk))
 have HB := Aside0.mk (Below.refl w.heap.size w)
 have H := h
 unfold spec_LambdaOf.f at H
 clear h
 replace H := Option.bind_eq_some_iff.mp H
 obtain ⟨t790, A30, H⟩ := H
 replace H : (if t790 = true then ((spec_ciLambda.f k a0 (([l1] : List (List Int)))).bind fun t794 => (some (t794, decide (t794 > 0)))) else (some (0, false))) = some (r1, r2) := H
 have A3 := Aside0.mk A30
 clear A30
 by_cases c4 : t790 = true
 ·subst c4
  have H1 : ((spec_ciLambda.f k a0 (([l1] : List (List Int)))).bind fun t794 => (some (t794, decide (t794 > 0)))) = some (r1, r2) := by rw [if_pos rfl] at H; exact H
  clear H
  have H := H1
  clear H1
  obtain ⟨y791, hy791⟩ : ∃ y_ : List (List Int), y_ = (([l1] : List (List Int))) := ⟨_, rfl⟩
  replace H : ((spec_ciLambda.f k a0 y791).bind fun t794 => (some (t794, decide (t794 > 0)))) = some (r1, r2) := by first | (rw [hy791]; with_reducible exact H) | (have H2_ := (Option.bind_some _ _).symm.trans H; rw [hy791]; with_reducible exact H2_) | (have H2_ := (Option.bind_some _ _).symm.trans H; with_reducible exact H2_) | with_reducible exact H | (rw [hy791]; exact H) | exact H
  have Ny791 := Aside0.mk hy791
  clear hy791
  replace H := Option.bind_eq_some_iff.mp H
  obtain ⟨t794, A50, H⟩ := H
  replace H : (some (t794, decide (t794 > 0))) = some (r1, r2) := H
  have A5 := Aside0.mk A50
  clear A50
  simp only [Option.some.injEq, Prod.mk.injEq] at H
  obtain ⟨rfl, rfl⟩ := H
  go_enter Try.func35, Try.ntmps35
  go_wp2_with (first | ((with_reducible refine gate_callee (f := 82) rfl ?_); refine goesA (some 9) Try.func82 #[.int .i64 a0, .slice A1 l1.length c1] ?_; (with_reducible refine (spec_ciGood.calls k a0 _ _ l1 true _ ?side1 ?side2 A3.out).mono ?_); (case side1 => repeat (first | exact (Kd.V_reads' HO1.out).2.2 | (with_reducible refine Kd.C_alloc ?_ _) | (with_reducible refine Kd.C_drewN ?_ _) | (with_reducible refine Kd.C_drew ?_))); (case side2 => exact (Kd.V_reads' HO1.out).2.1); rintro e w' ⟨rfl, ⟨nd, rfl⟩⟩; refine ⟨_, rfl, ?_⟩) | ((with_reducible refine gate_dst (N := 13) rfl ?_); refine N_lit0 (Kd.slice 3 (Kd.int .i64)) 24 ?hg (N' := 13) ?hd (xs := ([l1] : List (List Int))) (inner := [.slice A1 l1.length c1]) (ok := (fun k_ => (P1_ k_ ∨ w.heap.size ≤ k_))) (okp := (fun k_ => (P1_ k_ ∨ w.heap.size ≤ k_))) ?hr ?hp (fun _ hk => hk) (by exact (show ∀ k_, w.heap.size ≤ k_ → (fun k_ => (P1_ k_ ∨ w.heap.size ≤ k_)) k_ from fun k_ hk => (.inr (Nat.le_trans (szB HB) hk))) _ (Nat.le_refl _)) (by simp) ?_; (case hd => rfl); (case hg => rfl); (case hr => first | (go_simp; done) | (go_simp; rfl)); (case hp => exact (Reps.one (show Kd.FK (Kd.slice 3 (Kd.int .i64)) _ _ l1 [.slice A1 l1.length c1] from (Kd.FK_slice_mk (Kd.V_reads' (Kd.V_mono (ok' := (fun k_ => (P1_ k_ ∨ w.heap.size ≤ k_))) (HO1.out) (fun k_ hk => hk))).2.1 (Kd.V_F (Kd.V_mono (ok' := (fun k_ => (P1_ k_ ∨ w.heap.size ≤ k_))) (by (with_reducible repeat (first | apply Kd.V_alloc | apply Kd.V_drewN | apply Kd.V_drew)); exact HO1.out) (fun k_ hk => hk))))) (Reps.none _ _))); intro v792 w6 ho7 hb hg_ hnew_; clear hg_ hnew_; (first | rw [← Ny791.out] at ho7 | (simp only [Int.reduceToNat] at ho7; rw [← Ny791.out] at ho7)); have HO793 := Aside0.mk (Kd.N_lower ho7 (szB HB)); replace HO1 := Aside0.mk (Kd.V_elder' (by (with_reducible repeat (first | apply Kd.V_alloc | apply Kd.V_drewN | apply Kd.V_drew)); exact HO1.out) (Kd.N_base ho7) hb); replace HB := upB HB hb; clear hb ho7; obtain ⟨Ao8, co8, eo8⟩ := Kd.N_slice HO793.out; subst eo8) | ((with_reducible refine gate_callee (f := 83) rfl ?_); refine goesA (some 14) Try.func83 #[.int .i64 a0, .slice Ao8 y791.length co8] ?_; (with_reducible refine (spec_ciLambda.calls k a0 _ _ y791 t794 _ ?side1 ?side2 A5.out).mono ?_); (case side1 => repeat (first | exact (Kd.N_reads' HO793.out).2.2 | (with_reducible refine Kd.C_alloc ?_ _) | (with_reducible refine Kd.C_drewN ?_ _) | (with_reducible refine Kd.C_drew ?_))); (case side2 => exact (Kd.N_reads' HO793.out).2.1); rintro e w9 ⟨rfl, hb⟩; refine ⟨_, rfl, ?_⟩; replace HO1 := Aside0.mk (Kd.V_below (by (with_reducible repeat (first | apply Kd.V_alloc | apply Kd.V_drewN | apply Kd.V_drew)); exact HO1.out) hb); replace HO793 := Aside0.mk (Kd.N_below (by (with_reducible repeat (first | apply Kd.N_alloc | apply Kd.N_drewN | apply Kd.N_drew)); exact HO793.out) hb); replace HB := upB HB hb; (try clear hb); (try clear hb2); (try clear hk); (try clear hi)))
  go_ret2
  exact ⟨eqr, atB HB⟩
 ·replace c4 := Bool.eq_false_iff.mpr c4
  subst c4
  have H1 : (some (0, false)) = some (r1, r2) := by rw [if_neg (show ¬ (false = true) by decide)] at H; exact H
  clear H
  have H := H1
  clear H1
  simp only [Option.some.injEq, Prod.mk.injEq] at H
  obtain ⟨rfl, rfl⟩ := H
  go_enter Try.func35, Try.ntmps35
  go_wp2_with (first | ((with_reducible refine gate_callee (f := 82) rfl ?_); refine goesA (some 9) Try.func82 #[.int .i64 a0, .slice A1 l1.length c1] ?_; (with_reducible refine (spec_ciGood.calls k a0 _ _ l1 false _ ?side1 ?side2 A3.out).mono ?_); (case side1 => repeat (first | exact (Kd.V_reads' HO1.out).2.2 | (with_reducible refine Kd.C_alloc ?_ _) | (with_reducible refine Kd.C_drewN ?_ _) | (with_reducible refine Kd.C_drew ?_))); (case side2 => exact (Kd.V_reads' HO1.out).2.1); rintro e w' ⟨rfl, ⟨nd, rfl⟩⟩; refine ⟨_, rfl, ?_⟩))
  go_ret2
  exact ⟨eqr, atB HB⟩

noncomputable def spec_LambdaOf.F (a0 : Int) (l1 : List Int) : Option (Int × Bool) := lim fun k => spec_LambdaOf.f k a0 l1
theorem spec_LambdaOf.F_lim (a0 : Int) (l1 : List Int) : Lim (fun k => spec_LambdaOf.f k a0 l1) (spec_LambdaOf.F a0 l1) := Lim.of fun k => spec_LambdaOf.mono a0 l1 k
theorem spec_LambdaOf.F_eq (a0 : Int) (l1 : List Int) : spec_LambdaOf.F a0 l1 = ((spec_ciGood.F a0 l1).bind fun t790 => (if t790 = true then ((spec_ciLambda.F a0 (([l1] : List (List Int)))).bind fun t794 => (some (t794, decide (t794 > 0)))) else (some (0, false)))) :=
 Lim.unique (spec_LambdaOf.F_lim a0 l1) (by
  unfold spec_LambdaOf.f
  repeat' (first | (with_reducible first | exact Lim.const _ | exact spec_ciGood.F_lim _ _ | exact spec_ciLambda.F_lim _ _ | refine Lim.ite ?_ ?_ | refine Lim.bind ?_ (fun _ => ?_))))

end Go.Proofs.Ytofjndbpndpjjaa.Fn
namespace Go.Proofs.Ytofjndbpndpjjaa.Fn
open Go.RowKit Go.Proofs.YtofjndbpndpjjaaW.PrintWords Go.Proofs.YtofjndbpndpjjaaW.PrintLast Go.Proofs.YtofjndbpndpjjaaW.PrintMore
attribute [local go_sem] max2_int min2_int max_two min_two max_three min_three max_four min_four   -- for this text's walks alone
set_option linter.unusedVariables false
set_option linter.unusedSimpArgs false

/-! ### spec_IsDifferenceSet: function 37 -/
def spec_IsDifferenceSet.f (k : Nat) (a0 : Int) (l1 : List Int) : Option (Bool × Bool) := (spec_ciGood.f k a0 l1).bind fun t800 => (if t800 = true then ((spec_ciLambda.f k a0 (([l1] : List (List Int)))).bind fun t804 => (some (decide (t804 > 0), true))) else (some (false, false)))
theorem spec_IsDifferenceSet.mono : ∀ a0 a1 k, LeO (spec_IsDifferenceSet.f k a0 a1) (spec_IsDifferenceSet.f (k + 1) a0 a1) := by
 intro a0 a1 k
 unfold spec_IsDifferenceSet.f
 repeat' (first | (with_reducible first | exact spec_ciGood.mono _ _ _ | exact spec_ciLambda.mono _ _ _ | exact LeO.refl _ | exact LeO.none _ | refine LeO.ite ?_ ?_ | refine LeO.bind ?_ (fun _ => ?_)) | exact spec_ciGood.mono _ _ _ | exact spec_ciLambda.mono _ _ _ | exact LeO.none _ | refine LeO.ite ?_ ?_ | refine LeO.bind ?_ (fun _ => ?_))
set_option maxHeartbeats 8000000 in
set_option maxRecDepth 100000 in
theorem spec_IsDifferenceSet.calls (k : Nat) (a0 : Int) (P1_ : Nat → Prop) (A1 : Option Addr) (c1 : Nat) (l1 : List Int) (r1 : Bool) (r2 : Bool) (w : World) (hs1 : Kd.V (Kd.int .i64) 3 w w.heap.size (fun k_ => P1_ k_) (.slice A1 l1.length c1) l1) (h : spec_IsDifferenceSet.f k a0 l1 = some (r1, r2)) :
  Calls Try.prog 37 #[.int .i64 a0, .slice A1 l1.length c1] w fun e w' => e = .returned (.tuple #[.bool r1, .bool r2]) ∧ Below w.heap.size w w' := by
 have HO1 := Aside0.mk (show Kd.V (Kd.int .i64) 3 w w.heap.size (fun k_ => (P1_ k_ ∨ w.heap.size ≤ k_)) (.slice A1 l1.length c1) l1 from Kd.V_mono hs1 (fun k_ hk => .inl hk))
 have HB := Aside0.mk (Below.refl w.heap.size w)
 have H := h
 unfold spec_IsDifferenceSet.f at H
 clear h
 replace H := Option.bind_eq_some_iff.mp H
 obtain ⟨t800, A30, H⟩ := H
 replace H : (if t800 = true then ((spec_ciLambda.f k a0 (([l1] : List (List Int)))).bind fun t804 => (some (decide (t804 > 0), true))) else (some (false, false))) = some (r1, r2) := H
 have A3 := Aside0.mk A30
 clear A30
 by_cases c4 : t800 = true
 ·subst c4
  have H1 : ((spec_ciLambda.f k a0 (([l1] : List (List Int)))).bind fun t804 => (some (decide (t804 > 0), true))) = some (r1, r2) := by rw [if_pos rfl] at H; exact H
  clear H
  have H := H1
  clear H1
  obtain ⟨y801, hy801⟩ : ∃ y_ : List (List Int), y_ = (([l1] : List (List Int))) := ⟨_, rfl⟩
  replace H : ((spec_ciLambda.f k a0 y801).bind fun t804 => (some (decide (t804 > 0), true))) = some (r1, r2) := by first | (rw [hy801]; with_reducible exact H) | (have H2_ := (Option.bind_some _ _).symm.trans H; rw [hy801]; with_reducible exact H2_) | (have H2_ := (Option.bind_some _ _).symm.trans H; with_reducible exact H2_) | with_reducible exact H | (rw [hy801]; exact H) | exact H
  have Ny801 := Aside0.mk hy801
  clear hy801
  replace H := Option.bind_eq_some_iff.mp H
  obtain ⟨t804, A50, H⟩ := H
  replace H : (some (decide (t804 > 0), true)) = some (r1, r2) := H
  have A5 := Aside0.mk A50
  clear A50
  simp only [Option.some.injEq, Prod.mk.injEq] at H
  obtain ⟨rfl, rfl⟩ := H
  go_enter Try.func37, Try.ntmps37
  go_wp2_with (first | ((with_reducible refine gate_callee (f := 82) rfl ?_); refine goesA (some 8) Try.func82 #[.int .i64 a0, .slice A1 l1.length c1] ?_; (with_reducible refine (spec_ciGood.calls k a0 _ _ l1 true _ ?side1 ?side2 A3.out).mono ?_); (case side1 => repeat (first | exact (Kd.V_reads' HO1.out).2.2 | (with_reducible refine Kd.C_alloc ?_ _) | (with_reducible refine Kd.C_drewN ?_ _) | (with_reducible refine Kd.C_drew ?_))); (case side2 => exact (Kd.V_reads' HO1.out).2.1); rintro e w' ⟨rfl, ⟨nd, rfl⟩⟩; refine ⟨_, rfl, ?_⟩) | ((with_reducible refine gate_dst (N := 12) rfl ?_); refine N_lit0 (Kd.slice 3 (Kd.int .i64)) 24 ?hg (N' := 12) ?hd (xs := ([l1] : List (List Int))) (inner := [.slice A1 l1.length c1]) (ok := (fun k_ => (P1_ k_ ∨ w.heap.size ≤ k_))) (okp := (fun k_ => (P1_ k_ ∨ w.heap.size ≤ k_))) ?hr ?hp (fun _ hk => hk) (by exact (show ∀ k_, w.heap.size ≤ k_ → (fun k_ => (P1_ k_ ∨ w.heap.size ≤ k_)) k_ from fun k_ hk => (.inr (Nat.le_trans (szB HB) hk))) _ (Nat.le_refl _)) (by simp) ?_; (case hd => rfl); (case hg => rfl); (case hr => first | (go_simp; done) | (go_simp; rfl)); (case hp => exact (Reps.one (show Kd.FK (Kd.slice 3 (Kd.int .i64)) _ _ l1 [.slice A1 l1.length c1] from (Kd.FK_slice_mk (Kd.V_reads' (Kd.V_mono (ok' := (fun k_ => (P1_ k_ ∨ w.heap.size ≤ k_))) (HO1.out) (fun k_ hk => hk))).2.1 (Kd.V_F (Kd.V_mono (ok' := (fun k_ => (P1_ k_ ∨ w.heap.size ≤ k_))) (by (with_reducible repeat (first | apply Kd.V_alloc | apply Kd.V_drewN | apply Kd.V_drew)); exact HO1.out) (fun k_ hk => hk))))) (Reps.none _ _))); intro v802 w6 ho7 hb hg_ hnew_; clear hg_ hnew_; (first | rw [← Ny801.out] at ho7 | (simp only [Int.reduceToNat] at ho7; rw [← Ny801.out] at ho7)); have HO803 := Aside0.mk (Kd.N_lower ho7 (szB HB)); replace HO1 := Aside0.mk (Kd.V_elder' (by (with_reducible repeat (first | apply Kd.V_alloc | apply Kd.V_drewN | apply Kd.V_drew)); exact HO1.out) (Kd.N_base ho7) hb); replace HB := upB HB hb; clear hb ho7; obtain ⟨Ao8, co8, eo8⟩ := Kd.N_slice HO803.out; subst eo8) | ((with_reducible refine gate_callee (f := 83) rfl ?_); refine goesA (some 13) Try.func83 #[.int .i64 a0, .slice Ao8 y801.length co8] ?_; (with_reducible refine (spec_ciLambda.calls k a0 _ _ y801 t804 _ ?side1 ?side2 A5.out).mono ?_); (case side1 => repeat (first | exact (Kd.N_reads' HO803.out).2.2 | (with_reducible refine Kd.C_alloc ?_ _) | (with_reducible refine Kd.C_drewN ?_ _) | (with_reducible refine Kd.C_drew ?_))); (case side2 => exact (Kd.N_reads' HO803.out).2.1); rintro e w9 ⟨rfl, hb⟩; refine ⟨_, rfl, ?_⟩; replace HO1 := Aside0.mk (Kd.V_below (by (with_reducible repeat (first | apply Kd.V_alloc | apply Kd.V_drewN | apply Kd.V_drew)); exact HO1.out) hb); replace HO803 := Aside0.mk (Kd.N_below (by (with_reducible repeat (first | apply Kd.N_alloc | apply Kd.N_drewN | apply Kd.N_drew)); exact HO803.out) hb); replace HB := upB HB hb; (try clear hb); (try clear hb2); (try clear hk); (try clear hi)))
  go_ret2
  exact ⟨eqr, atB HB⟩
 ·replace c4 := Bool.eq_false_iff.mpr c4
  subst c4
  have H1 : (some (false, false)) = some (r1, r2) := by rw [if_neg (show ¬ (false = true) by decide)] at H; exact H
  clear H
  have H := H1
  clear H1
  simp only [Option.some.injEq, Prod.mk.injEq] at H
  obtain ⟨rfl, rfl⟩ := H
  go_enter Try.func37, Try.ntmps37
  go_wp2_with (first | ((with_reducible refine gate_callee (f := 82) rfl ?_); refine goesA (some 8) Try.func82 #[.int .i64 a0, .slice A1 l1.length c1] ?_; (with_reducible refine (spec_ciGood.calls k a0 _ _ l1 false _ ?side1 ?side2 A3.out).mono ?_); (case side1 => repeat (first | exact (Kd.V_reads' HO1.out).2.2 | (with_reducible refine Kd.C_alloc ?_ _) | (with_reducible refine Kd.C_drewN ?_ _) | (with_reducible refine Kd.C_drew ?_))); (case side2 => exact (Kd.V_reads' HO1.out).2.1); rintro e w' ⟨rfl, ⟨nd, rfl⟩⟩; refine ⟨_, rfl, ?_⟩))
  go_ret2
  exact ⟨eqr, atB HB⟩

noncomputable def spec_IsDifferenceSet.F (a0 : Int) (l1 : List Int) : Option (Bool × Bool) := lim fun k => spec_IsDifferenceSet.f k a0 l1
theorem spec_IsDifferenceSet.F_lim (a0 : Int) (l1 : List Int) : Lim (fun k => spec_IsDifferenceSet.f k a0 l1) (spec_IsDifferenceSet.F a0 l1) := Lim.of fun k => spec_IsDifferenceSet.mono a0 l1 k
theorem spec_IsDifferenceSet.F_eq (a0 : Int) (l1 : List Int) : spec_IsDifferenceSet.F a0 l1 = ((spec_ciGood.F a0 l1).bind fun t800 => (if t800 = true then ((spec_ciLambda.F a0 (([l1] : List (List Int)))).bind fun t804 => (some (decide (t804 > 0), true))) else (some (false, false)))) :=
 Lim.unique (spec_IsDifferenceSet.F_lim a0 l1) (by
  unfold spec_IsDifferenceSet.f
  repeat' (first | (with_reducible first | exact Lim.const _ | exact spec_ciGood.F_lim _ _ | exact spec_ciLambda.F_lim _ _ | refine Lim.ite ?_ ?_ | refine Lim.bind ?_ (fun _ => ?_))))

end Go.Proofs.Ytofjndbpndpjjaa.Fn
namespace Go.Proofs.Ytofjndbpndpjjaa.Fn
open Go.RowKit Go.Proofs.YtofjndbpndpjjaaW.PrintWords Go.Proofs.YtofjndbpndpjjaaW.PrintLast Go.Proofs.YtofjndbpndpjjaaW.PrintMore
attribute [local go_sem] max2_int min2_int max_two min_two max_three min_three max_four min_four   -- for this text's walks alone
set_option linter.unusedVariables false
set_option linter.unusedSimpArgs false

/-! ### spec_DifferenceCounts: function 39 -/
def spec_DifferenceCounts.f (k : Nat) (a0 : Int) (l1 : List Int) : Option (List Int × Bool) := (spec_ciGood.f k a0 l1).bind fun t809 => (if t809 = true then ((spec_ciCounts.f k a0 (([l1] : List (List Int)))).bind fun t813 => (some (t813, true))) else (some (([] : List Int), false)))
theorem spec_DifferenceCounts.mono : ∀ a0 a1 k, LeO (spec_DifferenceCounts.f k a0 a1) (spec_DifferenceCounts.f (k + 1) a0 a1) := by
 intro a0 a1 k
 unfold spec_DifferenceCounts.f
 repeat' (first | (with_reducible first | exact spec_ciCounts.mono _ _ _ | exact spec_ciGood.mono _ _ _ | exact LeO.refl _ | exact LeO.none _ | refine LeO.ite ?_ ?_ | refine LeO.bind ?_ (fun _ => ?_)) | exact spec_ciCounts.mono _ _ _ | exact spec_ciGood.mono _ _ _ | exact LeO.none _ | refine LeO.ite ?_ ?_ | refine LeO.bind ?_ (fun _ => ?_))
set_option maxHeartbeats 8000000 in
set_option maxRecDepth 100000 in
theorem spec_DifferenceCounts.calls (k : Nat) (a0 : Int) (P1_ : Nat → Prop) (A1 : Option Addr) (c1 : Nat) (l1 : List Int) (r1 : List Int) (r2 : Bool) (w : World) (hs1 : Kd.V (Kd.int .i64) 3 w w.heap.size (fun k_ => P1_ k_) (.slice A1 l1.length c1) l1) (h : spec_DifferenceCounts.f k a0 l1 = some (r1, r2)) :
  Calls Try.prog 39 #[.int .i64 a0, .slice A1 l1.length c1] w fun e w' => ∃ v0_ : Value, e = .returned (.tuple #[v0_, .bool r2]) ∧ Kd.R (Kd.int .i64) 3 w' w.heap.size (fun k_ => (w.heap.size ≤ k_)) v0_ r1 ∧ Below w.heap.size w w' := by
 have HO1 := Aside0.mk (show Kd.V (Kd.int .i64) 3 w w.heap.size (fun k_ => (P1_ k_ ∨ w.heap.size ≤ k_)) (.slice A1 l1.length c1) l1 from Kd.V_mono hs1 (fun k_ hk => .inl hk))
 have HB := Aside0.mk (Below.refl w.heap.size w)
 have H := h
 unfold spec_DifferenceCounts.f at H
 clear h
 replace H := Option.bind_eq_some_iff.mp H
 obtain ⟨t809, A30, H⟩ := H
 replace H : (if t809 = true then ((spec_ciCounts.f k a0 (([l1] : List (List Int)))).bind fun t813 => (some (t813, true))) else (some (([] : List Int), false))) = some (r1, r2) := H
 have A3 := Aside0.mk A30
 clear A30
 by_cases c4 : t809 = true
 ·subst c4
  have H1 : ((spec_ciCounts.f k a0 (([l1] : List (List Int)))).bind fun t813 => (some (t813, true))) = some (r1, r2) := by rw [if_pos rfl] at H; exact H
  clear H
  have H := H1
  clear H1
  obtain ⟨y810, hy810⟩ : ∃ y_ : List (List Int), y_ = (([l1] : List (List Int))) := ⟨_, rfl⟩
  replace H : ((spec_ciCounts.f k a0 y810).bind fun t813 => (some (t813, true))) = some (r1, r2) := by first | (rw [hy810]; with_reducible exact H) | (have H2_ := (Option.bind_some _ _).symm.trans H; rw [hy810]; with_reducible exact H2_) | (have H2_ := (Option.bind_some _ _).symm.trans H; with_reducible exact H2_) | with_reducible exact H | (rw [hy810]; exact H) | exact H
  have Ny810 := Aside0.mk hy810
  clear hy810
  replace H := Option.bind_eq_some_iff.mp H
  obtain ⟨t813, A50, H⟩ := H
  replace H : (some (t813, true)) = some (r1, r2) := H
  have A5 := Aside0.mk A50
  clear A50
  simp only [Option.some.injEq, Prod.mk.injEq] at H
  obtain ⟨rfl, rfl⟩ := H
  go_enter Try.func39, Try.ntmps39
  go_wp2_with (first | ((with_reducible refine gate_callee (f := 82) rfl ?_); refine goesA (some 8) Try.func82 #[.int .i64 a0, .slice A1 l1.length c1] ?_; (with_reducible refine (spec_ciGood.calls k a0 _ _ l1 true _ ?side1 ?side2 A3.out).mono ?_); (case side1 => repeat (first | exact (Kd.V_reads' HO1.out).2.2 | (with_reducible refine Kd.C_alloc ?_ _) | (with_reducible refine Kd.C_drewN ?_ _) | (with_reducible refine Kd.C_drew ?_))); (case side2 => exact (Kd.V_reads' HO1.out).2.1); rintro e w' ⟨rfl, ⟨nd, rfl⟩⟩; refine ⟨_, rfl, ?_⟩) | ((with_reducible refine gate_dst (N := 12) rfl ?_); refine N_lit0 (Kd.slice 3 (Kd.int .i64)) 24 ?hg (N' := 12) ?hd (xs := ([l1] : List (List Int))) (inner := [.slice A1 l1.length c1]) (ok := (fun k_ => (P1_ k_ ∨ w.heap.size ≤ k_))) (okp := (fun k_ => (P1_ k_ ∨ w.heap.size ≤ k_))) ?hr ?hp (fun _ hk => hk) (by exact (show ∀ k_, w.heap.size ≤ k_ → (fun k_ => (P1_ k_ ∨ w.heap.size ≤ k_)) k_ from fun k_ hk => (.inr (Nat.le_trans (szB HB) hk))) _ (Nat.le_refl _)) (by simp) ?_; (case hd => rfl); (case hg => rfl); (case hr => first | (go_simp; done) | (go_simp; rfl)); (case hp => exact (Reps.one (show Kd.FK (Kd.slice 3 (Kd.int .i64)) _ _ l1 [.slice A1 l1.length c1] from (Kd.FK_slice_mk (Kd.V_reads' (Kd.V_mono (ok' := (fun k_ => (P1_ k_ ∨ w.heap.size ≤ k_))) (HO1.out) (fun k_ hk => hk))).2.1 (Kd.V_F (Kd.V_mono (ok' := (fun k_ => (P1_ k_ ∨ w.heap.size ≤ k_))) (by (with_reducible repeat (first | apply Kd.V_alloc | apply Kd.V_drewN | apply Kd.V_drew)); exact HO1.out) (fun k_ hk => hk))))) (Reps.none _ _))); intro v811 w6 ho7 hb hg_ hnew_; clear hg_ hnew_; (first | rw [← Ny810.out] at ho7 | (simp only [Int.reduceToNat] at ho7; rw [← Ny810.out] at ho7)); have HO812 := Aside0.mk (Kd.N_lower ho7 (szB HB)); replace HO1 := Aside0.mk (Kd.V_elder' (by (with_reducible repeat (first | apply Kd.V_alloc | apply Kd.V_drewN | apply Kd.V_drew)); exact HO1.out) (Kd.N_base ho7) hb); replace HB := upB HB hb; clear hb ho7; obtain ⟨Ao8, co8, eo8⟩ := Kd.N_slice HO812.out; subst eo8) | ((with_reducible refine gate_callee (f := 84) rfl ?_); refine goesA (some 13) Try.func84 #[.int .i64 a0, .slice Ao8 y810.length co8] ?_; (with_reducible refine (spec_ciCounts.calls k a0 _ _ y810 t813 _ ?side1 ?side2 A5.out).mono ?_); (case side1 => repeat (first | exact (Kd.N_reads' HO812.out).2.2 | (with_reducible refine Kd.C_alloc ?_ _) | (with_reducible refine Kd.C_drewN ?_ _) | (with_reducible refine Kd.C_drew ?_))); (case side2 => exact (Kd.N_reads' HO812.out).2.1); rintro e w9 ⟨v814, rfl, ho0, hb⟩; refine ⟨_, rfl, ?_⟩; have HO815 := Aside0.mk (Kd.R_lower (Kd.R_newM (M := fun k_ => (w.heap.size ≤ k_)) ho0 (szB HB) (fun k_ h_ => h_)) (szB HB)); replace HO1 := Aside0.mk (Kd.V_elder' (by (with_reducible repeat (first | apply Kd.V_alloc | apply Kd.V_drewN | apply Kd.V_drew)); exact HO1.out) (Kd.R_base ho0) hb); replace HO812 := Aside0.mk (Kd.N_elder' (by (with_reducible repeat (first | apply Kd.N_alloc | apply Kd.N_drewN | apply Kd.N_drew)); exact HO812.out) (Kd.R_base ho0) hb); replace HB := upB HB hb; (try clear hb); (try clear hb2); (try clear hk); (try clear hi); (try clear ho0)))
  go_ret2
  exact ⟨_, eqr, by (with_reducible repeat (first | apply Kd.R_alloc | apply Kd.R_drewN | apply Kd.R_drew)); exact Kd.R_mono HO815.out (fun _ hk => hk.1), atB HB⟩
 ·replace c4 := Bool.eq_false_iff.mpr c4
  subst c4
  have H1 : (some (([] : List Int), false)) = some (r1, r2) := by rw [if_neg (show ¬ (false = true) by decide)] at H; exact H
  clear H
  have H := H1
  clear H1
  simp only [Option.some.injEq, Prod.mk.injEq] at H
  obtain ⟨rfl, rfl⟩ := H
  go_enter Try.func39, Try.ntmps39
  go_wp2_with (first | ((with_reducible refine gate_callee (f := 82) rfl ?_); refine goesA (some 8) Try.func82 #[.int .i64 a0, .slice A1 l1.length c1] ?_; (with_reducible refine (spec_ciGood.calls k a0 _ _ l1 false _ ?side1 ?side2 A3.out).mono ?_); (case side1 => repeat (first | exact (Kd.V_reads' HO1.out).2.2 | (with_reducible refine Kd.C_alloc ?_ _) | (with_reducible refine Kd.C_drewN ?_ _) | (with_reducible refine Kd.C_drew ?_))); (case side2 => exact (Kd.V_reads' HO1.out).2.1); rintro e w' ⟨rfl, ⟨nd, rfl⟩⟩; refine ⟨_, rfl, ?_⟩))
  go_ret2
  exact ⟨_, eqr, by first | exact Kd.R_nil _ _ _ _ _ | exact Kd.N_nil _ _ _ _ _ | exact Kd.V_nil _ _ _ _ _ | exact Kd.Q_nil _ _ _ _ _ | exact Kd.S_nil _ _ _ _ _, atB HB⟩

noncomputable def spec_DifferenceCounts.F (a0 : Int) (l1 : List Int) : Option (List Int × Bool) := lim fun k => spec_DifferenceCounts.f k a0 l1
theorem spec_DifferenceCounts.F_lim (a0 : Int) (l1 : List Int) : Lim (fun k => spec_DifferenceCounts.f k a0 l1) (spec_DifferenceCounts.F a0 l1) := Lim.of fun k => spec_DifferenceCounts.mono a0 l1 k
theorem spec_DifferenceCounts.F_eq (a0 : Int) (l1 : List Int) : spec_DifferenceCounts.F a0 l1 = ((spec_ciGood.F a0 l1).bind fun t809 => (if t809 = true then ((spec_ciCounts.F a0 (([l1] : List (List Int)))).bind fun t813 => (some (t813, true))) else (some (([] : List Int), false)))) :=
 Lim.unique (spec_DifferenceCounts.F_lim a0 l1) (by
  unfold spec_DifferenceCounts.f
  repeat' (first | (with_reducible first | exact Lim.const _ | exact spec_ciCounts.F_lim _ _ | exact spec_ciGood.F_lim _ _ | refine Lim.ite ?_ ?_ | refine Lim.bind ?_ (fun _ => ?_))))

end Go.Proofs.Ytofjndbpndpjjaa.Fn
namespace Go.Proofs.Ytofjndbpndpjjaa.Fn
open Go.RowKit Go.Proofs.YtofjndbpndpjjaaW.PrintWords Go.Proofs.YtofjndbpndpjjaaW.PrintLast Go.Proofs.YtofjndbpndpjjaaW.PrintMore
attribute [local go_sem] max2_int min2_int max_two min_two max_three min_three max_four min_four   -- for this text's walks alone
set_option linter.unusedVariables false
set_option linter.unusedSimpArgs false

/-! ### spec_ciCommon: function 88 -/
def spec_ciCommon.l0 : Nat → Int → Int → Option (Int)
 | 0, _, _ => none
 | k + 1, x0, x1 => if x1 > 0 then (if x1 = 0 then (none) else (spec_ciCommon.l0 k x1 (Int.tmod x0 x1))) else (some x0)
def spec_ciCommon.f (k : Nat) (a0 : Int) (a1 : Int) : Option (Int) := spec_ciCommon.l0 k a0 a1
theorem spec_ciCommon.mono_l : ∀ k, (∀ y0 y1, LeO (spec_ciCommon.l0 k y0 y1) (spec_ciCommon.l0 (k + 1) y0 y1))
 | 0 => fun _ _ r h => by simp [spec_ciCommon.l0] at h
 | k + 1 => by
  have ih0 := spec_ciCommon.mono_l k
  ·intro y0 y1
   unfold spec_ciCommon.l0
   repeat' (first | (with_reducible first | exact ih0 _ _ | exact LeO.refl _ | exact LeO.none _ | refine LeO.ite ?_ ?_ | refine LeO.bind ?_ (fun _ => ?_)) | exact ih0 _ _ | exact LeO.none _ | refine LeO.ite ?_ ?_ | refine LeO.bind ?_ (fun _ => ?_))
theorem spec_ciCommon.mono : ∀ a0 a1 k, LeO (spec_ciCommon.f k a0 a1) (spec_ciCommon.f (k + 1) a0 a1) := by
 intro a0 a1 k
 have ih0 := spec_ciCommon.mono_l k
 unfold spec_ciCommon.f
 repeat' (first | (with_reducible first | exact ih0 _ _ | exact LeO.refl _ | exact LeO.none _ | refine LeO.ite ?_ ?_ | refine LeO.bind ?_ (fun _ => ?_)) | exact ih0 _ _ | exact LeO.none _ | refine LeO.ite ?_ ?_ | refine LeO.bind ?_ (fun _ => ?_))
set_option maxHeartbeats 8000000 in
set_option maxRecDepth 100000 in
theorem spec_ciCommon.calls (k : Nat) (a0 : Int) (a1 : Int) (r : Int) (w : World) (h : spec_ciCommon.f k a0 a1 = some r) :
  Calls Try.prog 88 #[.int .i64 a0, .int .i64 a1] w fun e w' => e = .returned (.int .i64 r) ∧ Drawn0 w w' := by
 have H := h
 unfold spec_ciCommon.f at H
 clear h
 have H' := Aside0.mk H
 clear H
 go_enter Try.func88, Try.ntmps88
 go_wp2
 repeat (go_quiet (fail); try go_wp2)
 go_loopg [0, 1] k (fun kq v0 v1 w' => ∃ (x0_1 : Int) (x1_1 : Int), v0 = .int .i64 x0_1 ∧ v1 = .int .i64 x1_1 ∧ Aside0 (spec_ciCommon.l0 kq x0_1 x1_1 = some r) ∧ Aside0 (kq ≤ k) ∧ Drawn0 w w')
 case atStart => exact ⟨(a0), (a1), eqd, eqd, H', ⟨Nat.le_refl _⟩, by repeat (first | exact Drawn0.refl _ | apply Drawn0.step)⟩
 case round =>
  clear H'
  try clear p2
  obtain ⟨x0_1, x1_1, rfl, rfl, HA, HK1, ⟨m1, rfl⟩⟩ := hrel
  cases gk with
  | zero => exact absurd HA.out (by simp [spec_ciCommon.l0])
  | succ k1 =>
   have H := HA.out
   clear HA
   simp only [spec_ciCommon.l0] at H
   by_cases c3 : x1_1 > 0
   ·rw [if_pos c3] at H
    have c3b0 : decide (0 < x1_1) = true := decide_eq_true c3
    clear c3
    by_cases c4 : x1_1 = 0
    ·rw [if_pos c4] at H
     exact absurd H (by simp)
    ·rw [if_neg c4] at H
     have c4b0 : (x1_1 == 0) = false := beq_eq_false_iff_ne.mpr c4
     have c4b1 : (x1_1 != 0) = true := bne_iff_ne.mpr c4
     have H' := Aside0.mk H
     clear H
     go_wp2
     repeat (go_quiet (fail); try go_wp2)
     go_roundg k1
     case measure => have := HK1.out; omega
     case rel => exact ⟨(x1_1), (Int.tmod x0_1 x1_1), eqd, eqd, H', ⟨by have := HK1.out; omega⟩, by repeat (first | exact Drawn0.refl _ | apply Drawn0.step)⟩
   ·rw [if_neg c3] at H
    have c3b0 : decide (0 < x1_1) = false := decide_eq_false c3
    clear c3
    obtain rfl := Option.some.inj H
    go_wp2
    repeat (go_quiet (fail); try go_wp2)
    go_ret
    exact ⟨by first | rfl | (simp; done) | (simp [*]; done), by repeat (first | exact Drawn0.refl _ | apply Drawn0.step)⟩

noncomputable def spec_ciCommon.L0 (x0 : Int) (x1 : Int) : Option (Int) := lim fun k => spec_ciCommon.l0 k x0 x1
theorem spec_ciCommon.L0_lim (x0 : Int) (x1 : Int) : Lim (fun k => spec_ciCommon.l0 k x0 x1) (spec_ciCommon.L0 x0 x1) := Lim.of fun k => (spec_ciCommon.mono_l k) x0 x1
noncomputable def spec_ciCommon.F (a0 : Int) (a1 : Int) : Option (Int) := lim fun k => spec_ciCommon.f k a0 a1
theorem spec_ciCommon.F_lim (a0 : Int) (a1 : Int) : Lim (fun k => spec_ciCommon.f k a0 a1) (spec_ciCommon.F a0 a1) := Lim.of fun k => spec_ciCommon.mono a0 a1 k
theorem spec_ciCommon.L0_eq (x0 : Int) (x1 : Int) : spec_ciCommon.L0 x0 x1 = (if x1 > 0 then (if x1 = 0 then (none) else (spec_ciCommon.L0 x1 (Int.tmod x0 x1))) else (some x0)) :=
 Lim.step (f := fun k => spec_ciCommon.l0 (k + 1) x0 x1) (spec_ciCommon.L0_lim x0 x1) (fun _ => rfl) (by
  simp only [spec_ciCommon.l0]
  repeat' (first | (with_reducible first | exact Lim.const _ | exact spec_ciCommon.L0_lim _ _ | refine Lim.ite ?_ ?_ | refine Lim.bind ?_ (fun _ => ?_))))
theorem spec_ciCommon.F_eq (a0 : Int) (a1 : Int) : spec_ciCommon.F a0 a1 = (spec_ciCommon.L0 a0 a1) :=
 Lim.unique (spec_ciCommon.F_lim a0 a1) (by
  unfold spec_ciCommon.f
  repeat' (first | (with_reducible first | exact Lim.const _ | exact spec_ciCommon.L0_lim _ _ | refine Lim.ite ?_ ?_ | refine Lim.bind ?_ (fun _ => ?_))))

end Go.Proofs.Ytofjndbpndpjjaa.Fn
