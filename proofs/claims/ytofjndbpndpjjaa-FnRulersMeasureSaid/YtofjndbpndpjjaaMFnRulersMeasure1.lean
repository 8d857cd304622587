/- The machine's side and plain lemmas for FnRulersMeasure: texts of this session, merged by its program (part 1). -/
import Derived.Test.YtofjndbpndpjjaaMFnRulersMeasure0
namespace Go.Proofs.Ytofjndbpndpjjaa.Fn
open Go.RowKit Go.Proofs.YtofjndbpndpjjaaW.PrintWords Go.Proofs.YtofjndbpndpjjaaW.PrintLast Go.Proofs.YtofjndbpndpjjaaW.PrintMore
attribute [local go_sem] max2_int min2_int max_two min_two max_three min_three max_four min_four   -- for this text's walks alone
set_option linter.unusedVariables false
set_option linter.unusedSimpArgs false

/-! ### impl_MissingDistances: function 11 -/
def impl_MissingDistances.l0 : Nat → List Int → List Int → Int → Int → Option (List Int × Bool)
 | 0, _, _, _, _ => none
 | k + 1, x4, x11, x12, x13 => if x13 < x12 then (if 0 ≤ x13 then (if x13 < (x11.length : Int) then (if x13 > 0 then (if (rd x11 x13) = 0 then (if x4.length < 17592186044416 then (impl_MissingDistances.l0 k (x4 ++ [x13]) x11 x12 (wrap64 (x13 + 1))) else (none)) else (impl_MissingDistances.l0 k x4 x11 x12 (wrap64 (x13 + 1)))) else (impl_MissingDistances.l0 k x4 x11 x12 (wrap64 (x13 + 1)))) else (none)) else (none)) else (some (x4, true))
def impl_MissingDistances.f (k : Nat) (l0 : List Int) : Option (List Int × Bool) := (impl_IsRuler.f k l0).bind fun t222 => (if t222 = true then ((impl_measured.f k l0).bind fun t223 => (impl_MissingDistances.l0 k ([] : List Int) t223 (t223.length : Int) 0)) else (some (([] : List Int), false)))
theorem impl_MissingDistances.mono_l : ∀ k, (∀ y0 y1 y2 y3, LeO (impl_MissingDistances.l0 k y0 y1 y2 y3) (impl_MissingDistances.l0 (k + 1) y0 y1 y2 y3))
 | 0 => fun _ _ _ _ r h => by simp [impl_MissingDistances.l0] at h
 | k + 1 => by
  have ih0 := impl_MissingDistances.mono_l k
  ·intro y0 y1 y2 y3
   unfold impl_MissingDistances.l0
   repeat' (first | (with_reducible first | exact ih0 _ _ _ _ | exact LeO.refl _ | exact LeO.none _ | refine LeO.ite ?_ ?_ | refine LeO.bind ?_ (fun _ => ?_)) | exact ih0 _ _ _ _ | exact LeO.none _ | refine LeO.ite ?_ ?_ | refine LeO.bind ?_ (fun _ => ?_))
theorem impl_MissingDistances.mono : ∀ a0 k, LeO (impl_MissingDistances.f k a0) (impl_MissingDistances.f (k + 1) a0) := by
 intro a0 k
 have ih0 := impl_MissingDistances.mono_l k
 unfold impl_MissingDistances.f
 repeat' (first | (with_reducible first | exact ih0 _ _ _ _ | exact impl_IsRuler.mono _ _ | exact impl_measured.mono _ _ | exact LeO.refl _ | exact LeO.none _ | refine LeO.ite ?_ ?_ | refine LeO.bind ?_ (fun _ => ?_)) | exact ih0 _ _ _ _ | exact impl_IsRuler.mono _ _ | exact impl_measured.mono _ _ | exact LeO.none _ | refine LeO.ite ?_ ?_ | refine LeO.bind ?_ (fun _ => ?_))
set_option maxHeartbeats 8000000 in
set_option maxRecDepth 100000 in
theorem impl_MissingDistances.calls (k : Nat) (A0 : Option Addr) (c0 : Nat) (l0 : List Int) (r1 : List Int) (r2 : Bool) (w : World) (hr0 : Kd.C (Kd.int .i64) w A0 l0.length l0) (hc0 : l0.length ≤ c0) (h : impl_MissingDistances.f k l0 = some (r1, r2)) :
  Calls Try.prog 11 #[.slice A0 l0.length c0] w fun e w' => ∃ v0_ : Value, e = .returned (.tuple #[v0_, .bool r2]) ∧ Kd.R (Kd.int .i64) 3 w' w.heap.size (fun _ => True) v0_ r1 ∧ Below w.heap.size w w' := by
 have HR0 := Aside0.mk hr0
 have HC0 := Aside0.mk hc0
 clear hr0 hc0
 have HB := Aside0.mk (Below.refl w.heap.size w)
 have H := h
 unfold impl_MissingDistances.f at H
 clear h
 replace H := Option.bind_eq_some_iff.mp H
 obtain ⟨t222, A20, H⟩ := H
 replace H : (if t222 = true then ((impl_measured.f k l0).bind fun t223 => (impl_MissingDistances.l0 k ([] : List Int) t223 (t223.length : Int) 0)) else (some (([] : List Int), false))) = some (r1, r2) := H
 have A2 := Aside0.mk A20
 clear A20
 by_cases c3 : t222 = true
 ·subst c3
  have H1 : ((impl_measured.f k l0).bind fun t223 => (impl_MissingDistances.l0 k ([] : List Int) t223 (t223.length : Int) 0)) = some (r1, r2) := by rw [if_pos rfl] at H; exact H
  clear H
  have H := H1
  clear H1
  replace H := Option.bind_eq_some_iff.mp H
  obtain ⟨t223, A40, H⟩ := H
  replace H : (impl_MissingDistances.l0 k ([] : List Int) t223 (t223.length : Int) 0) = some (r1, r2) := H
  have A4 := Aside0.mk A40
  clear A40
  have H' := Aside0.mk H
  clear H
  go_enter Try.func11, Try.ntmps11
  go_wp2_with (first | ((with_reducible refine gate_callee (f := 22) rfl ?_); refine goesA (some 8) Try.func22 #[.slice A0 l0.length c0] ?_; (with_reducible refine (impl_IsRuler.calls k _ _ l0 true _ ?side1 ?side2 A2.out).mono ?_); (case side1 => repeat (first | exact HR0.out | (with_reducible refine Kd.C_alloc ?_ _) | (with_reducible refine Kd.C_drewN ?_ _) | (with_reducible refine Kd.C_drew ?_))); (case side2 => exact HC0.out); rintro e w' ⟨rfl, ⟨nd, rfl⟩⟩; refine ⟨_, rfl, ?_⟩) | ((with_reducible refine gate_callee (f := 59) rfl ?_); refine goesA (some 11) Try.func59 #[.slice A0 l0.length c0] ?_; (with_reducible refine (impl_measured.calls k _ _ l0 t223 _ ?side1 ?side2 A4.out).mono ?_); (case side1 => repeat (first | exact HR0.out | (with_reducible refine Kd.C_alloc ?_ _) | (with_reducible refine Kd.C_drewN ?_ _) | (with_reducible refine Kd.C_drew ?_))); (case side2 => exact HC0.out); rintro e w5 ⟨v224, rfl, ho0, hb⟩; refine ⟨_, rfl, ?_⟩; have HO225 := lowR ho0 HB; replace HB := upB HB hb; (try clear hb); (try clear hb2); (try clear hk); (try clear hi); (try clear ho0); obtain ⟨Ao6, co6, eo6⟩ := Kd.R_slice HO225.out; subst eo6))
  go_loopg [4, 13] k (fun kq v4 v13 w' => ∃ (x4_1 : List Int) (x13_1 : Int), v13 = .int .i64 x13_1 ∧ Aside0 (impl_MissingDistances.l0 kq x4_1 t223 (t223.length : Int) x13_1 = some (r1, r2)) ∧ Aside0 (kq ≤ k) ∧ Aside0 (Kd.R (Kd.int .i64) 3 w' w.heap.size (fun k_ => some k_ ≠ ((.slice Ao6 t223.length co6) : Value).ownBlock) v4 x4_1) ∧ Aside0 (Kd.R (Kd.int .i64) 3 w' w.heap.size (fun k_ => some k_ ≠ (v4 : Value).ownBlock) (.slice Ao6 t223.length co6) t223) ∧ Aside0 (Below w.heap.size w w'))
  case atStart => exact ⟨(([] : List Int)), (0), eqd, H', ⟨Nat.le_refl _⟩, ⟨by first | exact Kd.R_nil _ _ _ _ _ | exact Kd.N_nil _ _ _ _ _ | exact Kd.V_nil _ _ _ _ _ | exact Kd.Q_nil _ _ _ _ _ | exact Kd.S_nil _ _ _ _ _⟩, ⟨by (with_reducible repeat (first | apply Kd.R_alloc | apply Kd.R_drewN | apply Kd.R_drew)); exact Kd.R_mono HO225.out (fun _ hk => (by simp [Value.ownBlock]))⟩, ⟨atB HB⟩⟩
  case round =>
   clear H'
   try clear c1
   try clear c2
   try clear p2
   try clear c3
   try clear c5
   obtain ⟨x4_1, x13_1, rfl, HA, HK1, HO_4, HO_11, HB⟩ := hrel
   cases gk with
   | zero => exact absurd HA.out (by simp [impl_MissingDistances.l0])
   | succ k1 =>
    have H := HA.out
    clear HA
    simp only [impl_MissingDistances.l0] at H
    by_cases c7 : x13_1 < (t223.length : Int)
    ·rw [if_pos c7] at H
     have c7b0 : decide (x13_1 < (t223.length : Int)) = true := decide_eq_true c7
     clear c7
     by_cases c8 : 0 ≤ x13_1
     ·rw [if_pos c8] at H
      have c8b0 : decide (0 ≤ x13_1) = true := decide_eq_true c8
      clear c8
      by_cases c9 : x13_1 < (t223.length : Int)
      ·rw [if_pos c9] at H
       have c9b0 : decide (x13_1 < (t223.length : Int)) = true := decide_eq_true c9
       clear c9
       by_cases c10 : x13_1 > 0
       ·rw [if_pos c10] at H
        have c10b0 : decide (0 < x13_1) = true := decide_eq_true c10
        clear c10
        by_cases c11 : (rd t223 x13_1) = 0
        ·rw [if_pos c11] at H
         have c11b0 : ((rd t223 x13_1) == 0) = true := beq_iff_eq.mpr c11
         have c11b1 : ((rd t223 x13_1) != 0) = false := bne_eq_false_iff_eq.mpr c11
         clear c11
         by_cases c12 : x4_1.length < 17592186044416
         ·rw [if_pos c12] at H
          have LMc12 := Aside0.mk c12
          clear c12
          obtain ⟨y227, hy227⟩ : ∃ y_ : List Int, y_ = (x4_1 ++ [x13_1]) := ⟨_, rfl⟩
          replace H : (impl_MissingDistances.l0 k1 y227 t223 (t223.length : Int) (wrap64 (x13_1 + 1))) = some (r1, r2) := by first | (rw [hy227]; with_reducible exact H) | (have H2_ := (Option.bind_some _ _).symm.trans H; rw [hy227]; with_reducible exact H2_) | (have H2_ := (Option.bind_some _ _).symm.trans H; with_reducible exact H2_) | with_reducible exact H | (rw [hy227]; exact H) | exact H
          have Ny227 := Aside0.mk hy227
          clear hy227
          have H' := Aside0.mk H
          clear H
          have p226 : 0 ≤ (x13_1 : Int) := ofd
          have q226 : x13_1 < (t223.length : Int) := ofd
          obtain ⟨ad226, e226, hx226_0⟩ := Kd.at_int (Kd.R_reads' HO_11.out).2.2 x13_1 p226 q226
          cases e226
          replace p226 := eq_true p226
          replace q226 := eq_true q226
          go_wp2_with (first | ((with_reducible refine gate_builtin (b := .append) (xs := #[.tmp 24, .tmp 26]) rfl ?_); at_builtin; refine Kd.R_append (Kd.int .i64) (w0 := w) w.heap.size rfl (.tmp 24) (.tmp 26) 24 3 (.int .i64 0) 8 rfl Try.underlying24 info3 rfl (by decide) (by omega) u4 x4_1 x13_1 [.int .i64 x13_1] (fun k_ => some k_ ≠ (.slice (some ad226) t223.length co6 : Value).ownBlock) (fun _ => False) rfl rfl ?aP (fun _ hk => hk.elim) ?aF ?aO ?aB ?aS ?aL ?_; (case aP => exact rfl); (case aB => exact (atB HB)); (case aF => exact (fun k_ hk => Kd.fresh' (ltR HO_11) k_ hk)); (case aO => exact (atR HO_4)); (case aS => exact (szB HB)); (case aL => have := LMc12.out; omega); intro v228 w13 ho hb hg hat; rw [← Ny227.out] at ho; have HO229 := Aside0.mk (ho); replace HO_11 := Aside0.mk (Kd.R_after (ok := (fun _ => True)) (by (with_reducible repeat (first | apply Kd.R_alloc | apply Kd.R_drewN | apply Kd.R_drew)); exact Kd.R_mono HO_11.out (fun _ hk => ⟨trivial, hk⟩)) hg hat); replace HB := Aside0.mk (hb); clear HO_4; clear ho hb hg hat))
          go_roundg k1
          case measure => have := HK1.out; omega
          case rel => exact ⟨(y227), (wrap64 (x13_1 + 1)), eqd, H', ⟨by have := HK1.out; omega⟩, ⟨atR HO229⟩, ⟨by (with_reducible repeat (first | apply Kd.R_alloc | apply Kd.R_drewN | apply Kd.R_drew)); exact Kd.R_mono HO_11.out (fun _ hk => hk.2)⟩, ⟨atB HB⟩⟩
         ·rw [if_neg c12] at H
          exact absurd H (by simp)
        ·rw [if_neg c11] at H
         have c11b0 : ((rd t223 x13_1) == 0) = false := beq_eq_false_iff_ne.mpr c11
         have c11b1 : ((rd t223 x13_1) != 0) = true := bne_iff_ne.mpr c11
         have H' := Aside0.mk H
         clear H
         have p226 : 0 ≤ (x13_1 : Int) := ofd
         have q226 : x13_1 < (t223.length : Int) := ofd
         obtain ⟨ad226, e226, hx226_0⟩ := Kd.at_int (Kd.R_reads' HO_11.out).2.2 x13_1 p226 q226
         cases e226
         replace p226 := eq_true p226
         replace q226 := eq_true q226
         go_wp2
         go_roundg k1
         case measure => have := HK1.out; omega
         case rel => exact ⟨(x4_1), (wrap64 (x13_1 + 1)), eqd, H', ⟨by have := HK1.out; omega⟩, ⟨atR HO_4⟩, ⟨atR HO_11⟩, ⟨atB HB⟩⟩
       ·rw [if_neg c10] at H
        have c10b0 : decide (0 < x13_1) = false := decide_eq_false c10
        clear c10
        have H' := Aside0.mk H
        clear H
        have p226 : 0 ≤ (x13_1 : Int) := ofd
        have q226 : x13_1 < (t223.length : Int) := ofd
        obtain ⟨ad226, e226, hx226_0⟩ := Kd.at_int (Kd.R_reads' HO_11.out).2.2 x13_1 p226 q226
        cases e226
        replace p226 := eq_true p226
        replace q226 := eq_true q226
        go_wp2
        go_roundg k1
        case measure => have := HK1.out; omega
        case rel => exact ⟨(x4_1), (wrap64 (x13_1 + 1)), eqd, H', ⟨by have := HK1.out; omega⟩, ⟨atR HO_4⟩, ⟨atR HO_11⟩, ⟨atB HB⟩⟩
      ·rw [if_neg c9] at H
       exact absurd H (by simp)
     ·rw [if_neg c8] at H
      exact absurd H (by simp)
    ·rw [if_neg c7] at H
     have c7b0 : decide (x13_1 < (t223.length : Int)) = false := decide_eq_false c7
     clear c7
     simp only [Option.some.injEq, Prod.mk.injEq] at H
     obtain ⟨rfl, rfl⟩ := H
     go_wp2
     go_ret2
     exact ⟨_, eqr, by (with_reducible repeat (first | apply Kd.R_alloc | apply Kd.R_drewN | apply Kd.R_drew)); exact Kd.R_mono HO_4.out (fun _ hk => trivial), atB HB⟩
 ·replace c3 := Bool.eq_false_iff.mpr c3
  subst c3
  have H1 : (some (([] : List Int), false)) = some (r1, r2) := by rw [if_neg (show ¬ (false = true) by decide)] at H; exact H
  clear H
  have H := H1
  clear H1
  simp only [Option.some.injEq, Prod.mk.injEq] at H
  obtain ⟨rfl, rfl⟩ := H
  go_enter Try.func11, Try.ntmps11
  go_wp2_with (first | ((with_reducible refine gate_callee (f := 22) rfl ?_); refine goesA (some 8) Try.func22 #[.slice A0 l0.length c0] ?_; (with_reducible refine (impl_IsRuler.calls k _ _ l0 false _ ?side1 ?side2 A2.out).mono ?_); (case side1 => repeat (first | exact HR0.out | (with_reducible refine Kd.C_alloc ?_ _) | (with_reducible refine Kd.C_drewN ?_ _) | (with_reducible refine Kd.C_drew ?_))); (case side2 => exact HC0.out); rintro e w' ⟨rfl, ⟨nd, rfl⟩⟩; refine ⟨_, rfl, ?_⟩))
  go_ret2
  exact ⟨_, eqr, by first | exact Kd.R_nil _ _ _ _ _ | exact Kd.N_nil _ _ _ _ _ | exact Kd.V_nil _ _ _ _ _ | exact Kd.Q_nil _ _ _ _ _ | exact Kd.S_nil _ _ _ _ _, atB HB⟩

noncomputable def impl_MissingDistances.L0 (x4 : List Int) (x11 : List Int) (x12 : Int) (x13 : Int) : Option (List Int × Bool) := lim fun k => impl_MissingDistances.l0 k x4 x11 x12 x13
theorem impl_MissingDistances.L0_lim (x4 : List Int) (x11 : List Int) (x12 : Int) (x13 : Int) : Lim (fun k => impl_MissingDistances.l0 k x4 x11 x12 x13) (impl_MissingDistances.L0 x4 x11 x12 x13) := Lim.of fun k => (impl_MissingDistances.mono_l k) x4 x11 x12 x13
noncomputable def impl_MissingDistances.F (l0 : List Int) : Option (List Int × Bool) := lim fun k => impl_MissingDistances.f k l0
theorem impl_MissingDistances.F_lim (l0 : List Int) : Lim (fun k => impl_MissingDistances.f k l0) (impl_MissingDistances.F l0) := Lim.of fun k => impl_MissingDistances.mono l0 k
theorem impl_MissingDistances.L0_eq (x4 : List Int) (x11 : List Int) (x12 : Int) (x13 : Int) : impl_MissingDistances.L0 x4 x11 x12 x13 = (if x13 < x12 then (if 0 ≤ x13 then (if x13 < (x11.length : Int) then (if x13 > 0 then (if (rd x11 x13) = 0 then (if x4.length < 17592186044416 then (impl_MissingDistances.L0 (x4 ++ [x13]) x11 x12 (wrap64 (x13 + 1))) else (none)) else (impl_MissingDistances.L0 x4 x11 x12 (wrap64 (x13 + 1)))) else (impl_MissingDistances.L0 x4 x11 x12 (wrap64 (x13 + 1)))) else (none)) else (none)) else (some (x4, true))) :=
 Lim.step (f := fun k => impl_MissingDistances.l0 (k + 1) x4 x11 x12 x13) (impl_MissingDistances.L0_lim x4 x11 x12 x13) (fun _ => rfl) (by
  simp only [impl_MissingDistances.l0]
  repeat' (first | (with_reducible first | exact Lim.const _ | exact impl_MissingDistances.L0_lim _ _ _ _ | refine Lim.ite ?_ ?_ | refine Lim.bind ?_ (fun _ => ?_))))
theorem impl_MissingDistances.F_eq (l0 : List Int) : impl_MissingDistances.F l0 = ((impl_IsRuler.F l0).bind fun t222 => (if t222 = true then ((impl_measured.F l0).bind fun t223 => (impl_MissingDistances.L0 ([] : List Int) t223 (t223.length : Int) 0)) else (some (([] : List Int), false)))) :=
 Lim.unique (impl_MissingDistances.F_lim l0) (by
  unfold impl_MissingDistances.f
  repeat' (first | (with_reducible first | exact Lim.const _ | exact impl_IsRuler.F_lim _ | exact impl_MissingDistances.L0_lim _ _ _ _ | exact impl_measured.F_lim _ | refine Lim.ite ?_ ?_ | refine Lim.bind ?_ (fun _ => ?_))))

end Go.Proofs.Ytofjndbpndpjjaa.Fn
namespace Go.Proofs.Ytofjndbpndpjjaa.Fn
open Go.RowKit Go.Proofs.YtofjndbpndpjjaaW.PrintWords Go.Proofs.YtofjndbpndpjjaaW.PrintLast Go.Proofs.YtofjndbpndpjjaaW.PrintMore
attribute [local go_sem] max2_int min2_int max_two min_two max_three min_three max_four min_four   -- for this text's walks alone
set_option linter.unusedVariables false
set_option linter.unusedSimpArgs false

/-! ### impl_TimesMeasured: function 24 -/
def impl_TimesMeasured.j0 : Nat → List Int → Int → Bool → Option (Int × Bool)
 | 0, _, _, _ => none
 | k + 1, x0, x1, x14 => if x14 = true then (some (0, false)) else ((impl_measured.f k x0).bind fun t459 => (if x1 ≥ (t459.length : Int) then (some (0, true)) else (if 0 ≤ x1 then (if x1 < (t459.length : Int) then (some (rd t459 x1, true)) else (none)) else (none))))
def impl_TimesMeasured.f (k : Nat) (l0 : List Int) (a1 : Int) : Option (Int × Bool) := (impl_IsRuler.f k l0).bind fun t457 => (if t457 = true then ((impl_isDistance.f a1).bind fun t458 => (impl_TimesMeasured.j0 k l0 a1 (!t458))) else (impl_TimesMeasured.j0 k l0 a1 true))
theorem impl_TimesMeasured.mono_l : ∀ k, (∀ y0 y1 y2, LeO (impl_TimesMeasured.j0 k y0 y1 y2) (impl_TimesMeasured.j0 (k + 1) y0 y1 y2))
 | 0 => fun _ _ _ r h => by simp [impl_TimesMeasured.j0] at h
 | k + 1 => by
  have ih0 := impl_TimesMeasured.mono_l k
  ·intro y0 y1 y2
   unfold impl_TimesMeasured.j0
   repeat' (first | (with_reducible first | exact impl_measured.mono _ _ | exact LeO.refl _ | exact LeO.none _ | refine LeO.ite ?_ ?_ | refine LeO.bind ?_ (fun _ => ?_)) | exact impl_measured.mono _ _ | exact LeO.none _ | refine LeO.ite ?_ ?_ | refine LeO.bind ?_ (fun _ => ?_))
theorem impl_TimesMeasured.mono : ∀ a0 a1 k, LeO (impl_TimesMeasured.f k a0 a1) (impl_TimesMeasured.f (k + 1) a0 a1) := by
 intro a0 a1 k
 have ih0 := impl_TimesMeasured.mono_l k
 unfold impl_TimesMeasured.f
 repeat' (first | (with_reducible first | exact ih0 _ _ _ | exact impl_IsRuler.mono _ _ | exact LeO.refl _ | exact LeO.none _ | refine LeO.ite ?_ ?_ | refine LeO.bind ?_ (fun _ => ?_)) | exact ih0 _ _ _ | exact impl_IsRuler.mono _ _ | exact LeO.none _ | refine LeO.ite ?_ ?_ | refine LeO.bind ?_ (fun _ => ?_))
set_option maxHeartbeats 8000000 in
set_option maxRecDepth 100000 in
theorem impl_TimesMeasured.calls (k : Nat) (A0 : Option Addr) (c0 : Nat) (l0 : List Int) (a1 : Int) (r1 : Int) (r2 : Bool) (w : World) (hr0 : Kd.C (Kd.int .i64) w A0 l0.length l0) (hc0 : l0.length ≤ c0) (h : impl_TimesMeasured.f k l0 a1 = some (r1, r2)) :
  Calls Try.prog 24 #[.slice A0 l0.length c0, .int .i64 a1] w fun e w' => e = .returned (.tuple #[.int .i64 r1, .bool r2]) ∧ Below w.heap.size w w' := by
 have HR0 := Aside0.mk hr0
 have HC0 := Aside0.mk hc0
 clear hr0 hc0
 have HB := Aside0.mk (Below.refl w.heap.size w)
 have H := h
 unfold impl_TimesMeasured.f at H
 clear h
 have HC3 := Aside0.mk H
 clear H
 go_enter Try.func24, Try.ntmps24
 go_upto_region 1 with (fail)
 go_cut [14] (fun v14 wc => ∃ (kq : Nat) (x14_2 : Bool), v14 = .bool x14_2 ∧ Aside0 (impl_TimesMeasured.j0 kq l0 a1 x14_2 = some (r1, r2)) ∧ Aside0 (kq ≤ k) ∧ Aside0 (Below w.heap.size w wc))
 case first =>
  have H := HC3.out
  clear HC3
  replace H := Option.bind_eq_some_iff.mp H
  obtain ⟨t457, A40, H⟩ := H
  replace H : (if t457 = true then ((impl_isDistance.f a1).bind fun t458 => (impl_TimesMeasured.j0 k l0 a1 (!t458))) else (impl_TimesMeasured.j0 k l0 a1 true)) = some (r1, r2) := H
  have A4 := Aside0.mk A40
  clear A40
  by_cases c5 : t457 = true
  ·subst c5
   have H1 : ((impl_isDistance.f a1).bind fun t458 => (impl_TimesMeasured.j0 k l0 a1 (!t458))) = some (r1, r2) := by rw [if_pos rfl] at H; exact H
   clear H
   have H := H1
   clear H1
   replace H := Option.bind_eq_some_iff.mp H
   obtain ⟨t458, A60, H⟩ := H
   replace H : (impl_TimesMeasured.j0 k l0 a1 (!t458)) = some (r1, r2) := H
   have A6 := Aside0.mk A60
   clear A60
   have H' := Aside0.mk H
   clear H
   go_wp2_with (first | ((with_reducible refine gate_callee (f := 22) rfl ?_); refine goesA (some 8) Try.func22 #[.slice A0 l0.length c0] ?_; (with_reducible refine (impl_IsRuler.calls k _ _ l0 true _ ?side1 ?side2 A4.out).mono ?_); (case side1 => repeat (first | exact (Kd.C_below HR0.out HB.out) | (with_reducible refine Kd.C_alloc ?_ _) | (with_reducible refine Kd.C_drewN ?_ _) | (with_reducible refine Kd.C_drew ?_))); (case side2 => exact HC0.out); rintro e w' ⟨rfl, ⟨nd, rfl⟩⟩; refine ⟨_, rfl, ?_⟩) | (go_at_call 68; (with_reducible refine (impl_isDistance.calls a1 t458 _ A6.out).mono ?_); rintro e w' ⟨rfl, ⟨nd, rfl⟩⟩))
   go_meet
   case rel => exact ⟨_, (!t458), eqd, H', ⟨leD⟩, ⟨atB HB⟩⟩
  ·replace c5 := Bool.eq_false_iff.mpr c5
   subst c5
   have H1 : (impl_TimesMeasured.j0 k l0 a1 true) = some (r1, r2) := by rw [if_neg (show ¬ (false = true) by decide)] at H; exact H
   clear H
   have H := H1
   clear H1
   have H' := Aside0.mk H
   clear H
   go_wp2_with (first | ((with_reducible refine gate_callee (f := 22) rfl ?_); refine goesA (some 8) Try.func22 #[.slice A0 l0.length c0] ?_; (with_reducible refine (impl_IsRuler.calls k _ _ l0 false _ ?side1 ?side2 A4.out).mono ?_); (case side1 => repeat (first | exact (Kd.C_below HR0.out HB.out) | (with_reducible refine Kd.C_alloc ?_ _) | (with_reducible refine Kd.C_drewN ?_ _) | (with_reducible refine Kd.C_drew ?_))); (case side2 => exact HC0.out); rintro e w' ⟨rfl, ⟨nd, rfl⟩⟩; refine ⟨_, rfl, ?_⟩))
   go_meet
   case rel => exact ⟨_, (true), eqd, H', ⟨leD⟩, ⟨atB HB⟩⟩
 case rest =>
  clear HC3
  try clear c2
  try clear p2
  try clear c5
  obtain ⟨kq, x14_2, rfl, HA, HJ2, HB⟩ := hcut
  cases kq with
  | zero => exact absurd HA.out (by simp [impl_TimesMeasured.j0])
  | succ kj2 =>
   have H := HA.out
   clear HA
   simp only [impl_TimesMeasured.j0] at H
   by_cases c7 : x14_2 = true
   ·subst c7
    have H1 : (some (0, false)) = some (r1, r2) := by rw [if_pos rfl] at H; exact H
    clear H
    have H := H1
    clear H1
    simp only [Option.some.injEq, Prod.mk.injEq] at H
    obtain ⟨rfl, rfl⟩ := H
    go_wp2
    go_ret2
    exact ⟨eqr, atB HB⟩
   ·replace c7 := Bool.eq_false_iff.mpr c7
    subst c7
    have H1 : ((impl_measured.f kj2 l0).bind fun t459 => (if a1 ≥ (t459.length : Int) then (some (0, true)) else (if 0 ≤ a1 then (if a1 < (t459.length : Int) then (some (rd t459 a1, true)) else (none)) else (none)))) = some (r1, r2) := by rw [if_neg (show ¬ (false = true) by decide)] at H; exact H
    clear H
    have H := H1
    clear H1
    replace H := Option.bind_eq_some_iff.mp H
    obtain ⟨t459, A80, H⟩ := H
    replace H : (if a1 ≥ (t459.length : Int) then (some (0, true)) else (if 0 ≤ a1 then (if a1 < (t459.length : Int) then (some (rd t459 a1, true)) else (none)) else (none))) = some (r1, r2) := H
    have A8 := Aside0.mk A80
    clear A80
    by_cases c9 : a1 ≥ (t459.length : Int)
    ·rw [if_pos c9] at H
     have c9b0 : decide ((t459.length : Int) ≤ a1) = true := decide_eq_true c9
     clear c9
     simp only [Option.some.injEq, Prod.mk.injEq] at H
     obtain ⟨rfl, rfl⟩ := H
     go_wp2_with (first | ((with_reducible refine gate_callee (f := 59) rfl ?_); refine goesA (some 16) Try.func59 #[.slice A0 l0.length c0] ?_; (with_reducible refine (impl_measured.calls kj2 _ _ l0 t459 _ ?side1 ?side2 A8.out).mono ?_); (case side1 => repeat (first | exact (Kd.C_below HR0.out HB.out) | (with_reducible refine Kd.C_alloc ?_ _) | (with_reducible refine Kd.C_drewN ?_ _) | (with_reducible refine Kd.C_drew ?_))); (case side2 => exact HC0.out); rintro e w10 ⟨v460, rfl, ho0, hb⟩; refine ⟨_, rfl, ?_⟩; have HO461 := lowR ho0 HB; replace HB := upB HB hb; (try clear hb); (try clear hb2); (try clear hk); (try clear hi); (try clear ho0); obtain ⟨Ao11, co11, eo11⟩ := Kd.R_slice HO461.out; subst eo11))
     go_ret2
     exact ⟨eqr, atB HB⟩
    ·rw [if_neg c9] at H
     have c9b0 : decide ((t459.length : Int) ≤ a1) = false := decide_eq_false c9
     clear c9
     by_cases c12 : 0 ≤ a1
     ·rw [if_pos c12] at H
      have c12b0 : decide (0 ≤ a1) = true := decide_eq_true c12
      clear c12
      by_cases c13 : a1 < (t459.length : Int)
      ·rw [if_pos c13] at H
       have c13b0 : decide (a1 < (t459.length : Int)) = true := decide_eq_true c13
       clear c13
       simp only [Option.some.injEq, Prod.mk.injEq] at H
       obtain ⟨rfl, rfl⟩ := H
       go_wp2_with (first | ((with_reducible refine gate_callee (f := 59) rfl ?_); refine goesA (some 16) Try.func59 #[.slice A0 l0.length c0] ?_; (with_reducible refine (impl_measured.calls kj2 _ _ l0 t459 _ ?side1 ?side2 A8.out).mono ?_); (case side1 => repeat (first | exact (Kd.C_below HR0.out HB.out) | (with_reducible refine Kd.C_alloc ?_ _) | (with_reducible refine Kd.C_drewN ?_ _) | (with_reducible refine Kd.C_drew ?_))); (case side2 => exact HC0.out); rintro e w14 ⟨v460, rfl, ho0, hb⟩; refine ⟨_, rfl, ?_⟩; have HO461 := lowR ho0 HB; replace HB := upB HB hb; (try clear hb); (try clear hb2); (try clear hk); (try clear hi); (try clear ho0); obtain ⟨Ao15, co15, eo15⟩ := Kd.R_slice HO461.out; subst eo15; have p462 : 0 ≤ (a1 : Int) := ofd; have q462 : a1 < (t459.length : Int) := ofd; obtain ⟨ad462, e462, hx462_0⟩ := Kd.at_int (Kd.R_reads' HO461.out).2.2 a1 p462 q462; cases e462; replace p462 := eq_true p462; replace q462 := eq_true q462))
       go_ret2
       exact ⟨eqr, atB HB⟩
      ·rw [if_neg c13] at H
       exact absurd H (by simp)
     ·rw [if_neg c12] at H
      exact absurd H (by simp)

noncomputable def impl_TimesMeasured.J0 (x0 : List Int) (x1 : Int) (x14 : Bool) : Option (Int × Bool) := lim fun k => impl_TimesMeasured.j0 k x0 x1 x14
theorem impl_TimesMeasured.J0_lim (x0 : List Int) (x1 : Int) (x14 : Bool) : Lim (fun k => impl_TimesMeasured.j0 k x0 x1 x14) (impl_TimesMeasured.J0 x0 x1 x14) := Lim.of fun k => (impl_TimesMeasured.mono_l k) x0 x1 x14
noncomputable def impl_TimesMeasured.F (l0 : List Int) (a1 : Int) : Option (Int × Bool) := lim fun k => impl_TimesMeasured.f k l0 a1
theorem impl_TimesMeasured.F_lim (l0 : List Int) (a1 : Int) : Lim (fun k => impl_TimesMeasured.f k l0 a1) (impl_TimesMeasured.F l0 a1) := Lim.of fun k => impl_TimesMeasured.mono l0 a1 k
theorem impl_TimesMeasured.J0_eq (x0 : List Int) (x1 : Int) (x14 : Bool) : impl_TimesMeasured.J0 x0 x1 x14 = (if x14 = true then (some (0, false)) else ((impl_measured.F x0).bind fun t459 => (if x1 ≥ (t459.length : Int) then (some (0, true)) else (if 0 ≤ x1 then (if x1 < (t459.length : Int) then (some (rd t459 x1, true)) else (none)) else (none))))) :=
 Lim.step (f := fun k => impl_TimesMeasured.j0 (k + 1) x0 x1 x14) (impl_TimesMeasured.J0_lim x0 x1 x14) (fun _ => rfl) (by
  simp only [impl_TimesMeasured.j0]
  repeat' (first | (with_reducible first | exact Lim.const _ | exact impl_measured.F_lim _ | refine Lim.ite ?_ ?_ | refine Lim.bind ?_ (fun _ => ?_))))
theorem impl_TimesMeasured.F_eq (l0 : List Int) (a1 : Int) : impl_TimesMeasured.F l0 a1 = ((impl_IsRuler.F l0).bind fun t457 => (if t457 = true then ((impl_isDistance.f a1).bind fun t458 => (impl_TimesMeasured.J0 l0 a1 (!t458))) else (impl_TimesMeasured.J0 l0 a1 true))) :=
 Lim.unique (impl_TimesMeasured.F_lim l0 a1) (by
  unfold impl_TimesMeasured.f
  repeat' (first | (with_reducible first | exact Lim.const _ | exact impl_IsRuler.F_lim _ | exact impl_TimesMeasured.J0_lim _ _ _ | refine Lim.ite ?_ ?_ | refine Lim.bind ?_ (fun _ => ?_))))

end Go.Proofs.Ytofjndbpndpjjaa.Fn
namespace Go.Proofs.Ytofjndbpndpjjaa.Fn
open Go.RowKit Go.Proofs.YtofjndbpndpjjaaW.PrintWords Go.Proofs.YtofjndbpndpjjaaW.PrintLast Go.Proofs.YtofjndbpndpjjaaW.PrintMore
attribute [local go_sem] max2_int min2_int max_two min_two max_three min_three max_four min_four   -- for this text's walks alone
set_option linter.unusedVariables false
set_option linter.unusedSimpArgs false

/-! ### spec_l1Cur_among: function 77 -/
def spec_l1Cur_among.f (s0_0 : List Int) (s0_1 : Int) (s0_2 : Int) (l1 : List Int) : Option (Int × Int × Int) := (spec_l1Cur_pick.f s0_0 s0_1 s0_2 (l1.length : Int)).bind fun bt125 => (if 0 ≤ bt125.1 then (if bt125.1 < (l1.length : Int) then (some (rd l1 bt125.1, bt125.2.1, bt125.2.2)) else (none)) else (none))
set_option maxHeartbeats 8000000 in
set_option maxRecDepth 100000 in
theorem spec_l1Cur_among.calls (g : Nat) (s0_0 : List Int) (s0_1 : Int) (s0_2 : Int) (A1 : Option Addr) (c1 : Nat) (l1 : List Int) (r1 : Int) (r2 : Int) (r3 : Int) (w0 w : World) (hI : IsS58 w0 w g s0_0 s0_1 s0_2) (hB : Below w0.heap.size w0 w) (hr1 : Kd.C (Kd.int .i64) w A1 l1.length l1) (hc1 : l1.length ≤ c1) (hf1 : ∀ ad, A1 = some ad → 0 < l1.length → ad.block ≠ g) (h : spec_l1Cur_among.f s0_0 s0_1 s0_2 l1 = some (r1, r2, r3)) :
  Calls Try.prog 77 #[.pointer (some ⟨g, 0, none⟩), .slice A1 l1.length c1] w fun e w' => e = .returned (.int .i64 r1) ∧ IsS58 w0 w' g s0_0 r2 r3 ∧ Below w0.heap.size w0 w' ∧ KeepBut w w' g none := by
 have HR1 := Aside0.mk hr1
 have HC1 := Aside0.mk hc1
 clear hr1 hc1
 have HI0 := Aside0.mk hI
 have HK := Aside0.mk (KeepBut.refl w g none)
 have HL := Aside0.mk hB.size
 clear hI
 have HW0 := Aside0.mk hB.size
 have HB := Aside0.mk hB
 clear hB
 have H := h
 unfold spec_l1Cur_among.f at H
 clear h
 replace H := Option.bind_eq_some_iff.mp H
 obtain ⟨⟨t125, t126, t127⟩, A30, H⟩ := H
 replace H : (if 0 ≤ t125 then (if t125 < (l1.length : Int) then (some (rd l1 t125, t126, t127)) else (none)) else (none)) = some (r1, r2, r3) := H
 have A3 := Aside0.mk A30
 clear A30
 by_cases c4 : 0 ≤ t125
 ·rw [if_pos c4] at H
  have c4b0 : decide (0 ≤ t125) = true := decide_eq_true c4
  clear c4
  by_cases c5 : t125 < (l1.length : Int)
  ·rw [if_pos c5] at H
   have c5b0 : decide (t125 < (l1.length : Int)) = true := decide_eq_true c5
   clear c5
   simp only [Option.some.injEq, Prod.mk.injEq] at H
   obtain ⟨rfl, rfl, rfl⟩ := H
   go_enter Try.func77, Try.ntmps77
   go_wp2_with (first | ((with_reducible refine gate_callee (f := 78) rfl ?_); refine goesA (some 9) Try.func78 #[.pointer (some ⟨g, 0, none⟩), .int .i64 (l1.length : Int)] ?_; (with_reducible refine (spec_l1Cur_pick.calls g s0_0 s0_1 s0_2 (l1.length : Int) t125 t126 t127 w0 _ ?side1 ?side2 A3.out).mono ?_); (case side1 => exact IsS58.at HI0); (case side2 => exact atB HB); rintro e w6 ⟨rfl, hi, hb, hk⟩; refine ⟨_, rfl, ?_⟩; replace HK := upK HK hk; replace HB := Aside0.mk (hb); replace HI0 := Aside0.mk (hi); (try clear hb); (try clear hb2); (try clear hk); (try clear hi); have p128 : 0 ≤ (t125 : Int) := ofd; have q128 : t125 < (l1.length : Int) := ofd; obtain ⟨ad128, e128, hx128_0⟩ := Kd.at_int HR1.out t125 p128 q128; cases e128; replace hx128_0 := keep_cell HK.out hx128_0 (by first | (rw [add_block]; exact hf1 _ rfl (by omega)) | exact hf1 _ rfl (by omega) | exact hf1 ad128 rfl (by omega)); replace p128 := eq_true p128; replace q128 := eq_true q128))
   go_ret
   exact ⟨eqr, IsS58.at HI0, atB HB, atK HK⟩
  ·rw [if_neg c5] at H
   exact absurd H (by simp)
 ·rw [if_neg c4] at H
  exact absurd H (by simp)


end Go.Proofs.Ytofjndbpndpjjaa.Fn
namespace Go.Proofs.Ytofjndbpndpjjaa.Fn
open Go.RowKit Go.Proofs.YtofjndbpndpjjaaW.PrintWords Go.Proofs.YtofjndbpndpjjaaW.PrintLast Go.Proofs.YtofjndbpndpjjaaW.PrintMore
attribute [local go_sem] max2_int min2_int max_two min_two max_three min_three max_four min_four   -- for this text's walks alone
set_option linter.unusedVariables false
set_option linter.unusedSimpArgs false

/-! ### spec_l1Cur_one: function 76 -/
def spec_l1Cur_one.f (s0_0 : List Int) (s0_1 : Int) (s0_2 : Int) (a1 : Int) : Option (Bool × Int × Int) := (spec_l1Cur_pick.f s0_0 s0_1 s0_2 a1).bind fun bt122 => (some ((bt122.1 == 0), bt122.2.1, bt122.2.2))
set_option maxHeartbeats 8000000 in
set_option maxRecDepth 100000 in
theorem spec_l1Cur_one.calls (g : Nat) (s0_0 : List Int) (s0_1 : Int) (s0_2 : Int) (a1 : Int) (r1 : Bool) (r2 : Int) (r3 : Int) (w0 w : World) (hI : IsS58 w0 w g s0_0 s0_1 s0_2) (hB : Below w0.heap.size w0 w) (h : spec_l1Cur_one.f s0_0 s0_1 s0_2 a1 = some (r1, r2, r3)) :
  Calls Try.prog 76 #[.pointer (some ⟨g, 0, none⟩), .int .i64 a1] w fun e w' => e = .returned (.bool r1) ∧ IsS58 w0 w' g s0_0 r2 r3 ∧ Below w0.heap.size w0 w' ∧ KeepBut w w' g none := by
 have HI0 := Aside0.mk hI
 have HK := Aside0.mk (KeepBut.refl w g none)
 have HL := Aside0.mk hB.size
 clear hI
 have HW0 := Aside0.mk hB.size
 have HB := Aside0.mk hB
 clear hB
 have H := h
 unfold spec_l1Cur_one.f at H
 clear h
 replace H := Option.bind_eq_some_iff.mp H
 obtain ⟨⟨t122, t123, t124⟩, A30, H⟩ := H
 replace H : (some ((t122 == 0), t123, t124)) = some (r1, r2, r3) := H
 have A3 := Aside0.mk A30
 clear A30
 simp only [Option.some.injEq, Prod.mk.injEq] at H
 obtain ⟨rfl, rfl, rfl⟩ := H
 go_enter Try.func76, Try.ntmps76
 go_wp2_with (first | ((with_reducible refine gate_callee (f := 78) rfl ?_); refine goesA (some 7) Try.func78 #[.pointer (some ⟨g, 0, none⟩), .int .i64 a1] ?_; (with_reducible refine (spec_l1Cur_pick.calls g s0_0 s0_1 s0_2 a1 t122 t123 t124 w0 _ ?side1 ?side2 A3.out).mono ?_); (case side1 => exact IsS58.at HI0); (case side2 => exact atB HB); rintro e w4 ⟨rfl, hi, hb, hk⟩; refine ⟨_, rfl, ?_⟩; replace HK := upK HK hk; replace HB := Aside0.mk (hb); replace HI0 := Aside0.mk (hi); (try clear hb); (try clear hb2); (try clear hk); (try clear hi)))
 go_ret
 exact ⟨eqr, IsS58.at HI0, atB HB, atK HK⟩


end Go.Proofs.Ytofjndbpndpjjaa.Fn
namespace Go.Proofs.Ytofjndbpndpjjaa.Fn
open Go.RowKit Go.Proofs.YtofjndbpndpjjaaW.PrintWords Go.Proofs.YtofjndbpndpjjaaW.PrintLast Go.Proofs.YtofjndbpndpjjaaW.PrintMore
attribute [local go_sem] max2_int min2_int max_two min_two max_three min_three max_four min_four   -- for this text's walks alone
set_option linter.unusedVariables false
set_option linter.unusedSimpArgs false

/-! ### spec_ruLength: function 62 -/
def spec_ruLength.f (l0 : List Int) : Option (Int) := if 0 ≤ (wrap64 ((l0.length : Int) - 1)) then (if (wrap64 ((l0.length : Int) - 1)) < (l0.length : Int) then (some (rd l0 (wrap64 ((l0.length : Int) - 1)))) else (none)) else (none)
set_option maxHeartbeats 8000000 in
set_option maxRecDepth 100000 in
theorem spec_ruLength.calls (A0 : Option Addr) (c0 : Nat) (l0 : List Int) (r : Int) (w : World) (hr0 : Kd.C (Kd.int .i64) w A0 l0.length l0) (hc0 : l0.length ≤ c0) (h : spec_ruLength.f l0 = some r) :
  Calls Try.prog 62 #[.slice A0 l0.length c0] w fun e w' => e = .returned (.int .i64 r) ∧ Drawn0 w w' := by
 have HR0 := Aside0.mk hr0
 have HC0 := Aside0.mk hc0
 clear hr0 hc0
 have H := h
 unfold spec_ruLength.f at H
 clear h
 obtain ⟨ji2, hji2⟩ : ∃ j_ : Int, (wrap64 ((l0.length : Int) - 1)) = j_ := ⟨_, rfl⟩
 replace H : (if 0 ≤ (ji2) then (if (ji2) < (l0.length : Int) then (some (rd l0 (ji2))) else (none)) else (none)) = some r := by first | (rw [hji2] at H; exact H) | (simp only [hji2] at H ⊢; exact H)
 have hji2w : (IntKind.i64.wrap ((l0.length : Int) - 1)) = ji2 := (i64_w _).trans hji2
 by_cases c3 : 0 ≤ (ji2)
 ·rw [if_pos c3] at H
  have c3b0 : decide (0 ≤ (ji2)) = true := decide_eq_true c3
  clear c3
  by_cases c4 : (ji2) < (l0.length : Int)
  ·rw [if_pos c4] at H
   have c4b0 : decide ((ji2) < (l0.length : Int)) = true := decide_eq_true c4
   clear c4
   obtain rfl := Option.some.inj H
   have p101 : 0 ≤ ((ji2) : Int) := ofd
   have q101 : (ji2) < (l0.length : Int) := ofd
   obtain ⟨ad101, e101, hx101_0⟩ := Kd.at_int HR0.out (ji2) p101 q101
   cases e101
   replace p101 := eq_true p101
   replace q101 := eq_true q101
   go_enter Try.func62, Try.ntmps62
   go_wp2
   go_ret
   exact ⟨by first | rfl | (simp; done) | (simp only [← hji2] <;> (first | rfl | simp)) | (simp [*]; done), by repeat (first | exact Drawn0.refl _ | apply Drawn0.step)⟩
  ·rw [if_neg c4] at H
   exact absurd H (by simp)
 ·rw [if_neg c3] at H
  exact absurd H (by simp)


end Go.Proofs.Ytofjndbpndpjjaa.Fn
namespace Go.Proofs.Ytofjndbpndpjjaa.Fn
open Go.RowKit Go.Proofs.YtofjndbpndpjjaaW.PrintWords Go.Proofs.YtofjndbpndpjjaaW.PrintLast Go.Proofs.YtofjndbpndpjjaaW.PrintMore
attribute [local go_sem] max2_int min2_int max_two min_two max_three min_three max_four min_four   -- for this text's walks alone
set_option linter.unusedVariables false
set_option linter.unusedSimpArgs false

/-! ### spec_ruTimes: function 61 -/
mutual
def spec_ruTimes.l0 : Nat → List Int → List Int → List Int → Int → Int → Option (List Int)
 | 0, _, _, _, _, _ => none
 | k + 1, x0, x3, x12, x13, x14 => if x14 < x13 then (if 0 ≤ x14 then (if x14 < (x12.length : Int) then (if x14 ≤ (x0.length : Int) then (spec_ruTimes.l1 k x0 x3 (rd x12 x14) x12 x13 x14 (x0.take (x14 : Int).toNat) ((x0.take (x14 : Int).toNat).length : Int) 0) else (none)) else (none)) else (none)) else (some x3)
def spec_ruTimes.l1 : Nat → List Int → List Int → Int → List Int → Int → Int → List Int → Int → Int → Option (List Int)
 | 0, _, _, _, _, _, _, _, _, _ => none
 | k + 1, x0, x3, x5, x12, x13, x14, x21, x22, x23 => if x23 < x22 then (if 0 ≤ x23 then (if x23 < (x21.length : Int) then (if 0 ≤ (wrap64 (x5 - (rd x21 x23))) then (if (wrap64 (x5 - (rd x21 x23))) < (x3.length : Int) then (spec_ruTimes.l1 k x0 (x3.set ((wrap64 (x5 - (rd x21 x23))) : Int).toNat (wrap64 ((rd x3 (wrap64 (x5 - (rd x21 x23)))) + 1))) x5 x12 x13 x14 x21 x22 (wrap64 (x23 + 1))) else (none)) else (none)) else (none)) else (none)) else (spec_ruTimes.l0 k x0 x3 x12 x13 (wrap64 (x14 + 1)))
end
def spec_ruTimes.f (k : Nat) (l0 : List Int) : Option (List Int) := (spec_ruLength.f l0).bind fun t102 => (if 0 ≤ (wrap64 (t102 + 1)) then (if (wrap64 (t102 + 1) : Int).toNat ≤ 35184372088832 then (spec_ruTimes.l0 k l0 (List.replicate (wrap64 (t102 + 1) : Int).toNat 0) l0 (l0.length : Int) 0) else (none)) else (none))
theorem spec_ruTimes.mono_l : ∀ k, (∀ y0 y1 y2 y3 y4, LeO (spec_ruTimes.l0 k y0 y1 y2 y3 y4) (spec_ruTimes.l0 (k + 1) y0 y1 y2 y3 y4)) ∧ (∀ y0 y1 y2 y3 y4 y5 y6 y7 y8, LeO (spec_ruTimes.l1 k y0 y1 y2 y3 y4 y5 y6 y7 y8) (spec_ruTimes.l1 (k + 1) y0 y1 y2 y3 y4 y5 y6 y7 y8))
 | 0 => ⟨fun _ _ _ _ _ r h => by simp [spec_ruTimes.l0] at h, fun _ _ _ _ _ _ _ _ _ r h => by simp [spec_ruTimes.l1] at h⟩
 | k + 1 => by
  obtain ⟨ih0, ih1⟩ := spec_ruTimes.mono_l k
  refine ⟨?_, ?_⟩
  ·intro y0 y1 y2 y3 y4
   unfold spec_ruTimes.l0
   repeat' (first | (with_reducible first | exact ih1 _ _ _ _ _ _ _ _ _ | exact LeO.refl _ | exact LeO.none _ | refine LeO.ite ?_ ?_ | refine LeO.bind ?_ (fun _ => ?_)) | exact ih1 _ _ _ _ _ _ _ _ _ | exact LeO.none _ | refine LeO.ite ?_ ?_ | refine LeO.bind ?_ (fun _ => ?_))
  ·intro y0 y1 y2 y3 y4 y5 y6 y7 y8
   unfold spec_ruTimes.l1
   repeat' (first | (with_reducible first | exact ih0 _ _ _ _ _ | exact ih1 _ _ _ _ _ _ _ _ _ | exact LeO.refl _ | exact LeO.none _ | refine LeO.ite ?_ ?_ | refine LeO.bind ?_ (fun _ => ?_)) | exact ih0 _ _ _ _ _ | exact ih1 _ _ _ _ _ _ _ _ _ | exact LeO.none _ | refine LeO.ite ?_ ?_ | refine LeO.bind ?_ (fun _ => ?_))
theorem spec_ruTimes.mono : ∀ a0 k, LeO (spec_ruTimes.f k a0) (spec_ruTimes.f (k + 1) a0) := by
 intro a0 k
 obtain ⟨ih0, ih1⟩ := spec_ruTimes.mono_l k
 unfold spec_ruTimes.f
 repeat' (first | (with_reducible first | exact ih0 _ _ _ _ _ | exact LeO.refl _ | exact LeO.none _ | refine LeO.ite ?_ ?_ | refine LeO.bind ?_ (fun _ => ?_)) | exact ih0 _ _ _ _ _ | exact LeO.none _ | refine LeO.ite ?_ ?_ | refine LeO.bind ?_ (fun _ => ?_))
set_option maxHeartbeats 8000000 in
set_option maxRecDepth 100000 in
theorem spec_ruTimes.calls (k : Nat) (A0 : Option Addr) (c0 : Nat) (l0 : List Int) (r : List Int) (w : World) (hr0 : Kd.C (Kd.int .i64) w A0 l0.length l0) (hc0 : l0.length ≤ c0) (h : spec_ruTimes.f k l0 = some r) :
  Calls Try.prog 61 #[.slice A0 l0.length c0] w fun e w' => ∃ v0_ : Value, e = .returned (v0_) ∧ Kd.R (Kd.int .i64) 3 w' w.heap.size (fun _ => True) v0_ r ∧ Below w.heap.size w w' := by
 have HR0 := Aside0.mk hr0
 have HC0 := Aside0.mk hc0
 clear hr0 hc0
 have HB := Aside0.mk (Below.refl w.heap.size w)
 have H := h
 unfold spec_ruTimes.f at H
 clear h
 replace H := Option.bind_eq_some_iff.mp H
 obtain ⟨t102, A20, H⟩ := H
 replace H : (if 0 ≤ (wrap64 (t102 + 1)) then (if (wrap64 (t102 + 1) : Int).toNat ≤ 35184372088832 then (spec_ruTimes.l0 k l0 (List.replicate (wrap64 (t102 + 1) : Int).toNat 0) l0 (l0.length : Int) 0) else (none)) else (none)) = some r := H
 have A2 := Aside0.mk A20
 clear A20
 obtain ⟨ji3, hji3⟩ : ∃ j_ : Int, (wrap64 (t102 + 1)) = j_ := ⟨_, rfl⟩
 replace H : (if 0 ≤ (ji3) then (if (ji3 : Int).toNat ≤ 35184372088832 then (spec_ruTimes.l0 k l0 (List.replicate (ji3 : Int).toNat 0) l0 (l0.length : Int) 0) else (none)) else (none)) = some r := by first | (rw [hji3] at H; exact H) | (simp only [hji3] at H ⊢; exact H)
 (try rw [hji3] at A2)
 have hji3w : (IntKind.i64.wrap (t102 + 1)) = ji3 := (i64_w _).trans hji3
 by_cases c4 : 0 ≤ (ji3)
 ·rw [if_pos c4] at H
  have c4b0 := eq_true c4
  have c4b1 : decide (0 ≤ (ji3)) = true := decide_eq_true c4
  clear c4
  by_cases c5 : (ji3 : Int).toNat ≤ 35184372088832
  ·rw [if_pos c5] at H
   have c5b0 := eq_true c5
   have c5b1 : decide ((ji3 : Int).toNat ≤ 35184372088832) = true := decide_eq_true c5
   clear c5
   obtain ⟨y103, hy103⟩ : ∃ y_ : List Int, y_ = (List.replicate (ji3 : Int).toNat 0) := ⟨_, rfl⟩
   replace H : (spec_ruTimes.l0 k l0 y103 l0 (l0.length : Int) 0) = some r := by first | (rw [hy103]; with_reducible exact H) | (have H2_ := (Option.bind_some _ _).symm.trans H; rw [hy103]; with_reducible exact H2_) | (have H2_ := (Option.bind_some _ _).symm.trans H; with_reducible exact H2_) | with_reducible exact H | (rw [hy103]; exact H) | exact H
   have Ny103 := Aside0.mk hy103
   clear hy103
   have H' := Aside0.mk H
   clear H
   go_enter Try.func61, Try.ntmps61
   go_wp2_with (first | ((with_reducible refine gate_callee (f := 62) rfl ?_); refine goesA (some 9) Try.func62 #[.slice A0 l0.length c0] ?_; (with_reducible refine (spec_ruLength.calls _ _ l0 t102 _ ?side1 ?side2 A2.out).mono ?_); (case side1 => repeat (first | exact HR0.out | (with_reducible refine Kd.C_alloc ?_ _) | (with_reducible refine Kd.C_drewN ?_ _) | (with_reducible refine Kd.C_drew ?_))); (case side2 => exact HC0.out); rintro e w' ⟨rfl, ⟨nd, rfl⟩⟩; refine ⟨_, rfl, ?_⟩) | ((with_reducible refine gate_dst (N := 11) rfl ?_); refine Kd.R_make (Kd.int .i64) _ 3 rfl (N := 11) rfl 24 _ _ rfl ji3 rfl rfl Try.underlying24 (.int .i64 0) 8 info3 rfl (by decide) (by omega) 0 (ok := fun _ => True) (okp := fun _ => True) rfl (fun _ hk => hk) trivial (of_decide_eq_true (by first | (with_reducible assumption) | assumption)) (Nat.le_trans (Nat.mul_le_mul_right _ (of_decide_eq_true (by first | (with_reducible assumption) | assumption) : ji3.toNat ≤ 35184372088832)) (by omega)) (Below.refl _ _) (Nat.le_refl _) ?_; intro v104 w6 ho7 hb hg_ hnew_; clear hg_ hnew_; (first | rw [← Ny103.out] at ho7 | (simp only [Int.reduceToNat] at ho7; rw [← Ny103.out] at ho7)); have HO105 := lowR ho7 HB; replace HB := upB HB hb; clear hb ho7))
   go_loopg [14] k (fun kq v14 w' => ∃ (x3_1 : List Int) (x14_1 : Int), v14 = .int .i64 x14_1 ∧ Aside0 (spec_ruTimes.l0 kq l0 x3_1 l0 (l0.length : Int) x14_1 = some r) ∧ Aside0 (kq ≤ k) ∧ Aside0 (Kd.R (Kd.int .i64) 3 w' w.heap.size (fun _ => True) v104 x3_1) ∧ Aside0 (Below w.heap.size w w'))
   case atStart => exact ⟨(y103), (0), eqd, H', ⟨Nat.le_refl _⟩, ⟨atR HO105⟩, ⟨atB HB⟩⟩
   case round =>
    clear H'
    try clear p2
    try clear c4
    try clear c4b0
    try clear c4b1
    try clear c5
    try clear c5b0
    try clear c5b1
    try clear c6
    try clear p6
    obtain ⟨x3_1, x14_1, rfl, HA, HK1, HO_3, HB⟩ := hrel
    cases gk with
    | zero => exact absurd HA.out (by simp [spec_ruTimes.l0])
    | succ k1 =>
     have H := HA.out
     clear HA
     simp only [spec_ruTimes.l0] at H
     by_cases c8 : x14_1 < (l0.length : Int)
     ·rw [if_pos c8] at H
      have c8b0 : decide (x14_1 < (l0.length : Int)) = true := decide_eq_true c8
      clear c8
      by_cases c9 : 0 ≤ x14_1
      ·rw [if_pos c9] at H
       have c9b0 : decide (0 ≤ x14_1) = true := decide_eq_true c9
       clear c9
       by_cases c10 : x14_1 < (l0.length : Int)
       ·rw [if_pos c10] at H
        have c10b0 : decide (x14_1 < (l0.length : Int)) = true := decide_eq_true c10
        clear c10
        have c11b0 := eq_true (of_decide_eq_true (by first | (with_reducible assumption) | assumption) : 0 ≤ x14_1)
        by_cases c12 : x14_1 ≤ (l0.length : Int)
        ·rw [if_pos c12] at H
         have c12b0 := eq_true c12
         have c12b1 : decide (x14_1 ≤ (l0.length : Int)) = true := decide_eq_true c12
         clear c12
         have H' := Aside0.mk H
         clear H
         have p106 : 0 ≤ (x14_1 : Int) := ofd
         have q106 : x14_1 < (l0.length : Int) := ofd
         obtain ⟨ad106, e106, hx106_0⟩ := Kd.at_int HR0.out x14_1 p106 q106
         cases e106
         (try replace hx106_0 := (HB.out.cell (World.block_lt_of_cell? w _ hx106_0)).trans hx106_0)
         replace p106 := eq_true p106
         replace q106 := eq_true q106
         obtain ⟨i013, hi013, _, hsz13, _⟩ := info_parts info3
         obtain ⟨hcut13, hA13, hC13⟩ := print_take_of (P := Try.prog) (Value.int .i64) 0 24 3 .i64 Try.underlying24 hi013 hsz13 (some ad106) c0 l0 x14_1 (of_decide_eq_true (by first | (with_reducible assumption) | assumption)) (of_decide_eq_true (by first | (with_reducible assumption) | assumption)) HC0.out
         have mx13 : max x14_1 0 = x14_1 := (by have z0 : 0 ≤ x14_1 := ofd; omega)
         have ml13 : ((l0.take (x14_1 : Int).toNat).length : Int) = x14_1 := (by have z0 : 0 ≤ x14_1 := ofd; have z1 : x14_1 ≤ (l0.length : Int) := (by first | exact ofd | exact Int.le_of_lt ofd | exact of_eq_true (by assumption)); rw [List.length_take]; omega)
         have HR107 := Aside0.mk (Kd.C_of_reads (h1 := fun _ => rfl) (hA13 _ (Kd.reads_of_C HR0.out)))
         have HC107 := Aside0.mk hC13
         clear hA13 hC13 hi013 hsz13
         go_wp2
         go_loopg [23] k1 (fun kq v23 w' => ∃ (x3_2 : List Int) (x23_2 : Int), v23 = .int .i64 x23_2 ∧ Aside0 (spec_ruTimes.l1 kq l0 x3_2 (rd l0 x14_1) l0 (l0.length : Int) x14_1 (l0.take (x14_1 : Int).toNat) ((l0.take (x14_1 : Int).toNat).length : Int) x23_2 = some r) ∧ Aside0 (kq ≤ k1) ∧ Aside0 (Kd.R (Kd.int .i64) 3 w' w.heap.size (fun _ => True) v104 x3_2) ∧ Aside0 (Below w.heap.size w w'))
         case atStart => exact ⟨(x3_1), (0), eqd, H', ⟨Nat.le_refl _⟩, ⟨atR HO_3⟩, ⟨atB HB⟩⟩
         case round =>
          clear H'
          try clear c1
          try clear p1
          try clear q1
          try clear hx1
          try clear p2
          try clear c4
          try clear c4b0
          try clear c4b1
          try clear c5
          try clear c5b0
          try clear c5b1
          try clear c6
          try clear p6
          try clear c8
          try clear c8b0
          try clear c9
          try clear c9b0
          try clear c10
          try clear c10b0
          try clear p10
          try clear q10
          try clear hx10
          try clear c11
          try clear c11b0
          try clear c12
          try clear c12b0
          try clear c12b1
          try clear hx106_0
          try clear p106
          try clear p2
          try clear p6
          try clear q106
          obtain ⟨x3_2, x23_2, rfl, HA, HK2, HO_3, HB⟩ := hrel
          cases gk with
          | zero => exact absurd HA.out (by simp [spec_ruTimes.l1])
          | succ k2 =>
           have H := HA.out
           clear HA
           simp only [spec_ruTimes.l1] at H
           by_cases c14 : x23_2 < ((l0.take (x14_1 : Int).toNat).length : Int)
           ·rw [if_pos c14] at H
            have c14b0 : decide (x23_2 < ((l0.take (x14_1 : Int).toNat).length : Int)) = true := decide_eq_true c14
            have c14b0m := c14b0; (try rw [ml13] at c14b0m)
            clear c14
            by_cases c15 : 0 ≤ x23_2
            ·rw [if_pos c15] at H
             have c15b0 : decide (0 ≤ x23_2) = true := decide_eq_true c15
             clear c15
             by_cases c16 : x23_2 < ((l0.take (x14_1 : Int).toNat).length : Int)
             ·rw [if_pos c16] at H
              have c16b0 : decide (x23_2 < ((l0.take (x14_1 : Int).toNat).length : Int)) = true := decide_eq_true c16
              have c16b0m := c16b0; (try rw [ml13] at c16b0m)
              clear c16
              obtain ⟨ji17, hji17⟩ : ∃ j_ : Int, (wrap64 ((rd l0 x14_1) - (rd (l0.take (x14_1 : Int).toNat) x23_2))) = j_ := ⟨_, rfl⟩
              replace H : (if 0 ≤ (ji17) then (if (ji17) < (x3_2.length : Int) then (spec_ruTimes.l1 k2 l0 (x3_2.set ((ji17) : Int).toNat (wrap64 ((rd x3_2 (ji17)) + 1))) (rd l0 x14_1) l0 (l0.length : Int) x14_1 (l0.take (x14_1 : Int).toNat) ((l0.take (x14_1 : Int).toNat).length : Int) (wrap64 (x23_2 + 1))) else (none)) else (none)) = some r := by first | (rw [hji17] at H; exact H) | (simp only [hji17] at H ⊢; exact H)
              have hji17w : (IntKind.i64.wrap ((rd l0 x14_1) - (rd (l0.take (x14_1 : Int).toNat) x23_2))) = ji17 := (i64_w _).trans hji17
              by_cases c18 : 0 ≤ (ji17)
              ·rw [if_pos c18] at H
               have c18b0 : decide (0 ≤ (ji17)) = true := decide_eq_true c18
               clear c18
               by_cases c19 : (ji17) < (x3_2.length : Int)
               ·rw [if_pos c19] at H
                have c19b0 : decide ((ji17) < (x3_2.length : Int)) = true := decide_eq_true c19
                clear c19
                obtain ⟨y110, hy110⟩ : ∃ y_ : List Int, y_ = (x3_2.set ((ji17) : Int).toNat (wrap64 ((rd x3_2 (ji17)) + 1))) := ⟨_, rfl⟩
                replace H : (spec_ruTimes.l1 k2 l0 y110 (rd l0 x14_1) l0 (l0.length : Int) x14_1 (l0.take (x14_1 : Int).toNat) ((l0.take (x14_1 : Int).toNat).length : Int) (wrap64 (x23_2 + 1))) = some r := by first | (rw [hy110]; with_reducible exact H) | (have H2_ := (Option.bind_some _ _).symm.trans H; rw [hy110]; with_reducible exact H2_) | (have H2_ := (Option.bind_some _ _).symm.trans H; with_reducible exact H2_) | with_reducible exact H | (rw [hy110]; exact H) | exact H
                have Ny110 := Aside0.mk hy110
                clear hy110
                have H' := Aside0.mk H
                clear H
                have p108 : 0 ≤ (x23_2 : Int) := ofd
                have q108 : x23_2 < ((l0.take (x14_1 : Int).toNat).length : Int) := ofd
                obtain ⟨ad108, e108, hx108_0⟩ := Kd.at_int HR107.out x23_2 p108 q108
                obtain rfl : ad106 = ad108 := (by injection e108)
                (try replace hx108_0 := (HB.out.cell (World.block_lt_of_cell? w _ hx108_0)).trans hx108_0)
                replace p108 := eq_true p108
                replace q108 := eq_true q108
                have q108m := q108; (try rw [ml13] at q108m)
                obtain ⟨Ao21, co21, eo21⟩ := Kd.R_slice HO_3.out
                subst eo21
                have p109 : 0 ≤ ((ji17) : Int) := ofd
                have q109 : (ji17) < (x3_2.length : Int) := ofd
                obtain ⟨ad109, e109, hx109_0⟩ := Kd.at_int (Kd.R_reads' HO_3.out).2.2 (ji17) p109 q109
                cases e109
                replace p109 := eq_true p109
                replace q109 := eq_true q109
                have q109m := q109; (try rw [ml13] at q109m)
                have p20 : 0 ≤ ((ji17) : Int) := ofd
                have q20 : ((ji17) : Int) < ((x3_2.length : Int) : Int) := ofd
                obtain ⟨go20, co20, eo20, gb20, gl20, cl20, HG20⟩ := Kd.R_form HO_3.out (by omega)
                (first | cases eo20 | (injection eo20 with ea_ en_ ec_; (first | subst ea_ | (injection ea_ with ea_; subst ea_)); subst ec_; clear en_))
                have GB20 := Aside0.mk gb20
                have GG20 := Aside0.mk HG20
                clear gb20 gl20 HG20
                (first | simp only [add_plain] at hx109_0 | skip)
                obtain ⟨hx20_0, hf20_0⟩ := Kd.R_celln 0 HO_3.out ((ji17) : Int) p20 q20
                replace p20 := eq_true p20
                replace q20 := eq_true q20
                have q20m := q20; (try rw [ml13] at q20m)
                have HP22 := Kd.R_putg HO_3.out ((ji17) : Int) (wrap64 ((rd x3_2 (ji17)) + 1))
                go_wp2_with (first | ((with_reducible refine gate_store (t := 3) (p := 34) rfl ?_); refine store_event (t := 3) (p := 34) (v := ?vo_w23) (w1 := (wr.setCell ⟨go20, ((ji17) : Int).toNat, none⟩ (.int .i64 (wrap64 ((rd x3_2 (ji17)) + 1))))) ?hg ?ho ?hn ?hr ?_; (case ho => rfl); (case hg => rfl); (case hn => rfl); (case hr => first | (go_simp; done) | (go_simp; rfl)); intro w23 hw; have hg : wr.grownBy w23 (some go20) := (by rw [hw]; exact HP22.2); have hp_ : Kd.R (Kd.int .i64) 3 w23 w.heap.size (fun _ => True) (.slice (some ⟨go20, 0, none⟩) x3_2.length co21) y110 := (by rw [hw, Ny110.out]; exact HP22.1); clear HP22; replace HO_3 := Aside0.mk (hp_); replace HB := Aside0.mk ((by rw [hw]; exact below_set (HB.out) GB20.out : Below w.heap.size w w23)); clear hg hw hp_))
                first | go_roundg k2 | ((try subst hji17); (try subst hji3); go_roundg k2)
                case measure => have := HK1.out; have := HK2.out; omega
                case rel => exact ⟨(y110), (wrap64 (x23_2 + 1)), eqd, H', ⟨by have := HK1.out; have := HK2.out; omega⟩, ⟨atR HO_3⟩, ⟨atB HB⟩⟩
               ·rw [if_neg c19] at H
                exact absurd H (by simp)
              ·rw [if_neg c18] at H
               exact absurd H (by simp)
             ·rw [if_neg c16] at H
              exact absurd H (by simp)
            ·rw [if_neg c15] at H
             exact absurd H (by simp)
           ·rw [if_neg c14] at H
            have c14b0 : decide (x23_2 < ((l0.take (x14_1 : Int).toNat).length : Int)) = false := decide_eq_false c14
            have c14b0m := c14b0; (try rw [ml13] at c14b0m)
            clear c14
            have H' := Aside0.mk H
            clear H
            go_wp2
            first | go_roundg k2 | ((try subst hji3); go_roundg k2)
            case measure => have := HK1.out; have := HK2.out; omega
            case rel => exact ⟨(x3_2), (wrap64 (x14_1 + 1)), eqd, H', ⟨by have := HK1.out; have := HK2.out; omega⟩, ⟨atR HO_3⟩, ⟨atB HB⟩⟩
        ·rw [if_neg c12] at H
         exact absurd H (by simp)
       ·rw [if_neg c10] at H
        exact absurd H (by simp)
      ·rw [if_neg c9] at H
       exact absurd H (by simp)
     ·rw [if_neg c8] at H
      have c8b0 : decide (x14_1 < (l0.length : Int)) = false := decide_eq_false c8
      clear c8
      obtain rfl := Option.some.inj H
      go_wp2
      go_ret
      exact ⟨_, by first | rfl | (simp [errW_none, errW_some] <;> rfl) | (simp only [← hji3]; first | rfl | (simp [errW_none, errW_some] <;> rfl)) | (simp [*, errW_none, errW_some] <;> rfl), atR HO_3, atB HB⟩
  ·rw [if_neg c5] at H
   exact absurd H (by simp)
 ·rw [if_neg c4] at H
  exact absurd H (by simp)

noncomputable def spec_ruTimes.L0 (x0 : List Int) (x3 : List Int) (x12 : List Int) (x13 : Int) (x14 : Int) : Option (List Int) := lim fun k => spec_ruTimes.l0 k x0 x3 x12 x13 x14
theorem spec_ruTimes.L0_lim (x0 : List Int) (x3 : List Int) (x12 : List Int) (x13 : Int) (x14 : Int) : Lim (fun k => spec_ruTimes.l0 k x0 x3 x12 x13 x14) (spec_ruTimes.L0 x0 x3 x12 x13 x14) := Lim.of fun k => (spec_ruTimes.mono_l k).1 x0 x3 x12 x13 x14
noncomputable def spec_ruTimes.L1 (x0 : List Int) (x3 : List Int) (x5 : Int) (x12 : List Int) (x13 : Int) (x14 : Int) (x21 : List Int) (x22 : Int) (x23 : Int) : Option (List Int) := lim fun k => spec_ruTimes.l1 k x0 x3 x5 x12 x13 x14 x21 x22 x23
theorem spec_ruTimes.L1_lim (x0 : List Int) (x3 : List Int) (x5 : Int) (x12 : List Int) (x13 : Int) (x14 : Int) (x21 : List Int) (x22 : Int) (x23 : Int) : Lim (fun k => spec_ruTimes.l1 k x0 x3 x5 x12 x13 x14 x21 x22 x23) (spec_ruTimes.L1 x0 x3 x5 x12 x13 x14 x21 x22 x23) := Lim.of fun k => (spec_ruTimes.mono_l k).2 x0 x3 x5 x12 x13 x14 x21 x22 x23
noncomputable def spec_ruTimes.F (l0 : List Int) : Option (List Int) := lim fun k => spec_ruTimes.f k l0
theorem spec_ruTimes.F_lim (l0 : List Int) : Lim (fun k => spec_ruTimes.f k l0) (spec_ruTimes.F l0) := Lim.of fun k => spec_ruTimes.mono l0 k
theorem spec_ruTimes.L0_eq (x0 : List Int) (x3 : List Int) (x12 : List Int) (x13 : Int) (x14 : Int) : spec_ruTimes.L0 x0 x3 x12 x13 x14 = (if x14 < x13 then (if 0 ≤ x14 then (if x14 < (x12.length : Int) then (if x14 ≤ (x0.length : Int) then (spec_ruTimes.L1 x0 x3 (rd x12 x14) x12 x13 x14 (x0.take (x14 : Int).toNat) ((x0.take (x14 : Int).toNat).length : Int) 0) else (none)) else (none)) else (none)) else (some x3)) :=
 Lim.step (f := fun k => spec_ruTimes.l0 (k + 1) x0 x3 x12 x13 x14) (spec_ruTimes.L0_lim x0 x3 x12 x13 x14) (fun _ => rfl) (by
  simp only [spec_ruTimes.l0]
  repeat' (first | (with_reducible first | exact Lim.const _ | exact spec_ruTimes.L1_lim _ _ _ _ _ _ _ _ _ | refine Lim.ite ?_ ?_ | refine Lim.bind ?_ (fun _ => ?_))))
theorem spec_ruTimes.L1_eq (x0 : List Int) (x3 : List Int) (x5 : Int) (x12 : List Int) (x13 : Int) (x14 : Int) (x21 : List Int) (x22 : Int) (x23 : Int) : spec_ruTimes.L1 x0 x3 x5 x12 x13 x14 x21 x22 x23 = (if x23 < x22 then (if 0 ≤ x23 then (if x23 < (x21.length : Int) then (if 0 ≤ (wrap64 (x5 - (rd x21 x23))) then (if (wrap64 (x5 - (rd x21 x23))) < (x3.length : Int) then (spec_ruTimes.L1 x0 (x3.set ((wrap64 (x5 - (rd x21 x23))) : Int).toNat (wrap64 ((rd x3 (wrap64 (x5 - (rd x21 x23)))) + 1))) x5 x12 x13 x14 x21 x22 (wrap64 (x23 + 1))) else (none)) else (none)) else (none)) else (none)) else (spec_ruTimes.L0 x0 x3 x12 x13 (wrap64 (x14 + 1)))) :=
 Lim.step (f := fun k => spec_ruTimes.l1 (k + 1) x0 x3 x5 x12 x13 x14 x21 x22 x23) (spec_ruTimes.L1_lim x0 x3 x5 x12 x13 x14 x21 x22 x23) (fun _ => rfl) (by
  simp only [spec_ruTimes.l1]
  repeat' (first | (with_reducible first | exact Lim.const _ | exact spec_ruTimes.L0_lim _ _ _ _ _ | exact spec_ruTimes.L1_lim _ _ _ _ _ _ _ _ _ | refine Lim.ite ?_ ?_ | refine Lim.bind ?_ (fun _ => ?_))))
theorem spec_ruTimes.F_eq (l0 : List Int) : spec_ruTimes.F l0 = ((spec_ruLength.f l0).bind fun t102 => (if 0 ≤ (wrap64 (t102 + 1)) then (if (wrap64 (t102 + 1) : Int).toNat ≤ 35184372088832 then (spec_ruTimes.L0 l0 (List.replicate (wrap64 (t102 + 1) : Int).toNat 0) l0 (l0.length : Int) 0) else (none)) else (none))) :=
 Lim.unique (spec_ruTimes.F_lim l0) (by
  unfold spec_ruTimes.f
  repeat' (first | (with_reducible first | exact Lim.const _ | exact spec_ruTimes.L0_lim _ _ _ _ _ | refine Lim.ite ?_ ?_ | refine Lim.bind ?_ (fun _ => ?_))))

end Go.Proofs.Ytofjndbpndpjjaa.Fn
namespace Go.Proofs.Ytofjndbpndpjjaa.Fn
open Go.RowKit Go.Proofs.YtofjndbpndpjjaaW.PrintWords Go.Proofs.YtofjndbpndpjjaaW.PrintLast Go.Proofs.YtofjndbpndpjjaaW.PrintMore
attribute [local go_sem] max2_int min2_int max_two min_two max_three min_three max_four min_four   -- for this text's walks alone
set_option linter.unusedVariables false
set_option linter.unusedSimpArgs false

/-! ### spec_ruDifferent: function 64 -/
def spec_ruDifferent.l0 : Nat → List Int → Int → Int → Option (Bool)
 | 0, _, _, _ => none
 | k + 1, x6, x7, x8 => if x8 < x7 then (if 0 ≤ x8 then (if x8 < (x6.length : Int) then (if (rd x6 x8) > 1 then (some false) else (spec_ruDifferent.l0 k x6 x7 (wrap64 (x8 + 1)))) else (none)) else (none)) else (some true)
def spec_ruDifferent.f (k : Nat) (l0 : List Int) : Option (Bool) := (spec_ruTimes.f k l0).bind fun t111 => (spec_ruDifferent.l0 k t111 (t111.length : Int) 0)
theorem spec_ruDifferent.mono_l : ∀ k, (∀ y0 y1 y2, LeO (spec_ruDifferent.l0 k y0 y1 y2) (spec_ruDifferent.l0 (k + 1) y0 y1 y2))
 | 0 => fun _ _ _ r h => by simp [spec_ruDifferent.l0] at h
 | k + 1 => by
  have ih0 := spec_ruDifferent.mono_l k
  ·intro y0 y1 y2
   unfold spec_ruDifferent.l0
   repeat' (first | (with_reducible first | exact ih0 _ _ _ | exact LeO.refl _ | exact LeO.none _ | refine LeO.ite ?_ ?_ | refine LeO.bind ?_ (fun _ => ?_)) | exact ih0 _ _ _ | exact LeO.none _ | refine LeO.ite ?_ ?_ | refine LeO.bind ?_ (fun _ => ?_))
theorem spec_ruDifferent.mono : ∀ a0 k, LeO (spec_ruDifferent.f k a0) (spec_ruDifferent.f (k + 1) a0) := by
 intro a0 k
 have ih0 := spec_ruDifferent.mono_l k
 unfold spec_ruDifferent.f
 repeat' (first | (with_reducible first | exact ih0 _ _ _ | exact spec_ruTimes.mono _ _ | exact LeO.refl _ | exact LeO.none _ | refine LeO.ite ?_ ?_ | refine LeO.bind ?_ (fun _ => ?_)) | exact ih0 _ _ _ | exact spec_ruTimes.mono _ _ | exact LeO.none _ | refine LeO.ite ?_ ?_ | refine LeO.bind ?_ (fun _ => ?_))
set_option maxHeartbeats 8000000 in
set_option maxRecDepth 100000 in
theorem spec_ruDifferent.calls (k : Nat) (A0 : Option Addr) (c0 : Nat) (l0 : List Int) (r : Bool) (w : World) (hr0 : Kd.C (Kd.int .i64) w A0 l0.length l0) (hc0 : l0.length ≤ c0) (h : spec_ruDifferent.f k l0 = some r) :
  Calls Try.prog 64 #[.slice A0 l0.length c0] w fun e w' => e = .returned (.bool r) ∧ Below w.heap.size w w' := by
 have HR0 := Aside0.mk hr0
 have HC0 := Aside0.mk hc0
 clear hr0 hc0
 have HB := Aside0.mk (Below.refl w.heap.size w)
 have H := h
 unfold spec_ruDifferent.f at H
 clear h
 replace H := Option.bind_eq_some_iff.mp H
 obtain ⟨t111, A20, H⟩ := H
 replace H : (spec_ruDifferent.l0 k t111 (t111.length : Int) 0) = some r := H
 have A2 := Aside0.mk A20
 clear A20
 have H' := Aside0.mk H
 clear H
 go_enter Try.func64, Try.ntmps64
 go_wp2_with (first | ((with_reducible refine gate_callee (f := 61) rfl ?_); refine goesA (some 6) Try.func61 #[.slice A0 l0.length c0] ?_; (with_reducible refine (spec_ruTimes.calls k _ _ l0 t111 _ ?side1 ?side2 A2.out).mono ?_); (case side1 => repeat (first | exact HR0.out | (with_reducible refine Kd.C_alloc ?_ _) | (with_reducible refine Kd.C_drewN ?_ _) | (with_reducible refine Kd.C_drew ?_))); (case side2 => exact HC0.out); rintro e w3 ⟨v112, rfl, ho0, hb⟩; refine ⟨_, rfl, ?_⟩; have HO113 := lowR ho0 HB; replace HB := upB HB hb; (try clear hb); (try clear hb2); (try clear hk); (try clear hi); (try clear ho0); obtain ⟨Ao4, co4, eo4⟩ := Kd.R_slice HO113.out; subst eo4))
 go_loopg [8] k (fun kq v8 w' => ∃ (x8_1 : Int), v8 = .int .i64 x8_1 ∧ Aside0 (spec_ruDifferent.l0 kq t111 (t111.length : Int) x8_1 = some r) ∧ Aside0 (kq ≤ k) ∧ Aside0 (Kd.R (Kd.int .i64) 3 w' w.heap.size (fun _ => True) (.slice Ao4 t111.length co4) t111) ∧ Aside0 (Below w.heap.size w w'))
 case atStart => exact ⟨(0), eqd, H', ⟨Nat.le_refl _⟩, ⟨atR HO113⟩, ⟨atB HB⟩⟩
 case round =>
  clear H'
  try clear p2
  obtain ⟨x8_1, rfl, HA, HK1, HO_6, HB⟩ := hrel
  cases gk with
  | zero => exact absurd HA.out (by simp [spec_ruDifferent.l0])
  | succ k1 =>
   have H := HA.out
   clear HA
   simp only [spec_ruDifferent.l0] at H
   by_cases c5 : x8_1 < (t111.length : Int)
   ·rw [if_pos c5] at H
    have c5b0 : decide (x8_1 < (t111.length : Int)) = true := decide_eq_true c5
    clear c5
    by_cases c6 : 0 ≤ x8_1
    ·rw [if_pos c6] at H
     have c6b0 : decide (0 ≤ x8_1) = true := decide_eq_true c6
     clear c6
     by_cases c7 : x8_1 < (t111.length : Int)
     ·rw [if_pos c7] at H
      have c7b0 : decide (x8_1 < (t111.length : Int)) = true := decide_eq_true c7
      clear c7
      by_cases c8 : (rd t111 x8_1) > 1
      ·rw [if_pos c8] at H
       have c8b0 : decide (1 < (rd t111 x8_1)) = true := decide_eq_true c8
       clear c8
       obtain rfl := Option.some.inj H
       have p114 : 0 ≤ (x8_1 : Int) := ofd
       have q114 : x8_1 < (t111.length : Int) := ofd
       obtain ⟨ad114, e114, hx114_0⟩ := Kd.at_int (Kd.R_reads' HO_6.out).2.2 x8_1 p114 q114
       cases e114
       replace p114 := eq_true p114
       replace q114 := eq_true q114
       go_wp2
       go_ret
       exact ⟨eqr, atB HB⟩
      ·rw [if_neg c8] at H
       have c8b0 : decide (1 < (rd t111 x8_1)) = false := decide_eq_false c8
       clear c8
       have H' := Aside0.mk H
       clear H
       have p114 : 0 ≤ (x8_1 : Int) := ofd
       have q114 : x8_1 < (t111.length : Int) := ofd
       obtain ⟨ad114, e114, hx114_0⟩ := Kd.at_int (Kd.R_reads' HO_6.out).2.2 x8_1 p114 q114
       cases e114
       replace p114 := eq_true p114
       replace q114 := eq_true q114
       go_wp2
       go_roundg k1
       case measure => have := HK1.out; omega
       case rel => exact ⟨(wrap64 (x8_1 + 1)), eqd, H', ⟨by have := HK1.out; omega⟩, ⟨atR HO_6⟩, ⟨atB HB⟩⟩
     ·rw [if_neg c7] at H
      exact absurd H (by simp)
    ·rw [if_neg c6] at H
     exact absurd H (by simp)
   ·rw [if_neg c5] at H
    have c5b0 : decide (x8_1 < (t111.length : Int)) = false := decide_eq_false c5
    clear c5
    obtain rfl := Option.some.inj H
    go_wp2
    go_ret
    exact ⟨eqr, atB HB⟩

noncomputable def spec_ruDifferent.L0 (x6 : List Int) (x7 : Int) (x8 : Int) : Option (Bool) := lim fun k => spec_ruDifferent.l0 k x6 x7 x8
theorem spec_ruDifferent.L0_lim (x6 : List Int) (x7 : Int) (x8 : Int) : Lim (fun k => spec_ruDifferent.l0 k x6 x7 x8) (spec_ruDifferent.L0 x6 x7 x8) := Lim.of fun k => (spec_ruDifferent.mono_l k) x6 x7 x8
noncomputable def spec_ruDifferent.F (l0 : List Int) : Option (Bool) := lim fun k => spec_ruDifferent.f k l0
theorem spec_ruDifferent.F_lim (l0 : List Int) : Lim (fun k => spec_ruDifferent.f k l0) (spec_ruDifferent.F l0) := Lim.of fun k => spec_ruDifferent.mono l0 k
theorem spec_ruDifferent.L0_eq (x6 : List Int) (x7 : Int) (x8 : Int) : spec_ruDifferent.L0 x6 x7 x8 = (if x8 < x7 then (if 0 ≤ x8 then (if x8 < (x6.length : Int) then (if (rd x6 x8) > 1 then (some false) else (spec_ruDifferent.L0 x6 x7 (wrap64 (x8 + 1)))) else (none)) else (none)) else (some true)) :=
 Lim.step (f := fun k => spec_ruDifferent.l0 (k + 1) x6 x7 x8) (spec_ruDifferent.L0_lim x6 x7 x8) (fun _ => rfl) (by
  simp only [spec_ruDifferent.l0]
  repeat' (first | (with_reducible first | exact Lim.const _ | exact spec_ruDifferent.L0_lim _ _ _ | refine Lim.ite ?_ ?_ | refine Lim.bind ?_ (fun _ => ?_))))
theorem spec_ruDifferent.F_eq (l0 : List Int) : spec_ruDifferent.F l0 = ((spec_ruTimes.F l0).bind fun t111 => (spec_ruDifferent.L0 t111 (t111.length : Int) 0)) :=
 Lim.unique (spec_ruDifferent.F_lim l0) (by
  unfold spec_ruDifferent.f
  repeat' (first | (with_reducible first | exact Lim.const _ | exact spec_ruDifferent.L0_lim _ _ _ | exact spec_ruTimes.F_lim _ | refine Lim.ite ?_ ?_ | refine Lim.bind ?_ (fun _ => ?_))))

end Go.Proofs.Ytofjndbpndpjjaa.Fn
namespace Go.Proofs.Ytofjndbpndpjjaa.Fn
open Go.RowKit Go.Proofs.YtofjndbpndpjjaaW.PrintWords Go.Proofs.YtofjndbpndpjjaaW.PrintLast Go.Proofs.YtofjndbpndpjjaaW.PrintMore
attribute [local go_sem] max2_int min2_int max_two min_two max_three min_three max_four min_four   -- for this text's walks alone
set_option linter.unusedVariables false
set_option linter.unusedSimpArgs false

/-! ### spec_l1Own: function 97 -/
def spec_l1Own.f (l0 : List Int) : Option (List Int) := (some (([] : List Int) : List Int)).bind fun y129 => (if y129.length + l0.length < 17592186044416 then (some (y129 ++ l0)) else (none))
set_option maxHeartbeats 8000000 in
set_option maxRecDepth 100000 in
theorem spec_l1Own.calls (A0 : Option Addr) (c0 : Nat) (l0 : List Int) (r : List Int) (w : World) (hr0 : Kd.C (Kd.int .i64) w A0 l0.length l0) (hc0 : l0.length ≤ c0) (h : spec_l1Own.f l0 = some r) :
  Calls Try.prog 97 #[.slice A0 l0.length c0] w fun e w' => ∃ v0_ : Value, e = .returned (v0_) ∧ Kd.R (Kd.int .i64) 3 w' w.heap.size (fun _ => True) v0_ r ∧ Below w.heap.size w w' := by
 have HR0 := Aside0.mk hr0
 have HC0 := Aside0.mk hc0
 clear hr0 hc0
 have HB := Aside0.mk (Below.refl w.heap.size w)
 have H := h
 unfold spec_l1Own.f at H
 clear h
 obtain ⟨y129, hy129⟩ : ∃ y_ : List Int, y_ = (([] : List Int)) := ⟨_, rfl⟩
 replace H : (if y129.length + l0.length < 17592186044416 then (some (y129 ++ l0)) else (none)) = some r := by first | (rw [hy129]; with_reducible exact H) | (have H2_ := (Option.bind_some _ _).symm.trans H; rw [hy129]; with_reducible exact H2_) | (have H2_ := (Option.bind_some _ _).symm.trans H; with_reducible exact H2_) | with_reducible exact H | (rw [hy129]; exact H) | exact H
 have Ny129 := Aside0.mk hy129
 clear hy129
 by_cases c2 : y129.length + l0.length < 17592186044416
 ·rw [if_pos c2] at H
  have LMc2 := Aside0.mk c2
  clear c2
  obtain ⟨y132, hy132⟩ : ∃ y_ : List Int, y_ = (y129 ++ l0) := ⟨_, rfl⟩
  replace H : (some y132) = some r := by first | (rw [hy132]; with_reducible exact H) | (have H2_ := (Option.bind_some _ _).symm.trans H; rw [hy132]; with_reducible exact H2_) | (have H2_ := (Option.bind_some _ _).symm.trans H; with_reducible exact H2_) | with_reducible exact H | (rw [hy132]; exact H) | exact H
  have Ny132 := Aside0.mk hy132
  clear hy132
  obtain rfl := Option.some.inj H
  go_enter Try.func97, Try.ntmps97
  go_wp2_with (first | ((with_reducible refine gate_dst (N := 3) rfl ?_); refine Kd.R_lit (Kd.int .i64) _ 3 ?hg (N := 3) ?hd (xs := ([] : List Int)) (inner := []) (ok := fun _ => True) (okp := fun _ => True) ?hr ?hp (fun _ hk => hk) trivial (Below.refl _ _) (Nat.le_refl _) (by simp) ?_; (case hd => rfl); (case hg => rfl); (case hr => first | (go_simp; done) | (go_simp; rfl)); (case hp => exact (Reps.none _ _)); intro v130 w3 ho4 hb hg_ hnew_; clear hg_ hnew_; (first | rw [← Ny129.out] at ho4 | (simp only [Int.reduceToNat] at ho4; rw [← Ny129.out] at ho4)); have HO131 := lowR ho4 HB; replace HB := upB HB hb; clear hb ho4) | ((with_reducible refine gate_builtin (b := .append) (xs := #[.tmp 3, .tmp 4]) rfl ?_); at_builtin; refine Kd.R_append_rows (Kd.int .i64) (w0 := w) w.heap.size rfl (.tmp 3) (.tmp 4) 24 3 (.int .i64 0) 8 rfl Try.underlying24 info3 rfl (by decide) (by omega) v130 y129 l0 _ _ _ (fun _ => True) (fun _ => False) rfl rfl ?aO ?aR (fun _ _ h => h) (fun _ h => h.elim) ?aF ?aB ?aS ?aL ?_; (case aR => repeat (first | exact (Kd.C_below HR0.out HB.out) | (with_reducible refine Kd.C_alloc ?_ _) | (with_reducible refine Kd.C_drewN ?_ _) | (with_reducible refine Kd.C_drew ?_))); (case aB => exact (atB HB)); (case aF => exact (fun _ _ => trivial)); (case aO => exact (atR HO131)); (case aS => exact (szB HB)); (case aL => have := LMc2.out; omega); intro v133 w5 ho hb hg hat; rw [← Ny132.out] at ho; have HO134 := Aside0.mk (ho); replace HB := Aside0.mk (hb); clear HO131; clear ho hb hg hat))
  go_ret
  exact ⟨_, eqr, atR HO134, atB HB⟩
 ·rw [if_neg c2] at H
  exact absurd H (by simp)


end Go.Proofs.Ytofjndbpndpjjaa.Fn
namespace Go.Proofs.Ytofjndbpndpjjaa.Fn
open Go.RowKit Go.Proofs.YtofjndbpndpjjaaW.PrintWords Go.Proofs.YtofjndbpndpjjaaW.PrintLast Go.Proofs.YtofjndbpndpjjaaW.PrintMore
attribute [local go_sem] max2_int min2_int max_two min_two max_three min_three max_four min_four   -- for this text's walks alone
set_option linter.unusedVariables false
set_option linter.unusedSimpArgs false

/-! ### spec_l1Cur_ruler: function 72 -/
mutual
def spec_l1Cur_ruler.l0 : Nat → List Int → Bool → Int → List Int → Int → Int → Option (List Int × Int × Int)
 | 0, _, _, _, _, _, _ => none
 | k + 1, x3, x4, x5, x1000, x1001, x1002 => if x5 > 0 then ((spec_l1Own.f x3).bind fun t144 => (if 0 ≤ (wrap64 ((x3.length : Int) - 1)) then (if (wrap64 ((x3.length : Int) - 1)) < (x3.length : Int) then ((spec_l1Cur_pick.f x1000 x1001 x1002 6).bind fun bt148 => (if t144.length < 17592186044416 then ((some (t144 ++ [wrap64 ((wrap64 ((rd x3 (wrap64 ((x3.length : Int) - 1))) + 1)) + bt148.1)] : List Int)).bind fun y151 => (if x4 = true then ((spec_ruDifferent.f k y151).bind fun t154 => (if t154 = true then (spec_l1Cur_ruler.l0 k y151 x4 (wrap64 (x5 - 1)) x1000 bt148.2.1 bt148.2.2) else (spec_l1Cur_ruler.l0 k x3 x4 (wrap64 (x5 - 1)) x1000 bt148.2.1 bt148.2.2))) else (spec_l1Cur_ruler.l0 k y151 x4 (wrap64 (x5 - 1)) x1000 bt148.2.1 bt148.2.2))) else (none))) else (none)) else (none))) else ((spec_l1Cur_pick.f x1000 x1001 x1002 14).bind fun bt155 => (if bt155.1 = 0 then ((spec_l1Cur_pick.f x1000 bt155.2.1 bt155.2.2 (x3.length : Int)).bind fun bt158 => ((spec_l1Cur_among.f x1000 bt158.2.1 bt158.2.2 (([(-1), 0, 1, 60, 61, 4611686018427387904] : List Int))).bind fun bt164 => (if 0 ≤ bt158.1 then (if bt158.1 < (x3.length : Int) then (some ((x3.set (bt158.1 : Int).toNat bt164.1), bt164.2.1, bt164.2.2)) else (none)) else (none)))) else (if bt155.1 = 1 then (some (([] : List Int), bt155.2.1, bt155.2.2)) else (if bt155.1 = 2 then (spec_l1Cur_ruler.l1 k x3 x1000 bt155.2.1 bt155.2.2) else (some (x3, bt155.2.1, bt155.2.2))))))
def spec_l1Cur_ruler.l1 : Nat → List Int → List Int → Int → Int → Option (List Int × Int × Int)
 | 0, _, _, _, _ => none
 | k + 1, x3, x1000, x1001, x1002 => (spec_l1Cur_pick.f x1000 x1001 x1002 2).bind fun bt168 => (if (x3.length : Int) < (wrap64 (12 + bt168.1)) then (if 0 ≤ (wrap64 ((x3.length : Int) - 1)) then (if (wrap64 ((x3.length : Int) - 1)) < (x3.length : Int) then (if x3.length < 17592186044416 then (spec_l1Cur_ruler.l1 k (x3 ++ [wrap64 ((rd x3 (wrap64 ((x3.length : Int) - 1))) + 1)]) x1000 bt168.2.1 bt168.2.2) else (none)) else (none)) else (none)) else (some (x3, bt168.2.1, bt168.2.2)))
end
def spec_l1Cur_ruler.f (k : Nat) (s0_0 : List Int) (s0_1 : Int) (s0_2 : Int) : Option (List Int × Int × Int) := (spec_l1Cur_one.f s0_0 s0_1 s0_2 2).bind fun bt138 => ((spec_l1Cur_pick.f s0_0 bt138.2.1 bt138.2.2 6).bind fun bt141 => (spec_l1Cur_ruler.l0 k (([0] : List Int)) bt138.1 bt141.1 s0_0 bt141.2.1 bt141.2.2))
theorem spec_l1Cur_ruler.mono_l : ∀ k, (∀ y0 y1 y2 y3 y4 y5, LeO (spec_l1Cur_ruler.l0 k y0 y1 y2 y3 y4 y5) (spec_l1Cur_ruler.l0 (k + 1) y0 y1 y2 y3 y4 y5)) ∧ (∀ y0 y1 y2 y3, LeO (spec_l1Cur_ruler.l1 k y0 y1 y2 y3) (spec_l1Cur_ruler.l1 (k + 1) y0 y1 y2 y3))
 | 0 => ⟨fun _ _ _ _ _ _ r h => by simp [spec_l1Cur_ruler.l0] at h, fun _ _ _ _ r h => by simp [spec_l1Cur_ruler.l1] at h⟩
 | k + 1 => by
  obtain ⟨ih0, ih1⟩ := spec_l1Cur_ruler.mono_l k
  refine ⟨?_, ?_⟩
  ·intro y0 y1 y2 y3 y4 y5
   unfold spec_l1Cur_ruler.l0
   repeat' (first | (with_reducible first | exact ih0 _ _ _ _ _ _ | exact ih1 _ _ _ _ | exact spec_ruDifferent.mono _ _ | exact LeO.refl _ | exact LeO.none _ | refine LeO.ite ?_ ?_ | refine LeO.bind ?_ (fun _ => ?_)) | exact ih0 _ _ _ _ _ _ | exact ih1 _ _ _ _ | exact spec_ruDifferent.mono _ _ | exact LeO.none _ | refine LeO.ite ?_ ?_ | refine LeO.bind ?_ (fun _ => ?_))
  ·intro y0 y1 y2 y3
   unfold spec_l1Cur_ruler.l1
   repeat' (first | (with_reducible first | exact ih1 _ _ _ _ | exact LeO.refl _ | exact LeO.none _ | refine LeO.ite ?_ ?_ | refine LeO.bind ?_ (fun _ => ?_)) | exact ih1 _ _ _ _ | exact LeO.none _ | refine LeO.ite ?_ ?_ | refine LeO.bind ?_ (fun _ => ?_))
theorem spec_l1Cur_ruler.mono : ∀ a0 a1 a2 k, LeO (spec_l1Cur_ruler.f k a0 a1 a2) (spec_l1Cur_ruler.f (k + 1) a0 a1 a2) := by
 intro a0 a1 a2 k
 obtain ⟨ih0, ih1⟩ := spec_l1Cur_ruler.mono_l k
 unfold spec_l1Cur_ruler.f
 repeat' (first | (with_reducible first | exact ih0 _ _ _ _ _ _ | exact LeO.refl _ | exact LeO.none _ | refine LeO.ite ?_ ?_ | refine LeO.bind ?_ (fun _ => ?_)) | exact ih0 _ _ _ _ _ _ | exact LeO.none _ | refine LeO.ite ?_ ?_ | refine LeO.bind ?_ (fun _ => ?_))
def spec_l1Cur_ruler.T6 : Bool × List (List Nat × List Nat) := (true, [([], []), ([0], [0]), ([], []), ([], []), ([3], [3]), ([4], [4]), ([2, 5], [2, 5]), ([6], [6]), ([7], [7]), ([], []), ([9, 1], [9]), ([8, 10], [8, 10]), ([11], [11]), ([1, 12, 10], [1, 12]), ([13, 13, 0, 1, 2, 3, 4, 5, 6, 7, 8, 9, 10, 11, 12, 13], [13])])
def spec_l1Cur_ruler.B6 : List Nat := [0, 1, 0, 0, 8, 24, 60, 124, 252, 0, 515, 2047, 4095, 8191, 16383]
theorem spec_l1Cur_ruler.tab6 : rtab .any (opsOf Try.f72 6) = spec_l1Cur_ruler.T6 := by kernel_rfl
theorem spec_l1Cur_ruler.bits6 : waitsOk spec_l1Cur_ruler.T6.2 spec_l1Cur_ruler.B6 = true := by kernel_rfl
set_option maxHeartbeats 8000000 in
set_option maxRecDepth 100000 in
theorem spec_l1Cur_ruler.calls (k : Nat) (g : Nat) (s0_0 : List Int) (s0_1 : Int) (s0_2 : Int) (r1 : List Int) (r2 : Int) (r3 : Int) (w0 w : World) (hI : IsS58 w0 w g s0_0 s0_1 s0_2) (hB : Below w0.heap.size w0 w) (h : spec_l1Cur_ruler.f k s0_0 s0_1 s0_2 = some (r1, r2, r3)) :
  Calls Try.prog 72 #[.pointer (some ⟨g, 0, none⟩)] w fun e w' => ∃ v0_ : Value, e = .returned (v0_) ∧ Kd.R (Kd.int .i64) 3 w' w.heap.size (fun _ => True) v0_ r1 ∧ IsS58 w0 w' g s0_0 r2 r3 ∧ Below w0.heap.size w0 w' ∧ KeepBut w w' g none := by
 have HI0 := Aside0.mk hI
 have HK := Aside0.mk (KeepBut.refl w g none)
 have HL := Aside0.mk hB.size
 clear hI
 have HW0 := Aside0.mk hB.size
 have HB := Aside0.mk hB
 clear hB
 have H := h
 unfold spec_l1Cur_ruler.f at H
 clear h
 obtain ⟨y135, hy135⟩ : ∃ y_ : List Int, y_ = (([0] : List Int)) := ⟨_, rfl⟩
 replace H : ((spec_l1Cur_one.f s0_0 s0_1 s0_2 2).bind fun bt138 => ((spec_l1Cur_pick.f s0_0 bt138.2.1 bt138.2.2 6).bind fun bt141 => (spec_l1Cur_ruler.l0 k y135 bt138.1 bt141.1 s0_0 bt141.2.1 bt141.2.2))) = some (r1, r2, r3) := by first | (rw [hy135]; with_reducible exact H) | (have H2_ := (Option.bind_some _ _).symm.trans H; rw [hy135]; with_reducible exact H2_) | (have H2_ := (Option.bind_some _ _).symm.trans H; with_reducible exact H2_) | with_reducible exact H | (rw [hy135]; exact H) | exact H
 have Ny135 := Aside0.mk hy135
 clear hy135
 replace H := Option.bind_eq_some_iff.mp H
 obtain ⟨⟨t138, t139, t140⟩, A20, H⟩ := H
 replace H : ((spec_l1Cur_pick.f s0_0 t139 t140 6).bind fun bt141 => (spec_l1Cur_ruler.l0 k y135 t138 bt141.1 s0_0 bt141.2.1 bt141.2.2)) = some (r1, r2, r3) := H
 have A2 := Aside0.mk A20
 clear A20
 replace H := Option.bind_eq_some_iff.mp H
 obtain ⟨⟨t141, t142, t143⟩, A30, H⟩ := H
 replace H : (spec_l1Cur_ruler.l0 k y135 t138 t141 s0_0 t142 t143) = some (r1, r2, r3) := H
 have A3 := Aside0.mk A30
 clear A30
 have H' := Aside0.mk H
 clear H
 go_enter Try.func72, Try.ntmps72
 go_wp2_with (first | ((with_reducible refine gate_dst (N := 7) rfl ?_); refine Kd.R_lit (Kd.int .i64) _ 3 ?hg (N := 7) ?hd (xs := ([0] : List Int)) (inner := [.int .i64 0]) (ok := fun _ => True) (okp := fun _ => True) ?hr ?hp (fun _ hk => hk) trivial (Below.refl _ _) (Nat.le_refl _) (by simp) ?_; (case hd => rfl); (case hg => rfl); (case hr => first | (go_simp; done) | (go_simp; rfl)); (case hp => exact repsI _); intro v136 w4 ho5 hb hg_ hnew_; clear hg_ hnew_; (first | rw [← Ny135.out] at ho5 | (simp only [Int.reduceToNat] at ho5; rw [← Ny135.out] at ho5)); have HO137 := lowKR ho5 HK; replace HI0 := IsS58.up HI0 hb; replace HK := upKB HK hb; replace HB := upB HB hb; clear hb ho5) | ((with_reducible refine gate_callee (f := 76) rfl ?_); refine goesA (some 9) Try.func76 #[.pointer (some ⟨g, 0, none⟩), .int .i64 2] ?_; (with_reducible refine (spec_l1Cur_one.calls g s0_0 s0_1 s0_2 2 t138 t139 t140 w0 _ ?side1 ?side2 A2.out).mono ?_); (case side1 => exact IsS58.at HI0); (case side2 => exact atB HB); rintro e w6 ⟨rfl, hi, hb, hk⟩; refine ⟨_, rfl, ?_⟩; replace HO137 := IsS58.keepR HI0 HO137 hk; replace HK := upK HK hk; replace HB := Aside0.mk (hb); replace HI0 := Aside0.mk (hi); (try clear hb); (try clear hb2); (try clear hk); (try clear hi)) | ((with_reducible refine gate_callee (f := 78) rfl ?_); refine goesA (some 11) Try.func78 #[.pointer (some ⟨g, 0, none⟩), .int .i64 6] ?_; (with_reducible refine (spec_l1Cur_pick.calls g s0_0 t139 t140 6 t141 t142 t143 w0 _ ?side1 ?side2 A3.out).mono ?_); (case side1 => exact IsS58.at HI0); (case side2 => exact atB HB); rintro e w7 ⟨rfl, hi, hb, hk⟩; refine ⟨_, rfl, ?_⟩; replace HO137 := IsS58.keepR HI0 HO137 hk; replace HK := upK HK hk; replace HB := Aside0.mk (hb); replace HI0 := Aside0.mk (hi); (try clear hb); (try clear hb2); (try clear hk); (try clear hi)))
 go_loopg [3, 5] k (fun kq v3 v5 w' => ∃ (x3_1 : List Int) (x5_1 : Int) (x1001_1 : Int) (x1002_1 : Int), v5 = .int .i64 x5_1 ∧ Aside0 (spec_l1Cur_ruler.l0 kq x3_1 t138 x5_1 s0_0 x1001_1 x1002_1 = some (r1, r2, r3)) ∧ Aside0 (kq ≤ k) ∧ Aside0 (Kd.R (Kd.int .i64) 3 w' w.heap.size (fun _ => True) v3 x3_1) ∧ Aside0 (IsS58 w0 w' g s0_0 x1001_1 x1002_1) ∧ Aside0 (KeepBut w w' g none) ∧ Aside0 (Below w0.heap.size w0 w'))
 case atStart => exact ⟨(y135), (t141), (t142), (t143), eqd, H', ⟨Nat.le_refl _⟩, ⟨atR HO137⟩, ⟨IsS58.at HI0⟩, ⟨atK HK⟩, ⟨atB HB⟩⟩
 case round =>
  clear H'
  try clear p2
  try clear c7
  obtain ⟨x3_1, x5_1, x1001_1, x1002_1, rfl, HA, HK1, HO_3, HI0, HK, HB⟩ := hrel
  cases gk with
  | zero => exact absurd HA.out (by simp [spec_l1Cur_ruler.l0])
  | succ k1 =>
   have H := HA.out
   clear HA
   simp only [spec_l1Cur_ruler.l0] at H
   by_cases c8 : x5_1 > 0
   ·rw [if_pos c8] at H
    have c8b0 : decide (0 < x5_1) = true := decide_eq_true c8
    clear c8
    replace H := Option.bind_eq_some_iff.mp H
    obtain ⟨t144, A90, H⟩ := H
    replace H : (if 0 ≤ (wrap64 ((x3_1.length : Int) - 1)) then (if (wrap64 ((x3_1.length : Int) - 1)) < (x3_1.length : Int) then ((spec_l1Cur_pick.f s0_0 x1001_1 x1002_1 6).bind fun bt148 => (if t144.length < 17592186044416 then ((some (t144 ++ [wrap64 ((wrap64 ((rd x3_1 (wrap64 ((x3_1.length : Int) - 1))) + 1)) + bt148.1)] : List Int)).bind fun y151 => (if t138 = true then ((spec_ruDifferent.f k1 y151).bind fun t154 => (if t154 = true then (spec_l1Cur_ruler.l0 k1 y151 t138 (wrap64 (x5_1 - 1)) s0_0 bt148.2.1 bt148.2.2) else (spec_l1Cur_ruler.l0 k1 x3_1 t138 (wrap64 (x5_1 - 1)) s0_0 bt148.2.1 bt148.2.2))) else (spec_l1Cur_ruler.l0 k1 y151 t138 (wrap64 (x5_1 - 1)) s0_0 bt148.2.1 bt148.2.2))) else (none))) else (none)) else (none)) = some (r1, r2, r3) := H
    have A9 := Aside0.mk A90
    clear A90
    obtain ⟨ji10, hji10⟩ : ∃ j_ : Int, (wrap64 ((x3_1.length : Int) - 1)) = j_ := ⟨_, rfl⟩
    replace H : (if 0 ≤ (ji10) then (if (ji10) < (x3_1.length : Int) then ((spec_l1Cur_pick.f s0_0 x1001_1 x1002_1 6).bind fun bt148 => (if t144.length < 17592186044416 then ((some (t144 ++ [wrap64 ((wrap64 ((rd x3_1 (ji10)) + 1)) + bt148.1)] : List Int)).bind fun y151 => (if t138 = true then ((spec_ruDifferent.f k1 y151).bind fun t154 => (if t154 = true then (spec_l1Cur_ruler.l0 k1 y151 t138 (wrap64 (x5_1 - 1)) s0_0 bt148.2.1 bt148.2.2) else (spec_l1Cur_ruler.l0 k1 x3_1 t138 (wrap64 (x5_1 - 1)) s0_0 bt148.2.1 bt148.2.2))) else (spec_l1Cur_ruler.l0 k1 y151 t138 (wrap64 (x5_1 - 1)) s0_0 bt148.2.1 bt148.2.2))) else (none))) else (none)) else (none)) = some (r1, r2, r3) := by first | (rw [hji10] at H; exact H) | (simp only [hji10] at H ⊢; exact H)
    (try rw [hji10] at A9)
    have hji10w : (IntKind.i64.wrap ((x3_1.length : Int) - 1)) = ji10 := (i64_w _).trans hji10
    by_cases c11 : 0 ≤ (ji10)
    ·rw [if_pos c11] at H
     have c11b0 : decide (0 ≤ (ji10)) = true := decide_eq_true c11
     clear c11
     by_cases c12 : (ji10) < (x3_1.length : Int)
     ·rw [if_pos c12] at H
      have c12b0 : decide ((ji10) < (x3_1.length : Int)) = true := decide_eq_true c12
      clear c12
      replace H := Option.bind_eq_some_iff.mp H
      obtain ⟨⟨t148, t149, t150⟩, A130, H⟩ := H
      replace H : (if t144.length < 17592186044416 then ((some (t144 ++ [wrap64 ((wrap64 ((rd x3_1 (ji10)) + 1)) + t148)] : List Int)).bind fun y151 => (if t138 = true then ((spec_ruDifferent.f k1 y151).bind fun t154 => (if t154 = true then (spec_l1Cur_ruler.l0 k1 y151 t138 (wrap64 (x5_1 - 1)) s0_0 t149 t150) else (spec_l1Cur_ruler.l0 k1 x3_1 t138 (wrap64 (x5_1 - 1)) s0_0 t149 t150))) else (spec_l1Cur_ruler.l0 k1 y151 t138 (wrap64 (x5_1 - 1)) s0_0 t149 t150))) else (none)) = some (r1, r2, r3) := H
      have A13 := Aside0.mk A130
      clear A130
      by_cases c14 : t144.length < 17592186044416
      ·rw [if_pos c14] at H
       have LMc14 := Aside0.mk c14
       clear c14
       obtain ⟨y151, hy151⟩ : ∃ y_ : List Int, y_ = (t144 ++ [wrap64 ((wrap64 ((rd x3_1 (ji10)) + 1)) + t148)]) := ⟨_, rfl⟩
       replace H : (if t138 = true then ((spec_ruDifferent.f k1 y151).bind fun t154 => (if t154 = true then (spec_l1Cur_ruler.l0 k1 y151 t138 (wrap64 (x5_1 - 1)) s0_0 t149 t150) else (spec_l1Cur_ruler.l0 k1 x3_1 t138 (wrap64 (x5_1 - 1)) s0_0 t149 t150))) else (spec_l1Cur_ruler.l0 k1 y151 t138 (wrap64 (x5_1 - 1)) s0_0 t149 t150)) = some (r1, r2, r3) := by first | (rw [hy151]; with_reducible exact H) | (have H2_ := (Option.bind_some _ _).symm.trans H; rw [hy151]; with_reducible exact H2_) | (have H2_ := (Option.bind_some _ _).symm.trans H; with_reducible exact H2_) | with_reducible exact H | (rw [hy151]; exact H) | exact H
       have Ny151 := Aside0.mk hy151
       clear hy151
       by_cases c15 : t138 = true
       ·subst c15
        have H1 : ((spec_ruDifferent.f k1 y151).bind fun t154 => (if t154 = true then (spec_l1Cur_ruler.l0 k1 y151 true (wrap64 (x5_1 - 1)) s0_0 t149 t150) else (spec_l1Cur_ruler.l0 k1 x3_1 true (wrap64 (x5_1 - 1)) s0_0 t149 t150))) = some (r1, r2, r3) := by rw [if_pos rfl] at H; exact H
        clear H
        have H := H1
        clear H1
        replace H := Option.bind_eq_some_iff.mp H
        obtain ⟨t154, A160, H⟩ := H
        replace H : (if t154 = true then (spec_l1Cur_ruler.l0 k1 y151 true (wrap64 (x5_1 - 1)) s0_0 t149 t150) else (spec_l1Cur_ruler.l0 k1 x3_1 true (wrap64 (x5_1 - 1)) s0_0 t149 t150)) = some (r1, r2, r3) := H
        have A16 := Aside0.mk A160
        clear A160
        by_cases c17 : t154 = true
        ·subst c17
         have H1 : (spec_l1Cur_ruler.l0 k1 y151 true (wrap64 (x5_1 - 1)) s0_0 t149 t150) = some (r1, r2, r3) := by rw [if_pos rfl] at H; exact H
         clear H
         have H := H1
         clear H1
         have H' := Aside0.mk H
         clear H
         try go_wp2
         have n0_ := Aside0.mk (Kd.R_drew HO_3.out)
         have n1_ := Aside0.mk (IsS58.drew HI0.out)
         have n2_ := Aside0.mk (keep_drew HK.out)
         have n3_ := Aside0.mk (below_drew1 HB.out)
         clear HO_3
         clear HI0
         clear HK
         clear HB
         have HO_3 := n0_
         have HI0 := n1_
         have HK := n2_
         have HB := n3_
         clear n0_ n1_ n2_ n3_
         obtain ⟨Ao19, co19, eo19⟩ := Kd.R_slice HO_3.out
         (first | subst eo19 | (injection eo19 with f1_ f2_ f3_; have f4_ := f1_.symm; have f5_ := f3_.symm; clear f1_ f2_ f3_; subst f4_; subst f5_))
         have p147 : 0 ≤ ((ji10) : Int) := ofd
         have q147 : (ji10) < (x3_1.length : Int) := ofd
         obtain ⟨ad147, e147, hx147_0⟩ := Kd.at_int (Kd.R_reads' HO_3.out).2.2 (ji10) p147 q147
         cases e147
         replace p147 := eq_true p147
         replace q147 := eq_true q147
         refine start_ (n := 15) (S := fun w' => w'.cell? (ad147.add ((ji10)).toNat) = some (.int .i64 (rd x3_1 (ji10)))) (ds := [12, 13]) #[false, false, false, false, false, false, false, false, false, false, false, false, false, false, false] (by kernel_rfl) rfl rfl (hx147_0) (fun hHeld => ?_); refine with_tabW spec_l1Cur_ruler.tab6 spec_l1Cur_ruler.bits6 (fun HT_ HW_ => ?_)
         generalize wr.drew = w18 at HO_3 HI0 HK HB hx147_0 hHeld ⊢
         refine pure_ (i := 0) (N := some 16) (v := ?_) (a' := ?_) #[true, false, false, false, false, false, false, false, false, false, false, false, false, false, false] rfl rfl (any_of HT_.out (by kernel_rfl)) (fun _ _ _ h => h) (Or.inl ⟨by rfl, ?_⟩) ?_ ?_
         rotate_left
         ·intro w'
          go_simp
          with_reducible rfl
         rotate_left
         ·simp only [Act.put, List.setIfInBounds_toArray, List.set_cons_zero, List.set_cons_succ, i64_w, i32_w]
          rfl
         refine pure_ (i := 2) (N := some 18) (v := ?_) (a' := ?_) #[true, false, true, false, false, false, false, false, false, false, false, false, false, false, false] rfl rfl (any_of HT_.out (by kernel_rfl)) (fun _ _ _ h => h) (Or.inl ⟨by rfl, ?_⟩) ?_ ?_
         rotate_left
         ·intro w'
          go_simp
          with_reducible rfl
         rotate_left
         ·simp only [Act.put, List.setIfInBounds_toArray, List.set_cons_zero, List.set_cons_succ, i64_w, i32_w]
          rfl
         refine pure_ (i := 3) (N := some 19) (v := ?_) (a' := ?_) #[true, false, true, true, false, false, false, false, false, false, false, false, false, false, false] rfl rfl (any_of HT_.out (by kernel_rfl)) (fun _ _ _ h => h) (Or.inl ⟨by rfl, ?_⟩) ?_ ?_
         rotate_left
         ·intro w'
          go_simp
          with_reducible rfl
         rotate_left
         ·simp only [Act.put, List.setIfInBounds_toArray, List.set_cons_zero, List.set_cons_succ, i64_w, i32_w]
          rfl
         refine pure_ (i := 4) (N := some 20) (v := ?_) (a' := ?_) #[true, false, true, true, true, false, false, false, false, false, false, false, false, false, false] rfl rfl (any_of HT_.out (by kernel_rfl)) (fun _ _ _ h => h) (Or.inl ⟨by rfl, ?_⟩) ?_ ?_
         rotate_left
         ·intro w'
          go_simp
          with_reducible rfl
         rotate_left
         ·simp only [Act.put, List.setIfInBounds_toArray, List.set_cons_zero, List.set_cons_succ, i64_w, i32_w]
          rfl
         refine pure_ (i := 5) (N := some 21) (v := ?_) (a' := ?_) #[true, false, true, true, true, true, false, false, false, false, false, false, false, false, false] rfl rfl (any_of HT_.out (by kernel_rfl)) (fun _ _ _ h => h) (Or.inl ⟨by rfl, ?_⟩) ?_ ?_
         rotate_left
         ·intro w'
          go_simp
          with_reducible rfl
         rotate_left
         ·simp only [Act.put, List.setIfInBounds_toArray, List.set_cons_zero, List.set_cons_succ, i64_w, i32_w]
          rfl
         refine pure_ (i := 6) (N := some 22) (v := ?_) (a' := ?_) #[true, false, true, true, true, true, true, false, false, false, false, false, false, false, false] rfl rfl (any_of HT_.out (by kernel_rfl)) (fun _ _ _ h => h) (Or.inl ⟨by rfl, ?_⟩) ?_ ?_
         rotate_left
         ·intro w'
          go_simp
          with_reducible rfl
         rotate_left
         ·simp only [Act.put, List.setIfInBounds_toArray, List.set_cons_zero, List.set_cons_succ, i64_w, i32_w]
          rfl
         refine pure_ (i := 9) (N := some 25) (v := ?_) (a' := ?_) #[true, false, true, true, true, true, true, false, false, true, false, false, false, false, false] rfl rfl (any_of HT_.out (by kernel_rfl)) (fun _ _ _ h => h) (Or.inl ⟨by rfl, ?_⟩) ?_ ?_
         rotate_left
         ·intro w'
          go_simp
          with_reducible rfl
         rotate_left
         ·simp only [Act.put, List.setIfInBounds_toArray, List.set_cons_zero, List.set_cons_succ, i64_w, i32_w]
          rfl
         refine take_ (i := 7) (N := some 23) (v := ?_) (a' := ?_) #[true, false, true, true, true, true, true, true, false, true, false, false, false, false, false] rfl rfl (take_ofW HT_.out HW_.out (by kernel_rfl)) (fun _ _ _ h => h) (Or.inl ⟨by rfl, ?_⟩) hHeld ?_ ?_
         rotate_left
         ·intro w' s0
          go_simp
          with_reducible rfl
         rotate_left
         ·simp only [Act.put, List.setIfInBounds_toArray, List.set_cons_zero, List.set_cons_succ, i64_w, i32_w]
          rfl
         refine pure_ (i := 8) (N := some 24) (v := ?_) (a' := ?_) #[true, false, true, true, true, true, true, true, true, true, false, false, false, false, false] rfl rfl (any_of HT_.out (by kernel_rfl)) (fun _ _ _ h => h) (Or.inl ⟨by rfl, ?_⟩) ?_ ?_
         rotate_left
         ·intro w'
          go_simp
          with_reducible rfl
         rotate_left
         ·simp only [Act.put, List.setIfInBounds_toArray, List.set_cons_zero, List.set_cons_succ, i64_w, i32_w]
          rfl
         refine one_ (i := 1) (N := some 17) #[true, true, true, true, true, true, true, true, true, true, false, false, false, false, false] rfl rfl (one_of HT_.out (by kernel_rfl)) (by decide) (fun K hK => ?_)
         refine goes_ Try.func97 (by kernel_rfl) rfl #[.slice (some ad147) x3_1.length co19] (by rfl) rfl rfl (by (try simp only [List.map_toArray, List.map_cons, List.map_nil]); first | done | rfl | (simp only [List.length_drop, List.length_take]; rfl)) ?_
         with_reducible refine (spec_l1Own.calls _ _ x3_1 t144 _ ?side1 ?side2 A9.out).mono ?_
         (case side1 => exact atRC HO_3)
         (case side2 => exact (Kd.R_reads' HO_3.out).2.1)
         rintro e w20 ⟨v145, rfl, ho0, hb⟩
         have HS0_ := (hb.cell (World.block_lt_of_cell? _ _ (hHeld))).trans (hHeld)
         refine ⟨_, rfl, ?_⟩
         have n0_ := eldRR HO_3 ho0 hb
         have n1_ := Aside0.mk (Kd.R_lower (Kd.R_new' ho0 (ltR HO_3)) (szK HK))
         have n2_ := IsS58.up HI0 hb
         have n3_ := upKB HK hb
         have n4_ := upB HB hb
         clear HO_3
         clear HI0
         clear HK
         clear HB
         have HO_3 := n0_
         have HO146 := n1_
         have HI0 := n2_
         have HK := n3_
         have HB := n4_
         clear n0_ n1_ n2_ n3_ n4_
         (try clear hb)
         (try clear hb2)
         (try clear hk)
         (try clear hi)
         (try clear ho0)
         refine hK.out _ _ (HS0_) (fun hHeld => ?_)
         clear hK K
         refine norm_ (a' := ?_) ?_ ?_
         rotate_left
         ·show Act.put _ (some 17) _ = _
          simp only [Act.put, List.setIfInBounds_toArray, List.set_cons_zero, List.set_cons_succ, i64_w, i32_w]
          rfl
         refine one_ (i := 10) (N := some 26) #[true, true, true, true, true, true, true, true, true, true, true, false, false, false, false] rfl rfl (one_of HT_.out (by kernel_rfl)) (by decide) (fun K hK => ?_)
         refine goes_ Try.func78 (by kernel_rfl) rfl #[.pointer (some ⟨g, 0, none⟩), .int .i64 6] (by rfl) rfl rfl (by (try simp only [List.map_toArray, List.map_cons, List.map_nil]); first | done | rfl | (simp only [List.length_drop, List.length_take]; rfl)) ?_
         with_reducible refine (spec_l1Cur_pick.calls g s0_0 x1001_1 x1002_1 6 t148 t149 t150 w0 _ ?side1 ?side2 A13.out).mono ?_
         (case side1 => exact IsS58.at HI0)
         (case side2 => exact atB HB)
         rintro e w21 ⟨rfl, hi, hb, hk⟩
         have HS0_ := keep_cell hk (hHeld) (by first | (rw [add_block]; exact Kd.own_blk (IsS58.own_ne HI0.out HO_3.out (by decide))) | (show (Addr.add _ _).block ≠ _; rw [add_block]; exact Kd.own_blk (IsS58.own_ne HI0.out HO_3.out (by decide))) | exact Kd.own_blk (IsS58.own_ne HI0.out HO_3.out (by decide)))
         refine ⟨_, rfl, ?_⟩
         have n0_ := IsS58.keepR HI0 HO_3 hk
         have n1_ := IsS58.keepR HI0 HO146 hk
         have n2_ := upK HK hk
         have n3_ := Aside0.mk (hb)
         have n4_ := Aside0.mk (hi)
         clear HO_3
         clear HO146
         clear HK
         clear HB
         clear HI0
         have HO_3 := n0_
         have HO146 := n1_
         have HK := n2_
         have HB := n3_
         have HI0 := n4_
         clear n0_ n1_ n2_ n3_ n4_
         (try clear hb)
         (try clear hb2)
         (try clear hk)
         (try clear hi)
         refine hK.out _ _ (HS0_) (fun hHeld => ?_)
         clear hK K
         refine norm_ (a' := ?_) ?_ ?_
         rotate_left
         ·show Act.put _ (some 26) _ = _
          simp only [Act.put, List.setIfInBounds_toArray, List.set_cons_zero, List.set_cons_succ, i64_w, i32_w]
          rfl
         refine pure_ (i := 11) (N := some 27) (v := ?_) (a' := ?_) #[true, true, true, true, true, true, true, true, true, true, true, true, false, false, false] rfl rfl (any_of HT_.out (by kernel_rfl)) (fun _ _ _ h => h) (Or.inl ⟨by rfl, ?_⟩) ?_ ?_
         rotate_left
         ·intro w'
          go_simp
          with_reducible rfl
         rotate_left
         ·simp only [Act.put, List.setIfInBounds_toArray, List.set_cons_zero, List.set_cons_succ, i64_w, i32_w]
          rfl
         refine last_ (i := 12) (N := some 28) #[true, true, true, true, true, true, true, true, true, true, true, true, true, false, false] rfl rfl (one_of HT_.out (by kernel_rfl)) (by decide) (fun K hK => ?_)
         refine value_ (w1 := ?_) (v := ?_) (by rfl) rfl ?_ ?_
         rotate_left 2
         ·go_simp
          constructor
          ·rfl
          ·rfl
         refine hK.out _ _ ?_
         clear hK K
         refine norm_ (a' := ?_) ?_ ?_
         rotate_left
         ·show Act.put _ (some 28) _ = _
          simp only [Act.put, List.setIfInBounds_toArray, List.set_cons_zero, List.set_cons_succ, i64_w, i32_w]
          rfl
         refine last_ (i := 13) (N := some 29) #[true, true, true, true, true, true, true, true, true, true, true, true, true, true, false] rfl rfl (one_of HT_.out (by kernel_rfl)) (by decide) (fun K hK => ?_)
         refine Kd.R_append_step (Kd.int .i64) w.heap.size (by rfl) (.tmp 17) (.tmp 28) 24 3 (.int .i64 0) 8 rfl Try.underlying24 info3 rfl (by decide) (by omega) v145 t144 (wrap64 ((wrap64 ((rd x3_1 (ji10)) + 1)) + t148)) [.int .i64 (wrap64 ((wrap64 ((rd x3_1 (ji10)) + 1)) + t148))] (fun k_ => some k_ ≠ (.slice (some ad147) x3_1.length co19 : Value).ownBlock) (fun _ => False) rfl rfl ?aP (fun _ hk => hk.elim) ?aF ?aO (Below.refl _ _) ?aS ?aL ?_
         (case aP => exact rfl)
         (case aF => exact (fun k_ hk => Kd.fresh' (ltR HO_3) k_ hk))
         (case aO => exact (by (with_reducible repeat (first | apply Kd.R_alloc | apply Kd.R_drewN | apply Kd.R_drew)); exact Kd.R_mono HO146.out (fun _ hk => hk.2)))
         (case aS => exact (szK HK))
         (case aL => have := LMc14.out; omega)
         intro v152 w22 ho hb hg hat
         rw [← Ny151.out] at ho
         have n0_ := Aside0.mk (Kd.R_after (ok := (fun _ => True)) (atR HO_3) hg hat)
         have n1_ := Aside0.mk (IsS58.grown (IsS58.at HI0) hg (IsS58.own_ne HI0.out HO146.out (by decide)))
         have n2_ := Aside0.mk (below_weaken (atB HB) HL.out hb)
         have n3_ := Aside0.mk (KeepBut.trans (atK HK) (KeepBut.of_grown hg g) (Kd.R_base2 HO146.out))
         have n4_ := Aside0.mk (ho)
         clear HO_3
         clear HI0
         clear HB
         clear HK
         clear HO146
         have HO_3 := n0_
         have HI0 := n1_
         have HB := n2_
         have HK := n3_
         have HO153 := n4_
         clear n0_ n1_ n2_ n3_ n4_
         clear ho hb hg hat
         refine hK.out _ _ ?_
         clear hK K
         refine norm_ (a' := ?_) ?_ ?_
         rotate_left
         ·show Act.put _ (some 29) _ = _
          simp only [Act.put, List.setIfInBounds_toArray, List.set_cons_zero, List.set_cons_succ, i64_w, i32_w]
          rfl
         refine pure_ (i := 14) (N := some 6) (v := ?_) (a' := ?_) #[true, true, true, true, true, true, true, true, true, true, true, true, true, true, true] rfl rfl (any_of HT_.out (by kernel_rfl)) (fun _ _ _ h => h) (Or.inl ⟨by rfl, ?_⟩) ?_ ?_
         rotate_left
         ·intro w'
          go_simp
          with_reducible rfl
         rotate_left
         ·simp only [Act.put, List.setIfInBounds_toArray, List.set_cons_zero, List.set_cons_succ, i64_w, i32_w]
          rfl
         refine done_ (done_of HT_.out (by kernel_rfl)) ?_
         obtain ⟨Ao23, co23, eo23⟩ := Kd.R_slice HO153.out
         subst eo23
         try go_wp2_with (first | (go_at_call 64; (with_reducible refine (spec_ruDifferent.calls k1 _ _ y151 true _ ?side1 ?side2 A16.out).mono ?_); (case side1 => exact atRC HO153); (case side2 => exact (Kd.R_reads' HO153.out).2.1); rintro e w24 ⟨rfl, hb⟩; replace HO_3 := upR HO_3 hb; replace HO153 := upR HO153 hb; replace HI0 := IsS58.up HI0 hb; replace HK := upKB HK hb; replace HB := upB HB hb; (try clear hb); (try clear hb2); (try clear hk); (try clear hi)))
         first | go_roundg k1 | ((try subst hji10); go_roundg k1)
         case measure => have := HK1.out; omega
         case rel => exact ⟨(y151), (wrap64 (x5_1 - 1)), (t149), (t150), eqd, H', ⟨by have := HK1.out; omega⟩, ⟨by (with_reducible repeat (first | apply Kd.R_alloc | apply Kd.R_drewN | apply Kd.R_drew)); exact Kd.R_mono HO153.out (fun _ hk => trivial)⟩, ⟨IsS58.at HI0⟩, ⟨atK HK⟩, ⟨atB HB⟩⟩
        ·replace c17 := Bool.eq_false_iff.mpr c17
         subst c17
         have H1 : (spec_l1Cur_ruler.l0 k1 x3_1 true (wrap64 (x5_1 - 1)) s0_0 t149 t150) = some (r1, r2, r3) := by rw [if_neg (show ¬ (false = true) by decide)] at H; exact H
         clear H
         have H := H1
         clear H1
         have H' := Aside0.mk H
         clear H
         try go_wp2
         have n0_ := Aside0.mk (Kd.R_drew HO_3.out)
         have n1_ := Aside0.mk (IsS58.drew HI0.out)
         have n2_ := Aside0.mk (keep_drew HK.out)
         have n3_ := Aside0.mk (below_drew1 HB.out)
         clear HO_3
         clear HI0
         clear HK
         clear HB
         have HO_3 := n0_
         have HI0 := n1_
         have HK := n2_
         have HB := n3_
         clear n0_ n1_ n2_ n3_
         obtain ⟨Ao26, co26, eo26⟩ := Kd.R_slice HO_3.out
         (first | subst eo26 | (injection eo26 with f1_ f2_ f3_; have f4_ := f1_.symm; have f5_ := f3_.symm; clear f1_ f2_ f3_; subst f4_; subst f5_))
         have p147 : 0 ≤ ((ji10) : Int) := ofd
         have q147 : (ji10) < (x3_1.length : Int) := ofd
         obtain ⟨ad147, e147, hx147_0⟩ := Kd.at_int (Kd.R_reads' HO_3.out).2.2 (ji10) p147 q147
         cases e147
         replace p147 := eq_true p147
         replace q147 := eq_true q147
         refine start_ (n := 15) (S := fun w' => w'.cell? (ad147.add ((ji10)).toNat) = some (.int .i64 (rd x3_1 (ji10)))) (ds := [12, 13]) #[false, false, false, false, false, false, false, false, false, false, false, false, false, false, false] (by kernel_rfl) rfl rfl (hx147_0) (fun hHeld => ?_); refine with_tabW spec_l1Cur_ruler.tab6 spec_l1Cur_ruler.bits6 (fun HT_ HW_ => ?_)
         generalize wr.drew = w25 at HO_3 HI0 HK HB hx147_0 hHeld ⊢
         refine pure_ (i := 0) (N := some 16) (v := ?_) (a' := ?_) #[true, false, false, false, false, false, false, false, false, false, false, false, false, false, false] rfl rfl (any_of HT_.out (by kernel_rfl)) (fun _ _ _ h => h) (Or.inl ⟨by rfl, ?_⟩) ?_ ?_
         rotate_left
         ·intro w'
          go_simp
          with_reducible rfl
         rotate_left
         ·simp only [Act.put, List.setIfInBounds_toArray, List.set_cons_zero, List.set_cons_succ, i64_w, i32_w]
          rfl
         refine pure_ (i := 2) (N := some 18) (v := ?_) (a' := ?_) #[true, false, true, false, false, false, false, false, false, false, false, false, false, false, false] rfl rfl (any_of HT_.out (by kernel_rfl)) (fun _ _ _ h => h) (Or.inl ⟨by rfl, ?_⟩) ?_ ?_
         rotate_left
         ·intro w'
          go_simp
          with_reducible rfl
         rotate_left
         ·simp only [Act.put, List.setIfInBounds_toArray, List.set_cons_zero, List.set_cons_succ, i64_w, i32_w]
          rfl
         refine pure_ (i := 3) (N := some 19) (v := ?_) (a' := ?_) #[true, false, true, true, false, false, false, false, false, false, false, false, false, false, false] rfl rfl (any_of HT_.out (by kernel_rfl)) (fun _ _ _ h => h) (Or.inl ⟨by rfl, ?_⟩) ?_ ?_
         rotate_left
         ·intro w'
          go_simp
          with_reducible rfl
         rotate_left
         ·simp only [Act.put, List.setIfInBounds_toArray, List.set_cons_zero, List.set_cons_succ, i64_w, i32_w]
          rfl
         refine pure_ (i := 4) (N := some 20) (v := ?_) (a' := ?_) #[true, false, true, true, true, false, false, false, false, false, false, false, false, false, false] rfl rfl (any_of HT_.out (by kernel_rfl)) (fun _ _ _ h => h) (Or.inl ⟨by rfl, ?_⟩) ?_ ?_
         rotate_left
         ·intro w'
          go_simp
          with_reducible rfl
         rotate_left
         ·simp only [Act.put, List.setIfInBounds_toArray, List.set_cons_zero, List.set_cons_succ, i64_w, i32_w]
          rfl
         refine pure_ (i := 5) (N := some 21) (v := ?_) (a' := ?_) #[true, false, true, true, true, true, false, false, false, false, false, false, false, false, false] rfl rfl (any_of HT_.out (by kernel_rfl)) (fun _ _ _ h => h) (Or.inl ⟨by rfl, ?_⟩) ?_ ?_
         rotate_left
         ·intro w'
          go_simp
          with_reducible rfl
         rotate_left
         ·simp only [Act.put, List.setIfInBounds_toArray, List.set_cons_zero, List.set_cons_succ, i64_w, i32_w]
          rfl
         refine pure_ (i := 6) (N := some 22) (v := ?_) (a' := ?_) #[true, false, true, true, true, true, true, false, false, false, false, false, false, false, false] rfl rfl (any_of HT_.out (by kernel_rfl)) (fun _ _ _ h => h) (Or.inl ⟨by rfl, ?_⟩) ?_ ?_
         rotate_left
         ·intro w'
          go_simp
          with_reducible rfl
         rotate_left
         ·simp only [Act.put, List.setIfInBounds_toArray, List.set_cons_zero, List.set_cons_succ, i64_w, i32_w]
          rfl
         refine pure_ (i := 9) (N := some 25) (v := ?_) (a' := ?_) #[true, false, true, true, true, true, true, false, false, true, false, false, false, false, false] rfl rfl (any_of HT_.out (by kernel_rfl)) (fun _ _ _ h => h) (Or.inl ⟨by rfl, ?_⟩) ?_ ?_
         rotate_left
         ·intro w'
          go_simp
          with_reducible rfl
         rotate_left
         ·simp only [Act.put, List.setIfInBounds_toArray, List.set_cons_zero, List.set_cons_succ, i64_w, i32_w]
          rfl
         refine take_ (i := 7) (N := some 23) (v := ?_) (a' := ?_) #[true, false, true, true, true, true, true, true, false, true, false, false, false, false, false] rfl rfl (take_ofW HT_.out HW_.out (by kernel_rfl)) (fun _ _ _ h => h) (Or.inl ⟨by rfl, ?_⟩) hHeld ?_ ?_
         rotate_left
         ·intro w' s0
          go_simp
          with_reducible rfl
         rotate_left
         ·simp only [Act.put, List.setIfInBounds_toArray, List.set_cons_zero, List.set_cons_succ, i64_w, i32_w]
          rfl
         refine pure_ (i := 8) (N := some 24) (v := ?_) (a' := ?_) #[true, false, true, true, true, true, true, true, true, true, false, false, false, false, false] rfl rfl (any_of HT_.out (by kernel_rfl)) (fun _ _ _ h => h) (Or.inl ⟨by rfl, ?_⟩) ?_ ?_
         rotate_left
         ·intro w'
          go_simp
          with_reducible rfl
         rotate_left
         ·simp only [Act.put, List.setIfInBounds_toArray, List.set_cons_zero, List.set_cons_succ, i64_w, i32_w]
          rfl
         refine one_ (i := 1) (N := some 17) #[true, true, true, true, true, true, true, true, true, true, false, false, false, false, false] rfl rfl (one_of HT_.out (by kernel_rfl)) (by decide) (fun K hK => ?_)
         refine goes_ Try.func97 (by kernel_rfl) rfl #[.slice (some ad147) x3_1.length co26] (by rfl) rfl rfl (by (try simp only [List.map_toArray, List.map_cons, List.map_nil]); first | done | rfl | (simp only [List.length_drop, List.length_take]; rfl)) ?_
         with_reducible refine (spec_l1Own.calls _ _ x3_1 t144 _ ?side1 ?side2 A9.out).mono ?_
         (case side1 => exact atRC HO_3)
         (case side2 => exact (Kd.R_reads' HO_3.out).2.1)
         rintro e w27 ⟨v145, rfl, ho0, hb⟩
         have HS0_ := (hb.cell (World.block_lt_of_cell? _ _ (hHeld))).trans (hHeld)
         refine ⟨_, rfl, ?_⟩
         have n0_ := eldRR HO_3 ho0 hb
         have n1_ := Aside0.mk (Kd.R_lower (Kd.R_new' ho0 (ltR HO_3)) (szK HK))
         have n2_ := IsS58.up HI0 hb
         have n3_ := upKB HK hb
         have n4_ := upB HB hb
         clear HO_3
         clear HI0
         clear HK
         clear HB
         have HO_3 := n0_
         have HO146 := n1_
         have HI0 := n2_
         have HK := n3_
         have HB := n4_
         clear n0_ n1_ n2_ n3_ n4_
         (try clear hb)
         (try clear hb2)
         (try clear hk)
         (try clear hi)
         (try clear ho0)
         refine hK.out _ _ (HS0_) (fun hHeld => ?_)
         clear hK K
         refine norm_ (a' := ?_) ?_ ?_
         rotate_left
         ·show Act.put _ (some 17) _ = _
          simp only [Act.put, List.setIfInBounds_toArray, List.set_cons_zero, List.set_cons_succ, i64_w, i32_w]
          rfl
         refine one_ (i := 10) (N := some 26) #[true, true, true, true, true, true, true, true, true, true, true, false, false, false, false] rfl rfl (one_of HT_.out (by kernel_rfl)) (by decide) (fun K hK => ?_)
         refine goes_ Try.func78 (by kernel_rfl) rfl #[.pointer (some ⟨g, 0, none⟩), .int .i64 6] (by rfl) rfl rfl (by (try simp only [List.map_toArray, List.map_cons, List.map_nil]); first | done | rfl | (simp only [List.length_drop, List.length_take]; rfl)) ?_
         with_reducible refine (spec_l1Cur_pick.calls g s0_0 x1001_1 x1002_1 6 t148 t149 t150 w0 _ ?side1 ?side2 A13.out).mono ?_
         (case side1 => exact IsS58.at HI0)
         (case side2 => exact atB HB)
         rintro e w28 ⟨rfl, hi, hb, hk⟩
         have HS0_ := keep_cell hk (hHeld) (by first | (rw [add_block]; exact Kd.own_blk (IsS58.own_ne HI0.out HO_3.out (by decide))) | (show (Addr.add _ _).block ≠ _; rw [add_block]; exact Kd.own_blk (IsS58.own_ne HI0.out HO_3.out (by decide))) | exact Kd.own_blk (IsS58.own_ne HI0.out HO_3.out (by decide)))
         refine ⟨_, rfl, ?_⟩
         have n0_ := IsS58.keepR HI0 HO_3 hk
         have n1_ := IsS58.keepR HI0 HO146 hk
         have n2_ := upK HK hk
         have n3_ := Aside0.mk (hb)
         have n4_ := Aside0.mk (hi)
         clear HO_3
         clear HO146
         clear HK
         clear HB
         clear HI0
         have HO_3 := n0_
         have HO146 := n1_
         have HK := n2_
         have HB := n3_
         have HI0 := n4_
         clear n0_ n1_ n2_ n3_ n4_
         (try clear hb)
         (try clear hb2)
         (try clear hk)
         (try clear hi)
         refine hK.out _ _ (HS0_) (fun hHeld => ?_)
         clear hK K
         refine norm_ (a' := ?_) ?_ ?_
         rotate_left
         ·show Act.put _ (some 26) _ = _
          simp only [Act.put, List.setIfInBounds_toArray, List.set_cons_zero, List.set_cons_succ, i64_w, i32_w]
          rfl
         refine pure_ (i := 11) (N := some 27) (v := ?_) (a' := ?_) #[true, true, true, true, true, true, true, true, true, true, true, true, false, false, false] rfl rfl (any_of HT_.out (by kernel_rfl)) (fun _ _ _ h => h) (Or.inl ⟨by rfl, ?_⟩) ?_ ?_
         rotate_left
         ·intro w'
          go_simp
          with_reducible rfl
         rotate_left
         ·simp only [Act.put, List.setIfInBounds_toArray, List.set_cons_zero, List.set_cons_succ, i64_w, i32_w]
          rfl
         refine last_ (i := 12) (N := some 28) #[true, true, true, true, true, true, true, true, true, true, true, true, true, false, false] rfl rfl (one_of HT_.out (by kernel_rfl)) (by decide) (fun K hK => ?_)
         refine value_ (w1 := ?_) (v := ?_) (by rfl) rfl ?_ ?_
         rotate_left 2
         ·go_simp
          constructor
          ·rfl
          ·rfl
         refine hK.out _ _ ?_
         clear hK K
         refine norm_ (a' := ?_) ?_ ?_
         rotate_left
         ·show Act.put _ (some 28) _ = _
          simp only [Act.put, List.setIfInBounds_toArray, List.set_cons_zero, List.set_cons_succ, i64_w, i32_w]
          rfl
         refine last_ (i := 13) (N := some 29) #[true, true, true, true, true, true, true, true, true, true, true, true, true, true, false] rfl rfl (one_of HT_.out (by kernel_rfl)) (by decide) (fun K hK => ?_)
         refine Kd.R_append_step (Kd.int .i64) w.heap.size (by rfl) (.tmp 17) (.tmp 28) 24 3 (.int .i64 0) 8 rfl Try.underlying24 info3 rfl (by decide) (by omega) v145 t144 (wrap64 ((wrap64 ((rd x3_1 (ji10)) + 1)) + t148)) [.int .i64 (wrap64 ((wrap64 ((rd x3_1 (ji10)) + 1)) + t148))] (fun k_ => some k_ ≠ (.slice (some ad147) x3_1.length co26 : Value).ownBlock) (fun _ => False) rfl rfl ?aP (fun _ hk => hk.elim) ?aF ?aO (Below.refl _ _) ?aS ?aL ?_
         (case aP => exact rfl)
         (case aF => exact (fun k_ hk => Kd.fresh' (ltR HO_3) k_ hk))
         (case aO => exact (by (with_reducible repeat (first | apply Kd.R_alloc | apply Kd.R_drewN | apply Kd.R_drew)); exact Kd.R_mono HO146.out (fun _ hk => hk.2)))
         (case aS => exact (szK HK))
         (case aL => have := LMc14.out; omega)
         intro v152 w29 ho hb hg hat
         rw [← Ny151.out] at ho
         have n0_ := Aside0.mk (Kd.R_after (ok := (fun _ => True)) (atR HO_3) hg hat)
         have n1_ := Aside0.mk (IsS58.grown (IsS58.at HI0) hg (IsS58.own_ne HI0.out HO146.out (by decide)))
         have n2_ := Aside0.mk (below_weaken (atB HB) HL.out hb)
         have n3_ := Aside0.mk (KeepBut.trans (atK HK) (KeepBut.of_grown hg g) (Kd.R_base2 HO146.out))
         have n4_ := Aside0.mk (ho)
         clear HO_3
         clear HI0
         clear HB
         clear HK
         clear HO146
         have HO_3 := n0_
         have HI0 := n1_
         have HB := n2_
         have HK := n3_
         have HO153 := n4_
         clear n0_ n1_ n2_ n3_ n4_
         clear ho hb hg hat
         refine hK.out _ _ ?_
         clear hK K
         refine norm_ (a' := ?_) ?_ ?_
         rotate_left
         ·show Act.put _ (some 29) _ = _
          simp only [Act.put, List.setIfInBounds_toArray, List.set_cons_zero, List.set_cons_succ, i64_w, i32_w]
          rfl
         refine pure_ (i := 14) (N := some 6) (v := ?_) (a' := ?_) #[true, true, true, true, true, true, true, true, true, true, true, true, true, true, true] rfl rfl (any_of HT_.out (by kernel_rfl)) (fun _ _ _ h => h) (Or.inl ⟨by rfl, ?_⟩) ?_ ?_
         rotate_left
         ·intro w'
          go_simp
          with_reducible rfl
         rotate_left
         ·simp only [Act.put, List.setIfInBounds_toArray, List.set_cons_zero, List.set_cons_succ, i64_w, i32_w]
          rfl
         refine done_ (done_of HT_.out (by kernel_rfl)) ?_
         obtain ⟨Ao30, co30, eo30⟩ := Kd.R_slice HO153.out
         subst eo30
         try go_wp2_with (first | (go_at_call 64; (with_reducible refine (spec_ruDifferent.calls k1 _ _ y151 false _ ?side1 ?side2 A16.out).mono ?_); (case side1 => exact atRC HO153); (case side2 => exact (Kd.R_reads' HO153.out).2.1); rintro e w31 ⟨rfl, hb⟩; replace HO_3 := upR HO_3 hb; replace HO153 := upR HO153 hb; replace HI0 := IsS58.up HI0 hb; replace HK := upKB HK hb; replace HB := upB HB hb; (try clear hb); (try clear hb2); (try clear hk); (try clear hi)))
         first | go_roundg k1 | ((try subst hji10); go_roundg k1)
         case measure => have := HK1.out; omega
         case rel => exact ⟨(x3_1), (wrap64 (x5_1 - 1)), (t149), (t150), eqd, H', ⟨by have := HK1.out; omega⟩, ⟨by (with_reducible repeat (first | apply Kd.R_alloc | apply Kd.R_drewN | apply Kd.R_drew)); exact Kd.R_mono HO_3.out (fun _ hk => trivial)⟩, ⟨IsS58.at HI0⟩, ⟨atK HK⟩, ⟨atB HB⟩⟩
       ·replace c15 := Bool.eq_false_iff.mpr c15
        subst c15
        have H1 : (spec_l1Cur_ruler.l0 k1 y151 false (wrap64 (x5_1 - 1)) s0_0 t149 t150) = some (r1, r2, r3) := by rw [if_neg (show ¬ (false = true) by decide)] at H; exact H
        clear H
        have H := H1
        clear H1
        have H' := Aside0.mk H
        clear H
        try go_wp2
        have n0_ := Aside0.mk (Kd.R_drew HO_3.out)
        have n1_ := Aside0.mk (IsS58.drew HI0.out)
        have n2_ := Aside0.mk (keep_drew HK.out)
        have n3_ := Aside0.mk (below_drew1 HB.out)
        clear HO_3
        clear HI0
        clear HK
        clear HB
        have HO_3 := n0_
        have HI0 := n1_
        have HK := n2_
        have HB := n3_
        clear n0_ n1_ n2_ n3_
        obtain ⟨Ao33, co33, eo33⟩ := Kd.R_slice HO_3.out
        (first | subst eo33 | (injection eo33 with f1_ f2_ f3_; have f4_ := f1_.symm; have f5_ := f3_.symm; clear f1_ f2_ f3_; subst f4_; subst f5_))
        have p147 : 0 ≤ ((ji10) : Int) := ofd
        have q147 : (ji10) < (x3_1.length : Int) := ofd
        obtain ⟨ad147, e147, hx147_0⟩ := Kd.at_int (Kd.R_reads' HO_3.out).2.2 (ji10) p147 q147
        cases e147
        replace p147 := eq_true p147
        replace q147 := eq_true q147
        refine start_ (n := 15) (S := fun w' => w'.cell? (ad147.add ((ji10)).toNat) = some (.int .i64 (rd x3_1 (ji10)))) (ds := [12, 13]) #[false, false, false, false, false, false, false, false, false, false, false, false, false, false, false] (by kernel_rfl) rfl rfl (hx147_0) (fun hHeld => ?_); refine with_tabW spec_l1Cur_ruler.tab6 spec_l1Cur_ruler.bits6 (fun HT_ HW_ => ?_)
        generalize wr.drew = w32 at HO_3 HI0 HK HB hx147_0 hHeld ⊢
        refine pure_ (i := 0) (N := some 16) (v := ?_) (a' := ?_) #[true, false, false, false, false, false, false, false, false, false, false, false, false, false, false] rfl rfl (any_of HT_.out (by kernel_rfl)) (fun _ _ _ h => h) (Or.inl ⟨by rfl, ?_⟩) ?_ ?_
        rotate_left
        ·intro w'
         go_simp
         with_reducible rfl
        rotate_left
        ·simp only [Act.put, List.setIfInBounds_toArray, List.set_cons_zero, List.set_cons_succ, i64_w, i32_w]
         rfl
        refine pure_ (i := 2) (N := some 18) (v := ?_) (a' := ?_) #[true, false, true, false, false, false, false, false, false, false, false, false, false, false, false] rfl rfl (any_of HT_.out (by kernel_rfl)) (fun _ _ _ h => h) (Or.inl ⟨by rfl, ?_⟩) ?_ ?_
        rotate_left
        ·intro w'
         go_simp
         with_reducible rfl
        rotate_left
        ·simp only [Act.put, List.setIfInBounds_toArray, List.set_cons_zero, List.set_cons_succ, i64_w, i32_w]
         rfl
        refine pure_ (i := 3) (N := some 19) (v := ?_) (a' := ?_) #[true, false, true, true, false, false, false, false, false, false, false, false, false, false, false] rfl rfl (any_of HT_.out (by kernel_rfl)) (fun _ _ _ h => h) (Or.inl ⟨by rfl, ?_⟩) ?_ ?_
        rotate_left
        ·intro w'
         go_simp
         with_reducible rfl
        rotate_left
        ·simp only [Act.put, List.setIfInBounds_toArray, List.set_cons_zero, List.set_cons_succ, i64_w, i32_w]
         rfl
        refine pure_ (i := 4) (N := some 20) (v := ?_) (a' := ?_) #[true, false, true, true, true, false, false, false, false, false, false, false, false, false, false] rfl rfl (any_of HT_.out (by kernel_rfl)) (fun _ _ _ h => h) (Or.inl ⟨by rfl, ?_⟩) ?_ ?_
        rotate_left
        ·intro w'
         go_simp
         with_reducible rfl
        rotate_left
        ·simp only [Act.put, List.setIfInBounds_toArray, List.set_cons_zero, List.set_cons_succ, i64_w, i32_w]
         rfl
        refine pure_ (i := 5) (N := some 21) (v := ?_) (a' := ?_) #[true, false, true, true, true, true, false, false, false, false, false, false, false, false, false] rfl rfl (any_of HT_.out (by kernel_rfl)) (fun _ _ _ h => h) (Or.inl ⟨by rfl, ?_⟩) ?_ ?_
        rotate_left
        ·intro w'
         go_simp
         with_reducible rfl
        rotate_left
        ·simp only [Act.put, List.setIfInBounds_toArray, List.set_cons_zero, List.set_cons_succ, i64_w, i32_w]
         rfl
        refine pure_ (i := 6) (N := some 22) (v := ?_) (a' := ?_) #[true, false, true, true, true, true, true, false, false, false, false, false, false, false, false] rfl rfl (any_of HT_.out (by kernel_rfl)) (fun _ _ _ h => h) (Or.inl ⟨by rfl, ?_⟩) ?_ ?_
        rotate_left
        ·intro w'
         go_simp
         with_reducible rfl
        rotate_left
        ·simp only [Act.put, List.setIfInBounds_toArray, List.set_cons_zero, List.set_cons_succ, i64_w, i32_w]
         rfl
        refine pure_ (i := 9) (N := some 25) (v := ?_) (a' := ?_) #[true, false, true, true, true, true, true, false, false, true, false, false, false, false, false] rfl rfl (any_of HT_.out (by kernel_rfl)) (fun _ _ _ h => h) (Or.inl ⟨by rfl, ?_⟩) ?_ ?_
        rotate_left
        ·intro w'
         go_simp
         with_reducible rfl
        rotate_left
        ·simp only [Act.put, List.setIfInBounds_toArray, List.set_cons_zero, List.set_cons_succ, i64_w, i32_w]
         rfl
        refine take_ (i := 7) (N := some 23) (v := ?_) (a' := ?_) #[true, false, true, true, true, true, true, true, false, true, false, false, false, false, false] rfl rfl (take_ofW HT_.out HW_.out (by kernel_rfl)) (fun _ _ _ h => h) (Or.inl ⟨by rfl, ?_⟩) hHeld ?_ ?_
        rotate_left
        ·intro w' s0
         go_simp
         with_reducible rfl
        rotate_left
        ·simp only [Act.put, List.setIfInBounds_toArray, List.set_cons_zero, List.set_cons_succ, i64_w, i32_w]
         rfl
        refine pure_ (i := 8) (N := some 24) (v := ?_) (a' := ?_) #[true, false, true, true, true, true, true, true, true, true, false, false, false, false, false] rfl rfl (any_of HT_.out (by kernel_rfl)) (fun _ _ _ h => h) (Or.inl ⟨by rfl, ?_⟩) ?_ ?_
        rotate_left
        ·intro w'
         go_simp
         with_reducible rfl
        rotate_left
        ·simp only [Act.put, List.setIfInBounds_toArray, List.set_cons_zero, List.set_cons_succ, i64_w, i32_w]
         rfl
        refine one_ (i := 1) (N := some 17) #[true, true, true, true, true, true, true, true, true, true, false, false, false, false, false] rfl rfl (one_of HT_.out (by kernel_rfl)) (by decide) (fun K hK => ?_)
        refine goes_ Try.func97 (by kernel_rfl) rfl #[.slice (some ad147) x3_1.length co33] (by rfl) rfl rfl (by (try simp only [List.map_toArray, List.map_cons, List.map_nil]); first | done | rfl | (simp only [List.length_drop, List.length_take]; rfl)) ?_
        with_reducible refine (spec_l1Own.calls _ _ x3_1 t144 _ ?side1 ?side2 A9.out).mono ?_
        (case side1 => exact atRC HO_3)
        (case side2 => exact (Kd.R_reads' HO_3.out).2.1)
        rintro e w34 ⟨v145, rfl, ho0, hb⟩
        have HS0_ := (hb.cell (World.block_lt_of_cell? _ _ (hHeld))).trans (hHeld)
        refine ⟨_, rfl, ?_⟩
        have n0_ := eldRR HO_3 ho0 hb
        have n1_ := Aside0.mk (Kd.R_lower (Kd.R_new' ho0 (ltR HO_3)) (szK HK))
        have n2_ := IsS58.up HI0 hb
        have n3_ := upKB HK hb
        have n4_ := upB HB hb
        clear HO_3
        clear HI0
        clear HK
        clear HB
        have HO_3 := n0_
        have HO146 := n1_
        have HI0 := n2_
        have HK := n3_
        have HB := n4_
        clear n0_ n1_ n2_ n3_ n4_
        (try clear hb)
        (try clear hb2)
        (try clear hk)
        (try clear hi)
        (try clear ho0)
        refine hK.out _ _ (HS0_) (fun hHeld => ?_)
        clear hK K
        refine norm_ (a' := ?_) ?_ ?_
        rotate_left
        ·show Act.put _ (some 17) _ = _
         simp only [Act.put, List.setIfInBounds_toArray, List.set_cons_zero, List.set_cons_succ, i64_w, i32_w]
         rfl
        refine one_ (i := 10) (N := some 26) #[true, true, true, true, true, true, true, true, true, true, true, false, false, false, false] rfl rfl (one_of HT_.out (by kernel_rfl)) (by decide) (fun K hK => ?_)
        refine goes_ Try.func78 (by kernel_rfl) rfl #[.pointer (some ⟨g, 0, none⟩), .int .i64 6] (by rfl) rfl rfl (by (try simp only [List.map_toArray, List.map_cons, List.map_nil]); first | done | rfl | (simp only [List.length_drop, List.length_take]; rfl)) ?_
        with_reducible refine (spec_l1Cur_pick.calls g s0_0 x1001_1 x1002_1 6 t148 t149 t150 w0 _ ?side1 ?side2 A13.out).mono ?_
        (case side1 => exact IsS58.at HI0)
        (case side2 => exact atB HB)
        rintro e w35 ⟨rfl, hi, hb, hk⟩
        have HS0_ := keep_cell hk (hHeld) (by first | (rw [add_block]; exact Kd.own_blk (IsS58.own_ne HI0.out HO_3.out (by decide))) | (show (Addr.add _ _).block ≠ _; rw [add_block]; exact Kd.own_blk (IsS58.own_ne HI0.out HO_3.out (by decide))) | exact Kd.own_blk (IsS58.own_ne HI0.out HO_3.out (by decide)))
        refine ⟨_, rfl, ?_⟩
        have n0_ := IsS58.keepR HI0 HO_3 hk
        have n1_ := IsS58.keepR HI0 HO146 hk
        have n2_ := upK HK hk
        have n3_ := Aside0.mk (hb)
        have n4_ := Aside0.mk (hi)
        clear HO_3
        clear HO146
        clear HK
        clear HB
        clear HI0
        have HO_3 := n0_
        have HO146 := n1_
        have HK := n2_
        have HB := n3_
        have HI0 := n4_
        clear n0_ n1_ n2_ n3_ n4_
        (try clear hb)
        (try clear hb2)
        (try clear hk)
        (try clear hi)
        refine hK.out _ _ (HS0_) (fun hHeld => ?_)
        clear hK K
        refine norm_ (a' := ?_) ?_ ?_
        rotate_left
        ·show Act.put _ (some 26) _ = _
         simp only [Act.put, List.setIfInBounds_toArray, List.set_cons_zero, List.set_cons_succ, i64_w, i32_w]
         rfl
        refine pure_ (i := 11) (N := some 27) (v := ?_) (a' := ?_) #[true, true, true, true, true, true, true, true, true, true, true, true, false, false, false] rfl rfl (any_of HT_.out (by kernel_rfl)) (fun _ _ _ h => h) (Or.inl ⟨by rfl, ?_⟩) ?_ ?_
        rotate_left
        ·intro w'
         go_simp
         with_reducible rfl
        rotate_left
        ·simp only [Act.put, List.setIfInBounds_toArray, List.set_cons_zero, List.set_cons_succ, i64_w, i32_w]
         rfl
        refine last_ (i := 12) (N := some 28) #[true, true, true, true, true, true, true, true, true, true, true, true, true, false, false] rfl rfl (one_of HT_.out (by kernel_rfl)) (by decide) (fun K hK => ?_)
        refine value_ (w1 := ?_) (v := ?_) (by rfl) rfl ?_ ?_
        rotate_left 2
        ·go_simp
         constructor
         ·rfl
         ·rfl
        refine hK.out _ _ ?_
        clear hK K
        refine norm_ (a' := ?_) ?_ ?_
        rotate_left
        ·show Act.put _ (some 28) _ = _
         simp only [Act.put, List.setIfInBounds_toArray, List.set_cons_zero, List.set_cons_succ, i64_w, i32_w]
         rfl
        refine last_ (i := 13) (N := some 29) #[true, true, true, true, true, true, true, true, true, true, true, true, true, true, false] rfl rfl (one_of HT_.out (by kernel_rfl)) (by decide) (fun K hK => ?_)
        refine Kd.R_append_step (Kd.int .i64) w.heap.size (by rfl) (.tmp 17) (.tmp 28) 24 3 (.int .i64 0) 8 rfl Try.underlying24 info3 rfl (by decide) (by omega) v145 t144 (wrap64 ((wrap64 ((rd x3_1 (ji10)) + 1)) + t148)) [.int .i64 (wrap64 ((wrap64 ((rd x3_1 (ji10)) + 1)) + t148))] (fun k_ => some k_ ≠ (.slice (some ad147) x3_1.length co33 : Value).ownBlock) (fun _ => False) rfl rfl ?aP (fun _ hk => hk.elim) ?aF ?aO (Below.refl _ _) ?aS ?aL ?_
        (case aP => exact rfl)
        (case aF => exact (fun k_ hk => Kd.fresh' (ltR HO_3) k_ hk))
        (case aO => exact (by (with_reducible repeat (first | apply Kd.R_alloc | apply Kd.R_drewN | apply Kd.R_drew)); exact Kd.R_mono HO146.out (fun _ hk => hk.2)))
        (case aS => exact (szK HK))
        (case aL => have := LMc14.out; omega)
        intro v152 w36 ho hb hg hat
        rw [← Ny151.out] at ho
        have n0_ := Aside0.mk (Kd.R_after (ok := (fun _ => True)) (atR HO_3) hg hat)
        have n1_ := Aside0.mk (IsS58.grown (IsS58.at HI0) hg (IsS58.own_ne HI0.out HO146.out (by decide)))
        have n2_ := Aside0.mk (below_weaken (atB HB) HL.out hb)
        have n3_ := Aside0.mk (KeepBut.trans (atK HK) (KeepBut.of_grown hg g) (Kd.R_base2 HO146.out))
        have n4_ := Aside0.mk (ho)
        clear HO_3
        clear HI0
        clear HB
        clear HK
        clear HO146
        have HO_3 := n0_
        have HI0 := n1_
        have HB := n2_
        have HK := n3_
        have HO153 := n4_
        clear n0_ n1_ n2_ n3_ n4_
        clear ho hb hg hat
        refine hK.out _ _ ?_
        clear hK K
        refine norm_ (a' := ?_) ?_ ?_
        rotate_left
        ·show Act.put _ (some 29) _ = _
         simp only [Act.put, List.setIfInBounds_toArray, List.set_cons_zero, List.set_cons_succ, i64_w, i32_w]
         rfl
        refine pure_ (i := 14) (N := some 6) (v := ?_) (a' := ?_) #[true, true, true, true, true, true, true, true, true, true, true, true, true, true, true] rfl rfl (any_of HT_.out (by kernel_rfl)) (fun _ _ _ h => h) (Or.inl ⟨by rfl, ?_⟩) ?_ ?_
        rotate_left
        ·intro w'
         go_simp
         with_reducible rfl
        rotate_left
        ·simp only [Act.put, List.setIfInBounds_toArray, List.set_cons_zero, List.set_cons_succ, i64_w, i32_w]
         rfl
        refine done_ (done_of HT_.out (by kernel_rfl)) ?_
        try go_wp2
        first | go_roundg k1 | ((try subst hji10); go_roundg k1)
        case measure => have := HK1.out; omega
        case rel => exact ⟨(y151), (wrap64 (x5_1 - 1)), (t149), (t150), eqd, H', ⟨by have := HK1.out; omega⟩, ⟨by (with_reducible repeat (first | apply Kd.R_alloc | apply Kd.R_drewN | apply Kd.R_drew)); exact Kd.R_mono HO153.out (fun _ hk => trivial)⟩, ⟨IsS58.at HI0⟩, ⟨atK HK⟩, ⟨atB HB⟩⟩
      ·rw [if_neg c14] at H
       exact absurd H (by simp)
     ·rw [if_neg c12] at H
      exact absurd H (by simp)
    ·rw [if_neg c11] at H
     exact absurd H (by simp)
   ·rw [if_neg c8] at H
    have c8b0 : decide (0 < x5_1) = false := decide_eq_false c8
    clear c8
    replace H := Option.bind_eq_some_iff.mp H
    obtain ⟨⟨t155, t156, t157⟩, A370, H⟩ := H
    replace H : (if t155 = 0 then ((spec_l1Cur_pick.f s0_0 t156 t157 (x3_1.length : Int)).bind fun bt158 => ((spec_l1Cur_among.f s0_0 bt158.2.1 bt158.2.2 (([(-1), 0, 1, 60, 61, 4611686018427387904] : List Int))).bind fun bt164 => (if 0 ≤ bt158.1 then (if bt158.1 < (x3_1.length : Int) then (some ((x3_1.set (bt158.1 : Int).toNat bt164.1), bt164.2.1, bt164.2.2)) else (none)) else (none)))) else (if t155 = 1 then (some (([] : List Int), t156, t157)) else (if t155 = 2 then (spec_l1Cur_ruler.l1 k1 x3_1 s0_0 t156 t157) else (some (x3_1, t156, t157))))) = some (r1, r2, r3) := H
    have A37 := Aside0.mk A370
    clear A370
    by_cases c38 : t155 = 0
    ·rw [if_pos c38] at H
     have c38b0 : (t155 == 0) = true := beq_iff_eq.mpr c38
     have c38b1 : (t155 != 0) = false := bne_eq_false_iff_eq.mpr c38
     clear c38
     replace H := Option.bind_eq_some_iff.mp H
     obtain ⟨⟨t158, t159, t160⟩, A390, H⟩ := H
     replace H : ((spec_l1Cur_among.f s0_0 t159 t160 (([(-1), 0, 1, 60, 61, 4611686018427387904] : List Int))).bind fun bt164 => (if 0 ≤ t158 then (if t158 < (x3_1.length : Int) then (some ((x3_1.set (t158 : Int).toNat bt164.1), bt164.2.1, bt164.2.2)) else (none)) else (none))) = some (r1, r2, r3) := H
     have A39 := Aside0.mk A390
     clear A390
     obtain ⟨y161, hy161⟩ : ∃ y_ : List Int, y_ = (([(-1), 0, 1, 60, 61, 4611686018427387904] : List Int)) := ⟨_, rfl⟩
     replace H : ((spec_l1Cur_among.f s0_0 t159 t160 y161).bind fun bt164 => (if 0 ≤ t158 then (if t158 < (x3_1.length : Int) then (some ((x3_1.set (t158 : Int).toNat bt164.1), bt164.2.1, bt164.2.2)) else (none)) else (none))) = some (r1, r2, r3) := by first | (rw [hy161]; with_reducible exact H) | (have H2_ := (Option.bind_some _ _).symm.trans H; rw [hy161]; with_reducible exact H2_) | (have H2_ := (Option.bind_some _ _).symm.trans H; with_reducible exact H2_) | with_reducible exact H | (rw [hy161]; exact H) | exact H
     have Ny161 := Aside0.mk hy161
     clear hy161
     replace H := Option.bind_eq_some_iff.mp H
     obtain ⟨⟨t164, t165, t166⟩, A400, H⟩ := H
     replace H : (if 0 ≤ t158 then (if t158 < (x3_1.length : Int) then (some ((x3_1.set (t158 : Int).toNat t164), t165, t166)) else (none)) else (none)) = some (r1, r2, r3) := H
     have A40 := Aside0.mk A400
     clear A400
     by_cases c41 : 0 ≤ t158
     ·rw [if_pos c41] at H
      have c41b0 : decide (0 ≤ t158) = true := decide_eq_true c41
      clear c41
      by_cases c42 : t158 < (x3_1.length : Int)
      ·rw [if_pos c42] at H
       have c42b0 : decide (t158 < (x3_1.length : Int)) = true := decide_eq_true c42
       clear c42
       obtain ⟨y167, hy167⟩ : ∃ y_ : List Int, y_ = (x3_1.set (t158 : Int).toNat t164) := ⟨_, rfl⟩
       replace H : (some (y167, t165, t166)) = some (r1, r2, r3) := by first | (rw [hy167]; with_reducible exact H) | (have H2_ := (Option.bind_some _ _).symm.trans H; rw [hy167]; with_reducible exact H2_) | (have H2_ := (Option.bind_some _ _).symm.trans H; with_reducible exact H2_) | with_reducible exact H | (rw [hy167]; exact H) | exact H
       have Ny167 := Aside0.mk hy167
       clear hy167
       simp only [Option.some.injEq, Prod.mk.injEq] at H
       obtain ⟨rfl, rfl, rfl⟩ := H
       go_wp2_with (first | ((with_reducible refine gate_callee (f := 78) rfl ?_); refine goesA (some 38) Try.func78 #[.pointer (some ⟨g, 0, none⟩), .int .i64 14] ?_; (with_reducible refine (spec_l1Cur_pick.calls g s0_0 x1001_1 x1002_1 14 t155 t156 t157 w0 _ ?side1 ?side2 A37.out).mono ?_); (case side1 => exact IsS58.at HI0); (case side2 => exact atB HB); rintro e w44 ⟨rfl, hi, hb, hk⟩; refine ⟨_, rfl, ?_⟩; replace HO_3 := IsS58.keepR HI0 HO_3 hk; replace HK := upK HK hk; replace HB := Aside0.mk (hb); replace HI0 := Aside0.mk (hi); (try clear hb); (try clear hb2); (try clear hk); (try clear hi); obtain ⟨Ao45, co45, eo45⟩ := Kd.R_slice HO_3.out; subst eo45) | ((with_reducible refine gate_callee (f := 78) rfl ?_); refine goesA (some 45) Try.func78 #[.pointer (some ⟨g, 0, none⟩), .int .i64 (x3_1.length : Int)] ?_; (with_reducible refine (spec_l1Cur_pick.calls g s0_0 t156 t157 (x3_1.length : Int) t158 t159 t160 w0 _ ?side1 ?side2 A39.out).mono ?_); (case side1 => exact IsS58.at HI0); (case side2 => exact atB HB); rintro e w46 ⟨rfl, hi, hb, hk⟩; refine ⟨_, rfl, ?_⟩; replace HO_3 := IsS58.keepR HI0 HO_3 hk; replace HK := upK HK hk; replace HB := Aside0.mk (hb); replace HI0 := Aside0.mk (hi); (try clear hb); (try clear hb2); (try clear hk); (try clear hi)) | ((with_reducible refine gate_dst (N := 47) rfl ?_); refine Kd.R_lit (Kd.int .i64) _ 3 ?hg (N := 47) ?hd (xs := ([(-1), 0, 1, 60, 61, 4611686018427387904] : List Int)) (inner := [.int .i64 (-1), .int .i64 0, .int .i64 1, .int .i64 60, .int .i64 61, .int .i64 4611686018427387904]) (ok := fun _ => True) (okp := fun _ => True) ?hr ?hp (fun _ hk => hk) trivial (Below.refl _ _) (Nat.le_refl _) (by simp) ?_; (case hd => rfl); (case hg => rfl); (case hr => first | (go_simp; done) | (go_simp; rfl)); (case hp => exact repsI _); intro v162 w47 ho48 hb hg_ hnew_; clear hg_ hnew_; (first | rw [← Ny161.out] at ho48 | (simp only [Int.reduceToNat] at ho48; rw [← Ny161.out] at ho48)); have HO163 := Aside0.mk (Kd.R_lower (Kd.R_new' ho48 (ltR HO_3)) (szK HK)); replace HO_3 := eldRR HO_3 ho48 hb; replace HI0 := IsS58.up HI0 hb; replace HK := upKB HK hb; replace HB := upB HB hb; clear hb ho48; obtain ⟨Ao49, co49, eo49⟩ := Kd.R_slice HO163.out; subst eo49) | ((with_reducible refine gate_callee (f := 77) rfl ?_); refine goesA (some 48) Try.func77 #[.pointer (some ⟨g, 0, none⟩), .slice Ao49 y161.length co49] ?_; (with_reducible refine (spec_l1Cur_among.calls g s0_0 t159 t160 _ _ y161 t164 t165 t166 w0 _ ?side1 ?side2 ?side3 ?side4 ?side5 A40.out).mono ?_); (case side1 => exact IsS58.at HI0); (case side2 => exact atB HB); (case side3 => exact atRC HO163); (case side4 => exact (Kd.R_reads' HO163.out).2.1); (case side5 => exact far_slice (IsS58.own_ne HI0.out HO163.out (by decide))); rintro e w50 ⟨rfl, hi, hb, hk⟩; refine ⟨_, rfl, ?_⟩; replace HO_3 := IsS58.keepR HI0 HO_3 hk; replace HO163 := IsS58.keepR HI0 HO163 hk; replace HK := upK HK hk; replace HB := Aside0.mk (hb); replace HI0 := Aside0.mk (hi); (try clear hb); (try clear hb2); (try clear hk); (try clear hi); have p43 : 0 ≤ (t158 : Int) := ofd; have q43 : (t158 : Int) < ((x3_1.length : Int) : Int) := ofd; obtain ⟨go43, co43, eo43, gb43, gl43, cl43, HG43⟩ := Kd.R_form HO_3.out (by omega); (first | cases eo43 | (injection eo43 with ea_ en_ ec_; (first | subst ea_ | (injection ea_ with ea_; subst ea_)); subst ec_; clear en_)); have GB43 := Aside0.mk gb43; have GG43 := Aside0.mk HG43; clear gb43 gl43 HG43; obtain ⟨hx43_0, hf43_0⟩ := Kd.R_celln 0 HO_3.out (t158 : Int) p43 q43; replace p43 := eq_true p43; replace q43 := eq_true q43; have n_ := Aside0.mk (Kd.R_mono (ok' := (fun k_ => some k_ ≠ (.slice Ao49 y161.length co49 : Value).ownBlock)) HO_3.out (fun k_ hk => hk.2)); clear HO_3; have HO_3 := n_; clear n_; obtain ⟨hy51_, hz51_⟩ := Kd.R_celln 0 HO_3.out (t158 : Int) (of_decide_eq_true (by first | (with_reducible assumption) | assumption)) (of_decide_eq_true (by first | (with_reducible assumption) | assumption)); have HP51 := Kd.R_putg HO_3.out (t158 : Int) t164) | ((with_reducible refine gate_store (t := 3) (p := 49) rfl ?_); refine store_event (t := 3) (p := 49) (v := ?vo_w52) (w1 := (w50.setCell ⟨go43, (t158 : Int).toNat, none⟩ (.int .i64 t164))) ?hg ?ho ?hn ?hr ?_; (case ho => rfl); (case hg => rfl); (case hn => rfl); (case hr => first | (go_simp; done) | (go_simp; rfl)); intro w52 hw; have hg : w50.grownBy w52 (some go43) := (by rw [hw]; exact HP51.2); have hp_ : Kd.R (Kd.int .i64) 3 w52 w.heap.size (fun k_ => some k_ ≠ (.slice Ao49 y161.length co49 : Value).ownBlock) (.slice (some ⟨go43, 0, none⟩) x3_1.length co45) y167 := (by rw [hw, Ny167.out]; exact HP51.1); clear HP51; replace HI0 := Aside0.mk (IsS58.grown (IsS58.at HI0) hg (IsS58.own_ne HI0.out HO_3.out (by decide))); replace HO163 := Aside0.mk (Kd.R_after (v := (.slice (some ⟨go43, 0, none⟩) x3_1.length co45)) (v1 := (.slice (some ⟨go43, 0, none⟩) x3_1.length co45)) (ok := (fun _ => True)) (atR HO163) hg (.inl rfl)); replace HB := Aside0.mk ((by rw [hw]; exact below_set (HB.out) (Nat.le_trans HL.out GB43.out) : Below w0.heap.size w0 w52)); replace HK := Aside0.mk (KeepBut.trans (atK HK) (KeepBut.of_grown hg g) (Kd.R_base2 HO_3.out)); replace HO_3 := Aside0.mk (hp_); clear hg hw hp_))
       go_ret
       exact ⟨_, eqr, by (with_reducible repeat (first | apply Kd.R_alloc | apply Kd.R_drewN | apply Kd.R_drew)); exact Kd.R_mono HO_3.out (fun _ hk => trivial), IsS58.at HI0, atB HB, atK HK⟩
      ·rw [if_neg c42] at H
       exact absurd H (by simp)
     ·rw [if_neg c41] at H
      exact absurd H (by simp)
    ·rw [if_neg c38] at H
     have c38b0 : (t155 == 0) = false := beq_eq_false_iff_ne.mpr c38
     have c38b1 : (t155 != 0) = true := bne_iff_ne.mpr c38
     by_cases c53 : t155 = 1
     ·rw [if_pos c53] at H
      have c53b0 : (t155 == 1) = true := beq_iff_eq.mpr c53
      have c53b1 : (t155 != 1) = false := bne_eq_false_iff_eq.mpr c53
      clear c53
      simp only [Option.some.injEq, Prod.mk.injEq] at H
      obtain ⟨rfl, rfl, rfl⟩ := H
      go_wp2_with (first | ((with_reducible refine gate_callee (f := 78) rfl ?_); refine goesA (some 38) Try.func78 #[.pointer (some ⟨g, 0, none⟩), .int .i64 14] ?_; (with_reducible refine (spec_l1Cur_pick.calls g s0_0 x1001_1 x1002_1 14 t155 t156 t157 w0 _ ?side1 ?side2 A37.out).mono ?_); (case side1 => exact IsS58.at HI0); (case side2 => exact atB HB); rintro e w54 ⟨rfl, hi, hb, hk⟩; refine ⟨_, rfl, ?_⟩; replace HO_3 := IsS58.keepR HI0 HO_3 hk; replace HK := upK HK hk; replace HB := Aside0.mk (hb); replace HI0 := Aside0.mk (hi); (try clear hb); (try clear hb2); (try clear hk); (try clear hi)))
      go_ret
      exact ⟨_, eqr, by first | exact Kd.R_nil _ _ _ _ _ | exact Kd.N_nil _ _ _ _ _ | exact Kd.V_nil _ _ _ _ _ | exact Kd.Q_nil _ _ _ _ _ | exact Kd.S_nil _ _ _ _ _, IsS58.at HI0, atB HB, atK HK⟩
     ·rw [if_neg c53] at H
      have c53b0 : (t155 == 1) = false := beq_eq_false_iff_ne.mpr c53
      have c53b1 : (t155 != 1) = true := bne_iff_ne.mpr c53
      by_cases c55 : t155 = 2
      ·rw [if_pos c55] at H
       have c55b0 : (t155 == 2) = true := beq_iff_eq.mpr c55
       have c55b1 : (t155 != 2) = false := bne_eq_false_iff_eq.mpr c55
       clear c55
       have H' := Aside0.mk H
       clear H
       go_wp2_with (first | ((with_reducible refine gate_callee (f := 78) rfl ?_); refine goesA (some 38) Try.func78 #[.pointer (some ⟨g, 0, none⟩), .int .i64 14] ?_; (with_reducible refine (spec_l1Cur_pick.calls g s0_0 x1001_1 x1002_1 14 t155 t156 t157 w0 _ ?side1 ?side2 A37.out).mono ?_); (case side1 => exact IsS58.at HI0); (case side2 => exact atB HB); rintro e w56 ⟨rfl, hi, hb, hk⟩; refine ⟨_, rfl, ?_⟩; replace HO_3 := IsS58.keepR HI0 HO_3 hk; replace HK := upK HK hk; replace HB := Aside0.mk (hb); replace HI0 := Aside0.mk (hi); (try clear hb); (try clear hb2); (try clear hk); (try clear hi)))
       go_loopg [3] k1 (fun kq v3 w' => ∃ (x3_2 : List Int) (x1001_2 : Int) (x1002_2 : Int), Aside0 (spec_l1Cur_ruler.l1 kq x3_2 s0_0 x1001_2 x1002_2 = some (r1, r2, r3)) ∧ Aside0 (kq ≤ k1) ∧ Aside0 (Kd.R (Kd.int .i64) 3 w' w.heap.size (fun _ => True) v3 x3_2) ∧ Aside0 (IsS58 w0 w' g s0_0 x1001_2 x1002_2) ∧ Aside0 (KeepBut w w' g none) ∧ Aside0 (Below w0.heap.size w0 w'))
       case atStart => exact ⟨(x3_1), (t156), (t157), H', ⟨Nat.le_refl _⟩, ⟨atR HO_3⟩, ⟨IsS58.at HI0⟩, ⟨atK HK⟩, ⟨atB HB⟩⟩
       case round =>
        clear H'
        try clear c1
        try clear p1
        try clear q1
        try clear hx1
        try clear p2
        try clear c3
        try clear c4
        try clear p4
        try clear q4
        try clear hx4
        try clear hf4
        try clear c5
        try clear p6
        try clear c7
        try clear c8
        try clear c8b0
        try clear c9
        try clear c11
        try clear c12
        try clear c14
        try clear p14
        try clear q14
        try clear hx14
        try clear c15
        try clear c17
        try clear c38
        try clear c38b0
        try clear c38b1
        try clear c41
        try clear c41b0
        try clear c42
        try clear c42b0
        try clear p43
        try clear q43
        try clear hx43
        try clear hf43
        try clear c53
        try clear c53b0
        try clear c53b1
        try clear c55
        try clear c55b0
        try clear c55b1
        try clear hx147_0
        try clear hx43_0
        try clear p147
        try clear p43
        try clear q147
        try clear q43
        obtain ⟨x3_2, x1001_2, x1002_2, HA, HK2, HO_3, HI0, HK, HB⟩ := hrel
        cases gk with
        | zero => exact absurd HA.out (by simp [spec_l1Cur_ruler.l1])
        | succ k2 =>
         have H := HA.out
         clear HA
         simp only [spec_l1Cur_ruler.l1] at H
         replace H := Option.bind_eq_some_iff.mp H
         obtain ⟨⟨t168, t169, t170⟩, A570, H⟩ := H
         replace H : (if (x3_2.length : Int) < (wrap64 (12 + t168)) then (if 0 ≤ (wrap64 ((x3_2.length : Int) - 1)) then (if (wrap64 ((x3_2.length : Int) - 1)) < (x3_2.length : Int) then (if x3_2.length < 17592186044416 then (spec_l1Cur_ruler.l1 k2 (x3_2 ++ [wrap64 ((rd x3_2 (wrap64 ((x3_2.length : Int) - 1))) + 1)]) s0_0 t169 t170) else (none)) else (none)) else (none)) else (some (x3_2, t169, t170))) = some (r1, r2, r3) := H
         have A57 := Aside0.mk A570
         clear A570
         by_cases c58 : (x3_2.length : Int) < (wrap64 (12 + t168))
         ·rw [if_pos c58] at H
          have c58b0 : decide ((x3_2.length : Int) < (wrap64 (12 + t168))) = true := decide_eq_true c58
          clear c58
          obtain ⟨ji59, hji59⟩ : ∃ j_ : Int, (wrap64 ((x3_2.length : Int) - 1)) = j_ := ⟨_, rfl⟩
          replace H : (if 0 ≤ (ji59) then (if (ji59) < (x3_2.length : Int) then (if x3_2.length < 17592186044416 then (spec_l1Cur_ruler.l1 k2 (x3_2 ++ [wrap64 ((rd x3_2 (ji59)) + 1)]) s0_0 t169 t170) else (none)) else (none)) else (none)) = some (r1, r2, r3) := by first | (rw [hji59] at H; exact H) | (simp only [hji59] at H ⊢; exact H)
          (try rw [hji59] at A57)
          have hji59w : (IntKind.i64.wrap ((x3_2.length : Int) - 1)) = ji59 := (i64_w _).trans hji59
          by_cases c60 : 0 ≤ (ji59)
          ·rw [if_pos c60] at H
           have c60b0 : decide (0 ≤ (ji59)) = true := decide_eq_true c60
           clear c60
           by_cases c61 : (ji59) < (x3_2.length : Int)
           ·rw [if_pos c61] at H
            have c61b0 : decide ((ji59) < (x3_2.length : Int)) = true := decide_eq_true c61
            clear c61
            by_cases c62 : x3_2.length < 17592186044416
            ·rw [if_pos c62] at H
             have LMc62 := Aside0.mk c62
             clear c62
             obtain ⟨y172, hy172⟩ : ∃ y_ : List Int, y_ = (x3_2 ++ [wrap64 ((rd x3_2 (ji59)) + 1)]) := ⟨_, rfl⟩
             replace H : (spec_l1Cur_ruler.l1 k2 y172 s0_0 t169 t170) = some (r1, r2, r3) := by first | (rw [hy172]; with_reducible exact H) | (have H2_ := (Option.bind_some _ _).symm.trans H; rw [hy172]; with_reducible exact H2_) | (have H2_ := (Option.bind_some _ _).symm.trans H; with_reducible exact H2_) | with_reducible exact H | (rw [hy172]; exact H) | exact H
             have Ny172 := Aside0.mk hy172
             clear hy172
             have H' := Aside0.mk H
             clear H
             obtain ⟨Ao63, co63, eo63⟩ := Kd.R_slice HO_3.out
             subst eo63
             go_wp2_with (first | ((with_reducible refine gate_callee (f := 78) rfl ?_); refine goesA (some 57) Try.func78 #[.pointer (some ⟨g, 0, none⟩), .int .i64 2] ?_; (with_reducible refine (spec_l1Cur_pick.calls g s0_0 x1001_2 x1002_2 2 t168 t169 t170 w0 _ ?side1 ?side2 A57.out).mono ?_); (case side1 => exact IsS58.at HI0); (case side2 => exact atB HB); rintro e w64 ⟨rfl, hi, hb, hk⟩; refine ⟨_, rfl, ?_⟩; replace HO_3 := IsS58.keepR HI0 HO_3 hk; replace HK := upK HK hk; replace HB := Aside0.mk (hb); replace HI0 := Aside0.mk (hi); (try clear hb); (try clear hb2); (try clear hk); (try clear hi); have p171 : 0 ≤ ((ji59) : Int) := ofd; have q171 : (ji59) < (x3_2.length : Int) := ofd; obtain ⟨ad171, e171, hx171_0⟩ := Kd.at_int (Kd.R_reads' HO_3.out).2.2 (ji59) p171 q171; cases e171; replace p171 := eq_true p171; replace q171 := eq_true q171) | ((with_reducible refine gate_builtin (b := .append) (xs := #[.tmp 60, .tmp 68]) rfl ?_); at_builtin; refine Kd.R_append (Kd.int .i64) w.heap.size rfl (.tmp 60) (.tmp 68) 24 3 (.int .i64 0) 8 rfl Try.underlying24 info3 rfl (by decide) (by omega) (.slice (some ad171) x3_2.length co63) x3_2 (wrap64 ((rd x3_2 (ji59)) + 1)) [.int .i64 (wrap64 ((rd x3_2 (ji59)) + 1))] (fun _ => True) (fun _ => False) rfl rfl ?aP (fun _ hk => hk.elim) ?aF ?aO (Below.refl _ _) ?aS ?aL ?_; (case aP => exact rfl); (case aF => exact (fun _ _ => trivial)); (case aO => exact (atR HO_3)); (case aS => exact (szK HK)); (case aL => have := LMc62.out; omega); intro v173 w65 ho hb hg hat; rw [← Ny172.out] at ho; have HO174 := Aside0.mk (ho); replace HI0 := Aside0.mk (IsS58.grown (IsS58.at HI0) hg (IsS58.own_ne HI0.out HO_3.out (by decide))); replace HB := Aside0.mk (below_weaken (atB HB) HL.out hb); replace HK := Aside0.mk (KeepBut.trans (atK HK) (KeepBut.of_grown hg g) (Kd.R_base2 HO_3.out)); clear HO_3; clear ho hb hg hat))
             first | go_roundg k2 | ((try subst hji59); go_roundg k2)
             case measure => have := HK1.out; have := HK2.out; omega
             case rel => exact ⟨(y172), (t169), (t170), H', ⟨by have := HK1.out; have := HK2.out; omega⟩, ⟨atR HO174⟩, ⟨IsS58.at HI0⟩, ⟨atK HK⟩, ⟨atB HB⟩⟩
            ·rw [if_neg c62] at H
             exact absurd H (by simp)
           ·rw [if_neg c61] at H
            exact absurd H (by simp)
          ·rw [if_neg c60] at H
           exact absurd H (by simp)
         ·rw [if_neg c58] at H
          have c58b0 : decide ((x3_2.length : Int) < (wrap64 (12 + t168))) = false := decide_eq_false c58
          clear c58
          simp only [Option.some.injEq, Prod.mk.injEq] at H
          obtain ⟨rfl, rfl, rfl⟩ := H
          obtain ⟨Ao66, co66, eo66⟩ := Kd.R_slice HO_3.out
          subst eo66
          go_wp2_with (first | ((with_reducible refine gate_callee (f := 78) rfl ?_); refine goesA (some 57) Try.func78 #[.pointer (some ⟨g, 0, none⟩), .int .i64 2] ?_; (with_reducible refine (spec_l1Cur_pick.calls g s0_0 x1001_2 x1002_2 2 t168 t169 t170 w0 _ ?side1 ?side2 A57.out).mono ?_); (case side1 => exact IsS58.at HI0); (case side2 => exact atB HB); rintro e w67 ⟨rfl, hi, hb, hk⟩; refine ⟨_, rfl, ?_⟩; replace HO_3 := IsS58.keepR HI0 HO_3 hk; replace HK := upK HK hk; replace HB := Aside0.mk (hb); replace HI0 := Aside0.mk (hi); (try clear hb); (try clear hb2); (try clear hk); (try clear hi)))
          go_ret
          exact ⟨_, eqr, atR HO_3, IsS58.at HI0, atB HB, atK HK⟩
      ·rw [if_neg c55] at H
       have c55b0 : (t155 == 2) = false := beq_eq_false_iff_ne.mpr c55
       have c55b1 : (t155 != 2) = true := bne_iff_ne.mpr c55
       simp only [Option.some.injEq, Prod.mk.injEq] at H
       obtain ⟨rfl, rfl, rfl⟩ := H
       go_wp2_with (first | ((with_reducible refine gate_callee (f := 78) rfl ?_); refine goesA (some 38) Try.func78 #[.pointer (some ⟨g, 0, none⟩), .int .i64 14] ?_; (with_reducible refine (spec_l1Cur_pick.calls g s0_0 x1001_1 x1002_1 14 t155 t156 t157 w0 _ ?side1 ?side2 A37.out).mono ?_); (case side1 => exact IsS58.at HI0); (case side2 => exact atB HB); rintro e w68 ⟨rfl, hi, hb, hk⟩; refine ⟨_, rfl, ?_⟩; replace HO_3 := IsS58.keepR HI0 HO_3 hk; replace HK := upK HK hk; replace HB := Aside0.mk (hb); replace HI0 := Aside0.mk (hi); (try clear hb); (try clear hb2); (try clear hk); (try clear hi)))
       go_ret
       exact ⟨_, eqr, atR HO_3, IsS58.at HI0, atB HB, atK HK⟩

noncomputable def spec_l1Cur_ruler.L0 (x3 : List Int) (x4 : Bool) (x5 : Int) (x1000 : List Int) (x1001 : Int) (x1002 : Int) : Option (List Int × Int × Int) := lim fun k => spec_l1Cur_ruler.l0 k x3 x4 x5 x1000 x1001 x1002
theorem spec_l1Cur_ruler.L0_lim (x3 : List Int) (x4 : Bool) (x5 : Int) (x1000 : List Int) (x1001 : Int) (x1002 : Int) : Lim (fun k => spec_l1Cur_ruler.l0 k x3 x4 x5 x1000 x1001 x1002) (spec_l1Cur_ruler.L0 x3 x4 x5 x1000 x1001 x1002) := Lim.of fun k => (spec_l1Cur_ruler.mono_l k).1 x3 x4 x5 x1000 x1001 x1002
noncomputable def spec_l1Cur_ruler.L1 (x3 : List Int) (x1000 : List Int) (x1001 : Int) (x1002 : Int) : Option (List Int × Int × Int) := lim fun k => spec_l1Cur_ruler.l1 k x3 x1000 x1001 x1002
theorem spec_l1Cur_ruler.L1_lim (x3 : List Int) (x1000 : List Int) (x1001 : Int) (x1002 : Int) : Lim (fun k => spec_l1Cur_ruler.l1 k x3 x1000 x1001 x1002) (spec_l1Cur_ruler.L1 x3 x1000 x1001 x1002) := Lim.of fun k => (spec_l1Cur_ruler.mono_l k).2 x3 x1000 x1001 x1002
noncomputable def spec_l1Cur_ruler.F (s0_0 : List Int) (s0_1 : Int) (s0_2 : Int) : Option (List Int × Int × Int) := lim fun k => spec_l1Cur_ruler.f k s0_0 s0_1 s0_2
theorem spec_l1Cur_ruler.F_lim (s0_0 : List Int) (s0_1 : Int) (s0_2 : Int) : Lim (fun k => spec_l1Cur_ruler.f k s0_0 s0_1 s0_2) (spec_l1Cur_ruler.F s0_0 s0_1 s0_2) := Lim.of fun k => spec_l1Cur_ruler.mono s0_0 s0_1 s0_2 k
theorem spec_l1Cur_ruler.L0_eq (x3 : List Int) (x4 : Bool) (x5 : Int) (x1000 : List Int) (x1001 : Int) (x1002 : Int) : spec_l1Cur_ruler.L0 x3 x4 x5 x1000 x1001 x1002 = (if x5 > 0 then ((spec_l1Own.f x3).bind fun t144 => (if 0 ≤ (wrap64 ((x3.length : Int) - 1)) then (if (wrap64 ((x3.length : Int) - 1)) < (x3.length : Int) then ((spec_l1Cur_pick.f x1000 x1001 x1002 6).bind fun bt148 => (if t144.length < 17592186044416 then ((some (t144 ++ [wrap64 ((wrap64 ((rd x3 (wrap64 ((x3.length : Int) - 1))) + 1)) + bt148.1)] : List Int)).bind fun y151 => (if x4 = true then ((spec_ruDifferent.F y151).bind fun t154 => (if t154 = true then (spec_l1Cur_ruler.L0 y151 x4 (wrap64 (x5 - 1)) x1000 bt148.2.1 bt148.2.2) else (spec_l1Cur_ruler.L0 x3 x4 (wrap64 (x5 - 1)) x1000 bt148.2.1 bt148.2.2))) else (spec_l1Cur_ruler.L0 y151 x4 (wrap64 (x5 - 1)) x1000 bt148.2.1 bt148.2.2))) else (none))) else (none)) else (none))) else ((spec_l1Cur_pick.f x1000 x1001 x1002 14).bind fun bt155 => (if bt155.1 = 0 then ((spec_l1Cur_pick.f x1000 bt155.2.1 bt155.2.2 (x3.length : Int)).bind fun bt158 => ((spec_l1Cur_among.f x1000 bt158.2.1 bt158.2.2 (([(-1), 0, 1, 60, 61, 4611686018427387904] : List Int))).bind fun bt164 => (if 0 ≤ bt158.1 then (if bt158.1 < (x3.length : Int) then (some ((x3.set (bt158.1 : Int).toNat bt164.1), bt164.2.1, bt164.2.2)) else (none)) else (none)))) else (if bt155.1 = 1 then (some (([] : List Int), bt155.2.1, bt155.2.2)) else (if bt155.1 = 2 then (spec_l1Cur_ruler.L1 x3 x1000 bt155.2.1 bt155.2.2) else (some (x3, bt155.2.1, bt155.2.2))))))) :=
 Lim.step (f := fun k => spec_l1Cur_ruler.l0 (k + 1) x3 x4 x5 x1000 x1001 x1002) (spec_l1Cur_ruler.L0_lim x3 x4 x5 x1000 x1001 x1002) (fun _ => rfl) (by
  simp only [spec_l1Cur_ruler.l0]
  repeat' (first | (with_reducible first | exact Lim.const _ | exact spec_l1Cur_ruler.L0_lim _ _ _ _ _ _ | exact spec_l1Cur_ruler.L1_lim _ _ _ _ | exact spec_ruDifferent.F_lim _ | refine Lim.ite ?_ ?_ | refine Lim.bind ?_ (fun _ => ?_))))
theorem spec_l1Cur_ruler.L1_eq (x3 : List Int) (x1000 : List Int) (x1001 : Int) (x1002 : Int) : spec_l1Cur_ruler.L1 x3 x1000 x1001 x1002 = ((spec_l1Cur_pick.f x1000 x1001 x1002 2).bind fun bt168 => (if (x3.length : Int) < (wrap64 (12 + bt168.1)) then (if 0 ≤ (wrap64 ((x3.length : Int) - 1)) then (if (wrap64 ((x3.length : Int) - 1)) < (x3.length : Int) then (if x3.length < 17592186044416 then (spec_l1Cur_ruler.L1 (x3 ++ [wrap64 ((rd x3 (wrap64 ((x3.length : Int) - 1))) + 1)]) x1000 bt168.2.1 bt168.2.2) else (none)) else (none)) else (none)) else (some (x3, bt168.2.1, bt168.2.2)))) :=
 Lim.step (f := fun k => spec_l1Cur_ruler.l1 (k + 1) x3 x1000 x1001 x1002) (spec_l1Cur_ruler.L1_lim x3 x1000 x1001 x1002) (fun _ => rfl) (by
  simp only [spec_l1Cur_ruler.l1]
  repeat' (first | (with_reducible first | exact Lim.const _ | exact spec_l1Cur_ruler.L1_lim _ _ _ _ | refine Lim.ite ?_ ?_ | refine Lim.bind ?_ (fun _ => ?_))))
theorem spec_l1Cur_ruler.F_eq (s0_0 : List Int) (s0_1 : Int) (s0_2 : Int) : spec_l1Cur_ruler.F s0_0 s0_1 s0_2 = ((spec_l1Cur_one.f s0_0 s0_1 s0_2 2).bind fun bt138 => ((spec_l1Cur_pick.f s0_0 bt138.2.1 bt138.2.2 6).bind fun bt141 => (spec_l1Cur_ruler.L0 (([0] : List Int)) bt138.1 bt141.1 s0_0 bt141.2.1 bt141.2.2))) :=
 Lim.unique (spec_l1Cur_ruler.F_lim s0_0 s0_1 s0_2) (by
  unfold spec_l1Cur_ruler.f
  repeat' (first | (with_reducible first | exact Lim.const _ | exact spec_l1Cur_ruler.L0_lim _ _ _ _ _ _ | refine Lim.ite ?_ ?_ | refine Lim.bind ?_ (fun _ => ?_))))

end Go.Proofs.Ytofjndbpndpjjaa.Fn
namespace Go.Proofs.Ytofjndbpndpjjaa.Fn
open Go.RowKit Go.Proofs.YtofjndbpndpjjaaW.PrintWords Go.Proofs.YtofjndbpndpjjaaW.PrintLast Go.Proofs.YtofjndbpndpjjaaW.PrintMore
attribute [local go_sem] max2_int min2_int max_two min_two max_three min_three max_four min_four   -- for this text's walks alone
set_option linter.unusedVariables false
set_option linter.unusedSimpArgs false

/-! ### spec_l1In: function 96 -/
def spec_l1In.f (a0 : Int) (a1 : Int) (a2 : Int) : Option (Bool) := if a0 ≥ a1 then (some (decide (a0 ≤ a2))) else (some false)
set_option maxHeartbeats 8000000 in
set_option maxRecDepth 100000 in
theorem spec_l1In.calls (a0 : Int) (a1 : Int) (a2 : Int) (r : Bool) (w : World) (h : spec_l1In.f a0 a1 a2 = some r) :
  Calls Try.prog 96 #[.int .i64 a0, .int .i64 a1, .int .i64 a2] w fun e w' => e = .returned (.bool r) ∧ Drawn0 w w' := by
 have H := h
 unfold spec_l1In.f at H
 clear h
 by_cases c4 : a0 ≥ a1
 ·rw [if_pos c4] at H
  have c4b0 : decide (a1 ≤ a0) = true := decide_eq_true c4
  clear c4
  obtain rfl := Option.some.inj H
  go_enter Try.func96, Try.ntmps96
  go_wp2
  go_ret
  exact ⟨by first | rfl | (simp; done) | (simp [*]; done), by repeat (first | exact Drawn0.refl _ | apply Drawn0.step)⟩
 ·rw [if_neg c4] at H
  have c4b0 : decide (a1 ≤ a0) = false := decide_eq_false c4
  clear c4
  obtain rfl := Option.some.inj H
  go_enter Try.func96, Try.ntmps96
  go_wp2
  go_ret
  exact ⟨by first | rfl | (simp; done) | (simp [*]; done), by repeat (first | exact Drawn0.refl _ | apply Drawn0.step)⟩


end Go.Proofs.Ytofjndbpndpjjaa.Fn
namespace Go.Proofs.Ytofjndbpndpjjaa.Fn
open Go.RowKit Go.Proofs.YtofjndbpndpjjaaW.PrintWords Go.Proofs.YtofjndbpndpjjaaW.PrintLast Go.Proofs.YtofjndbpndpjjaaW.PrintMore
attribute [local go_sem] max2_int min2_int max_two min_two max_three min_three max_four min_four   -- for this text's walks alone
set_option linter.unusedVariables false
set_option linter.unusedSimpArgs false

/-! ### spec_ruGood: function 60 -/
mutual
def spec_ruGood.j0 : Nat → List Int → Bool → Option (Bool)
 | 0, _, _ => none
 | k + 1, x0, x13 => if x13 = true then (some false) else (spec_ruGood.l0 k x0 1)
def spec_ruGood.l0 : Nat → List Int → Int → Option (Bool)
 | 0, _, _ => none
 | k + 1, x0, x3 => if x3 < (x0.length : Int) then (if 0 ≤ x3 then (if 0 ≤ (wrap64 (x3 - 1)) then (if (wrap64 (x3 - 1)) < (x0.length : Int) then (if (rd x0 x3) ≤ (rd x0 (wrap64 (x3 - 1))) then (some false) else (spec_ruGood.l0 k x0 (wrap64 (x3 + 1)))) else (none)) else (none)) else (none)) else (if 0 ≤ (wrap64 ((x0.length : Int) - 1)) then (if (wrap64 ((x0.length : Int) - 1)) < (x0.length : Int) then (some (decide ((rd x0 (wrap64 ((x0.length : Int) - 1))) ≤ 60))) else (none)) else (none))
end
def spec_ruGood.f (k : Nat) (l0 : List Int) : Option (Bool) := (spec_l1In.f (l0.length : Int) 1 12).bind fun t205 => (if t205 = true then (if 0 < (l0.length : Int) then (spec_ruGood.j0 k l0 ((rd l0 0) != 0)) else (none)) else (spec_ruGood.j0 k l0 true))
theorem spec_ruGood.mono_l : ∀ k, (∀ y0 y1, LeO (spec_ruGood.j0 k y0 y1) (spec_ruGood.j0 (k + 1) y0 y1)) ∧ (∀ y0 y1, LeO (spec_ruGood.l0 k y0 y1) (spec_ruGood.l0 (k + 1) y0 y1))
 | 0 => ⟨fun _ _ r h => by simp [spec_ruGood.j0] at h, fun _ _ r h => by simp [spec_ruGood.l0] at h⟩
 | k + 1 => by
  obtain ⟨ih0, ih1⟩ := spec_ruGood.mono_l k
  refine ⟨?_, ?_⟩
  ·intro y0 y1
   unfold spec_ruGood.j0
   repeat' (first | (with_reducible first | exact ih1 _ _ | exact LeO.refl _ | exact LeO.none _ | refine LeO.ite ?_ ?_ | refine LeO.bind ?_ (fun _ => ?_)) | exact ih1 _ _ | exact LeO.none _ | refine LeO.ite ?_ ?_ | refine LeO.bind ?_ (fun _ => ?_))
  ·intro y0 y1
   unfold spec_ruGood.l0
   repeat' (first | (with_reducible first | exact ih1 _ _ | exact LeO.refl _ | exact LeO.none _ | refine LeO.ite ?_ ?_ | refine LeO.bind ?_ (fun _ => ?_)) | exact ih1 _ _ | exact LeO.none _ | refine LeO.ite ?_ ?_ | refine LeO.bind ?_ (fun _ => ?_))
theorem spec_ruGood.mono : ∀ a0 k, LeO (spec_ruGood.f k a0) (spec_ruGood.f (k + 1) a0) := by
 intro a0 k
 obtain ⟨ih0, ih1⟩ := spec_ruGood.mono_l k
 unfold spec_ruGood.f
 repeat' (first | (with_reducible first | exact ih0 _ _ | exact LeO.refl _ | exact LeO.none _ | refine LeO.ite ?_ ?_ | refine LeO.bind ?_ (fun _ => ?_)) | exact ih0 _ _ | exact LeO.none _ | refine LeO.ite ?_ ?_ | refine LeO.bind ?_ (fun _ => ?_))
set_option maxHeartbeats 8000000 in
set_option maxRecDepth 100000 in
theorem spec_ruGood.calls (k : Nat) (A0 : Option Addr) (c0 : Nat) (l0 : List Int) (r : Bool) (w : World) (hr0 : Kd.C (Kd.int .i64) w A0 l0.length l0) (hc0 : l0.length ≤ c0) (h : spec_ruGood.f k l0 = some r) :
  Calls Try.prog 60 #[.slice A0 l0.length c0] w fun e w' => e = .returned (.bool r) ∧ Drawn0 w w' := by
 have HR0 := Aside0.mk hr0
 have HC0 := Aside0.mk hc0
 clear hr0 hc0
 have H := h
 unfold spec_ruGood.f at H
 clear h
 have HC2 := Aside0.mk H
 clear H
 go_enter Try.func60, Try.ntmps60
 go_upto_region 1 with (fail)
 repeat (go_quiet (fail); go_upto_region 1 with (fail))
 go_cut [13] (fun v13 wc => ∃ (kq : Nat) (x13_1 : Bool), v13 = .bool x13_1 ∧ Aside0 (spec_ruGood.j0 kq l0 x13_1 = some r) ∧ Aside0 (kq ≤ k) ∧ Drawn0 w wc)
 case first =>
  have H := HC2.out
  clear HC2
  replace H := Option.bind_eq_some_iff.mp H
  obtain ⟨t205, A30, H⟩ := H
  replace H : (if t205 = true then (if 0 < (l0.length : Int) then (spec_ruGood.j0 k l0 ((rd l0 0) != 0)) else (none)) else (spec_ruGood.j0 k l0 true)) = some r := H
  have A3 := Aside0.mk A30
  clear A30
  by_cases c4 : t205 = true
  ·subst c4
   have H1 : (if 0 < (l0.length : Int) then (spec_ruGood.j0 k l0 ((rd l0 0) != 0)) else (none)) = some r := by rw [if_pos rfl] at H; exact H
   clear H
   have H := H1
   clear H1
   by_cases c5 : 0 < (l0.length : Int)
   ·rw [if_pos c5] at H
    have c5b0 : decide (0 < (l0.length : Int)) = true := decide_eq_true c5
    have c5b1 : decide (0 < l0.length) = true := decide_eq_true (by omega)
    clear c5
    (first | rw [c5b0] | (simp only [i64_w, i32_w]; rw [c5b0]) | skip)
    have H' := Aside0.mk H
    clear H
    go_wp2_with (first | (go_at_call 96; (with_reducible refine (spec_l1In.calls (l0.length : Int) 1 12 true _ A3.out).mono ?_); rintro e w' ⟨rfl, ⟨nd, rfl⟩⟩; (try first | exact ⟨rfl, _, World.drewN_drewN _ _ _⟩ | exact ⟨rfl, _, Eq.trans (World.drewN_drewN _ _ _) (congrArg (World.drewN _) (Nat.add_assoc _ _ _))⟩); have p206 : 0 ≤ (0 : Int) := (by omega); have q206 : 0 < (l0.length : Int) := ofd; obtain ⟨ad206, e206, hx206_0⟩ := Kd.at_int HR0.out 0 p206 q206; cases e206; have qi206 : (0 < l0.length) = True := eq_true (by omega); (try rw [show ((0 : Int)).toNat = 0 from rfl] at hx206_0); (try rw [Addr.add_zero'] at hx206_0); replace p206 := eq_true p206; replace q206 := eq_true q206))
    repeat (go_quiet (first | (go_at_call 96; (with_reducible refine (spec_l1In.calls (l0.length : Int) 1 12 true _ A3.out).mono ?_); rintro e w' ⟨rfl, ⟨nd, rfl⟩⟩; (try first | exact ⟨rfl, _, World.drewN_drewN _ _ _⟩ | exact ⟨rfl, _, Eq.trans (World.drewN_drewN _ _ _) (congrArg (World.drewN _) (Nat.add_assoc _ _ _))⟩); have p206 : 0 ≤ (0 : Int) := (by omega); have q206 : 0 < (l0.length : Int) := ofd; obtain ⟨ad206, e206, hx206_0⟩ := Kd.at_int HR0.out 0 p206 q206; cases e206; have qi206 : (0 < l0.length) = True := eq_true (by omega); (try rw [show ((0 : Int)).toNat = 0 from rfl] at hx206_0); (try rw [Addr.add_zero'] at hx206_0); replace p206 := eq_true p206; replace q206 := eq_true q206)); try go_wp2_with (first | (go_at_call 96; (with_reducible refine (spec_l1In.calls (l0.length : Int) 1 12 true _ A3.out).mono ?_); rintro e w' ⟨rfl, ⟨nd, rfl⟩⟩; (try first | exact ⟨rfl, _, World.drewN_drewN _ _ _⟩ | exact ⟨rfl, _, Eq.trans (World.drewN_drewN _ _ _) (congrArg (World.drewN _) (Nat.add_assoc _ _ _))⟩); have p206 : 0 ≤ (0 : Int) := (by omega); have q206 : 0 < (l0.length : Int) := ofd; obtain ⟨ad206, e206, hx206_0⟩ := Kd.at_int HR0.out 0 p206 q206; cases e206; have qi206 : (0 < l0.length) = True := eq_true (by omega); (try rw [show ((0 : Int)).toNat = 0 from rfl] at hx206_0); (try rw [Addr.add_zero'] at hx206_0); replace p206 := eq_true p206; replace q206 := eq_true q206)))
    go_meet
    case rel => exact ⟨_, (((rd l0 0) != 0)), eqd, H', ⟨leD⟩, by repeat (first | exact Drawn0.refl _ | apply Drawn0.step)⟩
   ·rw [if_neg c5] at H
    exact absurd H (by simp)
  ·replace c4 := Bool.eq_false_iff.mpr c4
   subst c4
   have H1 : (spec_ruGood.j0 k l0 true) = some r := by rw [if_neg (show ¬ (false = true) by decide)] at H; exact H
   clear H
   have H := H1
   clear H1
   have H' := Aside0.mk H
   clear H
   go_wp2_with (first | (go_at_call 96; (with_reducible refine (spec_l1In.calls (l0.length : Int) 1 12 false _ A3.out).mono ?_); rintro e w' ⟨rfl, ⟨nd, rfl⟩⟩; (try first | exact ⟨rfl, _, World.drewN_drewN _ _ _⟩ | exact ⟨rfl, _, Eq.trans (World.drewN_drewN _ _ _) (congrArg (World.drewN _) (Nat.add_assoc _ _ _))⟩)))
   repeat (go_quiet (first | (go_at_call 96; (with_reducible refine (spec_l1In.calls (l0.length : Int) 1 12 false _ A3.out).mono ?_); rintro e w' ⟨rfl, ⟨nd, rfl⟩⟩; (try first | exact ⟨rfl, _, World.drewN_drewN _ _ _⟩ | exact ⟨rfl, _, Eq.trans (World.drewN_drewN _ _ _) (congrArg (World.drewN _) (Nat.add_assoc _ _ _))⟩))); try go_wp2_with (first | (go_at_call 96; (with_reducible refine (spec_l1In.calls (l0.length : Int) 1 12 false _ A3.out).mono ?_); rintro e w' ⟨rfl, ⟨nd, rfl⟩⟩; (try first | exact ⟨rfl, _, World.drewN_drewN _ _ _⟩ | exact ⟨rfl, _, Eq.trans (World.drewN_drewN _ _ _) (congrArg (World.drewN _) (Nat.add_assoc _ _ _))⟩))))
   go_meet
   case rel => exact ⟨_, (true), eqd, H', ⟨leD⟩, by repeat (first | exact Drawn0.refl _ | apply Drawn0.step)⟩
 case rest =>
  clear HC2
  try clear p2
  try clear q2
  try clear hx2
  try clear qi2
  try clear c4
  try clear c5
  try clear c5b0
  try clear c5b1
  try clear hx206_0
  try clear p206
  try clear q206
  obtain ⟨kq, x13_1, rfl, HA, HJ1, ⟨mc1, rfl⟩⟩ := hcut
  cases kq with
  | zero => exact absurd HA.out (by simp [spec_ruGood.j0])
  | succ kj1 =>
   have H := HA.out
   clear HA
   simp only [spec_ruGood.j0] at H
   by_cases c6 : x13_1 = true
   ·subst c6
    have H1 : (some false) = some r := by rw [if_pos rfl] at H; exact H
    clear H
    have H := H1
    clear H1
    obtain rfl := Option.some.inj H
    go_wp2
    repeat (go_quiet (fail); try go_wp2)
    go_ret
    exact ⟨by first | rfl | (simp; done) | (simp [*]; done), by repeat (first | exact Drawn0.refl _ | apply Drawn0.step)⟩
   ·replace c6 := Bool.eq_false_iff.mpr c6
    subst c6
    have H1 : (spec_ruGood.l0 kj1 l0 1) = some r := by rw [if_neg (show ¬ (false = true) by decide)] at H; exact H
    clear H
    have H := H1
    clear H1
    have H' := Aside0.mk H
    clear H
    go_wp2
    repeat (go_quiet (fail); try go_wp2)
    go_loopg [3] kj1 (fun kq v3 w' => ∃ (x3_2 : Int), v3 = .int .i64 x3_2 ∧ Aside0 (spec_ruGood.l0 kq l0 x3_2 = some r) ∧ Aside0 (kq ≤ kj1) ∧ Drawn0 w w')
    case atStart => exact ⟨(1), eqd, H', ⟨Nat.le_refl _⟩, by repeat (first | exact Drawn0.refl _ | apply Drawn0.step)⟩
    case round =>
     clear H'
     try clear c1
     try clear p2
     try clear q2
     try clear hx2
     try clear qi2
     try clear c4
     try clear c5
     try clear c5b0
     try clear c5b1
     try clear c6
     try clear hx206_0
     try clear p2
     try clear p206
     try clear q2
     try clear q206
     obtain ⟨x3_2, rfl, HA, HK2, ⟨m2, rfl⟩⟩ := hrel
     cases gk with
     | zero => exact absurd HA.out (by simp [spec_ruGood.l0])
     | succ k2 =>
      have H := HA.out
      clear HA
      simp only [spec_ruGood.l0] at H
      by_cases c7 : x3_2 < (l0.length : Int)
      ·rw [if_pos c7] at H
       have c7b0 : decide (x3_2 < (l0.length : Int)) = true := decide_eq_true c7
       clear c7
       by_cases c8 : 0 ≤ x3_2
       ·rw [if_pos c8] at H
        have c8b0 : decide (0 ≤ x3_2) = true := decide_eq_true c8
        clear c8
        obtain ⟨ji9, hji9⟩ : ∃ j_ : Int, (wrap64 (x3_2 - 1)) = j_ := ⟨_, rfl⟩
        replace H : (if 0 ≤ (ji9) then (if (ji9) < (l0.length : Int) then (if (rd l0 x3_2) ≤ (rd l0 (ji9)) then (some false) else (spec_ruGood.l0 k2 l0 (wrap64 (x3_2 + 1)))) else (none)) else (none)) = some r := by first | (rw [hji9] at H; exact H) | (simp only [hji9] at H ⊢; exact H)
        have hji9w : (IntKind.i64.wrap (x3_2 - 1)) = ji9 := (i64_w _).trans hji9
        by_cases c10 : 0 ≤ (ji9)
        ·rw [if_pos c10] at H
         have c10b0 : decide (0 ≤ (ji9)) = true := decide_eq_true c10
         clear c10
         by_cases c11 : (ji9) < (l0.length : Int)
         ·rw [if_pos c11] at H
          have c11b0 : decide ((ji9) < (l0.length : Int)) = true := decide_eq_true c11
          clear c11
          by_cases c12 : (rd l0 x3_2) ≤ (rd l0 (ji9))
          ·rw [if_pos c12] at H
           have c12b0 : decide ((rd l0 x3_2) ≤ (rd l0 (ji9))) = true := decide_eq_true c12
           clear c12
           obtain rfl := Option.some.inj H
           have p207 : 0 ≤ (x3_2 : Int) := ofd
           have q207 : x3_2 < (l0.length : Int) := ofd
           obtain ⟨ad207, e207, hx207_0⟩ := Kd.at_int HR0.out x3_2 p207 q207
           cases e207
           replace p207 := eq_true p207
           replace q207 := eq_true q207
           have p208 : 0 ≤ ((ji9) : Int) := ofd
           have q208 : (ji9) < (l0.length : Int) := ofd
           obtain ⟨ad208, e208, hx208_0⟩ := Kd.at_int HR0.out (ji9) p208 q208
           obtain rfl : ad207 = ad208 := (by injection e208)
           replace p208 := eq_true p208
           replace q208 := eq_true q208
           go_wp2
           repeat (go_quiet (fail); try go_wp2)
           go_ret
           exact ⟨by first | rfl | (simp; done) | (simp only [← hji9] <;> (first | rfl | simp)) | (simp [*]; done), by repeat (first | exact Drawn0.refl _ | apply Drawn0.step)⟩
          ·rw [if_neg c12] at H
           have c12b0 : decide ((rd l0 x3_2) ≤ (rd l0 (ji9))) = false := decide_eq_false c12
           clear c12
           have H' := Aside0.mk H
           clear H
           have p207 : 0 ≤ (x3_2 : Int) := ofd
           have q207 : x3_2 < (l0.length : Int) := ofd
           obtain ⟨ad207, e207, hx207_0⟩ := Kd.at_int HR0.out x3_2 p207 q207
           cases e207
           replace p207 := eq_true p207
           replace q207 := eq_true q207
           have p208 : 0 ≤ ((ji9) : Int) := ofd
           have q208 : (ji9) < (l0.length : Int) := ofd
           obtain ⟨ad208, e208, hx208_0⟩ := Kd.at_int HR0.out (ji9) p208 q208
           obtain rfl : ad207 = ad208 := (by injection e208)
           replace p208 := eq_true p208
           replace q208 := eq_true q208
           go_wp2
           repeat (go_quiet (fail); try go_wp2)
           first | go_roundg k2 | ((try subst hji9); go_roundg k2)
           case measure => have := HJ1.out; have := HK2.out; omega
           case rel => exact ⟨(wrap64 (x3_2 + 1)), eqd, H', ⟨by have := HJ1.out; have := HK2.out; omega⟩, by repeat (first | exact Drawn0.refl _ | apply Drawn0.step)⟩
         ·rw [if_neg c11] at H
          exact absurd H (by simp)
        ·rw [if_neg c10] at H
         exact absurd H (by simp)
       ·rw [if_neg c8] at H
        exact absurd H (by simp)
      ·rw [if_neg c7] at H
       have c7b0 : decide (x3_2 < (l0.length : Int)) = false := decide_eq_false c7
       clear c7
       obtain ⟨ji13, hji13⟩ : ∃ j_ : Int, (wrap64 ((l0.length : Int) - 1)) = j_ := ⟨_, rfl⟩
       replace H : (if 0 ≤ (ji13) then (if (ji13) < (l0.length : Int) then (some (decide ((rd l0 (ji13)) ≤ 60))) else (none)) else (none)) = some r := by first | (rw [hji13] at H; exact H) | (simp only [hji13] at H ⊢; exact H)
       have hji13w : (IntKind.i64.wrap ((l0.length : Int) - 1)) = ji13 := (i64_w _).trans hji13
       by_cases c14 : 0 ≤ (ji13)
       ·rw [if_pos c14] at H
        have c14b0 : decide (0 ≤ (ji13)) = true := decide_eq_true c14
        clear c14
        by_cases c15 : (ji13) < (l0.length : Int)
        ·rw [if_pos c15] at H
         have c15b0 : decide ((ji13) < (l0.length : Int)) = true := decide_eq_true c15
         clear c15
         obtain rfl := Option.some.inj H
         have p209 : 0 ≤ ((ji13) : Int) := ofd
         have q209 : (ji13) < (l0.length : Int) := ofd
         obtain ⟨ad209, e209, hx209_0⟩ := Kd.at_int HR0.out (ji13) p209 q209
         cases e209
         replace p209 := eq_true p209
         replace q209 := eq_true q209
         go_wp2
         repeat (go_quiet (fail); try go_wp2)
         go_ret
         exact ⟨by first | rfl | (simp; done) | (simp only [← hji13] <;> (first | rfl | simp)) | (simp [*]; done), by repeat (first | exact Drawn0.refl _ | apply Drawn0.step)⟩
        ·rw [if_neg c15] at H
         exact absurd H (by simp)
       ·rw [if_neg c14] at H
        exact absurd H (by simp)

noncomputable def spec_ruGood.J0 (x0 : List Int) (x13 : Bool) : Option (Bool) := lim fun k => spec_ruGood.j0 k x0 x13
theorem spec_ruGood.J0_lim (x0 : List Int) (x13 : Bool) : Lim (fun k => spec_ruGood.j0 k x0 x13) (spec_ruGood.J0 x0 x13) := Lim.of fun k => (spec_ruGood.mono_l k).1 x0 x13
noncomputable def spec_ruGood.L0 (x0 : List Int) (x3 : Int) : Option (Bool) := lim fun k => spec_ruGood.l0 k x0 x3
theorem spec_ruGood.L0_lim (x0 : List Int) (x3 : Int) : Lim (fun k => spec_ruGood.l0 k x0 x3) (spec_ruGood.L0 x0 x3) := Lim.of fun k => (spec_ruGood.mono_l k).2 x0 x3
noncomputable def spec_ruGood.F (l0 : List Int) : Option (Bool) := lim fun k => spec_ruGood.f k l0
theorem spec_ruGood.F_lim (l0 : List Int) : Lim (fun k => spec_ruGood.f k l0) (spec_ruGood.F l0) := Lim.of fun k => spec_ruGood.mono l0 k
theorem spec_ruGood.J0_eq (x0 : List Int) (x13 : Bool) : spec_ruGood.J0 x0 x13 = (if x13 = true then (some false) else (spec_ruGood.L0 x0 1)) :=
 Lim.step (f := fun k => spec_ruGood.j0 (k + 1) x0 x13) (spec_ruGood.J0_lim x0 x13) (fun _ => rfl) (by
  simp only [spec_ruGood.j0]
  repeat' (first | (with_reducible first | exact Lim.const _ | exact spec_ruGood.L0_lim _ _ | refine Lim.ite ?_ ?_ | refine Lim.bind ?_ (fun _ => ?_))))
theorem spec_ruGood.L0_eq (x0 : List Int) (x3 : Int) : spec_ruGood.L0 x0 x3 = (if x3 < (x0.length : Int) then (if 0 ≤ x3 then (if 0 ≤ (wrap64 (x3 - 1)) then (if (wrap64 (x3 - 1)) < (x0.length : Int) then (if (rd x0 x3) ≤ (rd x0 (wrap64 (x3 - 1))) then (some false) else (spec_ruGood.L0 x0 (wrap64 (x3 + 1)))) else (none)) else (none)) else (none)) else (if 0 ≤ (wrap64 ((x0.length : Int) - 1)) then (if (wrap64 ((x0.length : Int) - 1)) < (x0.length : Int) then (some (decide ((rd x0 (wrap64 ((x0.length : Int) - 1))) ≤ 60))) else (none)) else (none))) :=
 Lim.step (f := fun k => spec_ruGood.l0 (k + 1) x0 x3) (spec_ruGood.L0_lim x0 x3) (fun _ => rfl) (by
  simp only [spec_ruGood.l0]
  repeat' (first | (with_reducible first | exact Lim.const _ | exact spec_ruGood.L0_lim _ _ | refine Lim.ite ?_ ?_ | refine Lim.bind ?_ (fun _ => ?_))))
theorem spec_ruGood.F_eq (l0 : List Int) : spec_ruGood.F l0 = ((spec_l1In.f (l0.length : Int) 1 12).bind fun t205 => (if t205 = true then (if 0 < (l0.length : Int) then (spec_ruGood.J0 l0 ((rd l0 0) != 0)) else (none)) else (spec_ruGood.J0 l0 true))) :=
 Lim.unique (spec_ruGood.F_lim l0) (by
  unfold spec_ruGood.f
  repeat' (first | (with_reducible first | exact Lim.const _ | exact spec_ruGood.J0_lim _ _ | refine Lim.ite ?_ ?_ | refine Lim.bind ?_ (fun _ => ?_))))

end Go.Proofs.Ytofjndbpndpjjaa.Fn
namespace Go.Proofs.Ytofjndbpndpjjaa.Fn
open Go.RowKit Go.Proofs.YtofjndbpndpjjaaW.PrintWords Go.Proofs.YtofjndbpndpjjaaW.PrintLast Go.Proofs.YtofjndbpndpjjaaW.PrintMore
attribute [local go_sem] max2_int min2_int max_two min_two max_three min_three max_four min_four   -- for this text's walks alone
set_option linter.unusedVariables false
set_option linter.unusedSimpArgs false

/-! ### spec_LengthOfRuler: function 10 -/
def spec_LengthOfRuler.f (k : Nat) (l0 : List Int) : Option (Int × Bool) := (spec_ruGood.f k l0).bind fun t220 => (if t220 = true then ((spec_ruLength.f l0).bind fun t221 => (some (t221, true))) else (some (0, false)))
theorem spec_LengthOfRuler.mono : ∀ a0 k, LeO (spec_LengthOfRuler.f k a0) (spec_LengthOfRuler.f (k + 1) a0) := by
 intro a0 k
 unfold spec_LengthOfRuler.f
 repeat' (first | (with_reducible first | exact spec_ruGood.mono _ _ | exact LeO.refl _ | exact LeO.none _ | refine LeO.ite ?_ ?_ | refine LeO.bind ?_ (fun _ => ?_)) | exact spec_ruGood.mono _ _ | exact LeO.none _ | refine LeO.ite ?_ ?_ | refine LeO.bind ?_ (fun _ => ?_))
set_option maxHeartbeats 8000000 in
set_option maxRecDepth 100000 in
theorem spec_LengthOfRuler.calls (k : Nat) (A0 : Option Addr) (c0 : Nat) (l0 : List Int) (r1 : Int) (r2 : Bool) (w : World) (hr0 : Kd.C (Kd.int .i64) w A0 l0.length l0) (hc0 : l0.length ≤ c0) (h : spec_LengthOfRuler.f k l0 = some (r1, r2)) :
  Calls Try.prog 10 #[.slice A0 l0.length c0] w fun e w' => e = .returned (.tuple #[.int .i64 r1, .bool r2]) ∧ Drawn0 w w' := by
 have HR0 := Aside0.mk hr0
 have HC0 := Aside0.mk hc0
 clear hr0 hc0
 have H := h
 unfold spec_LengthOfRuler.f at H
 clear h
 replace H := Option.bind_eq_some_iff.mp H
 obtain ⟨t220, A20, H⟩ := H
 replace H : (if t220 = true then ((spec_ruLength.f l0).bind fun t221 => (some (t221, true))) else (some (0, false))) = some (r1, r2) := H
 have A2 := Aside0.mk A20
 clear A20
 by_cases c3 : t220 = true
 ·subst c3
  have H1 : ((spec_ruLength.f l0).bind fun t221 => (some (t221, true))) = some (r1, r2) := by rw [if_pos rfl] at H; exact H
  clear H
  have H := H1
  clear H1
  replace H := Option.bind_eq_some_iff.mp H
  obtain ⟨t221, A40, H⟩ := H
  replace H : (some (t221, true)) = some (r1, r2) := H
  have A4 := Aside0.mk A40
  clear A40
  simp only [Option.some.injEq, Prod.mk.injEq] at H
  obtain ⟨rfl, rfl⟩ := H
  go_enter Try.func10, Try.ntmps10
  go_wp2_with (first | ((with_reducible refine gate_callee (f := 60) rfl ?_); refine goesA (some 5) Try.func60 #[.slice A0 l0.length c0] ?_; (with_reducible refine (spec_ruGood.calls k _ _ l0 true _ ?side1 ?side2 A2.out).mono ?_); (case side1 => repeat (first | exact HR0.out | (with_reducible refine Kd.C_alloc ?_ _) | (with_reducible refine Kd.C_drewN ?_ _) | (with_reducible refine Kd.C_drew ?_))); (case side2 => exact HC0.out); rintro e w' ⟨rfl, ⟨nd, rfl⟩⟩; refine ⟨_, rfl, ?_⟩) | ((with_reducible refine gate_callee (f := 62) rfl ?_); refine goesA (some 8) Try.func62 #[.slice A0 l0.length c0] ?_; (with_reducible refine (spec_ruLength.calls _ _ l0 t221 _ ?side1 ?side2 A4.out).mono ?_); (case side1 => repeat (first | exact HR0.out | (with_reducible refine Kd.C_alloc ?_ _) | (with_reducible refine Kd.C_drewN ?_ _) | (with_reducible refine Kd.C_drew ?_))); (case side2 => exact HC0.out); rintro e w' ⟨rfl, ⟨nd, rfl⟩⟩; refine ⟨_, rfl, ?_⟩))
  go_ret2
  exact ⟨by first | rfl | (simp; done) | (simp [*]; done), by repeat (first | exact Drawn0.refl _ | apply Drawn0.step)⟩
 ·replace c3 := Bool.eq_false_iff.mpr c3
  subst c3
  have H1 : (some (0, false)) = some (r1, r2) := by rw [if_neg (show ¬ (false = true) by decide)] at H; exact H
  clear H
  have H := H1
  clear H1
  simp only [Option.some.injEq, Prod.mk.injEq] at H
  obtain ⟨rfl, rfl⟩ := H
  go_enter Try.func10, Try.ntmps10
  go_wp2_with (first | ((with_reducible refine gate_callee (f := 60) rfl ?_); refine goesA (some 5) Try.func60 #[.slice A0 l0.length c0] ?_; (with_reducible refine (spec_ruGood.calls k _ _ l0 false _ ?side1 ?side2 A2.out).mono ?_); (case side1 => repeat (first | exact HR0.out | (with_reducible refine Kd.C_alloc ?_ _) | (with_reducible refine Kd.C_drewN ?_ _) | (with_reducible refine Kd.C_drew ?_))); (case side2 => exact HC0.out); rintro e w' ⟨rfl, ⟨nd, rfl⟩⟩; refine ⟨_, rfl, ?_⟩))
  go_ret2
  exact ⟨by first | rfl | (simp; done) | (simp [*]; done), by repeat (first | exact Drawn0.refl _ | apply Drawn0.step)⟩

noncomputable def spec_LengthOfRuler.F (l0 : List Int) : Option (Int × Bool) := lim fun k => spec_LengthOfRuler.f k l0
theorem spec_LengthOfRuler.F_lim (l0 : List Int) : Lim (fun k => spec_LengthOfRuler.f k l0) (spec_LengthOfRuler.F l0) := Lim.of fun k => spec_LengthOfRuler.mono l0 k
theorem spec_LengthOfRuler.F_eq (l0 : List Int) : spec_LengthOfRuler.F l0 = ((spec_ruGood.F l0).bind fun t220 => (if t220 = true then ((spec_ruLength.f l0).bind fun t221 => (some (t221, true))) else (some (0, false)))) :=
 Lim.unique (spec_LengthOfRuler.F_lim l0) (by
  unfold spec_LengthOfRuler.f
  repeat' (first | (with_reducible first | exact Lim.const _ | exact spec_ruGood.F_lim _ | refine Lim.ite ?_ ?_ | refine Lim.bind ?_ (fun _ => ?_))))

end Go.Proofs.Ytofjndbpndpjjaa.Fn
namespace Go.Proofs.Ytofjndbpndpjjaa.Fn
open Go.RowKit Go.Proofs.YtofjndbpndpjjaaW.PrintWords Go.Proofs.YtofjndbpndpjjaaW.PrintLast Go.Proofs.YtofjndbpndpjjaaW.PrintMore
attribute [local go_sem] max2_int min2_int max_two min_two max_three min_three max_four min_four   -- for this text's walks alone
set_option linter.unusedVariables false
set_option linter.unusedSimpArgs false

/-! ### spec_MissingDistances: function 12 -/
def spec_MissingDistances.l0 : Nat → List Int → List Int → Int → Int → Option (List Int × Bool)
 | 0, _, _, _, _ => none
 | k + 1, x4, x11, x12, x13 => if x13 < x12 then (if 0 ≤ x13 then (if x13 < (x11.length : Int) then (if x13 > 0 then (if (rd x11 x13) = 0 then (if x4.length < 17592186044416 then (spec_MissingDistances.l0 k (x4 ++ [x13]) x11 x12 (wrap64 (x13 + 1))) else (none)) else (spec_MissingDistances.l0 k x4 x11 x12 (wrap64 (x13 + 1)))) else (spec_MissingDistances.l0 k x4 x11 x12 (wrap64 (x13 + 1)))) else (none)) else (none)) else (some (x4, true))
def spec_MissingDistances.f (k : Nat) (l0 : List Int) : Option (List Int × Bool) := (spec_ruGood.f k l0).bind fun t230 => (if t230 = true then ((spec_ruTimes.f k l0).bind fun t231 => (spec_MissingDistances.l0 k ([] : List Int) t231 (t231.length : Int) 0)) else (some (([] : List Int), false)))
theorem spec_MissingDistances.mono_l : ∀ k, (∀ y0 y1 y2 y3, LeO (spec_MissingDistances.l0 k y0 y1 y2 y3) (spec_MissingDistances.l0 (k + 1) y0 y1 y2 y3))
 | 0 => fun _ _ _ _ r h => by simp [spec_MissingDistances.l0] at h
 | k + 1 => by
  have ih0 := spec_MissingDistances.mono_l k
  ·intro y0 y1 y2 y3
   unfold spec_MissingDistances.l0
   repeat' (first | (with_reducible first | exact ih0 _ _ _ _ | exact LeO.refl _ | exact LeO.none _ | refine LeO.ite ?_ ?_ | refine LeO.bind ?_ (fun _ => ?_)) | exact ih0 _ _ _ _ | exact LeO.none _ | refine LeO.ite ?_ ?_ | refine LeO.bind ?_ (fun _ => ?_))
theorem spec_MissingDistances.mono : ∀ a0 k, LeO (spec_MissingDistances.f k a0) (spec_MissingDistances.f (k + 1) a0) := by
 intro a0 k
 have ih0 := spec_MissingDistances.mono_l k
 unfold spec_MissingDistances.f
 repeat' (first | (with_reducible first | exact ih0 _ _ _ _ | exact spec_ruGood.mono _ _ | exact spec_ruTimes.mono _ _ | exact LeO.refl _ | exact LeO.none _ | refine LeO.ite ?_ ?_ | refine LeO.bind ?_ (fun _ => ?_)) | exact ih0 _ _ _ _ | exact spec_ruGood.mono _ _ | exact spec_ruTimes.mono _ _ | exact LeO.none _ | refine LeO.ite ?_ ?_ | refine LeO.bind ?_ (fun _ => ?_))
set_option maxHeartbeats 8000000 in
set_option maxRecDepth 100000 in
theorem spec_MissingDistances.calls (k : Nat) (A0 : Option Addr) (c0 : Nat) (l0 : List Int) (r1 : List Int) (r2 : Bool) (w : World) (hr0 : Kd.C (Kd.int .i64) w A0 l0.length l0) (hc0 : l0.length ≤ c0) (h : spec_MissingDistances.f k l0 = some (r1, r2)) :
  Calls Try.prog 12 #[.slice A0 l0.length c0] w fun e w' => ∃ v0_ : Value, e = .returned (.tuple #[v0_, .bool r2]) ∧ Kd.R (Kd.int .i64) 3 w' w.heap.size (fun _ => True) v0_ r1 ∧ Below w.heap.size w w' := by
 have HR0 := Aside0.mk hr0
 have HC0 := Aside0.mk hc0
 clear hr0 hc0
 have HB := Aside0.mk (Below.refl w.heap.size w)
 have H := h
 unfold spec_MissingDistances.f at H
 clear h
 replace H := Option.bind_eq_some_iff.mp H
 obtain ⟨t230, A20, H⟩ := H
 replace H : (if t230 = true then ((spec_ruTimes.f k l0).bind fun t231 => (spec_MissingDistances.l0 k ([] : List Int) t231 (t231.length : Int) 0)) else (some (([] : List Int), false))) = some (r1, r2) := H
 have A2 := Aside0.mk A20
 clear A20
 by_cases c3 : t230 = true
 ·subst c3
  have H1 : ((spec_ruTimes.f k l0).bind fun t231 => (spec_MissingDistances.l0 k ([] : List Int) t231 (t231.length : Int) 0)) = some (r1, r2) := by rw [if_pos rfl] at H; exact H
  clear H
  have H := H1
  clear H1
  replace H := Option.bind_eq_some_iff.mp H
  obtain ⟨t231, A40, H⟩ := H
  replace H : (spec_MissingDistances.l0 k ([] : List Int) t231 (t231.length : Int) 0) = some (r1, r2) := H
  have A4 := Aside0.mk A40
  clear A40
  have H' := Aside0.mk H
  clear H
  go_enter Try.func12, Try.ntmps12
  go_wp2_with (first | ((with_reducible refine gate_callee (f := 60) rfl ?_); refine goesA (some 8) Try.func60 #[.slice A0 l0.length c0] ?_; (with_reducible refine (spec_ruGood.calls k _ _ l0 true _ ?side1 ?side2 A2.out).mono ?_); (case side1 => repeat (first | exact HR0.out | (with_reducible refine Kd.C_alloc ?_ _) | (with_reducible refine Kd.C_drewN ?_ _) | (with_reducible refine Kd.C_drew ?_))); (case side2 => exact HC0.out); rintro e w' ⟨rfl, ⟨nd, rfl⟩⟩; refine ⟨_, rfl, ?_⟩) | ((with_reducible refine gate_callee (f := 61) rfl ?_); refine goesA (some 11) Try.func61 #[.slice A0 l0.length c0] ?_; (with_reducible refine (spec_ruTimes.calls k _ _ l0 t231 _ ?side1 ?side2 A4.out).mono ?_); (case side1 => repeat (first | exact HR0.out | (with_reducible refine Kd.C_alloc ?_ _) | (with_reducible refine Kd.C_drewN ?_ _) | (with_reducible refine Kd.C_drew ?_))); (case side2 => exact HC0.out); rintro e w5 ⟨v232, rfl, ho0, hb⟩; refine ⟨_, rfl, ?_⟩; have HO233 := lowR ho0 HB; replace HB := upB HB hb; (try clear hb); (try clear hb2); (try clear hk); (try clear hi); (try clear ho0); obtain ⟨Ao6, co6, eo6⟩ := Kd.R_slice HO233.out; subst eo6))
  go_loopg [4, 13] k (fun kq v4 v13 w' => ∃ (x4_1 : List Int) (x13_1 : Int), v13 = .int .i64 x13_1 ∧ Aside0 (spec_MissingDistances.l0 kq x4_1 t231 (t231.length : Int) x13_1 = some (r1, r2)) ∧ Aside0 (kq ≤ k) ∧ Aside0 (Kd.R (Kd.int .i64) 3 w' w.heap.size (fun k_ => some k_ ≠ ((.slice Ao6 t231.length co6) : Value).ownBlock) v4 x4_1) ∧ Aside0 (Kd.R (Kd.int .i64) 3 w' w.heap.size (fun k_ => some k_ ≠ (v4 : Value).ownBlock) (.slice Ao6 t231.length co6) t231) ∧ Aside0 (Below w.heap.size w w'))
  case atStart => exact ⟨(([] : List Int)), (0), eqd, H', ⟨Nat.le_refl _⟩, ⟨by first | exact Kd.R_nil _ _ _ _ _ | exact Kd.N_nil _ _ _ _ _ | exact Kd.V_nil _ _ _ _ _ | exact Kd.Q_nil _ _ _ _ _ | exact Kd.S_nil _ _ _ _ _⟩, ⟨by (with_reducible repeat (first | apply Kd.R_alloc | apply Kd.R_drewN | apply Kd.R_drew)); exact Kd.R_mono HO233.out (fun _ hk => (by simp [Value.ownBlock]))⟩, ⟨atB HB⟩⟩
  case round =>
   clear H'
   try clear c1
   try clear p2
   try clear c3
   try clear c6
   obtain ⟨x4_1, x13_1, rfl, HA, HK1, HO_4, HO_11, HB⟩ := hrel
   cases gk with
   | zero => exact absurd HA.out (by simp [spec_MissingDistances.l0])
   | succ k1 =>
    have H := HA.out
    clear HA
    simp only [spec_MissingDistances.l0] at H
    by_cases c7 : x13_1 < (t231.length : Int)
    ·rw [if_pos c7] at H
     have c7b0 : decide (x13_1 < (t231.length : Int)) = true := decide_eq_true c7
     clear c7
     by_cases c8 : 0 ≤ x13_1
     ·rw [if_pos c8] at H
      have c8b0 : decide (0 ≤ x13_1) = true := decide_eq_true c8
      clear c8
      by_cases c9 : x13_1 < (t231.length : Int)
      ·rw [if_pos c9] at H
       have c9b0 : decide (x13_1 < (t231.length : Int)) = true := decide_eq_true c9
       clear c9
       by_cases c10 : x13_1 > 0
       ·rw [if_pos c10] at H
        have c10b0 : decide (0 < x13_1) = true := decide_eq_true c10
        clear c10
        by_cases c11 : (rd t231 x13_1) = 0
        ·rw [if_pos c11] at H
         have c11b0 : ((rd t231 x13_1) == 0) = true := beq_iff_eq.mpr c11
         have c11b1 : ((rd t231 x13_1) != 0) = false := bne_eq_false_iff_eq.mpr c11
         clear c11
         by_cases c12 : x4_1.length < 17592186044416
         ·rw [if_pos c12] at H
          have LMc12 := Aside0.mk c12
          clear c12
          obtain ⟨y235, hy235⟩ : ∃ y_ : List Int, y_ = (x4_1 ++ [x13_1]) := ⟨_, rfl⟩
          replace H : (spec_MissingDistances.l0 k1 y235 t231 (t231.length : Int) (wrap64 (x13_1 + 1))) = some (r1, r2) := by first | (rw [hy235]; with_reducible exact H) | (have H2_ := (Option.bind_some _ _).symm.trans H; rw [hy235]; with_reducible exact H2_) | (have H2_ := (Option.bind_some _ _).symm.trans H; with_reducible exact H2_) | with_reducible exact H | (rw [hy235]; exact H) | exact H
          have Ny235 := Aside0.mk hy235
          clear hy235
          have H' := Aside0.mk H
          clear H
          have p234 : 0 ≤ (x13_1 : Int) := ofd
          have q234 : x13_1 < (t231.length : Int) := ofd
          obtain ⟨ad234, e234, hx234_0⟩ := Kd.at_int (Kd.R_reads' HO_11.out).2.2 x13_1 p234 q234
          cases e234
          replace p234 := eq_true p234
          replace q234 := eq_true q234
          go_wp2_with (first | ((with_reducible refine gate_builtin (b := .append) (xs := #[.tmp 24, .tmp 26]) rfl ?_); at_builtin; refine Kd.R_append (Kd.int .i64) (w0 := w) w.heap.size rfl (.tmp 24) (.tmp 26) 24 3 (.int .i64 0) 8 rfl Try.underlying24 info3 rfl (by decide) (by omega) u4 x4_1 x13_1 [.int .i64 x13_1] (fun k_ => some k_ ≠ (.slice (some ad234) t231.length co6 : Value).ownBlock) (fun _ => False) rfl rfl ?aP (fun _ hk => hk.elim) ?aF ?aO ?aB ?aS ?aL ?_; (case aP => exact rfl); (case aB => exact (atB HB)); (case aF => exact (fun k_ hk => Kd.fresh' (ltR HO_11) k_ hk)); (case aO => exact (atR HO_4)); (case aS => exact (szB HB)); (case aL => have := LMc12.out; omega); intro v236 w13 ho hb hg hat; rw [← Ny235.out] at ho; have HO237 := Aside0.mk (ho); replace HO_11 := Aside0.mk (Kd.R_after (ok := (fun _ => True)) (by (with_reducible repeat (first | apply Kd.R_alloc | apply Kd.R_drewN | apply Kd.R_drew)); exact Kd.R_mono HO_11.out (fun _ hk => ⟨trivial, hk⟩)) hg hat); replace HB := Aside0.mk (hb); clear HO_4; clear ho hb hg hat))
          go_roundg k1
          case measure => have := HK1.out; omega
          case rel => exact ⟨(y235), (wrap64 (x13_1 + 1)), eqd, H', ⟨by have := HK1.out; omega⟩, ⟨atR HO237⟩, ⟨by (with_reducible repeat (first | apply Kd.R_alloc | apply Kd.R_drewN | apply Kd.R_drew)); exact Kd.R_mono HO_11.out (fun _ hk => hk.2)⟩, ⟨atB HB⟩⟩
         ·rw [if_neg c12] at H
          exact absurd H (by simp)
        ·rw [if_neg c11] at H
         have c11b0 : ((rd t231 x13_1) == 0) = false := beq_eq_false_iff_ne.mpr c11
         have c11b1 : ((rd t231 x13_1) != 0) = true := bne_iff_ne.mpr c11
         have H' := Aside0.mk H
         clear H
         have p234 : 0 ≤ (x13_1 : Int) := ofd
         have q234 : x13_1 < (t231.length : Int) := ofd
         obtain ⟨ad234, e234, hx234_0⟩ := Kd.at_int (Kd.R_reads' HO_11.out).2.2 x13_1 p234 q234
         cases e234
         replace p234 := eq_true p234
         replace q234 := eq_true q234
         go_wp2
         go_roundg k1
         case measure => have := HK1.out; omega
         case rel => exact ⟨(x4_1), (wrap64 (x13_1 + 1)), eqd, H', ⟨by have := HK1.out; omega⟩, ⟨atR HO_4⟩, ⟨atR HO_11⟩, ⟨atB HB⟩⟩
       ·rw [if_neg c10] at H
        have c10b0 : decide (0 < x13_1) = false := decide_eq_false c10
        clear c10
        have H' := Aside0.mk H
        clear H
        have p234 : 0 ≤ (x13_1 : Int) := ofd
        have q234 : x13_1 < (t231.length : Int) := ofd
        obtain ⟨ad234, e234, hx234_0⟩ := Kd.at_int (Kd.R_reads' HO_11.out).2.2 x13_1 p234 q234
        cases e234
        replace p234 := eq_true p234
        replace q234 := eq_true q234
        go_wp2
        go_roundg k1
        case measure => have := HK1.out; omega
        case rel => exact ⟨(x4_1), (wrap64 (x13_1 + 1)), eqd, H', ⟨by have := HK1.out; omega⟩, ⟨atR HO_4⟩, ⟨atR HO_11⟩, ⟨atB HB⟩⟩
      ·rw [if_neg c9] at H
       exact absurd H (by simp)
     ·rw [if_neg c8] at H
      exact absurd H (by simp)
    ·rw [if_neg c7] at H
     have c7b0 : decide (x13_1 < (t231.length : Int)) = false := decide_eq_false c7
     clear c7
     simp only [Option.some.injEq, Prod.mk.injEq] at H
     obtain ⟨rfl, rfl⟩ := H
     go_wp2
     go_ret2
     exact ⟨_, eqr, by (with_reducible repeat (first | apply Kd.R_alloc | apply Kd.R_drewN | apply Kd.R_drew)); exact Kd.R_mono HO_4.out (fun _ hk => trivial), atB HB⟩
 ·replace c3 := Bool.eq_false_iff.mpr c3
  subst c3
  have H1 : (some (([] : List Int), false)) = some (r1, r2) := by rw [if_neg (show ¬ (false = true) by decide)] at H; exact H
  clear H
  have H := H1
  clear H1
  simp only [Option.some.injEq, Prod.mk.injEq] at H
  obtain ⟨rfl, rfl⟩ := H
  go_enter Try.func12, Try.ntmps12
  go_wp2_with (first | ((with_reducible refine gate_callee (f := 60) rfl ?_); refine goesA (some 8) Try.func60 #[.slice A0 l0.length c0] ?_; (with_reducible refine (spec_ruGood.calls k _ _ l0 false _ ?side1 ?side2 A2.out).mono ?_); (case side1 => repeat (first | exact HR0.out | (with_reducible refine Kd.C_alloc ?_ _) | (with_reducible refine Kd.C_drewN ?_ _) | (with_reducible refine Kd.C_drew ?_))); (case side2 => exact HC0.out); rintro e w' ⟨rfl, ⟨nd, rfl⟩⟩; refine ⟨_, rfl, ?_⟩))
  go_ret2
  exact ⟨_, eqr, by first | exact Kd.R_nil _ _ _ _ _ | exact Kd.N_nil _ _ _ _ _ | exact Kd.V_nil _ _ _ _ _ | exact Kd.Q_nil _ _ _ _ _ | exact Kd.S_nil _ _ _ _ _, atB HB⟩

noncomputable def spec_MissingDistances.L0 (x4 : List Int) (x11 : List Int) (x12 : Int) (x13 : Int) : Option (List Int × Bool) := lim fun k => spec_MissingDistances.l0 k x4 x11 x12 x13
theorem spec_MissingDistances.L0_lim (x4 : List Int) (x11 : List Int) (x12 : Int) (x13 : Int) : Lim (fun k => spec_MissingDistances.l0 k x4 x11 x12 x13) (spec_MissingDistances.L0 x4 x11 x12 x13) := Lim.of fun k => (spec_MissingDistances.mono_l k) x4 x11 x12 x13
noncomputable def spec_MissingDistances.F (l0 : List Int) : Option (List Int × Bool) := lim fun k => spec_MissingDistances.f k l0
theorem spec_MissingDistances.F_lim (l0 : List Int) : Lim (fun k => spec_MissingDistances.f k l0) (spec_MissingDistances.F l0) := Lim.of fun k => spec_MissingDistances.mono l0 k
theorem spec_MissingDistances.L0_eq (x4 : List Int) (x11 : List Int) (x12 : Int) (x13 : Int) : spec_MissingDistances.L0 x4 x11 x12 x13 = (if x13 < x12 then (if 0 ≤ x13 then (if x13 < (x11.length : Int) then (if x13 > 0 then (if (rd x11 x13) = 0 then (if x4.length < 17592186044416 then (spec_MissingDistances.L0 (x4 ++ [x13]) x11 x12 (wrap64 (x13 + 1))) else (none)) else (spec_MissingDistances.L0 x4 x11 x12 (wrap64 (x13 + 1)))) else (spec_MissingDistances.L0 x4 x11 x12 (wrap64 (x13 + 1)))) else (none)) else (none)) else (some (x4, true))) :=
 Lim.step (f := fun k => spec_MissingDistances.l0 (k + 1) x4 x11 x12 x13) (spec_MissingDistances.L0_lim x4 x11 x12 x13) (fun _ => rfl) (by
  simp only [spec_MissingDistances.l0]
  repeat' (first | (with_reducible first | exact Lim.const _ | exact spec_MissingDistances.L0_lim _ _ _ _ | refine Lim.ite ?_ ?_ | refine Lim.bind ?_ (fun _ => ?_))))
theorem spec_MissingDistances.F_eq (l0 : List Int) : spec_MissingDistances.F l0 = ((spec_ruGood.F l0).bind fun t230 => (if t230 = true then ((spec_ruTimes.F l0).bind fun t231 => (spec_MissingDistances.L0 ([] : List Int) t231 (t231.length : Int) 0)) else (some (([] : List Int), false)))) :=
 Lim.unique (spec_MissingDistances.F_lim l0) (by
  unfold spec_MissingDistances.f
  repeat' (first | (with_reducible first | exact Lim.const _ | exact spec_MissingDistances.L0_lim _ _ _ _ | exact spec_ruGood.F_lim _ | exact spec_ruTimes.F_lim _ | refine Lim.ite ?_ ?_ | refine Lim.bind ?_ (fun _ => ?_))))

end Go.Proofs.Ytofjndbpndpjjaa.Fn
namespace Go.Proofs.Ytofjndbpndpjjaa.Fn
open Go.RowKit Go.Proofs.YtofjndbpndpjjaaW.PrintWords Go.Proofs.YtofjndbpndpjjaaW.PrintLast Go.Proofs.YtofjndbpndpjjaaW.PrintMore
attribute [local go_sem] max2_int min2_int max_two min_two max_three min_three max_four min_four   -- for this text's walks alone
set_option linter.unusedVariables false
set_option linter.unusedSimpArgs false

/-! ### spec_IsDifferent: function 14 -/
def spec_IsDifferent.f (k : Nat) (l0 : List Int) : Option (Bool × Bool) := (spec_ruGood.f k l0).bind fun t246 => (if t246 = true then ((spec_ruDifferent.f k l0).bind fun t247 => (some (t247, true))) else (some (false, false)))
theorem spec_IsDifferent.mono : ∀ a0 k, LeO (spec_IsDifferent.f k a0) (spec_IsDifferent.f (k + 1) a0) := by
 intro a0 k
 unfold spec_IsDifferent.f
 repeat' (first | (with_reducible first | exact spec_ruDifferent.mono _ _ | exact spec_ruGood.mono _ _ | exact LeO.refl _ | exact LeO.none _ | refine LeO.ite ?_ ?_ | refine LeO.bind ?_ (fun _ => ?_)) | exact spec_ruDifferent.mono _ _ | exact spec_ruGood.mono _ _ | exact LeO.none _ | refine LeO.ite ?_ ?_ | refine LeO.bind ?_ (fun _ => ?_))
set_option maxHeartbeats 8000000 in
set_option maxRecDepth 100000 in
theorem spec_IsDifferent.calls (k : Nat) (A0 : Option Addr) (c0 : Nat) (l0 : List Int) (r1 : Bool) (r2 : Bool) (w : World) (hr0 : Kd.C (Kd.int .i64) w A0 l0.length l0) (hc0 : l0.length ≤ c0) (h : spec_IsDifferent.f k l0 = some (r1, r2)) :
  Calls Try.prog 14 #[.slice A0 l0.length c0] w fun e w' => e = .returned (.tuple #[.bool r1, .bool r2]) ∧ Below w.heap.size w w' := by
 have HR0 := Aside0.mk hr0
 have HC0 := Aside0.mk hc0
 clear hr0 hc0
 have HB := Aside0.mk (Below.refl w.heap.size w)
 have H := h
 unfold spec_IsDifferent.f at H
 clear h
 replace H := Option.bind_eq_some_iff.mp H
 obtain ⟨t246, A20, H⟩ := H
 replace H : (if t246 = true then ((spec_ruDifferent.f k l0).bind fun t247 => (some (t247, true))) else (some (false, false))) = some (r1, r2) := H
 have A2 := Aside0.mk A20
 clear A20
 by_cases c3 : t246 = true
 ·subst c3
  have H1 : ((spec_ruDifferent.f k l0).bind fun t247 => (some (t247, true))) = some (r1, r2) := by rw [if_pos rfl] at H; exact H
  clear H
  have H := H1
  clear H1
  replace H := Option.bind_eq_some_iff.mp H
  obtain ⟨t247, A40, H⟩ := H
  replace H : (some (t247, true)) = some (r1, r2) := H
  have A4 := Aside0.mk A40
  clear A40
  simp only [Option.some.injEq, Prod.mk.injEq] at H
  obtain ⟨rfl, rfl⟩ := H
  go_enter Try.func14, Try.ntmps14
  go_wp2_with (first | ((with_reducible refine gate_callee (f := 60) rfl ?_); refine goesA (some 5) Try.func60 #[.slice A0 l0.length c0] ?_; (with_reducible refine (spec_ruGood.calls k _ _ l0 true _ ?side1 ?side2 A2.out).mono ?_); (case side1 => repeat (first | exact HR0.out | (with_reducible refine Kd.C_alloc ?_ _) | (with_reducible refine Kd.C_drewN ?_ _) | (with_reducible refine Kd.C_drew ?_))); (case side2 => exact HC0.out); rintro e w' ⟨rfl, ⟨nd, rfl⟩⟩; refine ⟨_, rfl, ?_⟩) | ((with_reducible refine gate_callee (f := 64) rfl ?_); refine goesA (some 8) Try.func64 #[.slice A0 l0.length c0] ?_; (with_reducible refine (spec_ruDifferent.calls k _ _ l0 t247 _ ?side1 ?side2 A4.out).mono ?_); (case side1 => repeat (first | exact HR0.out | (with_reducible refine Kd.C_alloc ?_ _) | (with_reducible refine Kd.C_drewN ?_ _) | (with_reducible refine Kd.C_drew ?_))); (case side2 => exact HC0.out); rintro e w5 ⟨rfl, hb⟩; refine ⟨_, rfl, ?_⟩; replace HB := upB HB hb; (try clear hb); (try clear hb2); (try clear hk); (try clear hi)))
  go_ret2
  exact ⟨eqr, atB HB⟩
 ·replace c3 := Bool.eq_false_iff.mpr c3
  subst c3
  have H1 : (some (false, false)) = some (r1, r2) := by rw [if_neg (show ¬ (false = true) by decide)] at H; exact H
  clear H
  have H := H1
  clear H1
  simp only [Option.some.injEq, Prod.mk.injEq] at H
  obtain ⟨rfl, rfl⟩ := H
  go_enter Try.func14, Try.ntmps14
  go_wp2_with (first | ((with_reducible refine gate_callee (f := 60) rfl ?_); refine goesA (some 5) Try.func60 #[.slice A0 l0.length c0] ?_; (with_reducible refine (spec_ruGood.calls k _ _ l0 false _ ?side1 ?side2 A2.out).mono ?_); (case side1 => repeat (first | exact HR0.out | (with_reducible refine Kd.C_alloc ?_ _) | (with_reducible refine Kd.C_drewN ?_ _) | (with_reducible refine Kd.C_drew ?_))); (case side2 => exact HC0.out); rintro e w' ⟨rfl, ⟨nd, rfl⟩⟩; refine ⟨_, rfl, ?_⟩))
  go_ret2
  exact ⟨eqr, atB HB⟩

noncomputable def spec_IsDifferent.F (l0 : List Int) : Option (Bool × Bool) := lim fun k => spec_IsDifferent.f k l0
theorem spec_IsDifferent.F_lim (l0 : List Int) : Lim (fun k => spec_IsDifferent.f k l0) (spec_IsDifferent.F l0) := Lim.of fun k => spec_IsDifferent.mono l0 k
theorem spec_IsDifferent.F_eq (l0 : List Int) : spec_IsDifferent.F l0 = ((spec_ruGood.F l0).bind fun t246 => (if t246 = true then ((spec_ruDifferent.F l0).bind fun t247 => (some (t247, true))) else (some (false, false)))) :=
 Lim.unique (spec_IsDifferent.F_lim l0) (by
  unfold spec_IsDifferent.f
  repeat' (first | (with_reducible first | exact Lim.const _ | exact spec_ruDifferent.F_lim _ | exact spec_ruGood.F_lim _ | refine Lim.ite ?_ ?_ | refine Lim.bind ?_ (fun _ => ?_))))

end Go.Proofs.Ytofjndbpndpjjaa.Fn
namespace Go.Proofs.Ytofjndbpndpjjaa.Fn
open Go.RowKit Go.Proofs.YtofjndbpndpjjaaW.PrintWords Go.Proofs.YtofjndbpndpjjaaW.PrintLast Go.Proofs.YtofjndbpndpjjaaW.PrintMore
attribute [local go_sem] max2_int min2_int max_two min_two max_three min_three max_four min_four   -- for this text's walks alone
set_option linter.unusedVariables false
set_option linter.unusedSimpArgs false

/-! ### spec_ruWhole: function 66 -/
def spec_ruWhole.l0 : Nat → List Int → Int → Int → Option (Bool)
 | 0, _, _, _ => none
 | k + 1, x6, x7, x8 => if x8 < x7 then (if 0 ≤ x8 then (if x8 < (x6.length : Int) then (if x8 > 0 then (if (rd x6 x8) = 0 then (some false) else (spec_ruWhole.l0 k x6 x7 (wrap64 (x8 + 1)))) else (spec_ruWhole.l0 k x6 x7 (wrap64 (x8 + 1)))) else (none)) else (none)) else (some true)
def spec_ruWhole.f (k : Nat) (l0 : List Int) : Option (Bool) := (spec_ruTimes.f k l0).bind fun t260 => (spec_ruWhole.l0 k t260 (t260.length : Int) 0)
theorem spec_ruWhole.mono_l : ∀ k, (∀ y0 y1 y2, LeO (spec_ruWhole.l0 k y0 y1 y2) (spec_ruWhole.l0 (k + 1) y0 y1 y2))
 | 0 => fun _ _ _ r h => by simp [spec_ruWhole.l0] at h
 | k + 1 => by
  have ih0 := spec_ruWhole.mono_l k
  ·intro y0 y1 y2
   unfold spec_ruWhole.l0
   repeat' (first | (with_reducible first | exact ih0 _ _ _ | exact LeO.refl _ | exact LeO.none _ | refine LeO.ite ?_ ?_ | refine LeO.bind ?_ (fun _ => ?_)) | exact ih0 _ _ _ | exact LeO.none _ | refine LeO.ite ?_ ?_ | refine LeO.bind ?_ (fun _ => ?_))
theorem spec_ruWhole.mono : ∀ a0 k, LeO (spec_ruWhole.f k a0) (spec_ruWhole.f (k + 1) a0) := by
 intro a0 k
 have ih0 := spec_ruWhole.mono_l k
 unfold spec_ruWhole.f
 repeat' (first | (with_reducible first | exact ih0 _ _ _ | exact spec_ruTimes.mono _ _ | exact LeO.refl _ | exact LeO.none _ | refine LeO.ite ?_ ?_ | refine LeO.bind ?_ (fun _ => ?_)) | exact ih0 _ _ _ | exact spec_ruTimes.mono _ _ | exact LeO.none _ | refine LeO.ite ?_ ?_ | refine LeO.bind ?_ (fun _ => ?_))
set_option maxHeartbeats 8000000 in
set_option maxRecDepth 100000 in
theorem spec_ruWhole.calls (k : Nat) (A0 : Option Addr) (c0 : Nat) (l0 : List Int) (r : Bool) (w : World) (hr0 : Kd.C (Kd.int .i64) w A0 l0.length l0) (hc0 : l0.length ≤ c0) (h : spec_ruWhole.f k l0 = some r) :
  Calls Try.prog 66 #[.slice A0 l0.length c0] w fun e w' => e = .returned (.bool r) ∧ Below w.heap.size w w' := by
 have HR0 := Aside0.mk hr0
 have HC0 := Aside0.mk hc0
 clear hr0 hc0
 have HB := Aside0.mk (Below.refl w.heap.size w)
 have H := h
 unfold spec_ruWhole.f at H
 clear h
 replace H := Option.bind_eq_some_iff.mp H
 obtain ⟨t260, A20, H⟩ := H
 replace H : (spec_ruWhole.l0 k t260 (t260.length : Int) 0) = some r := H
 have A2 := Aside0.mk A20
 clear A20
 have H' := Aside0.mk H
 clear H
 go_enter Try.func66, Try.ntmps66
 go_wp2_with (first | ((with_reducible refine gate_callee (f := 61) rfl ?_); refine goesA (some 6) Try.func61 #[.slice A0 l0.length c0] ?_; (with_reducible refine (spec_ruTimes.calls k _ _ l0 t260 _ ?side1 ?side2 A2.out).mono ?_); (case side1 => repeat (first | exact HR0.out | (with_reducible refine Kd.C_alloc ?_ _) | (with_reducible refine Kd.C_drewN ?_ _) | (with_reducible refine Kd.C_drew ?_))); (case side2 => exact HC0.out); rintro e w3 ⟨v261, rfl, ho0, hb⟩; refine ⟨_, rfl, ?_⟩; have HO262 := lowR ho0 HB; replace HB := upB HB hb; (try clear hb); (try clear hb2); (try clear hk); (try clear hi); (try clear ho0); obtain ⟨Ao4, co4, eo4⟩ := Kd.R_slice HO262.out; subst eo4))
 go_loopg [8] k (fun kq v8 w' => ∃ (x8_1 : Int), v8 = .int .i64 x8_1 ∧ Aside0 (spec_ruWhole.l0 kq t260 (t260.length : Int) x8_1 = some r) ∧ Aside0 (kq ≤ k) ∧ Aside0 (Kd.R (Kd.int .i64) 3 w' w.heap.size (fun _ => True) (.slice Ao4 t260.length co4) t260) ∧ Aside0 (Below w.heap.size w w'))
 case atStart => exact ⟨(0), eqd, H', ⟨Nat.le_refl _⟩, ⟨atR HO262⟩, ⟨atB HB⟩⟩
 case round =>
  clear H'
  try clear p2
  obtain ⟨x8_1, rfl, HA, HK1, HO_6, HB⟩ := hrel
  cases gk with
  | zero => exact absurd HA.out (by simp [spec_ruWhole.l0])
  | succ k1 =>
   have H := HA.out
   clear HA
   simp only [spec_ruWhole.l0] at H
   by_cases c5 : x8_1 < (t260.length : Int)
   ·rw [if_pos c5] at H
    have c5b0 : decide (x8_1 < (t260.length : Int)) = true := decide_eq_true c5
    clear c5
    by_cases c6 : 0 ≤ x8_1
    ·rw [if_pos c6] at H
     have c6b0 : decide (0 ≤ x8_1) = true := decide_eq_true c6
     clear c6
     by_cases c7 : x8_1 < (t260.length : Int)
     ·rw [if_pos c7] at H
      have c7b0 : decide (x8_1 < (t260.length : Int)) = true := decide_eq_true c7
      clear c7
      by_cases c8 : x8_1 > 0
      ·rw [if_pos c8] at H
       have c8b0 : decide (0 < x8_1) = true := decide_eq_true c8
       clear c8
       by_cases c9 : (rd t260 x8_1) = 0
       ·rw [if_pos c9] at H
        have c9b0 : ((rd t260 x8_1) == 0) = true := beq_iff_eq.mpr c9
        have c9b1 : ((rd t260 x8_1) != 0) = false := bne_eq_false_iff_eq.mpr c9
        clear c9
        obtain rfl := Option.some.inj H
        have p263 : 0 ≤ (x8_1 : Int) := ofd
        have q263 : x8_1 < (t260.length : Int) := ofd
        obtain ⟨ad263, e263, hx263_0⟩ := Kd.at_int (Kd.R_reads' HO_6.out).2.2 x8_1 p263 q263
        cases e263
        replace p263 := eq_true p263
        replace q263 := eq_true q263
        go_wp2
        go_ret
        exact ⟨eqr, atB HB⟩
       ·rw [if_neg c9] at H
        have c9b0 : ((rd t260 x8_1) == 0) = false := beq_eq_false_iff_ne.mpr c9
        have c9b1 : ((rd t260 x8_1) != 0) = true := bne_iff_ne.mpr c9
        have H' := Aside0.mk H
        clear H
        have p263 : 0 ≤ (x8_1 : Int) := ofd
        have q263 : x8_1 < (t260.length : Int) := ofd
        obtain ⟨ad263, e263, hx263_0⟩ := Kd.at_int (Kd.R_reads' HO_6.out).2.2 x8_1 p263 q263
        cases e263
        replace p263 := eq_true p263
        replace q263 := eq_true q263
        go_wp2
        go_roundg k1
        case measure => have := HK1.out; omega
        case rel => exact ⟨(wrap64 (x8_1 + 1)), eqd, H', ⟨by have := HK1.out; omega⟩, ⟨atR HO_6⟩, ⟨atB HB⟩⟩
      ·rw [if_neg c8] at H
       have c8b0 : decide (0 < x8_1) = false := decide_eq_false c8
       clear c8
       have H' := Aside0.mk H
       clear H
       have p263 : 0 ≤ (x8_1 : Int) := ofd
       have q263 : x8_1 < (t260.length : Int) := ofd
       obtain ⟨ad263, e263, hx263_0⟩ := Kd.at_int (Kd.R_reads' HO_6.out).2.2 x8_1 p263 q263
       cases e263
       replace p263 := eq_true p263
       replace q263 := eq_true q263
       go_wp2
       go_roundg k1
       case measure => have := HK1.out; omega
       case rel => exact ⟨(wrap64 (x8_1 + 1)), eqd, H', ⟨by have := HK1.out; omega⟩, ⟨atR HO_6⟩, ⟨atB HB⟩⟩
     ·rw [if_neg c7] at H
      exact absurd H (by simp)
    ·rw [if_neg c6] at H
     exact absurd H (by simp)
   ·rw [if_neg c5] at H
    have c5b0 : decide (x8_1 < (t260.length : Int)) = false := decide_eq_false c5
    clear c5
    obtain rfl := Option.some.inj H
    go_wp2
    go_ret
    exact ⟨eqr, atB HB⟩

noncomputable def spec_ruWhole.L0 (x6 : List Int) (x7 : Int) (x8 : Int) : Option (Bool) := lim fun k => spec_ruWhole.l0 k x6 x7 x8
theorem spec_ruWhole.L0_lim (x6 : List Int) (x7 : Int) (x8 : Int) : Lim (fun k => spec_ruWhole.l0 k x6 x7 x8) (spec_ruWhole.L0 x6 x7 x8) := Lim.of fun k => (spec_ruWhole.mono_l k) x6 x7 x8
noncomputable def spec_ruWhole.F (l0 : List Int) : Option (Bool) := lim fun k => spec_ruWhole.f k l0
theorem spec_ruWhole.F_lim (l0 : List Int) : Lim (fun k => spec_ruWhole.f k l0) (spec_ruWhole.F l0) := Lim.of fun k => spec_ruWhole.mono l0 k
theorem spec_ruWhole.L0_eq (x6 : List Int) (x7 : Int) (x8 : Int) : spec_ruWhole.L0 x6 x7 x8 = (if x8 < x7 then (if 0 ≤ x8 then (if x8 < (x6.length : Int) then (if x8 > 0 then (if (rd x6 x8) = 0 then (some false) else (spec_ruWhole.L0 x6 x7 (wrap64 (x8 + 1)))) else (spec_ruWhole.L0 x6 x7 (wrap64 (x8 + 1)))) else (none)) else (none)) else (some true)) :=
 Lim.step (f := fun k => spec_ruWhole.l0 (k + 1) x6 x7 x8) (spec_ruWhole.L0_lim x6 x7 x8) (fun _ => rfl) (by
  simp only [spec_ruWhole.l0]
  repeat' (first | (with_reducible first | exact Lim.const _ | exact spec_ruWhole.L0_lim _ _ _ | refine Lim.ite ?_ ?_ | refine Lim.bind ?_ (fun _ => ?_))))
theorem spec_ruWhole.F_eq (l0 : List Int) : spec_ruWhole.F l0 = ((spec_ruTimes.F l0).bind fun t260 => (spec_ruWhole.L0 t260 (t260.length : Int) 0)) :=
 Lim.unique (spec_ruWhole.F_lim l0) (by
  unfold spec_ruWhole.f
  repeat' (first | (with_reducible first | exact Lim.const _ | exact spec_ruTimes.F_lim _ | exact spec_ruWhole.L0_lim _ _ _ | refine Lim.ite ?_ ?_ | refine Lim.bind ?_ (fun _ => ?_))))

end Go.Proofs.Ytofjndbpndpjjaa.Fn
namespace Go.Proofs.Ytofjndbpndpjjaa.Fn
open Go.RowKit Go.Proofs.YtofjndbpndpjjaaW.PrintWords Go.Proofs.YtofjndbpndpjjaaW.PrintLast Go.Proofs.YtofjndbpndpjjaaW.PrintMore
attribute [local go_sem] max2_int min2_int max_two min_two max_three min_three max_four min_four   -- for this text's walks alone
set_option linter.unusedVariables false
set_option linter.unusedSimpArgs false

/-! ### spec_IsWhole: function 16 -/
def spec_IsWhole.f (k : Nat) (l0 : List Int) : Option (Bool × Bool) := (spec_ruGood.f k l0).bind fun t264 => (if t264 = true then ((spec_ruWhole.f k l0).bind fun t265 => (some (t265, true))) else (some (false, false)))
theorem spec_IsWhole.mono : ∀ a0 k, LeO (spec_IsWhole.f k a0) (spec_IsWhole.f (k + 1) a0) := by
 intro a0 k
 unfold spec_IsWhole.f
 repeat' (first | (with_reducible first | exact spec_ruGood.mono _ _ | exact spec_ruWhole.mono _ _ | exact LeO.refl _ | exact LeO.none _ | refine LeO.ite ?_ ?_ | refine LeO.bind ?_ (fun _ => ?_)) | exact spec_ruGood.mono _ _ | exact spec_ruWhole.mono _ _ | exact LeO.none _ | refine LeO.ite ?_ ?_ | refine LeO.bind ?_ (fun _ => ?_))
set_option maxHeartbeats 8000000 in
set_option maxRecDepth 100000 in
theorem spec_IsWhole.calls (k : Nat) (A0 : Option Addr) (c0 : Nat) (l0 : List Int) (r1 : Bool) (r2 : Bool) (w : World) (hr0 : Kd.C (Kd.int .i64) w A0 l0.length l0) (hc0 : l0.length ≤ c0) (h : spec_IsWhole.f k l0 = some (r1, r2)) :
  Calls Try.prog 16 #[.slice A0 l0.length c0] w fun e w' => e = .returned (.tuple #[.bool r1, .bool r2]) ∧ Below w.heap.size w w' := by
 have HR0 := Aside0.mk hr0
 have HC0 := Aside0.mk hc0
 clear hr0 hc0
 have HB := Aside0.mk (Below.refl w.heap.size w)
 have H := h
 unfold spec_IsWhole.f at H
 clear h
 replace H := Option.bind_eq_some_iff.mp H
 obtain ⟨t264, A20, H⟩ := H
 replace H : (if t264 = true then ((spec_ruWhole.f k l0).bind fun t265 => (some (t265, true))) else (some (false, false))) = some (r1, r2) := H
 have A2 := Aside0.mk A20
 clear A20
 by_cases c3 : t264 = true
 ·subst c3
  have H1 : ((spec_ruWhole.f k l0).bind fun t265 => (some (t265, true))) = some (r1, r2) := by rw [if_pos rfl] at H; exact H
  clear H
  have H := H1
  clear H1
  replace H := Option.bind_eq_some_iff.mp H
  obtain ⟨t265, A40, H⟩ := H
  replace H : (some (t265, true)) = some (r1, r2) := H
  have A4 := Aside0.mk A40
  clear A40
  simp only [Option.some.injEq, Prod.mk.injEq] at H
  obtain ⟨rfl, rfl⟩ := H
  go_enter Try.func16, Try.ntmps16
  go_wp2_with (first | ((with_reducible refine gate_callee (f := 60) rfl ?_); refine goesA (some 5) Try.func60 #[.slice A0 l0.length c0] ?_; (with_reducible refine (spec_ruGood.calls k _ _ l0 true _ ?side1 ?side2 A2.out).mono ?_); (case side1 => repeat (first | exact HR0.out | (with_reducible refine Kd.C_alloc ?_ _) | (with_reducible refine Kd.C_drewN ?_ _) | (with_reducible refine Kd.C_drew ?_))); (case side2 => exact HC0.out); rintro e w' ⟨rfl, ⟨nd, rfl⟩⟩; refine ⟨_, rfl, ?_⟩) | ((with_reducible refine gate_callee (f := 66) rfl ?_); refine goesA (some 8) Try.func66 #[.slice A0 l0.length c0] ?_; (with_reducible refine (spec_ruWhole.calls k _ _ l0 t265 _ ?side1 ?side2 A4.out).mono ?_); (case side1 => repeat (first | exact HR0.out | (with_reducible refine Kd.C_alloc ?_ _) | (with_reducible refine Kd.C_drewN ?_ _) | (with_reducible refine Kd.C_drew ?_))); (case side2 => exact HC0.out); rintro e w5 ⟨rfl, hb⟩; refine ⟨_, rfl, ?_⟩; replace HB := upB HB hb; (try clear hb); (try clear hb2); (try clear hk); (try clear hi)))
  go_ret2
  exact ⟨eqr, atB HB⟩
 ·replace c3 := Bool.eq_false_iff.mpr c3
  subst c3
  have H1 : (some (false, false)) = some (r1, r2) := by rw [if_neg (show ¬ (false = true) by decide)] at H; exact H
  clear H
  have H := H1
  clear H1
  simp only [Option.some.injEq, Prod.mk.injEq] at H
  obtain ⟨rfl, rfl⟩ := H
  go_enter Try.func16, Try.ntmps16
  go_wp2_with (first | ((with_reducible refine gate_callee (f := 60) rfl ?_); refine goesA (some 5) Try.func60 #[.slice A0 l0.length c0] ?_; (with_reducible refine (spec_ruGood.calls k _ _ l0 false _ ?side1 ?side2 A2.out).mono ?_); (case side1 => repeat (first | exact HR0.out | (with_reducible refine Kd.C_alloc ?_ _) | (with_reducible refine Kd.C_drewN ?_ _) | (with_reducible refine Kd.C_drew ?_))); (case side2 => exact HC0.out); rintro e w' ⟨rfl, ⟨nd, rfl⟩⟩; refine ⟨_, rfl, ?_⟩))
  go_ret2
  exact ⟨eqr, atB HB⟩

noncomputable def spec_IsWhole.F (l0 : List Int) : Option (Bool × Bool) := lim fun k => spec_IsWhole.f k l0
theorem spec_IsWhole.F_lim (l0 : List Int) : Lim (fun k => spec_IsWhole.f k l0) (spec_IsWhole.F l0) := Lim.of fun k => spec_IsWhole.mono l0 k
theorem spec_IsWhole.F_eq (l0 : List Int) : spec_IsWhole.F l0 = ((spec_ruGood.F l0).bind fun t264 => (if t264 = true then ((spec_ruWhole.F l0).bind fun t265 => (some (t265, true))) else (some (false, false)))) :=
 Lim.unique (spec_IsWhole.F_lim l0) (by
  unfold spec_IsWhole.f
  repeat' (first | (with_reducible first | exact Lim.const _ | exact spec_ruGood.F_lim _ | exact spec_ruWhole.F_lim _ | refine Lim.ite ?_ ?_ | refine Lim.bind ?_ (fun _ => ?_))))

end Go.Proofs.Ytofjndbpndpjjaa.Fn
namespace Go.Proofs.Ytofjndbpndpjjaa.Fn
open Go.RowKit Go.Proofs.YtofjndbpndpjjaaW.PrintWords Go.Proofs.YtofjndbpndpjjaaW.PrintLast Go.Proofs.YtofjndbpndpjjaaW.PrintMore
attribute [local go_sem] max2_int min2_int max_two min_two max_three min_three max_four min_four   -- for this text's walks alone
set_option linter.unusedVariables false
set_option linter.unusedSimpArgs false

/-! ### spec_BackRuler: function 18 -/
def spec_BackRuler.l0 : Nat → List Int → List Int → Int → Option (List Int × Bool)
 | 0, _, _, _ => none
 | k + 1, x0, x4, x5 => if x5 ≥ 0 then ((spec_ruLength.f x0).bind fun t273 => (if 0 ≤ x5 then (if x5 < (x0.length : Int) then (if x4.length < 17592186044416 then (spec_BackRuler.l0 k x0 (x4 ++ [wrap64 (t273 - (rd x0 x5))]) (wrap64 (x5 - 1))) else (none)) else (none)) else (none))) else (some (x4, true))
def spec_BackRuler.f (k : Nat) (l0 : List Int) : Option (List Int × Bool) := (spec_ruGood.f k l0).bind fun t272 => (if t272 = true then (spec_BackRuler.l0 k l0 ([] : List Int) (wrap64 ((l0.length : Int) - 1))) else (some (([] : List Int), false)))
theorem spec_BackRuler.mono_l : ∀ k, (∀ y0 y1 y2, LeO (spec_BackRuler.l0 k y0 y1 y2) (spec_BackRuler.l0 (k + 1) y0 y1 y2))
 | 0 => fun _ _ _ r h => by simp [spec_BackRuler.l0] at h
 | k + 1 => by
  have ih0 := spec_BackRuler.mono_l k
  ·intro y0 y1 y2
   unfold spec_BackRuler.l0
   repeat' (first | (with_reducible first | exact ih0 _ _ _ | exact LeO.refl _ | exact LeO.none _ | refine LeO.ite ?_ ?_ | refine LeO.bind ?_ (fun _ => ?_)) | exact ih0 _ _ _ | exact LeO.none _ | refine LeO.ite ?_ ?_ | refine LeO.bind ?_ (fun _ => ?_))
theorem spec_BackRuler.mono : ∀ a0 k, LeO (spec_BackRuler.f k a0) (spec_BackRuler.f (k + 1) a0) := by
 intro a0 k
 have ih0 := spec_BackRuler.mono_l k
 unfold spec_BackRuler.f
 repeat' (first | (with_reducible first | exact ih0 _ _ _ | exact spec_ruGood.mono _ _ | exact LeO.refl _ | exact LeO.none _ | refine LeO.ite ?_ ?_ | refine LeO.bind ?_ (fun _ => ?_)) | exact ih0 _ _ _ | exact spec_ruGood.mono _ _ | exact LeO.none _ | refine LeO.ite ?_ ?_ | refine LeO.bind ?_ (fun _ => ?_))
def spec_BackRuler.T7 : Bool × List (List Nat × List Nat) := (true, [([], []), ([], []), ([1], [1]), ([], []), ([], []), ([3, 4], [3, 4]), ([5], [5]), ([2, 6], [2, 6]), ([7], [7]), ([0, 8, 2], [0, 8]), ([9, 9, 0, 1, 2, 3, 4, 5, 6, 7, 8, 9], [0, 9])])
def spec_BackRuler.B7 : List Nat := [0, 0, 2, 0, 0, 24, 56, 126, 254, 511, 1023]
theorem spec_BackRuler.tab7 : rtab .any (opsOf Try.f18 7) = spec_BackRuler.T7 := by kernel_rfl
theorem spec_BackRuler.bits7 : waitsOk spec_BackRuler.T7.2 spec_BackRuler.B7 = true := by kernel_rfl
set_option maxHeartbeats 8000000 in
set_option maxRecDepth 100000 in
theorem spec_BackRuler.calls (k : Nat) (A0 : Option Addr) (c0 : Nat) (l0 : List Int) (r1 : List Int) (r2 : Bool) (w : World) (hr0 : Kd.C (Kd.int .i64) w A0 l0.length l0) (hc0 : l0.length ≤ c0) (h : spec_BackRuler.f k l0 = some (r1, r2)) :
  Calls Try.prog 18 #[.slice A0 l0.length c0] w fun e w' => ∃ v0_ : Value, e = .returned (.tuple #[v0_, .bool r2]) ∧ Kd.R (Kd.int .i64) 3 w' w.heap.size (fun _ => True) v0_ r1 ∧ Below w.heap.size w w' := by
 have HR0 := Aside0.mk hr0
 have HC0 := Aside0.mk hc0
 clear hr0 hc0
 have HB := Aside0.mk (Below.refl w.heap.size w)
 have H := h
 unfold spec_BackRuler.f at H
 clear h
 replace H := Option.bind_eq_some_iff.mp H
 obtain ⟨t272, A20, H⟩ := H
 replace H : (if t272 = true then (spec_BackRuler.l0 k l0 ([] : List Int) (wrap64 ((l0.length : Int) - 1))) else (some (([] : List Int), false))) = some (r1, r2) := H
 have A2 := Aside0.mk A20
 clear A20
 by_cases c3 : t272 = true
 ·subst c3
  have H1 : (spec_BackRuler.l0 k l0 ([] : List Int) (wrap64 ((l0.length : Int) - 1))) = some (r1, r2) := by rw [if_pos rfl] at H; exact H
  clear H
  have H := H1
  clear H1
  have H' := Aside0.mk H
  clear H
  go_enter Try.func18, Try.ntmps18
  go_wp2_with (first | ((with_reducible refine gate_callee (f := 60) rfl ?_); refine goesA (some 7) Try.func60 #[.slice A0 l0.length c0] ?_; (with_reducible refine (spec_ruGood.calls k _ _ l0 true _ ?side1 ?side2 A2.out).mono ?_); (case side1 => repeat (first | exact HR0.out | (with_reducible refine Kd.C_alloc ?_ _) | (with_reducible refine Kd.C_drewN ?_ _) | (with_reducible refine Kd.C_drew ?_))); (case side2 => exact HC0.out); rintro e w' ⟨rfl, ⟨nd, rfl⟩⟩; refine ⟨_, rfl, ?_⟩))
  go_loopg [4, 5] k (fun kq v4 v5 w' => ∃ (x4_1 : List Int) (x5_1 : Int), v5 = .int .i64 x5_1 ∧ Aside0 (spec_BackRuler.l0 kq l0 x4_1 x5_1 = some (r1, r2)) ∧ Aside0 (kq ≤ k) ∧ Aside0 (Kd.R (Kd.int .i64) 3 w' w.heap.size (fun _ => True) v4 x4_1) ∧ Aside0 (Below w.heap.size w w'))
  case atStart => exact ⟨(([] : List Int)), (wrap64 ((l0.length : Int) - 1)), eqd, H', ⟨Nat.le_refl _⟩, ⟨by first | exact Kd.R_nil _ _ _ _ _ | exact Kd.N_nil _ _ _ _ _ | exact Kd.V_nil _ _ _ _ _ | exact Kd.Q_nil _ _ _ _ _ | exact Kd.S_nil _ _ _ _ _⟩, ⟨atB HB⟩⟩
  case round =>
   clear H'
   try clear c1
   try clear p2
   try clear c3
   obtain ⟨x4_1, x5_1, rfl, HA, HK1, HO_4, HB⟩ := hrel
   cases gk with
   | zero => exact absurd HA.out (by simp [spec_BackRuler.l0])
   | succ k1 =>
    have H := HA.out
    clear HA
    simp only [spec_BackRuler.l0] at H
    by_cases c4 : x5_1 ≥ 0
    ·rw [if_pos c4] at H
     have c4b0 : decide (0 ≤ x5_1) = true := decide_eq_true c4
     clear c4
     replace H := Option.bind_eq_some_iff.mp H
     obtain ⟨t273, A50, H⟩ := H
     replace H : (if 0 ≤ x5_1 then (if x5_1 < (l0.length : Int) then (if x4_1.length < 17592186044416 then (spec_BackRuler.l0 k1 l0 (x4_1 ++ [wrap64 (t273 - (rd l0 x5_1))]) (wrap64 (x5_1 - 1))) else (none)) else (none)) else (none)) = some (r1, r2) := H
     have A5 := Aside0.mk A50
     clear A50
     by_cases c6 : 0 ≤ x5_1
     ·rw [if_pos c6] at H
      have c6b0 : decide (0 ≤ x5_1) = true := decide_eq_true c6
      clear c6
      by_cases c7 : x5_1 < (l0.length : Int)
      ·rw [if_pos c7] at H
       have c7b0 : decide (x5_1 < (l0.length : Int)) = true := decide_eq_true c7
       clear c7
       by_cases c8 : x4_1.length < 17592186044416
       ·rw [if_pos c8] at H
        have LMc8 := Aside0.mk c8
        clear c8
        obtain ⟨y275, hy275⟩ : ∃ y_ : List Int, y_ = (x4_1 ++ [wrap64 (t273 - (rd l0 x5_1))]) := ⟨_, rfl⟩
        replace H : (spec_BackRuler.l0 k1 l0 y275 (wrap64 (x5_1 - 1))) = some (r1, r2) := by first | (rw [hy275]; with_reducible exact H) | (have H2_ := (Option.bind_some _ _).symm.trans H; rw [hy275]; with_reducible exact H2_) | (have H2_ := (Option.bind_some _ _).symm.trans H; with_reducible exact H2_) | with_reducible exact H | (rw [hy275]; exact H) | exact H
        have Ny275 := Aside0.mk hy275
        clear hy275
        have H' := Aside0.mk H
        clear H
        try go_wp2
        have n0_ := Aside0.mk (Kd.R_drew HO_4.out)
        have n1_ := Aside0.mk (below_drew1 HB.out)
        clear HO_4
        clear HB
        have HO_4 := n0_
        have HB := n1_
        clear n0_ n1_
        have p274 : 0 ≤ (x5_1 : Int) := ofd
        have q274 : x5_1 < (l0.length : Int) := ofd
        obtain ⟨ad274, e274, hx274_0⟩ := Kd.at_int HR0.out x5_1 p274 q274
        have hw274_0 := hx274_0
        cases e274
        (try replace hx274_0 := (HB.out.cell (World.block_lt_of_cell? w _ hx274_0)).trans hx274_0)
        replace p274 := eq_true p274
        replace q274 := eq_true q274
        refine start_ (n := 11) (S := fun w' => w'.cell? (ad274.add (x5_1).toNat) = some (.int .i64 (rd l0 x5_1))) (ds := []) #[false, false, false, false, false, false, false, false, false, false, false] (by kernel_rfl) rfl rfl (((HB.out.cell (World.block_lt_of_cell? w _ hw274_0)).trans hw274_0)) (fun hHeld => ?_); refine with_tabW spec_BackRuler.tab7 spec_BackRuler.bits7 (fun HT_ HW_ => ?_)
        generalize wr.drew = w9 at HO_4 HB hx274_0 hHeld ⊢
        refine pure_ (i := 0) (N := some 16) (v := ?_) (a' := ?_) #[true, false, false, false, false, false, false, false, false, false, false] rfl rfl (any_of HT_.out (by kernel_rfl)) (fun _ _ _ h => h) (Or.inl ⟨by rfl, ?_⟩) ?_ ?_
        rotate_left
        ·intro w'
         go_simp
         with_reducible rfl
        rotate_left
        ·simp only [Act.put, List.setIfInBounds_toArray, List.set_cons_zero, List.set_cons_succ, i64_w, i32_w]
         rfl
        refine pure_ (i := 1) (N := some 17) (v := ?_) (a' := ?_) #[true, true, false, false, false, false, false, false, false, false, false] rfl rfl (any_of HT_.out (by kernel_rfl)) (fun _ _ _ h => h) (Or.inl ⟨by rfl, ?_⟩) ?_ ?_
        rotate_left
        ·intro w'
         go_simp
         with_reducible rfl
        rotate_left
        ·simp only [Act.put, List.setIfInBounds_toArray, List.set_cons_zero, List.set_cons_succ, i64_w, i32_w]
         rfl
        refine pure_ (i := 3) (N := some 19) (v := ?_) (a' := ?_) #[true, true, false, true, false, false, false, false, false, false, false] rfl rfl (any_of HT_.out (by kernel_rfl)) (fun _ _ _ h => h) (Or.inl ⟨by rfl, ?_⟩) ?_ ?_
        rotate_left
        ·intro w'
         go_simp
         with_reducible rfl
        rotate_left
        ·simp only [Act.put, List.setIfInBounds_toArray, List.set_cons_zero, List.set_cons_succ, i64_w, i32_w]
         rfl
        refine pure_ (i := 4) (N := some 20) (v := ?_) (a' := ?_) #[true, true, false, true, true, false, false, false, false, false, false] rfl rfl (any_of HT_.out (by kernel_rfl)) (fun _ _ _ h => h) (Or.inl ⟨by rfl, ?_⟩) ?_ ?_
        rotate_left
        ·intro w'
         go_simp
         with_reducible rfl
        rotate_left
        ·simp only [Act.put, List.setIfInBounds_toArray, List.set_cons_zero, List.set_cons_succ, i64_w, i32_w]
         rfl
        refine pure_ (i := 5) (N := some 21) (v := ?_) (a' := ?_) #[true, true, false, true, true, true, false, false, false, false, false] rfl rfl (any_of HT_.out (by kernel_rfl)) (fun _ _ _ h => h) (Or.inl ⟨by rfl, ?_⟩) ?_ ?_
        rotate_left
        ·intro w'
         go_simp
         with_reducible rfl
        rotate_left
        ·simp only [Act.put, List.setIfInBounds_toArray, List.set_cons_zero, List.set_cons_succ, i64_w, i32_w]
         rfl
        refine take_ (i := 6) (N := some 22) (v := ?_) (a' := ?_) #[true, true, false, true, true, true, true, false, false, false, false] rfl rfl (take_ofW HT_.out HW_.out (by kernel_rfl)) (fun _ _ _ h => h) (Or.inl ⟨by rfl, ?_⟩) hHeld ?_ ?_
        rotate_left
        ·intro w' s0
         go_simp
         with_reducible rfl
        rotate_left
        ·simp only [Act.put, List.setIfInBounds_toArray, List.set_cons_zero, List.set_cons_succ, i64_w, i32_w]
         rfl
        refine one_ (i := 2) (N := some 18) #[true, true, true, true, true, true, true, false, false, false, false] rfl rfl (one_of HT_.out (by kernel_rfl)) (by decide) (fun K hK => ?_)
        refine goes_ Try.func62 (by kernel_rfl) rfl #[.slice (some ad274) l0.length c0] (by rfl) rfl rfl (by (try simp only [List.map_toArray, List.map_cons, List.map_nil]); first | done | rfl | (simp only [List.length_drop, List.length_take]; rfl)) ?_
        with_reducible refine (spec_ruLength.calls _ _ l0 t273 _ ?side1 ?side2 A5.out).mono ?_
        (case side1 => repeat (first | exact (Kd.C_below HR0.out HB.out) | (with_reducible refine Kd.C_alloc ?_ _) | (with_reducible refine Kd.C_drewN ?_ _) | (with_reducible refine Kd.C_drew ?_)))
        (case side2 => exact HC0.out)
        rintro e w' ⟨rfl, ⟨nd, rfl⟩⟩
        refine ⟨_, rfl, ?_⟩
        refine hK.out _ _ (((HB.out.cell (World.block_lt_of_cell? w _ hw274_0)).trans hw274_0)) (fun hHeld => ?_)
        clear hK K
        refine norm_ (a' := ?_) ?_ ?_
        rotate_left
        ·show Act.put _ (some 18) _ = _
         simp only [Act.put, List.setIfInBounds_toArray, List.set_cons_zero, List.set_cons_succ, i64_w, i32_w]
         rfl
        refine pure_ (i := 7) (N := some 23) (v := ?_) (a' := ?_) #[true, true, true, true, true, true, true, true, false, false, false] rfl rfl (any_of HT_.out (by kernel_rfl)) (fun _ _ _ h => h) (Or.inl ⟨by rfl, ?_⟩) ?_ ?_
        rotate_left
        ·intro w'
         go_simp
         with_reducible rfl
        rotate_left
        ·simp only [Act.put, List.setIfInBounds_toArray, List.set_cons_zero, List.set_cons_succ, i64_w, i32_w]
         rfl
        refine one_ (i := 8) (N := some 24) #[true, true, true, true, true, true, true, true, true, false, false] rfl rfl (one_of HT_.out (by kernel_rfl)) (by decide) (fun K hK => ?_)
        refine value_ (w1 := ?_) (v := ?_) (by rfl) rfl ?_ ?_
        rotate_left 2
        ·go_simp
         constructor
         ·rfl
         ·rfl
        refine hK.out _ _ ((World.cell?_alloc_lt _ _ _ (World.block_lt_of_cell? _ _ (((HB.out.cell (World.block_lt_of_cell? w _ hw274_0)).trans hw274_0)))).trans (((HB.out.cell (World.block_lt_of_cell? w _ hw274_0)).trans hw274_0))) (fun hHeld => ?_)
        clear hK K
        refine norm_ (a' := ?_) ?_ ?_
        rotate_left
        ·show Act.put _ (some 24) _ = _
         simp only [Act.put, List.setIfInBounds_toArray, List.set_cons_zero, List.set_cons_succ, i64_w, i32_w]
         rfl
        refine one_ (i := 9) (N := some 25) #[true, true, true, true, true, true, true, true, true, true, false] rfl rfl (one_of HT_.out (by kernel_rfl)) (by decide) (fun K hK => ?_)
        refine Kd.R_append_step (Kd.int .i64) (w0 := w) w.heap.size (by rfl) (.tmp 16) (.tmp 24) 24 3 (.int .i64 0) 8 rfl Try.underlying24 info3 rfl (by decide) (by omega) u4 x4_1 (wrap64 (t273 - (rd l0 x5_1))) [.int .i64 (wrap64 (t273 - (rd l0 x5_1)))] (fun _ => True) (fun _ => False) rfl rfl ?aP (fun _ hk => hk.elim) ?aF ?aO ?aB ?aS ?aL ?_
        (case aP => exact rfl)
        (case aB => exact (atB HB))
        (case aF => exact (fun _ _ => trivial))
        (case aO => exact (atR HO_4))
        (case aS => exact (szB HB))
        (case aL => have := LMc8.out; omega)
        intro v276 w10 ho hb hg hat
        rw [← Ny275.out] at ho
        have n0_ := Aside0.mk (hb)
        have n1_ := Aside0.mk (ho)
        clear HB
        clear HO_4
        have HB := n0_
        have HO277 := n1_
        clear n0_ n1_
        clear ho hb hg hat
        refine hK.out _ _ (((HB.out.cell (World.block_lt_of_cell? w _ hw274_0)).trans hw274_0)) (fun hHeld => ?_)
        clear hK K
        refine norm_ (a' := ?_) ?_ ?_
        rotate_left
        ·show Act.put _ (some 25) _ = _
         simp only [Act.put, List.setIfInBounds_toArray, List.set_cons_zero, List.set_cons_succ, i64_w, i32_w]
         rfl
        refine pure_ (i := 10) (N := some 4) (v := ?_) (a' := ?_) #[true, true, true, true, true, true, true, true, true, true, true] rfl rfl (any_of HT_.out (by kernel_rfl)) (fun _ _ _ h => h) (Or.inl ⟨by rfl, ?_⟩) ?_ ?_
        rotate_left
        ·intro w'
         go_simp
         with_reducible rfl
        rotate_left
        ·simp only [Act.put, List.setIfInBounds_toArray, List.set_cons_zero, List.set_cons_succ, i64_w, i32_w]
         rfl
        refine done_ (done_of HT_.out (by kernel_rfl)) ?_
        try go_wp2
        go_roundg k1
        case measure => have := HK1.out; omega
        case rel => exact ⟨(y275), (wrap64 (x5_1 - 1)), eqd, H', ⟨by have := HK1.out; omega⟩, ⟨atR HO277⟩, ⟨atB HB⟩⟩
       ·rw [if_neg c8] at H
        exact absurd H (by simp)
      ·rw [if_neg c7] at H
       exact absurd H (by simp)
     ·rw [if_neg c6] at H
      exact absurd H (by simp)
    ·rw [if_neg c4] at H
     have c4b0 : decide (0 ≤ x5_1) = false := decide_eq_false c4
     clear c4
     simp only [Option.some.injEq, Prod.mk.injEq] at H
     obtain ⟨rfl, rfl⟩ := H
     go_wp2
     go_ret2
     exact ⟨_, eqr, atR HO_4, atB HB⟩
 ·replace c3 := Bool.eq_false_iff.mpr c3
  subst c3
  have H1 : (some (([] : List Int), false)) = some (r1, r2) := by rw [if_neg (show ¬ (false = true) by decide)] at H; exact H
  clear H
  have H := H1
  clear H1
  simp only [Option.some.injEq, Prod.mk.injEq] at H
  obtain ⟨rfl, rfl⟩ := H
  go_enter Try.func18, Try.ntmps18
  go_wp2_with (first | ((with_reducible refine gate_callee (f := 60) rfl ?_); refine goesA (some 7) Try.func60 #[.slice A0 l0.length c0] ?_; (with_reducible refine (spec_ruGood.calls k _ _ l0 false _ ?side1 ?side2 A2.out).mono ?_); (case side1 => repeat (first | exact HR0.out | (with_reducible refine Kd.C_alloc ?_ _) | (with_reducible refine Kd.C_drewN ?_ _) | (with_reducible refine Kd.C_drew ?_))); (case side2 => exact HC0.out); rintro e w' ⟨rfl, ⟨nd, rfl⟩⟩; refine ⟨_, rfl, ?_⟩))
  go_ret2
  exact ⟨_, eqr, by first | exact Kd.R_nil _ _ _ _ _ | exact Kd.N_nil _ _ _ _ _ | exact Kd.V_nil _ _ _ _ _ | exact Kd.Q_nil _ _ _ _ _ | exact Kd.S_nil _ _ _ _ _, atB HB⟩

noncomputable def spec_BackRuler.L0 (x0 : List Int) (x4 : List Int) (x5 : Int) : Option (List Int × Bool) := lim fun k => spec_BackRuler.l0 k x0 x4 x5
theorem spec_BackRuler.L0_lim (x0 : List Int) (x4 : List Int) (x5 : Int) : Lim (fun k => spec_BackRuler.l0 k x0 x4 x5) (spec_BackRuler.L0 x0 x4 x5) := Lim.of fun k => (spec_BackRuler.mono_l k) x0 x4 x5
noncomputable def spec_BackRuler.F (l0 : List Int) : Option (List Int × Bool) := lim fun k => spec_BackRuler.f k l0
theorem spec_BackRuler.F_lim (l0 : List Int) : Lim (fun k => spec_BackRuler.f k l0) (spec_BackRuler.F l0) := Lim.of fun k => spec_BackRuler.mono l0 k
theorem spec_BackRuler.L0_eq (x0 : List Int) (x4 : List Int) (x5 : Int) : spec_BackRuler.L0 x0 x4 x5 = (if x5 ≥ 0 then ((spec_ruLength.f x0).bind fun t273 => (if 0 ≤ x5 then (if x5 < (x0.length : Int) then (if x4.length < 17592186044416 then (spec_BackRuler.L0 x0 (x4 ++ [wrap64 (t273 - (rd x0 x5))]) (wrap64 (x5 - 1))) else (none)) else (none)) else (none))) else (some (x4, true))) :=
 Lim.step (f := fun k => spec_BackRuler.l0 (k + 1) x0 x4 x5) (spec_BackRuler.L0_lim x0 x4 x5) (fun _ => rfl) (by
  simp only [spec_BackRuler.l0]
  repeat' (first | (with_reducible first | exact Lim.const _ | exact spec_BackRuler.L0_lim _ _ _ | refine Lim.ite ?_ ?_ | refine Lim.bind ?_ (fun _ => ?_))))
theorem spec_BackRuler.F_eq (l0 : List Int) : spec_BackRuler.F l0 = ((spec_ruGood.F l0).bind fun t272 => (if t272 = true then (spec_BackRuler.L0 l0 ([] : List Int) (wrap64 ((l0.length : Int) - 1))) else (some (([] : List Int), false)))) :=
 Lim.unique (spec_BackRuler.F_lim l0) (by
  unfold spec_BackRuler.f
  repeat' (first | (with_reducible first | exact Lim.const _ | exact spec_BackRuler.L0_lim _ _ _ | exact spec_ruGood.F_lim _ | refine Lim.ite ?_ ?_ | refine Lim.bind ?_ (fun _ => ?_))))

end Go.Proofs.Ytofjndbpndpjjaa.Fn
