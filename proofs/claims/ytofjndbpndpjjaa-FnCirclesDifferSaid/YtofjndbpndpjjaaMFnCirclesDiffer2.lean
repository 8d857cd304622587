/- The machine's side and plain lemmas for FnCirclesDiffer: texts of this session, merged by its program (part 2). -/
import Derived.Test.YtofjndbpndpjjaaMFnCirclesDiffer0
import Derived.Test.YtofjndbpndpjjaaMFnCirclesDiffer1
namespace Go.Proofs.Ytofjndbpndpjjaa.Fn
open Go.RowKit Go.Proofs.YtofjndbpndpjjaaW.PrintWords Go.Proofs.YtofjndbpndpjjaaW.PrintLast Go.Proofs.YtofjndbpndpjjaaW.PrintMore
attribute [local go_sem] max2_int min2_int max_two min_two max_three min_three max_four min_four   -- for this text's walks alone
set_option linter.unusedVariables false
set_option linter.unusedSimpArgs false

/-! ### spec_l1Same: function 89 -/
def spec_l1Same.l0 : Nat → List Int → List Int → Int → Int → Option (Bool)
 | 0, _, _, _, _ => none
 | k + 1, x0, x1, x12, x13 => if x13 < x12 then (if 0 ≤ x13 then (if x13 < (x0.length : Int) then (if x13 < (x1.length : Int) then (if (rd x0 x13) = (rd x1 x13) then (spec_l1Same.l0 k x0 x1 x12 (wrap64 (x13 + 1))) else (some false)) else (none)) else (none)) else (none)) else (some true)
def spec_l1Same.f (k : Nat) (l0 : List Int) (l1 : List Int) : Option (Bool) := if (l0.length : Int) = (l1.length : Int) then (spec_l1Same.l0 k l0 l1 (l0.length : Int) 0) else (some false)
theorem spec_l1Same.mono_l : ∀ k, (∀ y0 y1 y2 y3, LeO (spec_l1Same.l0 k y0 y1 y2 y3) (spec_l1Same.l0 (k + 1) y0 y1 y2 y3))
 | 0 => fun _ _ _ _ r h => by simp [spec_l1Same.l0] at h
 | k + 1 => by
  have ih0 := spec_l1Same.mono_l k
  ·intro y0 y1 y2 y3
   unfold spec_l1Same.l0
   repeat' (first | (with_reducible first | exact ih0 _ _ _ _ | exact LeO.refl _ | exact LeO.none _ | refine LeO.ite ?_ ?_ | refine LeO.bind ?_ (fun _ => ?_)) | exact ih0 _ _ _ _ | exact LeO.none _ | refine LeO.ite ?_ ?_ | refine LeO.bind ?_ (fun _ => ?_))
theorem spec_l1Same.mono : ∀ a0 a1 k, LeO (spec_l1Same.f k a0 a1) (spec_l1Same.f (k + 1) a0 a1) := by
 intro a0 a1 k
 have ih0 := spec_l1Same.mono_l k
 unfold spec_l1Same.f
 repeat' (first | (with_reducible first | exact ih0 _ _ _ _ | exact LeO.refl _ | exact LeO.none _ | refine LeO.ite ?_ ?_ | refine LeO.bind ?_ (fun _ => ?_)) | exact ih0 _ _ _ _ | exact LeO.none _ | refine LeO.ite ?_ ?_ | refine LeO.bind ?_ (fun _ => ?_))
set_option maxHeartbeats 8000000 in
set_option maxRecDepth 100000 in
theorem spec_l1Same.calls (k : Nat) (A0 : Option Addr) (c0 : Nat) (l0 : List Int) (A1 : Option Addr) (c1 : Nat) (l1 : List Int) (r : Bool) (w : World) (hr0 : Kd.C (Kd.int .i64) w A0 l0.length l0) (hc0 : l0.length ≤ c0) (hr1 : Kd.C (Kd.int .i64) w A1 l1.length l1) (hc1 : l1.length ≤ c1) (h : spec_l1Same.f k l0 l1 = some r) :
  Calls Try.prog 89 #[.slice A0 l0.length c0, .slice A1 l1.length c1] w fun e w' => e = .returned (.bool r) ∧ Drawn0 w w' := by
 have HR0 := Aside0.mk hr0
 have HC0 := Aside0.mk hc0
 clear hr0 hc0
 have HR1 := Aside0.mk hr1
 have HC1 := Aside0.mk hc1
 clear hr1 hc1
 have H := h
 unfold spec_l1Same.f at H
 clear h
 by_cases c3 : (l0.length : Int) = (l1.length : Int)
 ·rw [if_pos c3] at H
  have c3b0 : ((l0.length : Int) == (l1.length : Int)) = true := beq_iff_eq.mpr c3
  have c3b1 : ((l0.length : Int) != (l1.length : Int)) = false := bne_eq_false_iff_eq.mpr c3
  have c3b2 : (l0.length == l1.length) = true := by first | simpa using c3 | (simp at c3 ⊢; omega)
  clear c3
  have H' := Aside0.mk H
  clear H
  go_enter Try.func89, Try.ntmps89
  go_wp2
  repeat (go_quiet (fail); try go_wp2)
  go_loopg [13] k (fun kq v13 w' => ∃ (x13_1 : Int), v13 = .int .i64 x13_1 ∧ Aside0 (spec_l1Same.l0 kq l0 l1 (l0.length : Int) x13_1 = some r) ∧ Aside0 (kq ≤ k) ∧ Drawn0 w w')
  case atStart => exact ⟨(0), eqd, H', ⟨Nat.le_refl _⟩, by repeat (first | exact Drawn0.refl _ | apply Drawn0.step)⟩
  case round =>
   clear H'
   try clear c1
   try clear p2
   try clear c3
   try clear c3b0
   try clear c3b1
   try clear c3b2
   obtain ⟨x13_1, rfl, HA, HK1, ⟨m1, rfl⟩⟩ := hrel
   cases gk with
   | zero => exact absurd HA.out (by simp [spec_l1Same.l0])
   | succ k1 =>
    have H := HA.out
    clear HA
    simp only [spec_l1Same.l0] at H
    by_cases c4 : x13_1 < (l0.length : Int)
    ·rw [if_pos c4] at H
     have c4b0 : decide (x13_1 < (l0.length : Int)) = true := decide_eq_true c4
     clear c4
     by_cases c5 : 0 ≤ x13_1
     ·rw [if_pos c5] at H
      have c5b0 : decide (0 ≤ x13_1) = true := decide_eq_true c5
      clear c5
      by_cases c6 : x13_1 < (l0.length : Int)
      ·rw [if_pos c6] at H
       have c6b0 : decide (x13_1 < (l0.length : Int)) = true := decide_eq_true c6
       clear c6
       by_cases c7 : x13_1 < (l1.length : Int)
       ·rw [if_pos c7] at H
        have c7b0 : decide (x13_1 < (l1.length : Int)) = true := decide_eq_true c7
        clear c7
        by_cases c8 : (rd l0 x13_1) = (rd l1 x13_1)
        ·rw [if_pos c8] at H
         have c8b0 : ((rd l0 x13_1) == (rd l1 x13_1)) = true := beq_iff_eq.mpr c8
         have c8b1 : ((rd l0 x13_1) != (rd l1 x13_1)) = false := bne_eq_false_iff_eq.mpr c8
         clear c8
         have H' := Aside0.mk H
         clear H
         have p835 : 0 ≤ (x13_1 : Int) := ofd
         have q835 : x13_1 < (l0.length : Int) := ofd
         obtain ⟨ad835, e835, hx835_0⟩ := Kd.at_int HR0.out x13_1 p835 q835
         cases e835
         replace p835 := eq_true p835
         replace q835 := eq_true q835
         have p836 : 0 ≤ (x13_1 : Int) := ofd
         have q836 : x13_1 < (l1.length : Int) := ofd
         obtain ⟨ad836, e836, hx836_0⟩ := Kd.at_int HR1.out x13_1 p836 q836
         cases e836
         replace p836 := eq_true p836
         replace q836 := eq_true q836
         go_wp2
         repeat (go_quiet (fail); try go_wp2)
         go_roundg k1
         case measure => have := HK1.out; omega
         case rel => exact ⟨(wrap64 (x13_1 + 1)), eqd, H', ⟨by have := HK1.out; omega⟩, by repeat (first | exact Drawn0.refl _ | apply Drawn0.step)⟩
        ·rw [if_neg c8] at H
         have c8b0 : ((rd l0 x13_1) == (rd l1 x13_1)) = false := beq_eq_false_iff_ne.mpr c8
         have c8b1 : ((rd l0 x13_1) != (rd l1 x13_1)) = true := bne_iff_ne.mpr c8
         obtain rfl := Option.some.inj H
         have p835 : 0 ≤ (x13_1 : Int) := ofd
         have q835 : x13_1 < (l0.length : Int) := ofd
         obtain ⟨ad835, e835, hx835_0⟩ := Kd.at_int HR0.out x13_1 p835 q835
         cases e835
         replace p835 := eq_true p835
         replace q835 := eq_true q835
         have p836 : 0 ≤ (x13_1 : Int) := ofd
         have q836 : x13_1 < (l1.length : Int) := ofd
         obtain ⟨ad836, e836, hx836_0⟩ := Kd.at_int HR1.out x13_1 p836 q836
         cases e836
         replace p836 := eq_true p836
         replace q836 := eq_true q836
         go_wp2
         repeat (go_quiet (fail); try go_wp2)
         go_ret
         exact ⟨by first | rfl | (simp; done) | (simp [*]; done), by repeat (first | exact Drawn0.refl _ | apply Drawn0.step)⟩
       ·rw [if_neg c7] at H
        exact absurd H (by simp)
      ·rw [if_neg c6] at H
       exact absurd H (by simp)
     ·rw [if_neg c5] at H
      exact absurd H (by simp)
    ·rw [if_neg c4] at H
     have c4b0 : decide (x13_1 < (l0.length : Int)) = false := decide_eq_false c4
     clear c4
     obtain rfl := Option.some.inj H
     go_wp2
     repeat (go_quiet (fail); try go_wp2)
     go_ret
     exact ⟨by first | rfl | (simp; done) | (simp [*]; done), by repeat (first | exact Drawn0.refl _ | apply Drawn0.step)⟩
 ·rw [if_neg c3] at H
  have c3b0 : ((l0.length : Int) == (l1.length : Int)) = false := beq_eq_false_iff_ne.mpr c3
  have c3b1 : ((l0.length : Int) != (l1.length : Int)) = true := bne_iff_ne.mpr c3
  have c3b2 : (l0.length == l1.length) = false := by first | simpa using c3 | (simp at c3 ⊢; omega)
  obtain rfl := Option.some.inj H
  go_enter Try.func89, Try.ntmps89
  go_wp2
  repeat (go_quiet (fail); try go_wp2)
  go_ret
  exact ⟨by first | rfl | (simp; done) | (simp [*]; done), by repeat (first | exact Drawn0.refl _ | apply Drawn0.step)⟩

noncomputable def spec_l1Same.L0 (x0 : List Int) (x1 : List Int) (x12 : Int) (x13 : Int) : Option (Bool) := lim fun k => spec_l1Same.l0 k x0 x1 x12 x13
theorem spec_l1Same.L0_lim (x0 : List Int) (x1 : List Int) (x12 : Int) (x13 : Int) : Lim (fun k => spec_l1Same.l0 k x0 x1 x12 x13) (spec_l1Same.L0 x0 x1 x12 x13) := Lim.of fun k => (spec_l1Same.mono_l k) x0 x1 x12 x13
noncomputable def spec_l1Same.F (l0 : List Int) (l1 : List Int) : Option (Bool) := lim fun k => spec_l1Same.f k l0 l1
theorem spec_l1Same.F_lim (l0 : List Int) (l1 : List Int) : Lim (fun k => spec_l1Same.f k l0 l1) (spec_l1Same.F l0 l1) := Lim.of fun k => spec_l1Same.mono l0 l1 k
theorem spec_l1Same.L0_eq (x0 : List Int) (x1 : List Int) (x12 : Int) (x13 : Int) : spec_l1Same.L0 x0 x1 x12 x13 = (if x13 < x12 then (if 0 ≤ x13 then (if x13 < (x0.length : Int) then (if x13 < (x1.length : Int) then (if (rd x0 x13) = (rd x1 x13) then (spec_l1Same.L0 x0 x1 x12 (wrap64 (x13 + 1))) else (some false)) else (none)) else (none)) else (none)) else (some true)) :=
 Lim.step (f := fun k => spec_l1Same.l0 (k + 1) x0 x1 x12 x13) (spec_l1Same.L0_lim x0 x1 x12 x13) (fun _ => rfl) (by
  simp only [spec_l1Same.l0]
  repeat' (first | (with_reducible first | exact Lim.const _ | exact spec_l1Same.L0_lim _ _ _ _ | refine Lim.ite ?_ ?_ | refine Lim.bind ?_ (fun _ => ?_))))
theorem spec_l1Same.F_eq (l0 : List Int) (l1 : List Int) : spec_l1Same.F l0 l1 = (if (l0.length : Int) = (l1.length : Int) then (spec_l1Same.L0 l0 l1 (l0.length : Int) 0) else (some false)) :=
 Lim.unique (spec_l1Same.F_lim l0 l1) (by
  unfold spec_l1Same.f
  repeat' (first | (with_reducible first | exact Lim.const _ | exact spec_l1Same.L0_lim _ _ _ _ | refine Lim.ite ?_ ?_ | refine Lim.bind ?_ (fun _ => ?_))))

end Go.Proofs.Ytofjndbpndpjjaa.Fn
namespace Go.Proofs.Ytofjndbpndpjjaa.Fn
open Go.RowKit Go.Proofs.YtofjndbpndpjjaaW.PrintWords Go.Proofs.YtofjndbpndpjjaaW.PrintLast Go.Proofs.YtofjndbpndpjjaaW.PrintMore
attribute [local go_sem] max2_int min2_int max_two min_two max_three min_three max_four min_four   -- for this text's walks alone
set_option linter.unusedVariables false
set_option linter.unusedSimpArgs false

/-! ### spec_ciTimes: function 90 -/
def spec_ciTimes.l0 : Nat → Int → Int → List Int → List Int → Int → Int → Option (List Int)
 | 0, _, _, _, _, _, _ => none
 | k + 1, x0, x2, x7, x10, x11, x12 => if x12 < x11 then (if 0 ≤ x12 then (if x12 < (x10.length : Int) then (if x7.length < 17592186044416 then (spec_ciTimes.l0 k x0 x2 (x7 ++ [wrap64 ((rd x10 x12) * x2)]) x10 x11 (wrap64 (x12 + 1))) else (none)) else (none)) else (none)) else ((spec_ciSet.f k x0 x7).bind fun t841 => (some t841))
def spec_ciTimes.f (k : Nat) (a0 : Int) (l1 : List Int) (a2 : Int) : Option (List Int) := spec_ciTimes.l0 k a0 a2 ([] : List Int) l1 (l1.length : Int) 0
theorem spec_ciTimes.mono_l : ∀ k, (∀ y0 y1 y2 y3 y4 y5, LeO (spec_ciTimes.l0 k y0 y1 y2 y3 y4 y5) (spec_ciTimes.l0 (k + 1) y0 y1 y2 y3 y4 y5))
 | 0 => fun _ _ _ _ _ _ r h => by simp [spec_ciTimes.l0] at h
 | k + 1 => by
  have ih0 := spec_ciTimes.mono_l k
  ·intro y0 y1 y2 y3 y4 y5
   unfold spec_ciTimes.l0
   repeat' (first | (with_reducible first | exact ih0 _ _ _ _ _ _ | exact spec_ciSet.mono _ _ _ | exact LeO.refl _ | exact LeO.none _ | refine LeO.ite ?_ ?_ | refine LeO.bind ?_ (fun _ => ?_)) | exact ih0 _ _ _ _ _ _ | exact spec_ciSet.mono _ _ _ | exact LeO.none _ | refine LeO.ite ?_ ?_ | refine LeO.bind ?_ (fun _ => ?_))
theorem spec_ciTimes.mono : ∀ a0 a1 a2 k, LeO (spec_ciTimes.f k a0 a1 a2) (spec_ciTimes.f (k + 1) a0 a1 a2) := by
 intro a0 a1 a2 k
 have ih0 := spec_ciTimes.mono_l k
 unfold spec_ciTimes.f
 repeat' (first | (with_reducible first | exact ih0 _ _ _ _ _ _ | exact LeO.refl _ | exact LeO.none _ | refine LeO.ite ?_ ?_ | refine LeO.bind ?_ (fun _ => ?_)) | exact ih0 _ _ _ _ _ _ | exact LeO.none _ | refine LeO.ite ?_ ?_ | refine LeO.bind ?_ (fun _ => ?_))
set_option maxHeartbeats 8000000 in
set_option maxRecDepth 100000 in
theorem spec_ciTimes.calls (k : Nat) (a0 : Int) (A1 : Option Addr) (c1 : Nat) (l1 : List Int) (a2 : Int) (r : List Int) (w : World) (hr1 : Kd.C (Kd.int .i64) w A1 l1.length l1) (hc1 : l1.length ≤ c1) (h : spec_ciTimes.f k a0 l1 a2 = some r) :
  Calls Try.prog 90 #[.int .i64 a0, .slice A1 l1.length c1, .int .i64 a2] w fun e w' => ∃ v0_ : Value, e = .returned (v0_) ∧ Kd.R (Kd.int .i64) 3 w' w.heap.size (fun _ => True) v0_ r ∧ Below w.heap.size w w' := by
 have HR1 := Aside0.mk hr1
 have HC1 := Aside0.mk hc1
 clear hr1 hc1
 have HB := Aside0.mk (Below.refl w.heap.size w)
 have H := h
 unfold spec_ciTimes.f at H
 clear h
 have H' := Aside0.mk H
 clear H
 go_enter Try.func90, Try.ntmps90
 go_wp2
 go_loopg [7, 12] k (fun kq v7 v12 w' => ∃ (x7_1 : List Int) (x12_1 : Int), v12 = .int .i64 x12_1 ∧ Aside0 (spec_ciTimes.l0 kq a0 a2 x7_1 l1 (l1.length : Int) x12_1 = some r) ∧ Aside0 (kq ≤ k) ∧ Aside0 (Kd.R (Kd.int .i64) 3 w' w.heap.size (fun _ => True) v7 x7_1) ∧ Aside0 (Below w.heap.size w w'))
 case atStart => exact ⟨(([] : List Int)), (0), eqd, H', ⟨Nat.le_refl _⟩, ⟨by first | exact Kd.R_nil _ _ _ _ _ | exact Kd.N_nil _ _ _ _ _ | exact Kd.V_nil _ _ _ _ _ | exact Kd.Q_nil _ _ _ _ _ | exact Kd.S_nil _ _ _ _ _⟩, ⟨atB HB⟩⟩
 case round =>
  clear H'
  try clear c1
  try clear p2
  obtain ⟨x7_1, x12_1, rfl, HA, HK1, HO_7, HB⟩ := hrel
  cases gk with
  | zero => exact absurd HA.out (by simp [spec_ciTimes.l0])
  | succ k1 =>
   have H := HA.out
   clear HA
   simp only [spec_ciTimes.l0] at H
   by_cases c4 : x12_1 < (l1.length : Int)
   ·rw [if_pos c4] at H
    have c4b0 : decide (x12_1 < (l1.length : Int)) = true := decide_eq_true c4
    clear c4
    by_cases c5 : 0 ≤ x12_1
    ·rw [if_pos c5] at H
     have c5b0 : decide (0 ≤ x12_1) = true := decide_eq_true c5
     clear c5
     by_cases c6 : x12_1 < (l1.length : Int)
     ·rw [if_pos c6] at H
      have c6b0 : decide (x12_1 < (l1.length : Int)) = true := decide_eq_true c6
      clear c6
      by_cases c7 : x7_1.length < 17592186044416
      ·rw [if_pos c7] at H
       have LMc7 := Aside0.mk c7
       clear c7
       obtain ⟨y838, hy838⟩ : ∃ y_ : List Int, y_ = (x7_1 ++ [wrap64 ((rd l1 x12_1) * a2)]) := ⟨_, rfl⟩
       replace H : (spec_ciTimes.l0 k1 a0 a2 y838 l1 (l1.length : Int) (wrap64 (x12_1 + 1))) = some r := by first | (rw [hy838]; with_reducible exact H) | (have H2_ := (Option.bind_some _ _).symm.trans H; rw [hy838]; with_reducible exact H2_) | (have H2_ := (Option.bind_some _ _).symm.trans H; with_reducible exact H2_) | with_reducible exact H | (rw [hy838]; exact H) | exact H
       have Ny838 := Aside0.mk hy838
       clear hy838
       have H' := Aside0.mk H
       clear H
       have p837 : 0 ≤ (x12_1 : Int) := ofd
       have q837 : x12_1 < (l1.length : Int) := ofd
       obtain ⟨ad837, e837, hx837_0⟩ := Kd.at_int HR1.out x12_1 p837 q837
       cases e837
       (try replace hx837_0 := (HB.out.cell (World.block_lt_of_cell? w _ hx837_0)).trans hx837_0)
       replace p837 := eq_true p837
       replace q837 := eq_true q837
       go_wp2_with (first | ((with_reducible refine gate_builtin (b := .append) (xs := #[.tmp 16, .tmp 20]) rfl ?_); at_builtin; refine Kd.R_append (Kd.int .i64) (w0 := w) w.heap.size rfl (.tmp 16) (.tmp 20) 24 3 (.int .i64 0) 8 rfl Try.underlying24 info3 rfl (by decide) (by omega) u7 x7_1 (wrap64 ((rd l1 x12_1) * a2)) [.int .i64 (wrap64 ((rd l1 x12_1) * a2))] (fun _ => True) (fun _ => False) rfl rfl ?aP (fun _ hk => hk.elim) ?aF ?aO ?aB ?aS ?aL ?_; (case aP => exact rfl); (case aB => exact (atB HB)); (case aF => exact (fun _ _ => trivial)); (case aO => exact (atR HO_7)); (case aS => exact (szB HB)); (case aL => have := LMc7.out; omega); intro v839 w8 ho hb hg hat; rw [← Ny838.out] at ho; have HO840 := Aside0.mk (ho); replace HB := Aside0.mk (hb); clear HO_7; clear ho hb hg hat))
       go_roundg k1
       case measure => have := HK1.out; omega
       case rel => exact ⟨(y838), (wrap64 (x12_1 + 1)), eqd, H', ⟨by have := HK1.out; omega⟩, ⟨atR HO840⟩, ⟨atB HB⟩⟩
      ·rw [if_neg c7] at H
       exact absurd H (by simp)
     ·rw [if_neg c6] at H
      exact absurd H (by simp)
    ·rw [if_neg c5] at H
     exact absurd H (by simp)
   ·rw [if_neg c4] at H
    have c4b0 : decide (x12_1 < (l1.length : Int)) = false := decide_eq_false c4
    clear c4
    replace H := Option.bind_eq_some_iff.mp H
    obtain ⟨t841, A90, H⟩ := H
    replace H : (some t841) = some r := H
    have A9 := Aside0.mk A90
    clear A90
    obtain rfl := Option.some.inj H
    obtain ⟨Ao10, co10, eo10⟩ := Kd.R_slice HO_7.out
    subst eo10
    go_wp2_with (first | ((with_reducible refine gate_callee (f := 104) rfl ?_); refine goesA (some 25) Try.func104 #[.int .i64 a0, .slice Ao10 x7_1.length co10] ?_; (with_reducible refine (spec_ciSet.calls k1 a0 _ _ x7_1 t841 _ ?side1 ?side2 A9.out).mono ?_); (case side1 => exact atRC HO_7); (case side2 => exact (Kd.R_reads' HO_7.out).2.1); rintro e w11 ⟨v842, rfl, ho0, hb⟩; refine ⟨_, rfl, ?_⟩; have HO843 := Aside0.mk (Kd.R_lower (Kd.R_new' ho0 (ltR HO_7)) (szB HB)); replace HO_7 := eldRR HO_7 ho0 hb; replace HB := upB HB hb; (try clear hb); (try clear hb2); (try clear hk); (try clear hi); (try clear ho0)))
    go_ret
    exact ⟨_, eqr, by (with_reducible repeat (first | apply Kd.R_alloc | apply Kd.R_drewN | apply Kd.R_drew)); exact Kd.R_mono HO843.out (fun _ hk => trivial), atB HB⟩

noncomputable def spec_ciTimes.L0 (x0 : Int) (x2 : Int) (x7 : List Int) (x10 : List Int) (x11 : Int) (x12 : Int) : Option (List Int) := lim fun k => spec_ciTimes.l0 k x0 x2 x7 x10 x11 x12
theorem spec_ciTimes.L0_lim (x0 : Int) (x2 : Int) (x7 : List Int) (x10 : List Int) (x11 : Int) (x12 : Int) : Lim (fun k => spec_ciTimes.l0 k x0 x2 x7 x10 x11 x12) (spec_ciTimes.L0 x0 x2 x7 x10 x11 x12) := Lim.of fun k => (spec_ciTimes.mono_l k) x0 x2 x7 x10 x11 x12
noncomputable def spec_ciTimes.F (a0 : Int) (l1 : List Int) (a2 : Int) : Option (List Int) := lim fun k => spec_ciTimes.f k a0 l1 a2
theorem spec_ciTimes.F_lim (a0 : Int) (l1 : List Int) (a2 : Int) : Lim (fun k => spec_ciTimes.f k a0 l1 a2) (spec_ciTimes.F a0 l1 a2) := Lim.of fun k => spec_ciTimes.mono a0 l1 a2 k
theorem spec_ciTimes.L0_eq (x0 : Int) (x2 : Int) (x7 : List Int) (x10 : List Int) (x11 : Int) (x12 : Int) : spec_ciTimes.L0 x0 x2 x7 x10 x11 x12 = (if x12 < x11 then (if 0 ≤ x12 then (if x12 < (x10.length : Int) then (if x7.length < 17592186044416 then (spec_ciTimes.L0 x0 x2 (x7 ++ [wrap64 ((rd x10 x12) * x2)]) x10 x11 (wrap64 (x12 + 1))) else (none)) else (none)) else (none)) else ((spec_ciSet.F x0 x7).bind fun t841 => (some t841))) :=
 Lim.step (f := fun k => spec_ciTimes.l0 (k + 1) x0 x2 x7 x10 x11 x12) (spec_ciTimes.L0_lim x0 x2 x7 x10 x11 x12) (fun _ => rfl) (by
  simp only [spec_ciTimes.l0]
  repeat' (first | (with_reducible first | exact Lim.const _ | exact spec_ciSet.F_lim _ _ | exact spec_ciTimes.L0_lim _ _ _ _ _ _ | refine Lim.ite ?_ ?_ | refine Lim.bind ?_ (fun _ => ?_))))
theorem spec_ciTimes.F_eq (a0 : Int) (l1 : List Int) (a2 : Int) : spec_ciTimes.F a0 l1 a2 = (spec_ciTimes.L0 a0 a2 ([] : List Int) l1 (l1.length : Int) 0) :=
 Lim.unique (spec_ciTimes.F_lim a0 l1 a2) (by
  unfold spec_ciTimes.f
  repeat' (first | (with_reducible first | exact Lim.const _ | exact spec_ciTimes.L0_lim _ _ _ _ _ _ | refine Lim.ite ?_ ?_ | refine Lim.bind ?_ (fun _ => ?_))))

end Go.Proofs.Ytofjndbpndpjjaa.Fn
namespace Go.Proofs.Ytofjndbpndpjjaa.Fn
open Go.RowKit Go.Proofs.YtofjndbpndpjjaaW.PrintWords Go.Proofs.YtofjndbpndpjjaaW.PrintLast Go.Proofs.YtofjndbpndpjjaaW.PrintMore
attribute [local go_sem] max2_int min2_int max_two min_two max_three min_three max_four min_four   -- for this text's walks alone
set_option linter.unusedVariables false
set_option linter.unusedSimpArgs false

/-! ### spec_MultipliersOf: function 41 -/
mutual
def spec_MultipliersOf.l0 : Nat → Int → List Int → List Int → Int → Option (List Int × Bool)
 | 0, _, _, _, _ => none
 | k + 1, x0, x1, x6, x7 => if x7 < x0 then ((spec_ciCommon.f k x7 x0).bind fun t845 => (if t845 = 1 then (spec_MultipliersOf.l1 k x0 x1 x6 x7 0) else (spec_MultipliersOf.l0 k x0 x1 x6 (wrap64 (x7 + 1))))) else (some (x6, true))
def spec_MultipliersOf.l1 : Nat → Int → List Int → List Int → Int → Int → Option (List Int × Bool)
 | 0, _, _, _, _, _ => none
 | k + 1, x0, x1, x6, x7, x8 => if x8 < x0 then ((spec_ciTimes.f k x0 x1 x7).bind fun t846 => ((spec_ciMove.f k x0 x1 x8).bind fun t849 => ((spec_l1Same.f k t846 t849).bind fun t852 => (if t852 = true then (if x6.length < 17592186044416 then (spec_MultipliersOf.l0 k x0 x1 (x6 ++ [x7]) (wrap64 (x7 + 1))) else (none)) else (spec_MultipliersOf.l1 k x0 x1 x6 x7 (wrap64 (x8 + 1))))))) else (spec_MultipliersOf.l0 k x0 x1 x6 (wrap64 (x7 + 1)))
end
def spec_MultipliersOf.f (k : Nat) (a0 : Int) (l1 : List Int) : Option (List Int × Bool) := (spec_ciGood.f k a0 l1).bind fun t844 => (if t844 = true then (spec_MultipliersOf.l0 k a0 l1 ([] : List Int) 1) else (some (([] : List Int), false)))
theorem spec_MultipliersOf.mono_l : ∀ k, (∀ y0 y1 y2 y3, LeO (spec_MultipliersOf.l0 k y0 y1 y2 y3) (spec_MultipliersOf.l0 (k + 1) y0 y1 y2 y3)) ∧ (∀ y0 y1 y2 y3 y4, LeO (spec_MultipliersOf.l1 k y0 y1 y2 y3 y4) (spec_MultipliersOf.l1 (k + 1) y0 y1 y2 y3 y4))
 | 0 => ⟨fun _ _ _ _ r h => by simp [spec_MultipliersOf.l0] at h, fun _ _ _ _ _ r h => by simp [spec_MultipliersOf.l1] at h⟩
 | k + 1 => by
  obtain ⟨ih0, ih1⟩ := spec_MultipliersOf.mono_l k
  refine ⟨?_, ?_⟩
  ·intro y0 y1 y2 y3
   unfold spec_MultipliersOf.l0
   repeat' (first | (with_reducible first | exact ih0 _ _ _ _ | exact ih1 _ _ _ _ _ | exact spec_ciCommon.mono _ _ _ | exact LeO.refl _ | exact LeO.none _ | refine LeO.ite ?_ ?_ | refine LeO.bind ?_ (fun _ => ?_)) | exact ih0 _ _ _ _ | exact ih1 _ _ _ _ _ | exact spec_ciCommon.mono _ _ _ | exact LeO.none _ | refine LeO.ite ?_ ?_ | refine LeO.bind ?_ (fun _ => ?_))
  ·intro y0 y1 y2 y3 y4
   unfold spec_MultipliersOf.l1
   repeat' (first | (with_reducible first | exact ih0 _ _ _ _ | exact ih1 _ _ _ _ _ | exact spec_ciMove.mono _ _ _ _ | exact spec_ciTimes.mono _ _ _ _ | exact spec_l1Same.mono _ _ _ | exact LeO.refl _ | exact LeO.none _ | refine LeO.ite ?_ ?_ | refine LeO.bind ?_ (fun _ => ?_)) | exact ih0 _ _ _ _ | exact ih1 _ _ _ _ _ | exact spec_ciMove.mono _ _ _ _ | exact spec_ciTimes.mono _ _ _ _ | exact spec_l1Same.mono _ _ _ | exact LeO.none _ | refine LeO.ite ?_ ?_ | refine LeO.bind ?_ (fun _ => ?_))
theorem spec_MultipliersOf.mono : ∀ a0 a1 k, LeO (spec_MultipliersOf.f k a0 a1) (spec_MultipliersOf.f (k + 1) a0 a1) := by
 intro a0 a1 k
 obtain ⟨ih0, ih1⟩ := spec_MultipliersOf.mono_l k
 unfold spec_MultipliersOf.f
 repeat' (first | (with_reducible first | exact ih0 _ _ _ _ | exact spec_ciGood.mono _ _ _ | exact LeO.refl _ | exact LeO.none _ | refine LeO.ite ?_ ?_ | refine LeO.bind ?_ (fun _ => ?_)) | exact ih0 _ _ _ _ | exact spec_ciGood.mono _ _ _ | exact LeO.none _ | refine LeO.ite ?_ ?_ | refine LeO.bind ?_ (fun _ => ?_))
set_option maxHeartbeats 8000000 in
set_option maxRecDepth 100000 in
theorem spec_MultipliersOf.calls (k : Nat) (a0 : Int) (A1 : Option Addr) (c1 : Nat) (l1 : List Int) (r1 : List Int) (r2 : Bool) (w : World) (hr1 : Kd.C (Kd.int .i64) w A1 l1.length l1) (hc1 : l1.length ≤ c1) (h : spec_MultipliersOf.f k a0 l1 = some (r1, r2)) :
  Calls Try.prog 41 #[.int .i64 a0, .slice A1 l1.length c1] w fun e w' => ∃ v0_ : Value, e = .returned (.tuple #[v0_, .bool r2]) ∧ Kd.R (Kd.int .i64) 3 w' w.heap.size (fun _ => True) v0_ r1 ∧ Below w.heap.size w w' := by
 have HR1 := Aside0.mk hr1
 have HC1 := Aside0.mk hc1
 clear hr1 hc1
 have HB := Aside0.mk (Below.refl w.heap.size w)
 have H := h
 unfold spec_MultipliersOf.f at H
 clear h
 replace H := Option.bind_eq_some_iff.mp H
 obtain ⟨t844, A30, H⟩ := H
 replace H : (if t844 = true then (spec_MultipliersOf.l0 k a0 l1 ([] : List Int) 1) else (some (([] : List Int), false))) = some (r1, r2) := H
 have A3 := Aside0.mk A30
 clear A30
 by_cases c4 : t844 = true
 ·subst c4
  have H1 : (spec_MultipliersOf.l0 k a0 l1 ([] : List Int) 1) = some (r1, r2) := by rw [if_pos rfl] at H; exact H
  clear H
  have H := H1
  clear H1
  have H' := Aside0.mk H
  clear H
  go_enter Try.func41, Try.ntmps41
  go_wp2_with (first | ((with_reducible refine gate_callee (f := 82) rfl ?_); refine goesA (some 11) Try.func82 #[.int .i64 a0, .slice A1 l1.length c1] ?_; (with_reducible refine (spec_ciGood.calls k a0 _ _ l1 true _ ?side1 ?side2 A3.out).mono ?_); (case side1 => repeat (first | exact HR1.out | (with_reducible refine Kd.C_alloc ?_ _) | (with_reducible refine Kd.C_drewN ?_ _) | (with_reducible refine Kd.C_drew ?_))); (case side2 => exact HC1.out); rintro e w' ⟨rfl, ⟨nd, rfl⟩⟩; refine ⟨_, rfl, ?_⟩))
  go_loopg [6, 7] k (fun kq v6 v7 w' => ∃ (x6_1 : List Int) (x7_1 : Int), v7 = .int .i64 x7_1 ∧ Aside0 (spec_MultipliersOf.l0 kq a0 l1 x6_1 x7_1 = some (r1, r2)) ∧ Aside0 (kq ≤ k) ∧ Aside0 (Kd.R (Kd.int .i64) 3 w' w.heap.size (fun _ => True) v6 x6_1) ∧ Aside0 (Below w.heap.size w w'))
  case atStart => exact ⟨(([] : List Int)), (1), eqd, H', ⟨Nat.le_refl _⟩, ⟨by first | exact Kd.R_nil _ _ _ _ _ | exact Kd.N_nil _ _ _ _ _ | exact Kd.V_nil _ _ _ _ _ | exact Kd.Q_nil _ _ _ _ _ | exact Kd.S_nil _ _ _ _ _⟩, ⟨atB HB⟩⟩
  case round =>
   clear H'
   try clear c1
   try clear p2
   try clear c4
   obtain ⟨x6_1, x7_1, rfl, HA, HK1, HO_6, HB⟩ := hrel
   cases gk with
   | zero => exact absurd HA.out (by simp [spec_MultipliersOf.l0])
   | succ k1 =>
    have H := HA.out
    clear HA
    simp only [spec_MultipliersOf.l0] at H
    by_cases c5 : x7_1 < a0
    ·rw [if_pos c5] at H
     have c5b0 : decide (x7_1 < a0) = true := decide_eq_true c5
     clear c5
     replace H := Option.bind_eq_some_iff.mp H
     obtain ⟨t845, A60, H⟩ := H
     replace H : (if t845 = 1 then (spec_MultipliersOf.l1 k1 a0 l1 x6_1 x7_1 0) else (spec_MultipliersOf.l0 k1 a0 l1 x6_1 (wrap64 (x7_1 + 1)))) = some (r1, r2) := H
     have A6 := Aside0.mk A60
     clear A60
     by_cases c7 : t845 = 1
     ·rw [if_pos c7] at H
      have c7b0 : (t845 == 1) = true := beq_iff_eq.mpr c7
      have c7b1 : (t845 != 1) = false := bne_eq_false_iff_eq.mpr c7
      clear c7
      have H' := Aside0.mk H
      clear H
      go_wp2_with (first | ((with_reducible refine gate_callee (f := 88) rfl ?_); refine goesA (some 20) Try.func88 #[.int .i64 x7_1, .int .i64 a0] ?_; (with_reducible refine (spec_ciCommon.calls k1 x7_1 a0 t845 _ A6.out).mono ?_); rintro e w' ⟨rfl, ⟨nd, rfl⟩⟩; refine ⟨_, rfl, ?_⟩))
      go_loopg [6, 8] k1 (fun kq v6 v8 w' => ∃ (x6_2 : List Int) (x8_2 : Int), v8 = .int .i64 x8_2 ∧ Aside0 (spec_MultipliersOf.l1 kq a0 l1 x6_2 x7_1 x8_2 = some (r1, r2)) ∧ Aside0 (kq ≤ k1) ∧ Aside0 (Kd.R (Kd.int .i64) 3 w' w.heap.size (fun _ => True) v6 x6_2) ∧ Aside0 (Below w.heap.size w w'))
      case atStart => exact ⟨(x6_1), (0), eqd, H', ⟨Nat.le_refl _⟩, ⟨atR HO_6⟩, ⟨atB HB⟩⟩
      case round =>
       clear H'
       try clear c1
       try clear p2
       try clear c4
       try clear c5
       try clear c5b0
       try clear p6
       try clear c7
       try clear c7b0
       try clear c7b1
       try clear p2
       obtain ⟨x6_2, x8_2, rfl, HA, HK2, HO_6, HB⟩ := hrel
       cases gk with
       | zero => exact absurd HA.out (by simp [spec_MultipliersOf.l1])
       | succ k2 =>
        have H := HA.out
        clear HA
        simp only [spec_MultipliersOf.l1] at H
        by_cases c8 : x8_2 < a0
        ·rw [if_pos c8] at H
         have c8b0 : decide (x8_2 < a0) = true := decide_eq_true c8
         clear c8
         replace H := Option.bind_eq_some_iff.mp H
         obtain ⟨t846, A90, H⟩ := H
         replace H : ((spec_ciMove.f k2 a0 l1 x8_2).bind fun t849 => ((spec_l1Same.f k2 t846 t849).bind fun t852 => (if t852 = true then (if x6_2.length < 17592186044416 then (spec_MultipliersOf.l0 k2 a0 l1 (x6_2 ++ [x7_1]) (wrap64 (x7_1 + 1))) else (none)) else (spec_MultipliersOf.l1 k2 a0 l1 x6_2 x7_1 (wrap64 (x8_2 + 1)))))) = some (r1, r2) := H
         have A9 := Aside0.mk A90
         clear A90
         replace H := Option.bind_eq_some_iff.mp H
         obtain ⟨t849, A100, H⟩ := H
         replace H : ((spec_l1Same.f k2 t846 t849).bind fun t852 => (if t852 = true then (if x6_2.length < 17592186044416 then (spec_MultipliersOf.l0 k2 a0 l1 (x6_2 ++ [x7_1]) (wrap64 (x7_1 + 1))) else (none)) else (spec_MultipliersOf.l1 k2 a0 l1 x6_2 x7_1 (wrap64 (x8_2 + 1))))) = some (r1, r2) := H
         have A10 := Aside0.mk A100
         clear A100
         replace H := Option.bind_eq_some_iff.mp H
         obtain ⟨t852, A110, H⟩ := H
         replace H : (if t852 = true then (if x6_2.length < 17592186044416 then (spec_MultipliersOf.l0 k2 a0 l1 (x6_2 ++ [x7_1]) (wrap64 (x7_1 + 1))) else (none)) else (spec_MultipliersOf.l1 k2 a0 l1 x6_2 x7_1 (wrap64 (x8_2 + 1)))) = some (r1, r2) := H
         have A11 := Aside0.mk A110
         clear A110
         by_cases c12 : t852 = true
         ·subst c12
          have H1 : (if x6_2.length < 17592186044416 then (spec_MultipliersOf.l0 k2 a0 l1 (x6_2 ++ [x7_1]) (wrap64 (x7_1 + 1))) else (none)) = some (r1, r2) := by rw [if_pos rfl] at H; exact H
          clear H
          have H := H1
          clear H1
          by_cases c13 : x6_2.length < 17592186044416
          ·rw [if_pos c13] at H
           have LMc13 := Aside0.mk c13
           clear c13
           obtain ⟨y853, hy853⟩ : ∃ y_ : List Int, y_ = (x6_2 ++ [x7_1]) := ⟨_, rfl⟩
           replace H : (spec_MultipliersOf.l0 k2 a0 l1 y853 (wrap64 (x7_1 + 1))) = some (r1, r2) := by first | (rw [hy853]; with_reducible exact H) | (have H2_ := (Option.bind_some _ _).symm.trans H; rw [hy853]; with_reducible exact H2_) | (have H2_ := (Option.bind_some _ _).symm.trans H; with_reducible exact H2_) | with_reducible exact H | (rw [hy853]; exact H) | exact H
           have Ny853 := Aside0.mk hy853
           clear hy853
           have H' := Aside0.mk H
           clear H
           go_wp2_with (first | ((with_reducible refine gate_callee (f := 90) rfl ?_); refine goesA (some 30) Try.func90 #[.int .i64 a0, .slice A1 l1.length c1, .int .i64 x7_1] ?_; (with_reducible refine (spec_ciTimes.calls k2 a0 _ _ l1 x7_1 t846 _ ?side1 ?side2 A9.out).mono ?_); (case side1 => repeat (first | exact (Kd.C_below HR1.out HB.out) | (with_reducible refine Kd.C_alloc ?_ _) | (with_reducible refine Kd.C_drewN ?_ _) | (with_reducible refine Kd.C_drew ?_))); (case side2 => exact HC1.out); rintro e w14 ⟨v847, rfl, ho0, hb⟩; refine ⟨_, rfl, ?_⟩; have HO848 := Aside0.mk (Kd.R_lower (Kd.R_new' ho0 (ltR HO_6)) (szB HB)); replace HO_6 := eldRR HO_6 ho0 hb; replace HB := upB HB hb; (try clear hb); (try clear hb2); (try clear hk); (try clear hi); (try clear ho0)) | ((with_reducible refine gate_callee (f := 91) rfl ?_); refine goesA (some 34) Try.func91 #[.int .i64 a0, .slice A1 l1.length c1, .int .i64 x8_2] ?_; (with_reducible refine (spec_ciMove.calls k2 a0 _ _ l1 x8_2 t849 _ ?side1 ?side2 A10.out).mono ?_); (case side1 => repeat (first | exact (Kd.C_below HR1.out HB.out) | (with_reducible refine Kd.C_alloc ?_ _) | (with_reducible refine Kd.C_drewN ?_ _) | (with_reducible refine Kd.C_drew ?_))); (case side2 => exact HC1.out); rintro e w15 ⟨v850, rfl, ho0, hb⟩; refine ⟨_, rfl, ?_⟩; have HO851 := Aside0.mk (Kd.R_lower (Kd.R_new' (Kd.R_new' ho0 (ltR HO_6)) (ltR HO848)) (szB HB)); replace HO_6 := eldRR HO_6 ho0 hb; replace HO848 := eldRR HO848 ho0 hb; replace HB := upB HB hb; (try clear hb); (try clear hb2); (try clear hk); (try clear hi); (try clear ho0); obtain ⟨Ao16, co16, eo16⟩ := Kd.R_slice HO848.out; subst eo16; obtain ⟨Ao17, co17, eo17⟩ := Kd.R_slice HO851.out; subst eo17) | ((with_reducible refine gate_callee (f := 89) rfl ?_); refine goesA (some 35) Try.func89 #[.slice Ao16 t846.length co16, .slice Ao17 t849.length co17] ?_; (with_reducible refine (spec_l1Same.calls k2 _ _ t846 _ _ t849 true _ ?side1 ?side2 ?side3 ?side4 A11.out).mono ?_); (case side1 => exact atRC HO848); (case side2 => exact (Kd.R_reads' HO848.out).2.1); (case side3 => exact atRC HO851); (case side4 => exact (Kd.R_reads' HO851.out).2.1); rintro e w' ⟨rfl, ⟨nd, rfl⟩⟩; refine ⟨_, rfl, ?_⟩) | ((with_reducible refine gate_builtin (b := .append) (xs := #[.tmp 36, .tmp 38]) rfl ?_); at_builtin; refine Kd.R_append (Kd.int .i64) (w0 := w) w.heap.size rfl (.tmp 36) (.tmp 38) 24 3 (.int .i64 0) 8 rfl Try.underlying24 info3 rfl (by decide) (by omega) u6 x6_2 x7_1 [.int .i64 x7_1] (fun k_ => some k_ ≠ (.slice Ao16 t846.length co16 : Value).ownBlock ∧ some k_ ≠ (.slice Ao17 t849.length co17 : Value).ownBlock) (fun _ => False) rfl rfl ?aP (fun _ hk => hk.elim) ?aF ?aO ?aB ?aS ?aL ?_; (case aP => exact rfl); (case aB => exact (atB HB)); (case aF => exact (fun k_ hk => ⟨Kd.fresh' (ltR HO848) k_ hk, Kd.fresh' (ltR HO851) k_ hk⟩)); (case aO => exact (by (with_reducible repeat (first | apply Kd.R_alloc | apply Kd.R_drewN | apply Kd.R_drew)); exact Kd.R_mono HO_6.out (fun _ hk => ⟨hk.1.2, hk.2⟩))); (case aS => exact (szB HB)); (case aL => have := LMc13.out; omega); intro v854 w18 ho hb hg hat; rw [← Ny853.out] at ho; have HO855 := Aside0.mk (ho); replace HO848 := Aside0.mk (Kd.R_after (ok := (fun k_ => some k_ ≠ (.slice Ao17 t849.length co17 : Value).ownBlock)) (by (with_reducible repeat (first | apply Kd.R_alloc | apply Kd.R_drewN | apply Kd.R_drew)); exact Kd.R_mono HO848.out (fun _ hk => ⟨hk.2, hk.1.2⟩)) hg hat); replace HO851 := Aside0.mk (Kd.R_after (ok := (fun k_ => some k_ ≠ (.slice Ao16 t846.length co16 : Value).ownBlock)) (by (with_reducible repeat (first | apply Kd.R_alloc | apply Kd.R_drewN | apply Kd.R_drew)); exact Kd.R_mono HO851.out (fun _ hk => ⟨hk.2, hk.1.2⟩)) hg hat); replace HB := Aside0.mk (hb); clear HO_6; clear ho hb hg hat))
           go_roundg k2
           case measure => have := HK1.out; have := HK2.out; omega
           case rel => exact ⟨(y853), (wrap64 (x7_1 + 1)), eqd, H', ⟨by have := HK1.out; have := HK2.out; omega⟩, ⟨by (with_reducible repeat (first | apply Kd.R_alloc | apply Kd.R_drewN | apply Kd.R_drew)); exact Kd.R_mono HO855.out (fun _ hk => trivial)⟩, ⟨atB HB⟩⟩
          ·rw [if_neg c13] at H
           exact absurd H (by simp)
         ·replace c12 := Bool.eq_false_iff.mpr c12
          subst c12
          have H1 : (spec_MultipliersOf.l1 k2 a0 l1 x6_2 x7_1 (wrap64 (x8_2 + 1))) = some (r1, r2) := by rw [if_neg (show ¬ (false = true) by decide)] at H; exact H
          clear H
          have H := H1
          clear H1
          have H' := Aside0.mk H
          clear H
          go_wp2_with (first | ((with_reducible refine gate_callee (f := 90) rfl ?_); refine goesA (some 30) Try.func90 #[.int .i64 a0, .slice A1 l1.length c1, .int .i64 x7_1] ?_; (with_reducible refine (spec_ciTimes.calls k2 a0 _ _ l1 x7_1 t846 _ ?side1 ?side2 A9.out).mono ?_); (case side1 => repeat (first | exact (Kd.C_below HR1.out HB.out) | (with_reducible refine Kd.C_alloc ?_ _) | (with_reducible refine Kd.C_drewN ?_ _) | (with_reducible refine Kd.C_drew ?_))); (case side2 => exact HC1.out); rintro e w19 ⟨v847, rfl, ho0, hb⟩; refine ⟨_, rfl, ?_⟩; have HO848 := Aside0.mk (Kd.R_lower (Kd.R_new' ho0 (ltR HO_6)) (szB HB)); replace HO_6 := eldRR HO_6 ho0 hb; replace HB := upB HB hb; (try clear hb); (try clear hb2); (try clear hk); (try clear hi); (try clear ho0)) | ((with_reducible refine gate_callee (f := 91) rfl ?_); refine goesA (some 34) Try.func91 #[.int .i64 a0, .slice A1 l1.length c1, .int .i64 x8_2] ?_; (with_reducible refine (spec_ciMove.calls k2 a0 _ _ l1 x8_2 t849 _ ?side1 ?side2 A10.out).mono ?_); (case side1 => repeat (first | exact (Kd.C_below HR1.out HB.out) | (with_reducible refine Kd.C_alloc ?_ _) | (with_reducible refine Kd.C_drewN ?_ _) | (with_reducible refine Kd.C_drew ?_))); (case side2 => exact HC1.out); rintro e w20 ⟨v850, rfl, ho0, hb⟩; refine ⟨_, rfl, ?_⟩; have HO851 := Aside0.mk (Kd.R_lower (Kd.R_new' (Kd.R_new' ho0 (ltR HO_6)) (ltR HO848)) (szB HB)); replace HO_6 := eldRR HO_6 ho0 hb; replace HO848 := eldRR HO848 ho0 hb; replace HB := upB HB hb; (try clear hb); (try clear hb2); (try clear hk); (try clear hi); (try clear ho0); obtain ⟨Ao21, co21, eo21⟩ := Kd.R_slice HO848.out; subst eo21; obtain ⟨Ao22, co22, eo22⟩ := Kd.R_slice HO851.out; subst eo22) | ((with_reducible refine gate_callee (f := 89) rfl ?_); refine goesA (some 35) Try.func89 #[.slice Ao21 t846.length co21, .slice Ao22 t849.length co22] ?_; (with_reducible refine (spec_l1Same.calls k2 _ _ t846 _ _ t849 false _ ?side1 ?side2 ?side3 ?side4 A11.out).mono ?_); (case side1 => exact atRC HO848); (case side2 => exact (Kd.R_reads' HO848.out).2.1); (case side3 => exact atRC HO851); (case side4 => exact (Kd.R_reads' HO851.out).2.1); rintro e w' ⟨rfl, ⟨nd, rfl⟩⟩; refine ⟨_, rfl, ?_⟩))
          go_roundg k2
          case measure => have := HK1.out; have := HK2.out; omega
          case rel => exact ⟨(x6_2), (wrap64 (x8_2 + 1)), eqd, H', ⟨by have := HK1.out; have := HK2.out; omega⟩, ⟨by (with_reducible repeat (first | apply Kd.R_alloc | apply Kd.R_drewN | apply Kd.R_drew)); exact Kd.R_mono HO_6.out (fun _ hk => trivial)⟩, ⟨atB HB⟩⟩
        ·rw [if_neg c8] at H
         have c8b0 : decide (x8_2 < a0) = false := decide_eq_false c8
         clear c8
         have H' := Aside0.mk H
         clear H
         go_wp2
         go_roundg k2
         case measure => have := HK1.out; have := HK2.out; omega
         case rel => exact ⟨(x6_2), (wrap64 (x7_1 + 1)), eqd, H', ⟨by have := HK1.out; have := HK2.out; omega⟩, ⟨atR HO_6⟩, ⟨atB HB⟩⟩
     ·rw [if_neg c7] at H
      have c7b0 : (t845 == 1) = false := beq_eq_false_iff_ne.mpr c7
      have c7b1 : (t845 != 1) = true := bne_iff_ne.mpr c7
      have H' := Aside0.mk H
      clear H
      go_wp2_with (first | ((with_reducible refine gate_callee (f := 88) rfl ?_); refine goesA (some 20) Try.func88 #[.int .i64 x7_1, .int .i64 a0] ?_; (with_reducible refine (spec_ciCommon.calls k1 x7_1 a0 t845 _ A6.out).mono ?_); rintro e w' ⟨rfl, ⟨nd, rfl⟩⟩; refine ⟨_, rfl, ?_⟩))
      go_roundg k1
      case measure => have := HK1.out; omega
      case rel => exact ⟨(x6_1), (wrap64 (x7_1 + 1)), eqd, H', ⟨by have := HK1.out; omega⟩, ⟨atR HO_6⟩, ⟨atB HB⟩⟩
    ·rw [if_neg c5] at H
     have c5b0 : decide (x7_1 < a0) = false := decide_eq_false c5
     clear c5
     simp only [Option.some.injEq, Prod.mk.injEq] at H
     obtain ⟨rfl, rfl⟩ := H
     go_wp2
     go_ret2
     exact ⟨_, eqr, atR HO_6, atB HB⟩
 ·replace c4 := Bool.eq_false_iff.mpr c4
  subst c4
  have H1 : (some (([] : List Int), false)) = some (r1, r2) := by rw [if_neg (show ¬ (false = true) by decide)] at H; exact H
  clear H
  have H := H1
  clear H1
  simp only [Option.some.injEq, Prod.mk.injEq] at H
  obtain ⟨rfl, rfl⟩ := H
  go_enter Try.func41, Try.ntmps41
  go_wp2_with (first | ((with_reducible refine gate_callee (f := 82) rfl ?_); refine goesA (some 11) Try.func82 #[.int .i64 a0, .slice A1 l1.length c1] ?_; (with_reducible refine (spec_ciGood.calls k a0 _ _ l1 false _ ?side1 ?side2 A3.out).mono ?_); (case side1 => repeat (first | exact HR1.out | (with_reducible refine Kd.C_alloc ?_ _) | (with_reducible refine Kd.C_drewN ?_ _) | (with_reducible refine Kd.C_drew ?_))); (case side2 => exact HC1.out); rintro e w' ⟨rfl, ⟨nd, rfl⟩⟩; refine ⟨_, rfl, ?_⟩))
  go_ret2
  exact ⟨_, eqr, by first | exact Kd.R_nil _ _ _ _ _ | exact Kd.N_nil _ _ _ _ _ | exact Kd.V_nil _ _ _ _ _ | exact Kd.Q_nil _ _ _ _ _ | exact Kd.S_nil _ _ _ _ _, atB HB⟩

noncomputable def spec_MultipliersOf.L0 (x0 : Int) (x1 : List Int) (x6 : List Int) (x7 : Int) : Option (List Int × Bool) := lim fun k => spec_MultipliersOf.l0 k x0 x1 x6 x7
theorem spec_MultipliersOf.L0_lim (x0 : Int) (x1 : List Int) (x6 : List Int) (x7 : Int) : Lim (fun k => spec_MultipliersOf.l0 k x0 x1 x6 x7) (spec_MultipliersOf.L0 x0 x1 x6 x7) := Lim.of fun k => (spec_MultipliersOf.mono_l k).1 x0 x1 x6 x7
noncomputable def spec_MultipliersOf.L1 (x0 : Int) (x1 : List Int) (x6 : List Int) (x7 : Int) (x8 : Int) : Option (List Int × Bool) := lim fun k => spec_MultipliersOf.l1 k x0 x1 x6 x7 x8
theorem spec_MultipliersOf.L1_lim (x0 : Int) (x1 : List Int) (x6 : List Int) (x7 : Int) (x8 : Int) : Lim (fun k => spec_MultipliersOf.l1 k x0 x1 x6 x7 x8) (spec_MultipliersOf.L1 x0 x1 x6 x7 x8) := Lim.of fun k => (spec_MultipliersOf.mono_l k).2 x0 x1 x6 x7 x8
noncomputable def spec_MultipliersOf.F (a0 : Int) (l1 : List Int) : Option (List Int × Bool) := lim fun k => spec_MultipliersOf.f k a0 l1
theorem spec_MultipliersOf.F_lim (a0 : Int) (l1 : List Int) : Lim (fun k => spec_MultipliersOf.f k a0 l1) (spec_MultipliersOf.F a0 l1) := Lim.of fun k => spec_MultipliersOf.mono a0 l1 k
theorem spec_MultipliersOf.L0_eq (x0 : Int) (x1 : List Int) (x6 : List Int) (x7 : Int) : spec_MultipliersOf.L0 x0 x1 x6 x7 = (if x7 < x0 then ((spec_ciCommon.F x7 x0).bind fun t845 => (if t845 = 1 then (spec_MultipliersOf.L1 x0 x1 x6 x7 0) else (spec_MultipliersOf.L0 x0 x1 x6 (wrap64 (x7 + 1))))) else (some (x6, true))) :=
 Lim.step (f := fun k => spec_MultipliersOf.l0 (k + 1) x0 x1 x6 x7) (spec_MultipliersOf.L0_lim x0 x1 x6 x7) (fun _ => rfl) (by
  simp only [spec_MultipliersOf.l0]
  repeat' (first | (with_reducible first | exact Lim.const _ | exact spec_MultipliersOf.L0_lim _ _ _ _ | exact spec_MultipliersOf.L1_lim _ _ _ _ _ | exact spec_ciCommon.F_lim _ _ | refine Lim.ite ?_ ?_ | refine Lim.bind ?_ (fun _ => ?_))))
theorem spec_MultipliersOf.L1_eq (x0 : Int) (x1 : List Int) (x6 : List Int) (x7 : Int) (x8 : Int) : spec_MultipliersOf.L1 x0 x1 x6 x7 x8 = (if x8 < x0 then ((spec_ciTimes.F x0 x1 x7).bind fun t846 => ((spec_ciMove.F x0 x1 x8).bind fun t849 => ((spec_l1Same.F t846 t849).bind fun t852 => (if t852 = true then (if x6.length < 17592186044416 then (spec_MultipliersOf.L0 x0 x1 (x6 ++ [x7]) (wrap64 (x7 + 1))) else (none)) else (spec_MultipliersOf.L1 x0 x1 x6 x7 (wrap64 (x8 + 1))))))) else (spec_MultipliersOf.L0 x0 x1 x6 (wrap64 (x7 + 1)))) :=
 Lim.step (f := fun k => spec_MultipliersOf.l1 (k + 1) x0 x1 x6 x7 x8) (spec_MultipliersOf.L1_lim x0 x1 x6 x7 x8) (fun _ => rfl) (by
  simp only [spec_MultipliersOf.l1]
  repeat' (first | (with_reducible first | exact Lim.const _ | exact spec_MultipliersOf.L0_lim _ _ _ _ | exact spec_MultipliersOf.L1_lim _ _ _ _ _ | exact spec_ciMove.F_lim _ _ _ | exact spec_ciTimes.F_lim _ _ _ | exact spec_l1Same.F_lim _ _ | refine Lim.ite ?_ ?_ | refine Lim.bind ?_ (fun _ => ?_))))
theorem spec_MultipliersOf.F_eq (a0 : Int) (l1 : List Int) : spec_MultipliersOf.F a0 l1 = ((spec_ciGood.F a0 l1).bind fun t844 => (if t844 = true then (spec_MultipliersOf.L0 a0 l1 ([] : List Int) 1) else (some (([] : List Int), false)))) :=
 Lim.unique (spec_MultipliersOf.F_lim a0 l1) (by
  unfold spec_MultipliersOf.f
  repeat' (first | (with_reducible first | exact Lim.const _ | exact spec_MultipliersOf.L0_lim _ _ _ _ | exact spec_ciGood.F_lim _ _ | refine Lim.ite ?_ ?_ | refine Lim.bind ?_ (fun _ => ?_))))

end Go.Proofs.Ytofjndbpndpjjaa.Fn
namespace Go.Proofs.Ytofjndbpndpjjaa.Fn
open Go.RowKit Go.Proofs.YtofjndbpndpjjaaW.PrintWords Go.Proofs.YtofjndbpndpjjaaW.PrintLast Go.Proofs.YtofjndbpndpjjaaW.PrintMore
attribute [local go_sem] max2_int min2_int max_two min_two max_three min_three max_four min_four   -- for this text's walks alone
set_option linter.unusedVariables false
set_option linter.unusedSimpArgs false

/-! ### spec_IsAroundRuler: function 43 -/
def spec_IsAroundRuler.l0 : Nat → List Int → Int → Int → Option (Bool × Bool)
 | 0, _, _, _ => none
 | k + 1, x15, x16, x17 => if x17 < x16 then (if 0 ≤ x17 then (if x17 < (x15.length : Int) then (if (rd x15 x17) > 1 then (some (false, true)) else (spec_IsAroundRuler.l0 k x15 x16 (wrap64 (x17 + 1)))) else (none)) else (none)) else (some (true, true))
def spec_IsAroundRuler.f (k : Nat) (a0 : Int) (l1 : List Int) : Option (Bool × Bool) := (spec_ciGood.f k a0 l1).bind fun t861 => (if t861 = true then ((spec_ciCounts.f k a0 (([l1] : List (List Int)))).bind fun t865 => (spec_IsAroundRuler.l0 k t865 (t865.length : Int) 0)) else (some (false, false)))
theorem spec_IsAroundRuler.mono_l : ∀ k, (∀ y0 y1 y2, LeO (spec_IsAroundRuler.l0 k y0 y1 y2) (spec_IsAroundRuler.l0 (k + 1) y0 y1 y2))
 | 0 => fun _ _ _ r h => by simp [spec_IsAroundRuler.l0] at h
 | k + 1 => by
  have ih0 := spec_IsAroundRuler.mono_l k
  ·intro y0 y1 y2
   unfold spec_IsAroundRuler.l0
   repeat' (first | (with_reducible first | exact ih0 _ _ _ | exact LeO.refl _ | exact LeO.none _ | refine LeO.ite ?_ ?_ | refine LeO.bind ?_ (fun _ => ?_)) | exact ih0 _ _ _ | exact LeO.none _ | refine LeO.ite ?_ ?_ | refine LeO.bind ?_ (fun _ => ?_))
theorem spec_IsAroundRuler.mono : ∀ a0 a1 k, LeO (spec_IsAroundRuler.f k a0 a1) (spec_IsAroundRuler.f (k + 1) a0 a1) := by
 intro a0 a1 k
 have ih0 := spec_IsAroundRuler.mono_l k
 unfold spec_IsAroundRuler.f
 repeat' (first | (with_reducible first | exact ih0 _ _ _ | exact spec_ciCounts.mono _ _ _ | exact spec_ciGood.mono _ _ _ | exact LeO.refl _ | exact LeO.none _ | refine LeO.ite ?_ ?_ | refine LeO.bind ?_ (fun _ => ?_)) | exact ih0 _ _ _ | exact spec_ciCounts.mono _ _ _ | exact spec_ciGood.mono _ _ _ | exact LeO.none _ | refine LeO.ite ?_ ?_ | refine LeO.bind ?_ (fun _ => ?_))
set_option maxHeartbeats 8000000 in
set_option maxRecDepth 100000 in
theorem spec_IsAroundRuler.calls (k : Nat) (a0 : Int) (P1_ : Nat → Prop) (A1 : Option Addr) (c1 : Nat) (l1 : List Int) (r1 : Bool) (r2 : Bool) (w : World) (hs1 : Kd.V (Kd.int .i64) 3 w w.heap.size (fun k_ => P1_ k_) (.slice A1 l1.length c1) l1) (h : spec_IsAroundRuler.f k a0 l1 = some (r1, r2)) :
  Calls Try.prog 43 #[.int .i64 a0, .slice A1 l1.length c1] w fun e w' => e = .returned (.tuple #[.bool r1, .bool r2]) ∧ Below w.heap.size w w' := by
 have HO1 := Aside0.mk (show Kd.V (Kd.int .i64) 3 w w.heap.size (fun k_ => (P1_ k_ ∨ w.heap.size ≤ k_)) (.slice A1 l1.length c1) l1 from Kd.V_mono hs1 (fun k_ hk => .inl hk))
 have HB := Aside0.mk (Below.refl w.heap.size w)
 have H := h
 unfold spec_IsAroundRuler.f at H
 clear h
 replace H := Option.bind_eq_some_iff.mp H
 obtain ⟨t861, A30, H⟩ := H
 replace H : (if t861 = true then ((spec_ciCounts.f k a0 (([l1] : List (List Int)))).bind fun t865 => (spec_IsAroundRuler.l0 k t865 (t865.length : Int) 0)) else (some (false, false))) = some (r1, r2) := H
 have A3 := Aside0.mk A30
 clear A30
 by_cases c4 : t861 = true
 ·subst c4
  have H1 : ((spec_ciCounts.f k a0 (([l1] : List (List Int)))).bind fun t865 => (spec_IsAroundRuler.l0 k t865 (t865.length : Int) 0)) = some (r1, r2) := by rw [if_pos rfl] at H; exact H
  clear H
  have H := H1
  clear H1
  obtain ⟨y862, hy862⟩ : ∃ y_ : List (List Int), y_ = (([l1] : List (List Int))) := ⟨_, rfl⟩
  replace H : ((spec_ciCounts.f k a0 y862).bind fun t865 => (spec_IsAroundRuler.l0 k t865 (t865.length : Int) 0)) = some (r1, r2) := by first | (rw [hy862]; with_reducible exact H) | (have H2_ := (Option.bind_some _ _).symm.trans H; rw [hy862]; with_reducible exact H2_) | (have H2_ := (Option.bind_some _ _).symm.trans H; with_reducible exact H2_) | with_reducible exact H | (rw [hy862]; exact H) | exact H
  have Ny862 := Aside0.mk hy862
  clear hy862
  replace H := Option.bind_eq_some_iff.mp H
  obtain ⟨t865, A50, H⟩ := H
  replace H : (spec_IsAroundRuler.l0 k t865 (t865.length : Int) 0) = some (r1, r2) := H
  have A5 := Aside0.mk A50
  clear A50
  have H' := Aside0.mk H
  clear H
  go_enter Try.func43, Try.ntmps43
  go_wp2_with (first | ((with_reducible refine gate_callee (f := 82) rfl ?_); refine goesA (some 10) Try.func82 #[.int .i64 a0, .slice A1 l1.length c1] ?_; (with_reducible refine (spec_ciGood.calls k a0 _ _ l1 true _ ?side1 ?side2 A3.out).mono ?_); (case side1 => repeat (first | exact (Kd.V_reads' HO1.out).2.2 | (with_reducible refine Kd.C_alloc ?_ _) | (with_reducible refine Kd.C_drewN ?_ _) | (with_reducible refine Kd.C_drew ?_))); (case side2 => exact (Kd.V_reads' HO1.out).2.1); rintro e w' ⟨rfl, ⟨nd, rfl⟩⟩; refine ⟨_, rfl, ?_⟩) | ((with_reducible refine gate_dst (N := 14) rfl ?_); refine N_lit0 (Kd.slice 3 (Kd.int .i64)) 24 ?hg (N' := 14) ?hd (xs := ([l1] : List (List Int))) (inner := [.slice A1 l1.length c1]) (ok := (fun k_ => (P1_ k_ ∨ w.heap.size ≤ k_))) (okp := (fun k_ => (P1_ k_ ∨ w.heap.size ≤ k_))) ?hr ?hp (fun _ hk => hk) (by exact (show ∀ k_, w.heap.size ≤ k_ → (fun k_ => (P1_ k_ ∨ w.heap.size ≤ k_)) k_ from fun k_ hk => (.inr (Nat.le_trans (szB HB) hk))) _ (Nat.le_refl _)) (by simp) ?_; (case hd => rfl); (case hg => rfl); (case hr => first | (go_simp; done) | (go_simp; rfl)); (case hp => exact (Reps.one (show Kd.FK (Kd.slice 3 (Kd.int .i64)) _ _ l1 [.slice A1 l1.length c1] from (Kd.FK_slice_mk (Kd.V_reads' (Kd.V_mono (ok' := (fun k_ => (P1_ k_ ∨ w.heap.size ≤ k_))) (HO1.out) (fun k_ hk => hk))).2.1 (Kd.V_F (Kd.V_mono (ok' := (fun k_ => (P1_ k_ ∨ w.heap.size ≤ k_))) (by (with_reducible repeat (first | apply Kd.V_alloc | apply Kd.V_drewN | apply Kd.V_drew)); exact HO1.out) (fun k_ hk => hk))))) (Reps.none _ _))); intro v863 w6 ho7 hb hg_ hnew_; clear hg_ hnew_; (first | rw [← Ny862.out] at ho7 | (simp only [Int.reduceToNat] at ho7; rw [← Ny862.out] at ho7)); have HO864 := Aside0.mk (Kd.N_lower ho7 (szB HB)); replace HO1 := Aside0.mk (Kd.V_elder' (by (with_reducible repeat (first | apply Kd.V_alloc | apply Kd.V_drewN | apply Kd.V_drew)); exact HO1.out) (Kd.N_base ho7) hb); replace HB := upB HB hb; clear hb ho7; obtain ⟨Ao8, co8, eo8⟩ := Kd.N_slice HO864.out; subst eo8) | ((with_reducible refine gate_callee (f := 84) rfl ?_); refine goesA (some 15) Try.func84 #[.int .i64 a0, .slice Ao8 y862.length co8] ?_; (with_reducible refine (spec_ciCounts.calls k a0 _ _ y862 t865 _ ?side1 ?side2 A5.out).mono ?_); (case side1 => repeat (first | exact (Kd.N_reads' HO864.out).2.2 | (with_reducible refine Kd.C_alloc ?_ _) | (with_reducible refine Kd.C_drewN ?_ _) | (with_reducible refine Kd.C_drew ?_))); (case side2 => exact (Kd.N_reads' HO864.out).2.1); rintro e w9 ⟨v866, rfl, ho0, hb⟩; refine ⟨_, rfl, ?_⟩; have HO867 := Aside0.mk (Kd.R_lower (Kd.R_newM (M := fun k_ => (w.heap.size ≤ k_)) ho0 (szB HB) (fun k_ h_ => h_)) (szB HB)); replace HO1 := Aside0.mk (Kd.V_elder' (by (with_reducible repeat (first | apply Kd.V_alloc | apply Kd.V_drewN | apply Kd.V_drew)); exact HO1.out) (Kd.R_base ho0) hb); replace HO864 := Aside0.mk (Kd.N_elder' (by (with_reducible repeat (first | apply Kd.N_alloc | apply Kd.N_drewN | apply Kd.N_drew)); exact HO864.out) (Kd.R_base ho0) hb); replace HB := upB HB hb; (try clear hb); (try clear hb2); (try clear hk); (try clear hi); (try clear ho0); obtain ⟨Ao10, co10, eo10⟩ := Kd.R_slice HO867.out; subst eo10))
  go_loopg [17] k (fun kq v17 w' => ∃ (x17_1 : Int), v17 = .int .i64 x17_1 ∧ Aside0 (spec_IsAroundRuler.l0 kq t865 (t865.length : Int) x17_1 = some (r1, r2)) ∧ Aside0 (kq ≤ k) ∧ Aside0 (Kd.R (Kd.int .i64) 3 w' w.heap.size (fun k_ => (w.heap.size ≤ k_)) (.slice Ao10 t865.length co10) t865) ∧ Aside0 (Below w.heap.size w w'))
  case atStart => exact ⟨(0), eqd, H', ⟨Nat.le_refl _⟩, ⟨by (with_reducible repeat (first | apply Kd.R_alloc | apply Kd.R_drewN | apply Kd.R_drew)); exact Kd.R_mono HO867.out (fun _ hk => hk.1)⟩, ⟨atB HB⟩⟩
  case round =>
   clear H'
   try clear c1
   try clear p2
   try clear c4
   try clear c8
   obtain ⟨x17_1, rfl, HA, HK1, HO_15, HB⟩ := hrel
   cases gk with
   | zero => exact absurd HA.out (by simp [spec_IsAroundRuler.l0])
   | succ k1 =>
    have H := HA.out
    clear HA
    simp only [spec_IsAroundRuler.l0] at H
    by_cases c11 : x17_1 < (t865.length : Int)
    ·rw [if_pos c11] at H
     have c11b0 : decide (x17_1 < (t865.length : Int)) = true := decide_eq_true c11
     clear c11
     by_cases c12 : 0 ≤ x17_1
     ·rw [if_pos c12] at H
      have c12b0 : decide (0 ≤ x17_1) = true := decide_eq_true c12
      clear c12
      by_cases c13 : x17_1 < (t865.length : Int)
      ·rw [if_pos c13] at H
       have c13b0 : decide (x17_1 < (t865.length : Int)) = true := decide_eq_true c13
       clear c13
       by_cases c14 : (rd t865 x17_1) > 1
       ·rw [if_pos c14] at H
        have c14b0 : decide (1 < (rd t865 x17_1)) = true := decide_eq_true c14
        clear c14
        simp only [Option.some.injEq, Prod.mk.injEq] at H
        obtain ⟨rfl, rfl⟩ := H
        have p868 : 0 ≤ (x17_1 : Int) := ofd
        have q868 : x17_1 < (t865.length : Int) := ofd
        obtain ⟨ad868, e868, hx868_0⟩ := Kd.at_int (Kd.R_reads' HO_15.out).2.2 x17_1 p868 q868
        cases e868
        replace p868 := eq_true p868
        replace q868 := eq_true q868
        go_wp2
        go_ret2
        exact ⟨eqr, atB HB⟩
       ·rw [if_neg c14] at H
        have c14b0 : decide (1 < (rd t865 x17_1)) = false := decide_eq_false c14
        clear c14
        have H' := Aside0.mk H
        clear H
        have p868 : 0 ≤ (x17_1 : Int) := ofd
        have q868 : x17_1 < (t865.length : Int) := ofd
        obtain ⟨ad868, e868, hx868_0⟩ := Kd.at_int (Kd.R_reads' HO_15.out).2.2 x17_1 p868 q868
        cases e868
        replace p868 := eq_true p868
        replace q868 := eq_true q868
        go_wp2
        go_roundg k1
        case measure => have := HK1.out; omega
        case rel => exact ⟨(wrap64 (x17_1 + 1)), eqd, H', ⟨by have := HK1.out; omega⟩, ⟨atR HO_15⟩, ⟨atB HB⟩⟩
      ·rw [if_neg c13] at H
       exact absurd H (by simp)
     ·rw [if_neg c12] at H
      exact absurd H (by simp)
    ·rw [if_neg c11] at H
     have c11b0 : decide (x17_1 < (t865.length : Int)) = false := decide_eq_false c11
     clear c11
     simp only [Option.some.injEq, Prod.mk.injEq] at H
     obtain ⟨rfl, rfl⟩ := H
     go_wp2
     go_ret2
     exact ⟨eqr, atB HB⟩
 ·replace c4 := Bool.eq_false_iff.mpr c4
  subst c4
  have H1 : (some (false, false)) = some (r1, r2) := by rw [if_neg (show ¬ (false = true) by decide)] at H; exact H
  clear H
  have H := H1
  clear H1
  simp only [Option.some.injEq, Prod.mk.injEq] at H
  obtain ⟨rfl, rfl⟩ := H
  go_enter Try.func43, Try.ntmps43
  go_wp2_with (first | ((with_reducible refine gate_callee (f := 82) rfl ?_); refine goesA (some 10) Try.func82 #[.int .i64 a0, .slice A1 l1.length c1] ?_; (with_reducible refine (spec_ciGood.calls k a0 _ _ l1 false _ ?side1 ?side2 A3.out).mono ?_); (case side1 => repeat (first | exact (Kd.V_reads' HO1.out).2.2 | (with_reducible refine Kd.C_alloc ?_ _) | (with_reducible refine Kd.C_drewN ?_ _) | (with_reducible refine Kd.C_drew ?_))); (case side2 => exact (Kd.V_reads' HO1.out).2.1); rintro e w' ⟨rfl, ⟨nd, rfl⟩⟩; refine ⟨_, rfl, ?_⟩))
  go_ret2
  exact ⟨eqr, atB HB⟩

noncomputable def spec_IsAroundRuler.L0 (x15 : List Int) (x16 : Int) (x17 : Int) : Option (Bool × Bool) := lim fun k => spec_IsAroundRuler.l0 k x15 x16 x17
theorem spec_IsAroundRuler.L0_lim (x15 : List Int) (x16 : Int) (x17 : Int) : Lim (fun k => spec_IsAroundRuler.l0 k x15 x16 x17) (spec_IsAroundRuler.L0 x15 x16 x17) := Lim.of fun k => (spec_IsAroundRuler.mono_l k) x15 x16 x17
noncomputable def spec_IsAroundRuler.F (a0 : Int) (l1 : List Int) : Option (Bool × Bool) := lim fun k => spec_IsAroundRuler.f k a0 l1
theorem spec_IsAroundRuler.F_lim (a0 : Int) (l1 : List Int) : Lim (fun k => spec_IsAroundRuler.f k a0 l1) (spec_IsAroundRuler.F a0 l1) := Lim.of fun k => spec_IsAroundRuler.mono a0 l1 k
theorem spec_IsAroundRuler.L0_eq (x15 : List Int) (x16 : Int) (x17 : Int) : spec_IsAroundRuler.L0 x15 x16 x17 = (if x17 < x16 then (if 0 ≤ x17 then (if x17 < (x15.length : Int) then (if (rd x15 x17) > 1 then (some (false, true)) else (spec_IsAroundRuler.L0 x15 x16 (wrap64 (x17 + 1)))) else (none)) else (none)) else (some (true, true))) :=
 Lim.step (f := fun k => spec_IsAroundRuler.l0 (k + 1) x15 x16 x17) (spec_IsAroundRuler.L0_lim x15 x16 x17) (fun _ => rfl) (by
  simp only [spec_IsAroundRuler.l0]
  repeat' (first | (with_reducible first | exact Lim.const _ | exact spec_IsAroundRuler.L0_lim _ _ _ | refine Lim.ite ?_ ?_ | refine Lim.bind ?_ (fun _ => ?_))))
theorem spec_IsAroundRuler.F_eq (a0 : Int) (l1 : List Int) : spec_IsAroundRuler.F a0 l1 = ((spec_ciGood.F a0 l1).bind fun t861 => (if t861 = true then ((spec_ciCounts.F a0 (([l1] : List (List Int)))).bind fun t865 => (spec_IsAroundRuler.L0 t865 (t865.length : Int) 0)) else (some (false, false)))) :=
 Lim.unique (spec_IsAroundRuler.F_lim a0 l1) (by
  unfold spec_IsAroundRuler.f
  repeat' (first | (with_reducible first | exact Lim.const _ | exact spec_IsAroundRuler.L0_lim _ _ _ | exact spec_ciCounts.F_lim _ _ | exact spec_ciGood.F_lim _ _ | refine Lim.ite ?_ ?_ | refine Lim.bind ?_ (fun _ => ?_))))

end Go.Proofs.Ytofjndbpndpjjaa.Fn
namespace Go.Proofs.Ytofjndbpndpjjaa.Fn
open Go.RowKit Go.Proofs.YtofjndbpndpjjaaW.PrintWords Go.Proofs.YtofjndbpndpjjaaW.PrintLast Go.Proofs.YtofjndbpndpjjaaW.PrintMore
attribute [local go_sem] max2_int min2_int max_two min_two max_three min_three max_four min_four   -- for this text's walks alone
set_option linter.unusedVariables false
set_option linter.unusedSimpArgs false

/-! ### laws_zSame: function 44 -/
def laws_zSame.l0 : Nat → List Int → List Int → Int → Int → Option (Bool)
 | 0, _, _, _, _ => none
 | k + 1, x0, x1, x12, x13 => if x13 < x12 then (if 0 ≤ x13 then (if x13 < (x0.length : Int) then (if x13 < (x1.length : Int) then (if (rd x0 x13) = (rd x1 x13) then (laws_zSame.l0 k x0 x1 x12 (wrap64 (x13 + 1))) else (some false)) else (none)) else (none)) else (none)) else (some true)
def laws_zSame.f (k : Nat) (l0 : List Int) (l1 : List Int) : Option (Bool) := if (l0.length : Int) = (l1.length : Int) then (laws_zSame.l0 k l0 l1 (l0.length : Int) 0) else (some false)
theorem laws_zSame.mono_l : ∀ k, (∀ y0 y1 y2 y3, LeO (laws_zSame.l0 k y0 y1 y2 y3) (laws_zSame.l0 (k + 1) y0 y1 y2 y3))
 | 0 => fun _ _ _ _ r h => by simp [laws_zSame.l0] at h
 | k + 1 => by
  have ih0 := laws_zSame.mono_l k
  ·intro y0 y1 y2 y3
   unfold laws_zSame.l0
   repeat' (first | (with_reducible first | exact ih0 _ _ _ _ | exact LeO.refl _ | exact LeO.none _ | refine LeO.ite ?_ ?_ | refine LeO.bind ?_ (fun _ => ?_)) | exact ih0 _ _ _ _ | exact LeO.none _ | refine LeO.ite ?_ ?_ | refine LeO.bind ?_ (fun _ => ?_))
theorem laws_zSame.mono : ∀ a0 a1 k, LeO (laws_zSame.f k a0 a1) (laws_zSame.f (k + 1) a0 a1) := by
 intro a0 a1 k
 have ih0 := laws_zSame.mono_l k
 unfold laws_zSame.f
 repeat' (first | (with_reducible first | exact ih0 _ _ _ _ | exact LeO.refl _ | exact LeO.none _ | refine LeO.ite ?_ ?_ | refine LeO.bind ?_ (fun _ => ?_)) | exact ih0 _ _ _ _ | exact LeO.none _ | refine LeO.ite ?_ ?_ | refine LeO.bind ?_ (fun _ => ?_))
set_option maxHeartbeats 8000000 in
set_option maxRecDepth 100000 in
theorem laws_zSame.calls (k : Nat) (A0 : Option Addr) (c0 : Nat) (l0 : List Int) (A1 : Option Addr) (c1 : Nat) (l1 : List Int) (r : Bool) (w : World) (hr0 : Kd.C (Kd.int .i64) w A0 l0.length l0) (hc0 : l0.length ≤ c0) (hr1 : Kd.C (Kd.int .i64) w A1 l1.length l1) (hc1 : l1.length ≤ c1) (h : laws_zSame.f k l0 l1 = some r) :
  Calls Try.prog 44 #[.slice A0 l0.length c0, .slice A1 l1.length c1] w fun e w' => e = .returned (.bool r) ∧ Drawn0 w w' := by
 have HR0 := Aside0.mk hr0
 have HC0 := Aside0.mk hc0
 clear hr0 hc0
 have HR1 := Aside0.mk hr1
 have HC1 := Aside0.mk hc1
 clear hr1 hc1
 have H := h
 unfold laws_zSame.f at H
 clear h
 by_cases c3 : (l0.length : Int) = (l1.length : Int)
 ·rw [if_pos c3] at H
  have c3b0 : ((l0.length : Int) == (l1.length : Int)) = true := beq_iff_eq.mpr c3
  have c3b1 : ((l0.length : Int) != (l1.length : Int)) = false := bne_eq_false_iff_eq.mpr c3
  have c3b2 : (l0.length == l1.length) = true := by first | simpa using c3 | (simp at c3 ⊢; omega)
  clear c3
  have H' := Aside0.mk H
  clear H
  go_enter Try.func44, Try.ntmps44
  go_wp2
  repeat (go_quiet (fail); try go_wp2)
  go_loopg [13] k (fun kq v13 w' => ∃ (x13_1 : Int), v13 = .int .i64 x13_1 ∧ Aside0 (laws_zSame.l0 kq l0 l1 (l0.length : Int) x13_1 = some r) ∧ Aside0 (kq ≤ k) ∧ Drawn0 w w')
  case atStart => exact ⟨(0), eqd, H', ⟨Nat.le_refl _⟩, by repeat (first | exact Drawn0.refl _ | apply Drawn0.step)⟩
  case round =>
   clear H'
   try clear c1
   try clear p2
   try clear c3
   try clear c3b0
   try clear c3b1
   try clear c3b2
   obtain ⟨x13_1, rfl, HA, HK1, ⟨m1, rfl⟩⟩ := hrel
   cases gk with
   | zero => exact absurd HA.out (by simp [laws_zSame.l0])
   | succ k1 =>
    have H := HA.out
    clear HA
    simp only [laws_zSame.l0] at H
    by_cases c4 : x13_1 < (l0.length : Int)
    ·rw [if_pos c4] at H
     have c4b0 : decide (x13_1 < (l0.length : Int)) = true := decide_eq_true c4
     clear c4
     by_cases c5 : 0 ≤ x13_1
     ·rw [if_pos c5] at H
      have c5b0 : decide (0 ≤ x13_1) = true := decide_eq_true c5
      clear c5
      by_cases c6 : x13_1 < (l0.length : Int)
      ·rw [if_pos c6] at H
       have c6b0 : decide (x13_1 < (l0.length : Int)) = true := decide_eq_true c6
       clear c6
       by_cases c7 : x13_1 < (l1.length : Int)
       ·rw [if_pos c7] at H
        have c7b0 : decide (x13_1 < (l1.length : Int)) = true := decide_eq_true c7
        clear c7
        by_cases c8 : (rd l0 x13_1) = (rd l1 x13_1)
        ·rw [if_pos c8] at H
         have c8b0 : ((rd l0 x13_1) == (rd l1 x13_1)) = true := beq_iff_eq.mpr c8
         have c8b1 : ((rd l0 x13_1) != (rd l1 x13_1)) = false := bne_eq_false_iff_eq.mpr c8
         clear c8
         have H' := Aside0.mk H
         clear H
         have p869 : 0 ≤ (x13_1 : Int) := ofd
         have q869 : x13_1 < (l0.length : Int) := ofd
         obtain ⟨ad869, e869, hx869_0⟩ := Kd.at_int HR0.out x13_1 p869 q869
         cases e869
         replace p869 := eq_true p869
         replace q869 := eq_true q869
         have p870 : 0 ≤ (x13_1 : Int) := ofd
         have q870 : x13_1 < (l1.length : Int) := ofd
         obtain ⟨ad870, e870, hx870_0⟩ := Kd.at_int HR1.out x13_1 p870 q870
         cases e870
         replace p870 := eq_true p870
         replace q870 := eq_true q870
         go_wp2
         repeat (go_quiet (fail); try go_wp2)
         go_roundg k1
         case measure => have := HK1.out; omega
         case rel => exact ⟨(wrap64 (x13_1 + 1)), eqd, H', ⟨by have := HK1.out; omega⟩, by repeat (first | exact Drawn0.refl _ | apply Drawn0.step)⟩
        ·rw [if_neg c8] at H
         have c8b0 : ((rd l0 x13_1) == (rd l1 x13_1)) = false := beq_eq_false_iff_ne.mpr c8
         have c8b1 : ((rd l0 x13_1) != (rd l1 x13_1)) = true := bne_iff_ne.mpr c8
         obtain rfl := Option.some.inj H
         have p869 : 0 ≤ (x13_1 : Int) := ofd
         have q869 : x13_1 < (l0.length : Int) := ofd
         obtain ⟨ad869, e869, hx869_0⟩ := Kd.at_int HR0.out x13_1 p869 q869
         cases e869
         replace p869 := eq_true p869
         replace q869 := eq_true q869
         have p870 : 0 ≤ (x13_1 : Int) := ofd
         have q870 : x13_1 < (l1.length : Int) := ofd
         obtain ⟨ad870, e870, hx870_0⟩ := Kd.at_int HR1.out x13_1 p870 q870
         cases e870
         replace p870 := eq_true p870
         replace q870 := eq_true q870
         go_wp2
         repeat (go_quiet (fail); try go_wp2)
         go_ret
         exact ⟨by first | rfl | (simp; done) | (simp [*]; done), by repeat (first | exact Drawn0.refl _ | apply Drawn0.step)⟩
       ·rw [if_neg c7] at H
        exact absurd H (by simp)
      ·rw [if_neg c6] at H
       exact absurd H (by simp)
     ·rw [if_neg c5] at H
      exact absurd H (by simp)
    ·rw [if_neg c4] at H
     have c4b0 : decide (x13_1 < (l0.length : Int)) = false := decide_eq_false c4
     clear c4
     obtain rfl := Option.some.inj H
     go_wp2
     repeat (go_quiet (fail); try go_wp2)
     go_ret
     exact ⟨by first | rfl | (simp; done) | (simp [*]; done), by repeat (first | exact Drawn0.refl _ | apply Drawn0.step)⟩
 ·rw [if_neg c3] at H
  have c3b0 : ((l0.length : Int) == (l1.length : Int)) = false := beq_eq_false_iff_ne.mpr c3
  have c3b1 : ((l0.length : Int) != (l1.length : Int)) = true := bne_iff_ne.mpr c3
  have c3b2 : (l0.length == l1.length) = false := by first | simpa using c3 | (simp at c3 ⊢; omega)
  obtain rfl := Option.some.inj H
  go_enter Try.func44, Try.ntmps44
  go_wp2
  repeat (go_quiet (fail); try go_wp2)
  go_ret
  exact ⟨by first | rfl | (simp; done) | (simp [*]; done), by repeat (first | exact Drawn0.refl _ | apply Drawn0.step)⟩

noncomputable def laws_zSame.L0 (x0 : List Int) (x1 : List Int) (x12 : Int) (x13 : Int) : Option (Bool) := lim fun k => laws_zSame.l0 k x0 x1 x12 x13
theorem laws_zSame.L0_lim (x0 : List Int) (x1 : List Int) (x12 : Int) (x13 : Int) : Lim (fun k => laws_zSame.l0 k x0 x1 x12 x13) (laws_zSame.L0 x0 x1 x12 x13) := Lim.of fun k => (laws_zSame.mono_l k) x0 x1 x12 x13
noncomputable def laws_zSame.F (l0 : List Int) (l1 : List Int) : Option (Bool) := lim fun k => laws_zSame.f k l0 l1
theorem laws_zSame.F_lim (l0 : List Int) (l1 : List Int) : Lim (fun k => laws_zSame.f k l0 l1) (laws_zSame.F l0 l1) := Lim.of fun k => laws_zSame.mono l0 l1 k
theorem laws_zSame.L0_eq (x0 : List Int) (x1 : List Int) (x12 : Int) (x13 : Int) : laws_zSame.L0 x0 x1 x12 x13 = (if x13 < x12 then (if 0 ≤ x13 then (if x13 < (x0.length : Int) then (if x13 < (x1.length : Int) then (if (rd x0 x13) = (rd x1 x13) then (laws_zSame.L0 x0 x1 x12 (wrap64 (x13 + 1))) else (some false)) else (none)) else (none)) else (none)) else (some true)) :=
 Lim.step (f := fun k => laws_zSame.l0 (k + 1) x0 x1 x12 x13) (laws_zSame.L0_lim x0 x1 x12 x13) (fun _ => rfl) (by
  simp only [laws_zSame.l0]
  repeat' (first | (with_reducible first | exact Lim.const _ | exact laws_zSame.L0_lim _ _ _ _ | refine Lim.ite ?_ ?_ | refine Lim.bind ?_ (fun _ => ?_))))
theorem laws_zSame.F_eq (l0 : List Int) (l1 : List Int) : laws_zSame.F l0 l1 = (if (l0.length : Int) = (l1.length : Int) then (laws_zSame.L0 l0 l1 (l0.length : Int) 0) else (some false)) :=
 Lim.unique (laws_zSame.F_lim l0 l1) (by
  unfold laws_zSame.f
  repeat' (first | (with_reducible first | exact Lim.const _ | exact laws_zSame.L0_lim _ _ _ _ | refine Lim.ite ?_ ?_ | refine Lim.bind ?_ (fun _ => ?_))))

end Go.Proofs.Ytofjndbpndpjjaa.Fn
namespace Go.Proofs.Ytofjndbpndpjjaa.Fn
open Go.RowKit Go.Proofs.YtofjndbpndpjjaaW.PrintWords Go.Proofs.YtofjndbpndpjjaaW.PrintLast Go.Proofs.YtofjndbpndpjjaaW.PrintMore
attribute [local go_sem] max2_int min2_int max_two min_two max_three min_three max_four min_four   -- for this text's walks alone
set_option linter.unusedVariables false
set_option linter.unusedSimpArgs false

/-! ### spec_IsCircleSet: function 46 -/
def spec_IsCircleSet.f (k : Nat) (a0 : Int) (l1 : List Int) : Option (Bool) := (spec_ciGood.f k a0 l1).bind fun t871 => (some t871)
theorem spec_IsCircleSet.mono : ∀ a0 a1 k, LeO (spec_IsCircleSet.f k a0 a1) (spec_IsCircleSet.f (k + 1) a0 a1) := by
 intro a0 a1 k
 unfold spec_IsCircleSet.f
 repeat' (first | (with_reducible first | exact spec_ciGood.mono _ _ _ | exact LeO.refl _ | exact LeO.none _ | refine LeO.ite ?_ ?_ | refine LeO.bind ?_ (fun _ => ?_)) | exact spec_ciGood.mono _ _ _ | exact LeO.none _ | refine LeO.ite ?_ ?_ | refine LeO.bind ?_ (fun _ => ?_))
set_option maxHeartbeats 8000000 in
set_option maxRecDepth 100000 in
theorem spec_IsCircleSet.calls (k : Nat) (a0 : Int) (A1 : Option Addr) (c1 : Nat) (l1 : List Int) (r : Bool) (w : World) (hr1 : Kd.C (Kd.int .i64) w A1 l1.length l1) (hc1 : l1.length ≤ c1) (h : spec_IsCircleSet.f k a0 l1 = some r) :
  Calls Try.prog 46 #[.int .i64 a0, .slice A1 l1.length c1] w fun e w' => e = .returned (.bool r) ∧ Drawn0 w w' := by
 have HR1 := Aside0.mk hr1
 have HC1 := Aside0.mk hc1
 clear hr1 hc1
 have H := h
 unfold spec_IsCircleSet.f at H
 clear h
 replace H := Option.bind_eq_some_iff.mp H
 obtain ⟨t871, A30, H⟩ := H
 replace H : (some t871) = some r := H
 have A3 := Aside0.mk A30
 clear A30
 obtain rfl := Option.some.inj H
 go_enter Try.func46, Try.ntmps46
 go_wp2_with (first | ((with_reducible refine gate_callee (f := 82) rfl ?_); refine goesA (some 7) Try.func82 #[.int .i64 a0, .slice A1 l1.length c1] ?_; (with_reducible refine (spec_ciGood.calls k a0 _ _ l1 t871 _ ?side1 ?side2 A3.out).mono ?_); (case side1 => repeat (first | exact HR1.out | (with_reducible refine Kd.C_alloc ?_ _) | (with_reducible refine Kd.C_drewN ?_ _) | (with_reducible refine Kd.C_drew ?_))); (case side2 => exact HC1.out); rintro e w' ⟨rfl, ⟨nd, rfl⟩⟩; refine ⟨_, rfl, ?_⟩))
 go_ret
 exact ⟨by first | rfl | (simp; done) | (simp [*]; done), by repeat (first | exact Drawn0.refl _ | apply Drawn0.step)⟩

noncomputable def spec_IsCircleSet.F (a0 : Int) (l1 : List Int) : Option (Bool) := lim fun k => spec_IsCircleSet.f k a0 l1
theorem spec_IsCircleSet.F_lim (a0 : Int) (l1 : List Int) : Lim (fun k => spec_IsCircleSet.f k a0 l1) (spec_IsCircleSet.F a0 l1) := Lim.of fun k => spec_IsCircleSet.mono a0 l1 k
theorem spec_IsCircleSet.F_eq (a0 : Int) (l1 : List Int) : spec_IsCircleSet.F a0 l1 = ((spec_ciGood.F a0 l1).bind fun t871 => (some t871)) :=
 Lim.unique (spec_IsCircleSet.F_lim a0 l1) (by
  unfold spec_IsCircleSet.f
  repeat' (first | (with_reducible first | exact Lim.const _ | exact spec_ciGood.F_lim _ _ | refine Lim.ite ?_ ?_ | refine Lim.bind ?_ (fun _ => ?_))))

end Go.Proofs.Ytofjndbpndpjjaa.Fn
namespace Go.Proofs.Ytofjndbpndpjjaa.Fn
open Go.RowKit Go.Proofs.YtofjndbpndpjjaaW.PrintWords Go.Proofs.YtofjndbpndpjjaaW.PrintLast Go.Proofs.YtofjndbpndpjjaaW.PrintMore
attribute [local go_sem] max2_int min2_int max_two min_two max_three min_three max_four min_four   -- for this text's walks alone
set_option linter.unusedVariables false
set_option linter.unusedSimpArgs false

/-! ### laws_zSum: function 47 -/
def laws_zSum.l0 : Nat → Int → List Int → Int → Int → Option (Int)
 | 0, _, _, _, _ => none
 | k + 1, x3, x6, x7, x8 => if x8 < x7 then (if 0 ≤ x8 then (if x8 < (x6.length : Int) then (laws_zSum.l0 k (wrap64 (x3 + (rd x6 x8))) x6 x7 (wrap64 (x8 + 1))) else (none)) else (none)) else (some x3)
def laws_zSum.f (k : Nat) (l0 : List Int) : Option (Int) := laws_zSum.l0 k 0 l0 (l0.length : Int) 0
theorem laws_zSum.mono_l : ∀ k, (∀ y0 y1 y2 y3, LeO (laws_zSum.l0 k y0 y1 y2 y3) (laws_zSum.l0 (k + 1) y0 y1 y2 y3))
 | 0 => fun _ _ _ _ r h => by simp [laws_zSum.l0] at h
 | k + 1 => by
  have ih0 := laws_zSum.mono_l k
  ·intro y0 y1 y2 y3
   unfold laws_zSum.l0
   repeat' (first | (with_reducible first | exact ih0 _ _ _ _ | exact LeO.refl _ | exact LeO.none _ | refine LeO.ite ?_ ?_ | refine LeO.bind ?_ (fun _ => ?_)) | exact ih0 _ _ _ _ | exact LeO.none _ | refine LeO.ite ?_ ?_ | refine LeO.bind ?_ (fun _ => ?_))
theorem laws_zSum.mono : ∀ a0 k, LeO (laws_zSum.f k a0) (laws_zSum.f (k + 1) a0) := by
 intro a0 k
 have ih0 := laws_zSum.mono_l k
 unfold laws_zSum.f
 repeat' (first | (with_reducible first | exact ih0 _ _ _ _ | exact LeO.refl _ | exact LeO.none _ | refine LeO.ite ?_ ?_ | refine LeO.bind ?_ (fun _ => ?_)) | exact ih0 _ _ _ _ | exact LeO.none _ | refine LeO.ite ?_ ?_ | refine LeO.bind ?_ (fun _ => ?_))
set_option maxHeartbeats 8000000 in
set_option maxRecDepth 100000 in
theorem laws_zSum.calls (k : Nat) (A0 : Option Addr) (c0 : Nat) (l0 : List Int) (r : Int) (w : World) (hr0 : Kd.C (Kd.int .i64) w A0 l0.length l0) (hc0 : l0.length ≤ c0) (h : laws_zSum.f k l0 = some r) :
  Calls Try.prog 47 #[.slice A0 l0.length c0] w fun e w' => e = .returned (.int .i64 r) ∧ Drawn0 w w' := by
 have HR0 := Aside0.mk hr0
 have HC0 := Aside0.mk hc0
 clear hr0 hc0
 have H := h
 unfold laws_zSum.f at H
 clear h
 have H' := Aside0.mk H
 clear H
 go_enter Try.func47, Try.ntmps47
 go_wp2
 go_loopg [3, 8] k (fun kq v3 v8 w' => ∃ (x3_1 : Int) (x8_1 : Int), v3 = .int .i64 x3_1 ∧ v8 = .int .i64 x8_1 ∧ Aside0 (laws_zSum.l0 kq x3_1 l0 (l0.length : Int) x8_1 = some r) ∧ Aside0 (kq ≤ k) ∧ Drawn0 w w')
 case atStart => exact ⟨(0), (0), eqd, eqd, H', ⟨Nat.le_refl _⟩, by repeat (first | exact Drawn0.refl _ | apply Drawn0.step)⟩
 case round =>
  clear H'
  obtain ⟨x3_1, x8_1, rfl, rfl, HA, HK1, ⟨m1, rfl⟩⟩ := hrel
  cases gk with
  | zero => exact absurd HA.out (by simp [laws_zSum.l0])
  | succ k1 =>
   have H := HA.out
   clear HA
   simp only [laws_zSum.l0] at H
   by_cases c2 : x8_1 < (l0.length : Int)
   ·rw [if_pos c2] at H
    have c2b0 : decide (x8_1 < (l0.length : Int)) = true := decide_eq_true c2
    clear c2
    by_cases c3 : 0 ≤ x8_1
    ·rw [if_pos c3] at H
     have c3b0 : decide (0 ≤ x8_1) = true := decide_eq_true c3
     clear c3
     by_cases c4 : x8_1 < (l0.length : Int)
     ·rw [if_pos c4] at H
      have c4b0 : decide (x8_1 < (l0.length : Int)) = true := decide_eq_true c4
      clear c4
      have H' := Aside0.mk H
      clear H
      have p872 : 0 ≤ (x8_1 : Int) := ofd
      have q872 : x8_1 < (l0.length : Int) := ofd
      obtain ⟨ad872, e872, hx872_0⟩ := Kd.at_int HR0.out x8_1 p872 q872
      cases e872
      replace p872 := eq_true p872
      replace q872 := eq_true q872
      go_wp2
      go_roundg k1
      case measure => have := HK1.out; omega
      case rel => exact ⟨(wrap64 (x3_1 + (rd l0 x8_1))), (wrap64 (x8_1 + 1)), eqd, eqd, H', ⟨by have := HK1.out; omega⟩, by repeat (first | exact Drawn0.refl _ | apply Drawn0.step)⟩
     ·rw [if_neg c4] at H
      exact absurd H (by simp)
    ·rw [if_neg c3] at H
     exact absurd H (by simp)
   ·rw [if_neg c2] at H
    have c2b0 : decide (x8_1 < (l0.length : Int)) = false := decide_eq_false c2
    clear c2
    obtain rfl := Option.some.inj H
    go_wp2
    go_ret
    exact ⟨by first | rfl | (simp; done) | (simp [*]; done), by repeat (first | exact Drawn0.refl _ | apply Drawn0.step)⟩

noncomputable def laws_zSum.L0 (x3 : Int) (x6 : List Int) (x7 : Int) (x8 : Int) : Option (Int) := lim fun k => laws_zSum.l0 k x3 x6 x7 x8
theorem laws_zSum.L0_lim (x3 : Int) (x6 : List Int) (x7 : Int) (x8 : Int) : Lim (fun k => laws_zSum.l0 k x3 x6 x7 x8) (laws_zSum.L0 x3 x6 x7 x8) := Lim.of fun k => (laws_zSum.mono_l k) x3 x6 x7 x8
noncomputable def laws_zSum.F (l0 : List Int) : Option (Int) := lim fun k => laws_zSum.f k l0
theorem laws_zSum.F_lim (l0 : List Int) : Lim (fun k => laws_zSum.f k l0) (laws_zSum.F l0) := Lim.of fun k => laws_zSum.mono l0 k
theorem laws_zSum.L0_eq (x3 : Int) (x6 : List Int) (x7 : Int) (x8 : Int) : laws_zSum.L0 x3 x6 x7 x8 = (if x8 < x7 then (if 0 ≤ x8 then (if x8 < (x6.length : Int) then (laws_zSum.L0 (wrap64 (x3 + (rd x6 x8))) x6 x7 (wrap64 (x8 + 1))) else (none)) else (none)) else (some x3)) :=
 Lim.step (f := fun k => laws_zSum.l0 (k + 1) x3 x6 x7 x8) (laws_zSum.L0_lim x3 x6 x7 x8) (fun _ => rfl) (by
  simp only [laws_zSum.l0]
  repeat' (first | (with_reducible first | exact Lim.const _ | exact laws_zSum.L0_lim _ _ _ _ | refine Lim.ite ?_ ?_ | refine Lim.bind ?_ (fun _ => ?_))))
theorem laws_zSum.F_eq (l0 : List Int) : laws_zSum.F l0 = (laws_zSum.L0 0 l0 (l0.length : Int) 0) :=
 Lim.unique (laws_zSum.F_lim l0) (by
  unfold laws_zSum.f
  repeat' (first | (with_reducible first | exact Lim.const _ | exact laws_zSum.L0_lim _ _ _ _ | refine Lim.ite ?_ ?_ | refine Lim.bind ?_ (fun _ => ?_))))

end Go.Proofs.Ytofjndbpndpjjaa.Fn
namespace Go.Proofs.Ytofjndbpndpjjaa.Fn
open Go.RowKit Go.Proofs.YtofjndbpndpjjaaW.PrintWords Go.Proofs.YtofjndbpndpjjaaW.PrintLast Go.Proofs.YtofjndbpndpjjaaW.PrintMore
attribute [local go_sem] max2_int min2_int max_two min_two max_three min_three max_four min_four   -- for this text's walks alone
set_option linter.unusedVariables false
set_option linter.unusedSimpArgs false

/-! ### laws_zHas: function 48 -/
def laws_zHas.l0 : Nat → Int → List Int → Int → Int → Option (Bool)
 | 0, _, _, _, _ => none
 | k + 1, x1, x7, x8, x9 => if x9 < x8 then (if 0 ≤ x9 then (if x9 < (x7.length : Int) then (if (rd x7 x9) = x1 then (some true) else (laws_zHas.l0 k x1 x7 x8 (wrap64 (x9 + 1)))) else (none)) else (none)) else (some false)
def laws_zHas.f (k : Nat) (l0 : List Int) (a1 : Int) : Option (Bool) := laws_zHas.l0 k a1 l0 (l0.length : Int) 0
theorem laws_zHas.mono_l : ∀ k, (∀ y0 y1 y2 y3, LeO (laws_zHas.l0 k y0 y1 y2 y3) (laws_zHas.l0 (k + 1) y0 y1 y2 y3))
 | 0 => fun _ _ _ _ r h => by simp [laws_zHas.l0] at h
 | k + 1 => by
  have ih0 := laws_zHas.mono_l k
  ·intro y0 y1 y2 y3
   unfold laws_zHas.l0
   repeat' (first | (with_reducible first | exact ih0 _ _ _ _ | exact LeO.refl _ | exact LeO.none _ | refine LeO.ite ?_ ?_ | refine LeO.bind ?_ (fun _ => ?_)) | exact ih0 _ _ _ _ | exact LeO.none _ | refine LeO.ite ?_ ?_ | refine LeO.bind ?_ (fun _ => ?_))
theorem laws_zHas.mono : ∀ a0 a1 k, LeO (laws_zHas.f k a0 a1) (laws_zHas.f (k + 1) a0 a1) := by
 intro a0 a1 k
 have ih0 := laws_zHas.mono_l k
 unfold laws_zHas.f
 repeat' (first | (with_reducible first | exact ih0 _ _ _ _ | exact LeO.refl _ | exact LeO.none _ | refine LeO.ite ?_ ?_ | refine LeO.bind ?_ (fun _ => ?_)) | exact ih0 _ _ _ _ | exact LeO.none _ | refine LeO.ite ?_ ?_ | refine LeO.bind ?_ (fun _ => ?_))
set_option maxHeartbeats 8000000 in
set_option maxRecDepth 100000 in
theorem laws_zHas.calls (k : Nat) (A0 : Option Addr) (c0 : Nat) (l0 : List Int) (a1 : Int) (r : Bool) (w : World) (hr0 : Kd.C (Kd.int .i64) w A0 l0.length l0) (hc0 : l0.length ≤ c0) (h : laws_zHas.f k l0 a1 = some r) :
  Calls Try.prog 48 #[.slice A0 l0.length c0, .int .i64 a1] w fun e w' => e = .returned (.bool r) ∧ Drawn0 w w' := by
 have HR0 := Aside0.mk hr0
 have HC0 := Aside0.mk hc0
 clear hr0 hc0
 have H := h
 unfold laws_zHas.f at H
 clear h
 have H' := Aside0.mk H
 clear H
 go_enter Try.func48, Try.ntmps48
 go_wp2
 go_loopg [9] k (fun kq v9 w' => ∃ (x9_1 : Int), v9 = .int .i64 x9_1 ∧ Aside0 (laws_zHas.l0 kq a1 l0 (l0.length : Int) x9_1 = some r) ∧ Aside0 (kq ≤ k) ∧ Drawn0 w w')
 case atStart => exact ⟨(0), eqd, H', ⟨Nat.le_refl _⟩, by repeat (first | exact Drawn0.refl _ | apply Drawn0.step)⟩
 case round =>
  clear H'
  try clear p2
  obtain ⟨x9_1, rfl, HA, HK1, ⟨m1, rfl⟩⟩ := hrel
  cases gk with
  | zero => exact absurd HA.out (by simp [laws_zHas.l0])
  | succ k1 =>
   have H := HA.out
   clear HA
   simp only [laws_zHas.l0] at H
   by_cases c3 : x9_1 < (l0.length : Int)
   ·rw [if_pos c3] at H
    have c3b0 : decide (x9_1 < (l0.length : Int)) = true := decide_eq_true c3
    clear c3
    by_cases c4 : 0 ≤ x9_1
    ·rw [if_pos c4] at H
     have c4b0 : decide (0 ≤ x9_1) = true := decide_eq_true c4
     clear c4
     by_cases c5 : x9_1 < (l0.length : Int)
     ·rw [if_pos c5] at H
      have c5b0 : decide (x9_1 < (l0.length : Int)) = true := decide_eq_true c5
      clear c5
      by_cases c6 : (rd l0 x9_1) = a1
      ·rw [if_pos c6] at H
       have c6b0 : ((rd l0 x9_1) == a1) = true := beq_iff_eq.mpr c6
       have c6b1 : ((rd l0 x9_1) != a1) = false := bne_eq_false_iff_eq.mpr c6
       clear c6
       obtain rfl := Option.some.inj H
       have p873 : 0 ≤ (x9_1 : Int) := ofd
       have q873 : x9_1 < (l0.length : Int) := ofd
       obtain ⟨ad873, e873, hx873_0⟩ := Kd.at_int HR0.out x9_1 p873 q873
       cases e873
       replace p873 := eq_true p873
       replace q873 := eq_true q873
       go_wp2
       go_ret
       exact ⟨by first | rfl | (simp; done) | (simp [*]; done), by repeat (first | exact Drawn0.refl _ | apply Drawn0.step)⟩
      ·rw [if_neg c6] at H
       have c6b0 : ((rd l0 x9_1) == a1) = false := beq_eq_false_iff_ne.mpr c6
       have c6b1 : ((rd l0 x9_1) != a1) = true := bne_iff_ne.mpr c6
       have H' := Aside0.mk H
       clear H
       have p873 : 0 ≤ (x9_1 : Int) := ofd
       have q873 : x9_1 < (l0.length : Int) := ofd
       obtain ⟨ad873, e873, hx873_0⟩ := Kd.at_int HR0.out x9_1 p873 q873
       cases e873
       replace p873 := eq_true p873
       replace q873 := eq_true q873
       go_wp2
       go_roundg k1
       case measure => have := HK1.out; omega
       case rel => exact ⟨(wrap64 (x9_1 + 1)), eqd, H', ⟨by have := HK1.out; omega⟩, by repeat (first | exact Drawn0.refl _ | apply Drawn0.step)⟩
     ·rw [if_neg c5] at H
      exact absurd H (by simp)
    ·rw [if_neg c4] at H
     exact absurd H (by simp)
   ·rw [if_neg c3] at H
    have c3b0 : decide (x9_1 < (l0.length : Int)) = false := decide_eq_false c3
    clear c3
    obtain rfl := Option.some.inj H
    go_wp2
    go_ret
    exact ⟨by first | rfl | (simp; done) | (simp [*]; done), by repeat (first | exact Drawn0.refl _ | apply Drawn0.step)⟩

noncomputable def laws_zHas.L0 (x1 : Int) (x7 : List Int) (x8 : Int) (x9 : Int) : Option (Bool) := lim fun k => laws_zHas.l0 k x1 x7 x8 x9
theorem laws_zHas.L0_lim (x1 : Int) (x7 : List Int) (x8 : Int) (x9 : Int) : Lim (fun k => laws_zHas.l0 k x1 x7 x8 x9) (laws_zHas.L0 x1 x7 x8 x9) := Lim.of fun k => (laws_zHas.mono_l k) x1 x7 x8 x9
noncomputable def laws_zHas.F (l0 : List Int) (a1 : Int) : Option (Bool) := lim fun k => laws_zHas.f k l0 a1
theorem laws_zHas.F_lim (l0 : List Int) (a1 : Int) : Lim (fun k => laws_zHas.f k l0 a1) (laws_zHas.F l0 a1) := Lim.of fun k => laws_zHas.mono l0 a1 k
theorem laws_zHas.L0_eq (x1 : Int) (x7 : List Int) (x8 : Int) (x9 : Int) : laws_zHas.L0 x1 x7 x8 x9 = (if x9 < x8 then (if 0 ≤ x9 then (if x9 < (x7.length : Int) then (if (rd x7 x9) = x1 then (some true) else (laws_zHas.L0 x1 x7 x8 (wrap64 (x9 + 1)))) else (none)) else (none)) else (some false)) :=
 Lim.step (f := fun k => laws_zHas.l0 (k + 1) x1 x7 x8 x9) (laws_zHas.L0_lim x1 x7 x8 x9) (fun _ => rfl) (by
  simp only [laws_zHas.l0]
  repeat' (first | (with_reducible first | exact Lim.const _ | exact laws_zHas.L0_lim _ _ _ _ | refine Lim.ite ?_ ?_ | refine Lim.bind ?_ (fun _ => ?_))))
theorem laws_zHas.F_eq (l0 : List Int) (a1 : Int) : laws_zHas.F l0 a1 = (laws_zHas.L0 a1 l0 (l0.length : Int) 0) :=
 Lim.unique (laws_zHas.F_lim l0 a1) (by
  unfold laws_zHas.f
  repeat' (first | (with_reducible first | exact Lim.const _ | exact laws_zHas.L0_lim _ _ _ _ | refine Lim.ite ?_ ?_ | refine Lim.bind ?_ (fun _ => ?_))))

end Go.Proofs.Ytofjndbpndpjjaa.Fn
namespace Go.Proofs.Ytofjndbpndpjjaa.Fn
open Go.RowKit Go.Proofs.YtofjndbpndpjjaaW.PrintWords Go.Proofs.YtofjndbpndpjjaaW.PrintLast Go.Proofs.YtofjndbpndpjjaaW.PrintMore
attribute [local go_sem] max2_int min2_int max_two min_two max_three min_three max_four min_four   -- for this text's walks alone
set_option linter.unusedVariables false
set_option linter.unusedSimpArgs false

/-! ### laws_zCommon: function 52 -/
def laws_zCommon.l0 : Nat → Int → Int → Option (Int)
 | 0, _, _ => none
 | k + 1, x0, x1 => if x1 > 0 then (if x1 = 0 then (none) else (laws_zCommon.l0 k x1 (Int.tmod x0 x1))) else (some x0)
def laws_zCommon.f (k : Nat) (a0 : Int) (a1 : Int) : Option (Int) := laws_zCommon.l0 k a0 a1
theorem laws_zCommon.mono_l : ∀ k, (∀ y0 y1, LeO (laws_zCommon.l0 k y0 y1) (laws_zCommon.l0 (k + 1) y0 y1))
 | 0 => fun _ _ r h => by simp [laws_zCommon.l0] at h
 | k + 1 => by
  have ih0 := laws_zCommon.mono_l k
  ·intro y0 y1
   unfold laws_zCommon.l0
   repeat' (first | (with_reducible first | exact ih0 _ _ | exact LeO.refl _ | exact LeO.none _ | refine LeO.ite ?_ ?_ | refine LeO.bind ?_ (fun _ => ?_)) | exact ih0 _ _ | exact LeO.none _ | refine LeO.ite ?_ ?_ | refine LeO.bind ?_ (fun _ => ?_))
theorem laws_zCommon.mono : ∀ a0 a1 k, LeO (laws_zCommon.f k a0 a1) (laws_zCommon.f (k + 1) a0 a1) := by
 intro a0 a1 k
 have ih0 := laws_zCommon.mono_l k
 unfold laws_zCommon.f
 repeat' (first | (with_reducible first | exact ih0 _ _ | exact LeO.refl _ | exact LeO.none _ | refine LeO.ite ?_ ?_ | refine LeO.bind ?_ (fun _ => ?_)) | exact ih0 _ _ | exact LeO.none _ | refine LeO.ite ?_ ?_ | refine LeO.bind ?_ (fun _ => ?_))
set_option maxHeartbeats 8000000 in
set_option maxRecDepth 100000 in
theorem laws_zCommon.calls (k : Nat) (a0 : Int) (a1 : Int) (r : Int) (w : World) (h : laws_zCommon.f k a0 a1 = some r) :
  Calls Try.prog 52 #[.int .i64 a0, .int .i64 a1] w fun e w' => e = .returned (.int .i64 r) ∧ Drawn0 w w' := by
 have H := h
 unfold laws_zCommon.f at H
 clear h
 have H' := Aside0.mk H
 clear H
 go_enter Try.func52, Try.ntmps52
 go_wp2
 repeat (go_quiet (fail); try go_wp2)
 go_loopg [0, 1] k (fun kq v0 v1 w' => ∃ (x0_1 : Int) (x1_1 : Int), v0 = .int .i64 x0_1 ∧ v1 = .int .i64 x1_1 ∧ Aside0 (laws_zCommon.l0 kq x0_1 x1_1 = some r) ∧ Aside0 (kq ≤ k) ∧ Drawn0 w w')
 case atStart => exact ⟨(a0), (a1), eqd, eqd, H', ⟨Nat.le_refl _⟩, by repeat (first | exact Drawn0.refl _ | apply Drawn0.step)⟩
 case round =>
  clear H'
  try clear p2
  obtain ⟨x0_1, x1_1, rfl, rfl, HA, HK1, ⟨m1, rfl⟩⟩ := hrel
  cases gk with
  | zero => exact absurd HA.out (by simp [laws_zCommon.l0])
  | succ k1 =>
   have H := HA.out
   clear HA
   simp only [laws_zCommon.l0] at H
   by_cases c3 : x1_1 > 0
   ·rw [if_pos c3] at H
    have c3b0 : decide (0 < x1_1) = true := decide_eq_true c3
    clear c3
    by_cases c4 : x1_1 = 0
    ·rw [if_pos c4] at H
     exact absurd H (by simp)
    ·rw [if_neg c4] at H
     have c4b0 : (x1_1 == 0) = false := beq_eq_false_iff_ne.mpr c4
     have c4b1 : (x1_1 != 0) = true := bne_iff_ne.mpr c4
     have H' := Aside0.mk H
     clear H
     go_wp2
     repeat (go_quiet (fail); try go_wp2)
     go_roundg k1
     case measure => have := HK1.out; omega
     case rel => exact ⟨(x1_1), (Int.tmod x0_1 x1_1), eqd, eqd, H', ⟨by have := HK1.out; omega⟩, by repeat (first | exact Drawn0.refl _ | apply Drawn0.step)⟩
   ·rw [if_neg c3] at H
    have c3b0 : decide (0 < x1_1) = false := decide_eq_false c3
    clear c3
    obtain rfl := Option.some.inj H
    go_wp2
    repeat (go_quiet (fail); try go_wp2)
    go_ret
    exact ⟨by first | rfl | (simp; done) | (simp [*]; done), by repeat (first | exact Drawn0.refl _ | apply Drawn0.step)⟩

noncomputable def laws_zCommon.L0 (x0 : Int) (x1 : Int) : Option (Int) := lim fun k => laws_zCommon.l0 k x0 x1
theorem laws_zCommon.L0_lim (x0 : Int) (x1 : Int) : Lim (fun k => laws_zCommon.l0 k x0 x1) (laws_zCommon.L0 x0 x1) := Lim.of fun k => (laws_zCommon.mono_l k) x0 x1
noncomputable def laws_zCommon.F (a0 : Int) (a1 : Int) : Option (Int) := lim fun k => laws_zCommon.f k a0 a1
theorem laws_zCommon.F_lim (a0 : Int) (a1 : Int) : Lim (fun k => laws_zCommon.f k a0 a1) (laws_zCommon.F a0 a1) := Lim.of fun k => laws_zCommon.mono a0 a1 k
theorem laws_zCommon.L0_eq (x0 : Int) (x1 : Int) : laws_zCommon.L0 x0 x1 = (if x1 > 0 then (if x1 = 0 then (none) else (laws_zCommon.L0 x1 (Int.tmod x0 x1))) else (some x0)) :=
 Lim.step (f := fun k => laws_zCommon.l0 (k + 1) x0 x1) (laws_zCommon.L0_lim x0 x1) (fun _ => rfl) (by
  simp only [laws_zCommon.l0]
  repeat' (first | (with_reducible first | exact Lim.const _ | exact laws_zCommon.L0_lim _ _ | refine Lim.ite ?_ ?_ | refine Lim.bind ?_ (fun _ => ?_))))
theorem laws_zCommon.F_eq (a0 : Int) (a1 : Int) : laws_zCommon.F a0 a1 = (laws_zCommon.L0 a0 a1) :=
 Lim.unique (laws_zCommon.F_lim a0 a1) (by
  unfold laws_zCommon.f
  repeat' (first | (with_reducible first | exact Lim.const _ | exact laws_zCommon.L0_lim _ _ | refine Lim.ite ?_ ?_ | refine Lim.bind ?_ (fun _ => ?_))))

end Go.Proofs.Ytofjndbpndpjjaa.Fn
namespace Go.Proofs.Ytofjndbpndpjjaa.Fn
open Go.RowKit Go.Proofs.YtofjndbpndpjjaaW.PrintWords Go.Proofs.YtofjndbpndpjjaaW.PrintLast Go.Proofs.YtofjndbpndpjjaaW.PrintMore
attribute [local go_sem] max2_int min2_int max_two min_two max_three min_three max_four min_four   -- for this text's walks alone
set_option linter.unusedVariables false
set_option linter.unusedSimpArgs false

/-! ### spec_DrawMoveSet: function 53 -/
def spec_DrawMoveSet.f (k : Nat) (l0 : List Int) : Option (Int × List Int × Int) := (spec_l1Cur_circle.f k l0 0 0).bind fun bt893 => ((spec_l1Cur_pick.f l0 bt893.2.2.1 bt893.2.2.2 12).bind fun bt899 => ((spec_l1Cur_pick.f l0 bt899.2.1 bt899.2.2 2).bind fun bt902 => (some (bt893.1, bt893.2.1, wrap64 (bt899.1 - bt902.1)))))
theorem spec_DrawMoveSet.mono : ∀ a0 k, LeO (spec_DrawMoveSet.f k a0) (spec_DrawMoveSet.f (k + 1) a0) := by
 intro a0 k
 unfold spec_DrawMoveSet.f
 repeat' (first | (with_reducible first | exact spec_l1Cur_circle.mono _ _ _ _ | exact LeO.refl _ | exact LeO.none _ | refine LeO.ite ?_ ?_ | refine LeO.bind ?_ (fun _ => ?_)) | exact spec_l1Cur_circle.mono _ _ _ _ | exact LeO.none _ | refine LeO.ite ?_ ?_ | refine LeO.bind ?_ (fun _ => ?_))
set_option maxHeartbeats 8000000 in
set_option maxRecDepth 100000 in
theorem spec_DrawMoveSet.calls (k : Nat) (A0 : Option Addr) (c0 : Nat) (l0 : List Int) (r1 : Int) (r2 : List Int) (r3 : Int) (w : World) (hr0 : Kd.C (Kd.int .u8) w A0 l0.length l0) (hc0 : l0.length ≤ c0) (h : spec_DrawMoveSet.f k l0 = some (r1, r2, r3)) :
  Calls Try.prog 53 #[.slice A0 l0.length c0] w fun e w' => ∃ v1_ : Value, e = .returned (.tuple #[.int .i64 r1, v1_, .int .i64 r3]) ∧ Kd.R (Kd.int .i64) 3 w' w.heap.size (fun _ => True) v1_ r2 ∧ Below w.heap.size w w' := by
 have hu58 := Try.underlying58
 have HR0 := Aside0.mk hr0
 have HC0 := Aside0.mk hc0
 clear hr0 hc0
 have HB := Aside0.mk (Below.refl w.heap.size w)
 have H := h
 unfold spec_DrawMoveSet.f at H
 clear h
 replace H := Option.bind_eq_some_iff.mp H
 obtain ⟨⟨t893, t894, t897, t898⟩, A20, H⟩ := H
 replace H : ((spec_l1Cur_pick.f l0 t897 t898 12).bind fun bt899 => ((spec_l1Cur_pick.f l0 bt899.2.1 bt899.2.2 2).bind fun bt902 => (some (t893, t894, wrap64 (bt899.1 - bt902.1))))) = some (r1, r2, r3) := H
 have A2 := Aside0.mk A20
 clear A20
 replace H := Option.bind_eq_some_iff.mp H
 obtain ⟨⟨t899, t900, t901⟩, A30, H⟩ := H
 replace H : ((spec_l1Cur_pick.f l0 t900 t901 2).bind fun bt902 => (some (t893, t894, wrap64 (t899 - bt902.1)))) = some (r1, r2, r3) := H
 have A3 := Aside0.mk A30
 clear A30
 replace H := Option.bind_eq_some_iff.mp H
 obtain ⟨⟨t902, t903, t904⟩, A40, H⟩ := H
 replace H : (some (t893, t894, wrap64 (t899 - t902))) = some (r1, r2, r3) := H
 have A4 := Aside0.mk A40
 clear A40
 simp only [Option.some.injEq, Prod.mk.injEq] at H
 obtain ⟨rfl, rfl, rfl⟩ := H
 go_enter Try.func53, Try.ntmps53
 go_wp2_with (first | ((with_reducible refine gate_dst (N := 10) rfl ?_); refine box_event ?hg (N := 10) ?hd (cs := #[.slice A0 l0.length c0, .int .i64 0, .int .u64 0]) (t := 58) ?hr ?_; (case hd => rfl); (case hg => rfl); (case hr => first | (go_simp; done) | (go_simp; rfl)); intro gb892 hg w5 hbox hb; have HI892 := Aside0.mk ((⟨_, _, hbox, (by rw [hg]; exact (szB HB) : w.heap.size ≤ gb892), HR0.out⟩ : IsS58 w w5 gb892 l0 0 0)); replace HB := upB HB hb; clear hb hbox hg) | ((with_reducible refine gate_callee (f := 95) rfl ?_); refine goesA (some 13) Try.func95 #[.pointer (some ⟨gb892, 0, none⟩)] ?_; (with_reducible refine (spec_l1Cur_circle.calls k gb892 l0 0 0 t893 t894 t897 t898 w _ ?side1 ?side2 A2.out).mono ?_); (case side1 => exact IsS58.at HI892); (case side2 => exact atB HB); rintro e w6 ⟨v895, rfl, ho0, hi, hb, hk⟩; refine ⟨_, rfl, ?_⟩; have HO896 := lowR ho0 HB; replace HB := Aside0.mk (hb); replace HI892 := Aside0.mk (hi); (try clear hb); (try clear hb2); (try clear hk); (try clear hi); (try clear ho0)) | ((with_reducible refine gate_callee (f := 78) rfl ?_); refine goesA (some 19) Try.func78 #[.pointer (some ⟨gb892, 0, none⟩), .int .i64 12] ?_; (with_reducible refine (spec_l1Cur_pick.calls gb892 l0 t897 t898 12 t899 t900 t901 w _ ?side1 ?side2 A3.out).mono ?_); (case side1 => exact IsS58.at HI892); (case side2 => exact atB HB); rintro e w7 ⟨rfl, hi, hb, hk⟩; refine ⟨_, rfl, ?_⟩; replace HO896 := IsS58.keepR HI892 HO896 hk; replace HB := Aside0.mk (hb); replace HI892 := Aside0.mk (hi); (try clear hb); (try clear hb2); (try clear hk); (try clear hi)) | ((with_reducible refine gate_callee (f := 78) rfl ?_); refine goesA (some 21) Try.func78 #[.pointer (some ⟨gb892, 0, none⟩), .int .i64 2] ?_; (with_reducible refine (spec_l1Cur_pick.calls gb892 l0 t900 t901 2 t902 t903 t904 w _ ?side1 ?side2 A4.out).mono ?_); (case side1 => exact IsS58.at HI892); (case side2 => exact atB HB); rintro e w8 ⟨rfl, hi, hb, hk⟩; refine ⟨_, rfl, ?_⟩; replace HO896 := IsS58.keepR HI892 HO896 hk; replace HB := Aside0.mk (hb); replace HI892 := Aside0.mk (hi); (try clear hb); (try clear hb2); (try clear hk); (try clear hi)))
 go_ret3
 exact ⟨_, eqr, atR HO896, atB HB⟩

noncomputable def spec_DrawMoveSet.F (l0 : List Int) : Option (Int × List Int × Int) := lim fun k => spec_DrawMoveSet.f k l0
theorem spec_DrawMoveSet.F_lim (l0 : List Int) : Lim (fun k => spec_DrawMoveSet.f k l0) (spec_DrawMoveSet.F l0) := Lim.of fun k => spec_DrawMoveSet.mono l0 k
theorem spec_DrawMoveSet.F_eq (l0 : List Int) : spec_DrawMoveSet.F l0 = ((spec_l1Cur_circle.F l0 0 0).bind fun bt893 => ((spec_l1Cur_pick.f l0 bt893.2.2.1 bt893.2.2.2 12).bind fun bt899 => ((spec_l1Cur_pick.f l0 bt899.2.1 bt899.2.2 2).bind fun bt902 => (some (bt893.1, bt893.2.1, wrap64 (bt899.1 - bt902.1)))))) :=
 Lim.unique (spec_DrawMoveSet.F_lim l0) (by
  unfold spec_DrawMoveSet.f
  repeat' (first | (with_reducible first | exact Lim.const _ | exact spec_l1Cur_circle.F_lim _ _ _ | refine Lim.ite ?_ ?_ | refine Lim.bind ?_ (fun _ => ?_))))

end Go.Proofs.Ytofjndbpndpjjaa.Fn
namespace Go.Proofs.Ytofjndbpndpjjaa.Fn
open Go.RowKit Go.Proofs.YtofjndbpndpjjaaW.PrintWords Go.Proofs.YtofjndbpndpjjaaW.PrintLast Go.Proofs.YtofjndbpndpjjaaW.PrintMore
attribute [local go_sem] max2_int min2_int max_two min_two max_three min_three max_four min_four   -- for this text's walks alone
set_option linter.unusedVariables false
set_option linter.unusedSimpArgs false

/-! ### spec_MoveSet: function 54 -/
def spec_MoveSet.f (k : Nat) (a0 : Int) (l1 : List Int) (a2 : Int) : Option (List Int × Bool) := (spec_ciGood.f k a0 l1).bind fun t905 => (if t905 = true then ((spec_l1In.f a2 0 (wrap64 (a0 - 1))).bind fun t906 => (if t906 = true then ((spec_ciMove.f k a0 l1 a2).bind fun t907 => (some (t907, true))) else (some (([] : List Int), false)))) else (some (([] : List Int), false)))
theorem spec_MoveSet.mono : ∀ a0 a1 a2 k, LeO (spec_MoveSet.f k a0 a1 a2) (spec_MoveSet.f (k + 1) a0 a1 a2) := by
 intro a0 a1 a2 k
 unfold spec_MoveSet.f
 repeat' (first | (with_reducible first | exact spec_ciGood.mono _ _ _ | exact spec_ciMove.mono _ _ _ _ | exact LeO.refl _ | exact LeO.none _ | refine LeO.ite ?_ ?_ | refine LeO.bind ?_ (fun _ => ?_)) | exact spec_ciGood.mono _ _ _ | exact spec_ciMove.mono _ _ _ _ | exact LeO.none _ | refine LeO.ite ?_ ?_ | refine LeO.bind ?_ (fun _ => ?_))
set_option maxHeartbeats 8000000 in
set_option maxRecDepth 100000 in
theorem spec_MoveSet.calls (k : Nat) (a0 : Int) (A1 : Option Addr) (c1 : Nat) (l1 : List Int) (a2 : Int) (r1 : List Int) (r2 : Bool) (w : World) (hr1 : Kd.C (Kd.int .i64) w A1 l1.length l1) (hc1 : l1.length ≤ c1) (h : spec_MoveSet.f k a0 l1 a2 = some (r1, r2)) :
  Calls Try.prog 54 #[.int .i64 a0, .slice A1 l1.length c1, .int .i64 a2] w fun e w' => ∃ v0_ : Value, e = .returned (.tuple #[v0_, .bool r2]) ∧ Kd.R (Kd.int .i64) 3 w' w.heap.size (fun _ => True) v0_ r1 ∧ Below w.heap.size w w' := by
 have HR1 := Aside0.mk hr1
 have HC1 := Aside0.mk hc1
 clear hr1 hc1
 have HB := Aside0.mk (Below.refl w.heap.size w)
 have H := h
 unfold spec_MoveSet.f at H
 clear h
 replace H := Option.bind_eq_some_iff.mp H
 obtain ⟨t905, A40, H⟩ := H
 replace H : (if t905 = true then ((spec_l1In.f a2 0 (wrap64 (a0 - 1))).bind fun t906 => (if t906 = true then ((spec_ciMove.f k a0 l1 a2).bind fun t907 => (some (t907, true))) else (some (([] : List Int), false)))) else (some (([] : List Int), false))) = some (r1, r2) := H
 have A4 := Aside0.mk A40
 clear A40
 by_cases c5 : t905 = true
 ·subst c5
  have H1 : ((spec_l1In.f a2 0 (wrap64 (a0 - 1))).bind fun t906 => (if t906 = true then ((spec_ciMove.f k a0 l1 a2).bind fun t907 => (some (t907, true))) else (some (([] : List Int), false)))) = some (r1, r2) := by rw [if_pos rfl] at H; exact H
  clear H
  have H := H1
  clear H1
  replace H := Option.bind_eq_some_iff.mp H
  obtain ⟨t906, A60, H⟩ := H
  replace H : (if t906 = true then ((spec_ciMove.f k a0 l1 a2).bind fun t907 => (some (t907, true))) else (some (([] : List Int), false))) = some (r1, r2) := H
  have A6 := Aside0.mk A60
  clear A60
  by_cases c7 : t906 = true
  ·subst c7
   have H1 : ((spec_ciMove.f k a0 l1 a2).bind fun t907 => (some (t907, true))) = some (r1, r2) := by rw [if_pos rfl] at H; exact H
   clear H
   have H := H1
   clear H1
   replace H := Option.bind_eq_some_iff.mp H
   obtain ⟨t907, A80, H⟩ := H
   replace H : (some (t907, true)) = some (r1, r2) := H
   have A8 := Aside0.mk A80
   clear A80
   simp only [Option.some.injEq, Prod.mk.injEq] at H
   obtain ⟨rfl, rfl⟩ := H
   go_enter Try.func54, Try.ntmps54
   go_wp2_with (first | ((with_reducible refine gate_callee (f := 82) rfl ?_); refine goesA (some 10) Try.func82 #[.int .i64 a0, .slice A1 l1.length c1] ?_; (with_reducible refine (spec_ciGood.calls k a0 _ _ l1 true _ ?side1 ?side2 A4.out).mono ?_); (case side1 => repeat (first | exact HR1.out | (with_reducible refine Kd.C_alloc ?_ _) | (with_reducible refine Kd.C_drewN ?_ _) | (with_reducible refine Kd.C_drew ?_))); (case side2 => exact HC1.out); rintro e w' ⟨rfl, ⟨nd, rfl⟩⟩; refine ⟨_, rfl, ?_⟩) | (go_at_call 96; (with_reducible refine (spec_l1In.calls a2 0 (wrap64 (a0 - 1)) true _ A6.out).mono ?_); rintro e w' ⟨rfl, ⟨nd, rfl⟩⟩) | ((with_reducible refine gate_callee (f := 91) rfl ?_); refine goesA (some 22) Try.func91 #[.int .i64 a0, .slice A1 l1.length c1, .int .i64 a2] ?_; (with_reducible refine (spec_ciMove.calls k a0 _ _ l1 a2 t907 _ ?side1 ?side2 A8.out).mono ?_); (case side1 => repeat (first | exact HR1.out | (with_reducible refine Kd.C_alloc ?_ _) | (with_reducible refine Kd.C_drewN ?_ _) | (with_reducible refine Kd.C_drew ?_))); (case side2 => exact HC1.out); rintro e w9 ⟨v908, rfl, ho0, hb⟩; refine ⟨_, rfl, ?_⟩; have HO909 := lowR ho0 HB; replace HB := upB HB hb; (try clear hb); (try clear hb2); (try clear hk); (try clear hi); (try clear ho0)))
   go_ret2
   exact ⟨_, eqr, atR HO909, atB HB⟩
  ·replace c7 := Bool.eq_false_iff.mpr c7
   subst c7
   have H1 : (some (([] : List Int), false)) = some (r1, r2) := by rw [if_neg (show ¬ (false = true) by decide)] at H; exact H
   clear H
   have H := H1
   clear H1
   simp only [Option.some.injEq, Prod.mk.injEq] at H
   obtain ⟨rfl, rfl⟩ := H
   go_enter Try.func54, Try.ntmps54
   go_wp2_with (first | ((with_reducible refine gate_callee (f := 82) rfl ?_); refine goesA (some 10) Try.func82 #[.int .i64 a0, .slice A1 l1.length c1] ?_; (with_reducible refine (spec_ciGood.calls k a0 _ _ l1 true _ ?side1 ?side2 A4.out).mono ?_); (case side1 => repeat (first | exact HR1.out | (with_reducible refine Kd.C_alloc ?_ _) | (with_reducible refine Kd.C_drewN ?_ _) | (with_reducible refine Kd.C_drew ?_))); (case side2 => exact HC1.out); rintro e w' ⟨rfl, ⟨nd, rfl⟩⟩; refine ⟨_, rfl, ?_⟩) | (go_at_call 96; (with_reducible refine (spec_l1In.calls a2 0 (wrap64 (a0 - 1)) false _ A6.out).mono ?_); rintro e w' ⟨rfl, ⟨nd, rfl⟩⟩))
   go_ret2
   exact ⟨_, eqr, by first | exact Kd.R_nil _ _ _ _ _ | exact Kd.N_nil _ _ _ _ _ | exact Kd.V_nil _ _ _ _ _ | exact Kd.Q_nil _ _ _ _ _ | exact Kd.S_nil _ _ _ _ _, atB HB⟩
 ·replace c5 := Bool.eq_false_iff.mpr c5
  subst c5
  have H1 : (some (([] : List Int), false)) = some (r1, r2) := by rw [if_neg (show ¬ (false = true) by decide)] at H; exact H
  clear H
  have H := H1
  clear H1
  simp only [Option.some.injEq, Prod.mk.injEq] at H
  obtain ⟨rfl, rfl⟩ := H
  go_enter Try.func54, Try.ntmps54
  go_wp2_with (first | ((with_reducible refine gate_callee (f := 82) rfl ?_); refine goesA (some 10) Try.func82 #[.int .i64 a0, .slice A1 l1.length c1] ?_; (with_reducible refine (spec_ciGood.calls k a0 _ _ l1 false _ ?side1 ?side2 A4.out).mono ?_); (case side1 => repeat (first | exact HR1.out | (with_reducible refine Kd.C_alloc ?_ _) | (with_reducible refine Kd.C_drewN ?_ _) | (with_reducible refine Kd.C_drew ?_))); (case side2 => exact HC1.out); rintro e w' ⟨rfl, ⟨nd, rfl⟩⟩; refine ⟨_, rfl, ?_⟩))
  go_ret2
  exact ⟨_, eqr, by first | exact Kd.R_nil _ _ _ _ _ | exact Kd.N_nil _ _ _ _ _ | exact Kd.V_nil _ _ _ _ _ | exact Kd.Q_nil _ _ _ _ _ | exact Kd.S_nil _ _ _ _ _, atB HB⟩

noncomputable def spec_MoveSet.F (a0 : Int) (l1 : List Int) (a2 : Int) : Option (List Int × Bool) := lim fun k => spec_MoveSet.f k a0 l1 a2
theorem spec_MoveSet.F_lim (a0 : Int) (l1 : List Int) (a2 : Int) : Lim (fun k => spec_MoveSet.f k a0 l1 a2) (spec_MoveSet.F a0 l1 a2) := Lim.of fun k => spec_MoveSet.mono a0 l1 a2 k
theorem spec_MoveSet.F_eq (a0 : Int) (l1 : List Int) (a2 : Int) : spec_MoveSet.F a0 l1 a2 = ((spec_ciGood.F a0 l1).bind fun t905 => (if t905 = true then ((spec_l1In.f a2 0 (wrap64 (a0 - 1))).bind fun t906 => (if t906 = true then ((spec_ciMove.F a0 l1 a2).bind fun t907 => (some (t907, true))) else (some (([] : List Int), false)))) else (some (([] : List Int), false)))) :=
 Lim.unique (spec_MoveSet.F_lim a0 l1 a2) (by
  unfold spec_MoveSet.f
  repeat' (first | (with_reducible first | exact Lim.const _ | exact spec_ciGood.F_lim _ _ | exact spec_ciMove.F_lim _ _ _ | refine Lim.ite ?_ ?_ | refine Lim.bind ?_ (fun _ => ?_))))

end Go.Proofs.Ytofjndbpndpjjaa.Fn
namespace Go.Proofs.Ytofjndbpndpjjaa.Fn
open Go.RowKit Go.Proofs.YtofjndbpndpjjaaW.PrintWords Go.Proofs.YtofjndbpndpjjaaW.PrintLast Go.Proofs.YtofjndbpndpjjaaW.PrintMore
attribute [local go_sem] max2_int min2_int max_two min_two max_three min_three max_four min_four   -- for this text's walks alone
set_option linter.unusedVariables false
set_option linter.unusedSimpArgs false

/-! ### spec_TimesSet: function 55 -/
def spec_TimesSet.j0 : Nat → Int → List Int → Int → Bool → Option (List Int × Bool)
 | 0, _, _, _, _ => none
 | k + 1, x0, x1, x2, x19 => if x19 = true then (some (([] : List Int), false)) else ((spec_ciTimes.f k x0 x1 x2).bind fun t912 => (if (t912.length : Int) = (x1.length : Int) then (some (t912, true)) else (some (([] : List Int), false))))
def spec_TimesSet.f (k : Nat) (a0 : Int) (l1 : List Int) (a2 : Int) : Option (List Int × Bool) := (spec_ciGood.f k a0 l1).bind fun t910 => (if t910 = true then ((spec_l1In.f a2 1 (wrap64 (a0 - 1))).bind fun t911 => (spec_TimesSet.j0 k a0 l1 a2 (!t911))) else (spec_TimesSet.j0 k a0 l1 a2 true))
theorem spec_TimesSet.mono_l : ∀ k, (∀ y0 y1 y2 y3, LeO (spec_TimesSet.j0 k y0 y1 y2 y3) (spec_TimesSet.j0 (k + 1) y0 y1 y2 y3))
 | 0 => fun _ _ _ _ r h => by simp [spec_TimesSet.j0] at h
 | k + 1 => by
  have ih0 := spec_TimesSet.mono_l k
  ·intro y0 y1 y2 y3
   unfold spec_TimesSet.j0
   repeat' (first | (with_reducible first | exact spec_ciTimes.mono _ _ _ _ | exact LeO.refl _ | exact LeO.none _ | refine LeO.ite ?_ ?_ | refine LeO.bind ?_ (fun _ => ?_)) | exact spec_ciTimes.mono _ _ _ _ | exact LeO.none _ | refine LeO.ite ?_ ?_ | refine LeO.bind ?_ (fun _ => ?_))
theorem spec_TimesSet.mono : ∀ a0 a1 a2 k, LeO (spec_TimesSet.f k a0 a1 a2) (spec_TimesSet.f (k + 1) a0 a1 a2) := by
 intro a0 a1 a2 k
 have ih0 := spec_TimesSet.mono_l k
 unfold spec_TimesSet.f
 repeat' (first | (with_reducible first | exact ih0 _ _ _ _ | exact spec_ciGood.mono _ _ _ | exact LeO.refl _ | exact LeO.none _ | refine LeO.ite ?_ ?_ | refine LeO.bind ?_ (fun _ => ?_)) | exact ih0 _ _ _ _ | exact spec_ciGood.mono _ _ _ | exact LeO.none _ | refine LeO.ite ?_ ?_ | refine LeO.bind ?_ (fun _ => ?_))
set_option maxHeartbeats 8000000 in
set_option maxRecDepth 100000 in
theorem spec_TimesSet.calls (k : Nat) (a0 : Int) (A1 : Option Addr) (c1 : Nat) (l1 : List Int) (a2 : Int) (r1 : List Int) (r2 : Bool) (w : World) (hr1 : Kd.C (Kd.int .i64) w A1 l1.length l1) (hc1 : l1.length ≤ c1) (h : spec_TimesSet.f k a0 l1 a2 = some (r1, r2)) :
  Calls Try.prog 55 #[.int .i64 a0, .slice A1 l1.length c1, .int .i64 a2] w fun e w' => ∃ v0_ : Value, e = .returned (.tuple #[v0_, .bool r2]) ∧ Kd.R (Kd.int .i64) 3 w' w.heap.size (fun _ => True) v0_ r1 ∧ Below w.heap.size w w' := by
 have HR1 := Aside0.mk hr1
 have HC1 := Aside0.mk hc1
 clear hr1 hc1
 have HB := Aside0.mk (Below.refl w.heap.size w)
 have H := h
 unfold spec_TimesSet.f at H
 clear h
 have HC4 := Aside0.mk H
 clear H
 go_enter Try.func55, Try.ntmps55
 go_upto_region 1 with (fail)
 go_cut [19] (fun v19 wc => ∃ (kq : Nat) (x19_3 : Bool), v19 = .bool x19_3 ∧ Aside0 (spec_TimesSet.j0 kq a0 l1 a2 x19_3 = some (r1, r2)) ∧ Aside0 (kq ≤ k) ∧ Aside0 (Below w.heap.size w wc))
 case first =>
  have H := HC4.out
  clear HC4
  replace H := Option.bind_eq_some_iff.mp H
  obtain ⟨t910, A50, H⟩ := H
  replace H : (if t910 = true then ((spec_l1In.f a2 1 (wrap64 (a0 - 1))).bind fun t911 => (spec_TimesSet.j0 k a0 l1 a2 (!t911))) else (spec_TimesSet.j0 k a0 l1 a2 true)) = some (r1, r2) := H
  have A5 := Aside0.mk A50
  clear A50
  by_cases c6 : t910 = true
  ·subst c6
   have H1 : ((spec_l1In.f a2 1 (wrap64 (a0 - 1))).bind fun t911 => (spec_TimesSet.j0 k a0 l1 a2 (!t911))) = some (r1, r2) := by rw [if_pos rfl] at H; exact H
   clear H
   have H := H1
   clear H1
   replace H := Option.bind_eq_some_iff.mp H
   obtain ⟨t911, A70, H⟩ := H
   replace H : (spec_TimesSet.j0 k a0 l1 a2 (!t911)) = some (r1, r2) := H
   have A7 := Aside0.mk A70
   clear A70
   have H' := Aside0.mk H
   clear H
   go_wp2_with (first | ((with_reducible refine gate_callee (f := 82) rfl ?_); refine goesA (some 11) Try.func82 #[.int .i64 a0, .slice A1 l1.length c1] ?_; (with_reducible refine (spec_ciGood.calls k a0 _ _ l1 true _ ?side1 ?side2 A5.out).mono ?_); (case side1 => repeat (first | exact (Kd.C_below HR1.out HB.out) | (with_reducible refine Kd.C_alloc ?_ _) | (with_reducible refine Kd.C_drewN ?_ _) | (with_reducible refine Kd.C_drew ?_))); (case side2 => exact HC1.out); rintro e w' ⟨rfl, ⟨nd, rfl⟩⟩; refine ⟨_, rfl, ?_⟩) | (go_at_call 96; (with_reducible refine (spec_l1In.calls a2 1 (wrap64 (a0 - 1)) t911 _ A7.out).mono ?_); rintro e w' ⟨rfl, ⟨nd, rfl⟩⟩))
   go_meet
   case rel => exact ⟨_, (!t911), eqd, H', ⟨leD⟩, ⟨atB HB⟩⟩
  ·replace c6 := Bool.eq_false_iff.mpr c6
   subst c6
   have H1 : (spec_TimesSet.j0 k a0 l1 a2 true) = some (r1, r2) := by rw [if_neg (show ¬ (false = true) by decide)] at H; exact H
   clear H
   have H := H1
   clear H1
   have H' := Aside0.mk H
   clear H
   go_wp2_with (first | ((with_reducible refine gate_callee (f := 82) rfl ?_); refine goesA (some 11) Try.func82 #[.int .i64 a0, .slice A1 l1.length c1] ?_; (with_reducible refine (spec_ciGood.calls k a0 _ _ l1 false _ ?side1 ?side2 A5.out).mono ?_); (case side1 => repeat (first | exact (Kd.C_below HR1.out HB.out) | (with_reducible refine Kd.C_alloc ?_ _) | (with_reducible refine Kd.C_drewN ?_ _) | (with_reducible refine Kd.C_drew ?_))); (case side2 => exact HC1.out); rintro e w' ⟨rfl, ⟨nd, rfl⟩⟩; refine ⟨_, rfl, ?_⟩))
   go_meet
   case rel => exact ⟨_, (true), eqd, H', ⟨leD⟩, ⟨atB HB⟩⟩
 case rest =>
  clear HC4
  try clear c1
  try clear p2
  try clear c5
  try clear c6
  try clear p6
  obtain ⟨kq, x19_3, rfl, HA, HJ3, HB⟩ := hcut
  cases kq with
  | zero => exact absurd HA.out (by simp [spec_TimesSet.j0])
  | succ kj3 =>
   have H := HA.out
   clear HA
   simp only [spec_TimesSet.j0] at H
   by_cases c8 : x19_3 = true
   ·subst c8
    have H1 : (some (([] : List Int), false)) = some (r1, r2) := by rw [if_pos rfl] at H; exact H
    clear H
    have H := H1
    clear H1
    simp only [Option.some.injEq, Prod.mk.injEq] at H
    obtain ⟨rfl, rfl⟩ := H
    go_wp2
    go_ret2
    exact ⟨_, eqr, by first | exact Kd.R_nil _ _ _ _ _ | exact Kd.N_nil _ _ _ _ _ | exact Kd.V_nil _ _ _ _ _ | exact Kd.Q_nil _ _ _ _ _ | exact Kd.S_nil _ _ _ _ _, atB HB⟩
   ·replace c8 := Bool.eq_false_iff.mpr c8
    subst c8
    have H1 : ((spec_ciTimes.f kj3 a0 l1 a2).bind fun t912 => (if (t912.length : Int) = (l1.length : Int) then (some (t912, true)) else (some (([] : List Int), false)))) = some (r1, r2) := by rw [if_neg (show ¬ (false = true) by decide)] at H; exact H
    clear H
    have H := H1
    clear H1
    replace H := Option.bind_eq_some_iff.mp H
    obtain ⟨t912, A90, H⟩ := H
    replace H : (if (t912.length : Int) = (l1.length : Int) then (some (t912, true)) else (some (([] : List Int), false))) = some (r1, r2) := H
    have A9 := Aside0.mk A90
    clear A90
    by_cases c10 : (t912.length : Int) = (l1.length : Int)
    ·rw [if_pos c10] at H
     have c10b0 : ((t912.length : Int) == (l1.length : Int)) = true := beq_iff_eq.mpr c10
     have c10b1 : ((t912.length : Int) != (l1.length : Int)) = false := bne_eq_false_iff_eq.mpr c10
     have c10b2 : (t912.length == l1.length) = true := by first | simpa using c10 | (simp at c10 ⊢; omega)
     clear c10
     simp only [Option.some.injEq, Prod.mk.injEq] at H
     obtain ⟨rfl, rfl⟩ := H
     go_wp2_with (first | ((with_reducible refine gate_callee (f := 90) rfl ?_); refine goesA (some 23) Try.func90 #[.int .i64 a0, .slice A1 l1.length c1, .int .i64 a2] ?_; (with_reducible refine (spec_ciTimes.calls kj3 a0 _ _ l1 a2 t912 _ ?side1 ?side2 A9.out).mono ?_); (case side1 => repeat (first | exact (Kd.C_below HR1.out HB.out) | (with_reducible refine Kd.C_alloc ?_ _) | (with_reducible refine Kd.C_drewN ?_ _) | (with_reducible refine Kd.C_drew ?_))); (case side2 => exact HC1.out); rintro e w11 ⟨v913, rfl, ho0, hb⟩; refine ⟨_, rfl, ?_⟩; have HO914 := lowR ho0 HB; replace HB := upB HB hb; (try clear hb); (try clear hb2); (try clear hk); (try clear hi); (try clear ho0); obtain ⟨Ao12, co12, eo12⟩ := Kd.R_slice HO914.out; subst eo12))
     go_ret2
     exact ⟨_, eqr, atR HO914, atB HB⟩
    ·rw [if_neg c10] at H
     have c10b0 : ((t912.length : Int) == (l1.length : Int)) = false := beq_eq_false_iff_ne.mpr c10
     have c10b1 : ((t912.length : Int) != (l1.length : Int)) = true := bne_iff_ne.mpr c10
     have c10b2 : (t912.length == l1.length) = false := by first | simpa using c10 | (simp at c10 ⊢; omega)
     simp only [Option.some.injEq, Prod.mk.injEq] at H
     obtain ⟨rfl, rfl⟩ := H
     go_wp2_with (first | ((with_reducible refine gate_callee (f := 90) rfl ?_); refine goesA (some 23) Try.func90 #[.int .i64 a0, .slice A1 l1.length c1, .int .i64 a2] ?_; (with_reducible refine (spec_ciTimes.calls kj3 a0 _ _ l1 a2 t912 _ ?side1 ?side2 A9.out).mono ?_); (case side1 => repeat (first | exact (Kd.C_below HR1.out HB.out) | (with_reducible refine Kd.C_alloc ?_ _) | (with_reducible refine Kd.C_drewN ?_ _) | (with_reducible refine Kd.C_drew ?_))); (case side2 => exact HC1.out); rintro e w13 ⟨v913, rfl, ho0, hb⟩; refine ⟨_, rfl, ?_⟩; have HO914 := lowR ho0 HB; replace HB := upB HB hb; (try clear hb); (try clear hb2); (try clear hk); (try clear hi); (try clear ho0); obtain ⟨Ao14, co14, eo14⟩ := Kd.R_slice HO914.out; subst eo14))
     go_ret2
     exact ⟨_, eqr, by first | exact Kd.R_nil _ _ _ _ _ | exact Kd.N_nil _ _ _ _ _ | exact Kd.V_nil _ _ _ _ _ | exact Kd.Q_nil _ _ _ _ _ | exact Kd.S_nil _ _ _ _ _, atB HB⟩

noncomputable def spec_TimesSet.J0 (x0 : Int) (x1 : List Int) (x2 : Int) (x19 : Bool) : Option (List Int × Bool) := lim fun k => spec_TimesSet.j0 k x0 x1 x2 x19
theorem spec_TimesSet.J0_lim (x0 : Int) (x1 : List Int) (x2 : Int) (x19 : Bool) : Lim (fun k => spec_TimesSet.j0 k x0 x1 x2 x19) (spec_TimesSet.J0 x0 x1 x2 x19) := Lim.of fun k => (spec_TimesSet.mono_l k) x0 x1 x2 x19
noncomputable def spec_TimesSet.F (a0 : Int) (l1 : List Int) (a2 : Int) : Option (List Int × Bool) := lim fun k => spec_TimesSet.f k a0 l1 a2
theorem spec_TimesSet.F_lim (a0 : Int) (l1 : List Int) (a2 : Int) : Lim (fun k => spec_TimesSet.f k a0 l1 a2) (spec_TimesSet.F a0 l1 a2) := Lim.of fun k => spec_TimesSet.mono a0 l1 a2 k
theorem spec_TimesSet.J0_eq (x0 : Int) (x1 : List Int) (x2 : Int) (x19 : Bool) : spec_TimesSet.J0 x0 x1 x2 x19 = (if x19 = true then (some (([] : List Int), false)) else ((spec_ciTimes.F x0 x1 x2).bind fun t912 => (if (t912.length : Int) = (x1.length : Int) then (some (t912, true)) else (some (([] : List Int), false))))) :=
 Lim.step (f := fun k => spec_TimesSet.j0 (k + 1) x0 x1 x2 x19) (spec_TimesSet.J0_lim x0 x1 x2 x19) (fun _ => rfl) (by
  simp only [spec_TimesSet.j0]
  repeat' (first | (with_reducible first | exact Lim.const _ | exact spec_ciTimes.F_lim _ _ _ | refine Lim.ite ?_ ?_ | refine Lim.bind ?_ (fun _ => ?_))))
theorem spec_TimesSet.F_eq (a0 : Int) (l1 : List Int) (a2 : Int) : spec_TimesSet.F a0 l1 a2 = ((spec_ciGood.F a0 l1).bind fun t910 => (if t910 = true then ((spec_l1In.f a2 1 (wrap64 (a0 - 1))).bind fun t911 => (spec_TimesSet.J0 a0 l1 a2 (!t911))) else (spec_TimesSet.J0 a0 l1 a2 true))) :=
 Lim.unique (spec_TimesSet.F_lim a0 l1 a2) (by
  unfold spec_TimesSet.f
  repeat' (first | (with_reducible first | exact Lim.const _ | exact spec_TimesSet.J0_lim _ _ _ _ | exact spec_ciGood.F_lim _ _ | refine Lim.ite ?_ ?_ | refine Lim.bind ?_ (fun _ => ?_))))

end Go.Proofs.Ytofjndbpndpjjaa.Fn
namespace Go.Proofs.Ytofjndbpndpjjaa.Fn
open Go.RowKit Go.Proofs.YtofjndbpndpjjaaW.PrintWords Go.Proofs.YtofjndbpndpjjaaW.PrintLast Go.Proofs.YtofjndbpndpjjaaW.PrintMore
attribute [local go_sem] max2_int min2_int max_two min_two max_three min_three max_four min_four   -- for this text's walks alone
set_option linter.unusedVariables false
set_option linter.unusedSimpArgs false

/-! ### spec_DrawComplementSet: function 56 -/
def spec_DrawComplementSet.f (k : Nat) (l0 : List Int) : Option (Int × List Int) := (spec_DrawIsCircleSet.f k l0).bind fun bt915 => (some (bt915.1, bt915.2))
theorem spec_DrawComplementSet.mono : ∀ a0 k, LeO (spec_DrawComplementSet.f k a0) (spec_DrawComplementSet.f (k + 1) a0) := by
 intro a0 k
 unfold spec_DrawComplementSet.f
 repeat' (first | (with_reducible first | exact spec_DrawIsCircleSet.mono _ _ | exact LeO.refl _ | exact LeO.none _ | refine LeO.ite ?_ ?_ | refine LeO.bind ?_ (fun _ => ?_)) | exact spec_DrawIsCircleSet.mono _ _ | exact LeO.none _ | refine LeO.ite ?_ ?_ | refine LeO.bind ?_ (fun _ => ?_))
set_option maxHeartbeats 8000000 in
set_option maxRecDepth 100000 in
theorem spec_DrawComplementSet.calls (k : Nat) (A0 : Option Addr) (c0 : Nat) (l0 : List Int) (r1 : Int) (r2 : List Int) (w : World) (hr0 : Kd.C (Kd.int .u8) w A0 l0.length l0) (hc0 : l0.length ≤ c0) (h : spec_DrawComplementSet.f k l0 = some (r1, r2)) :
  Calls Try.prog 56 #[.slice A0 l0.length c0] w fun e w' => ∃ v1_ : Value, e = .returned (.tuple #[.int .i64 r1, v1_]) ∧ Kd.R (Kd.int .i64) 3 w' w.heap.size (fun _ => True) v1_ r2 ∧ Below w.heap.size w w' := by
 have HR0 := Aside0.mk hr0
 have HC0 := Aside0.mk hc0
 clear hr0 hc0
 have HB := Aside0.mk (Below.refl w.heap.size w)
 have H := h
 unfold spec_DrawComplementSet.f at H
 clear h
 replace H := Option.bind_eq_some_iff.mp H
 obtain ⟨⟨t915, t916⟩, A20, H⟩ := H
 replace H : (some (t915, t916)) = some (r1, r2) := H
 have A2 := Aside0.mk A20
 clear A20
 simp only [Option.some.injEq, Prod.mk.injEq] at H
 obtain ⟨rfl, rfl⟩ := H
 go_enter Try.func56, Try.ntmps56
 go_wp2_with (first | ((with_reducible refine gate_callee (f := 79) rfl ?_); refine goesA (some 5) Try.func79 #[.slice A0 l0.length c0] ?_; (with_reducible refine (spec_DrawIsCircleSet.calls k _ _ l0 t915 t916 _ ?side1 ?side2 A2.out).mono ?_); (case side1 => repeat (first | exact HR0.out | (with_reducible refine Kd.C_alloc ?_ _) | (with_reducible refine Kd.C_drewN ?_ _) | (with_reducible refine Kd.C_drew ?_))); (case side2 => exact HC0.out); rintro e w3 ⟨v917, rfl, ho0, hb⟩; refine ⟨_, rfl, ?_⟩; have HO918 := lowR ho0 HB; replace HB := upB HB hb; (try clear hb); (try clear hb2); (try clear hk); (try clear hi); (try clear ho0)))
 go_ret2
 exact ⟨_, eqr, atR HO918, atB HB⟩

noncomputable def spec_DrawComplementSet.F (l0 : List Int) : Option (Int × List Int) := lim fun k => spec_DrawComplementSet.f k l0
theorem spec_DrawComplementSet.F_lim (l0 : List Int) : Lim (fun k => spec_DrawComplementSet.f k l0) (spec_DrawComplementSet.F l0) := Lim.of fun k => spec_DrawComplementSet.mono l0 k
theorem spec_DrawComplementSet.F_eq (l0 : List Int) : spec_DrawComplementSet.F l0 = ((spec_DrawIsCircleSet.F l0).bind fun bt915 => (some (bt915.1, bt915.2))) :=
 Lim.unique (spec_DrawComplementSet.F_lim l0) (by
  unfold spec_DrawComplementSet.f
  repeat' (first | (with_reducible first | exact Lim.const _ | exact spec_DrawIsCircleSet.F_lim _ | refine Lim.ite ?_ ?_ | refine Lim.bind ?_ (fun _ => ?_))))

end Go.Proofs.Ytofjndbpndpjjaa.Fn
namespace Go.Proofs.Ytofjndbpndpjjaa.Fn
open Go.RowKit Go.Proofs.YtofjndbpndpjjaaW.PrintWords Go.Proofs.YtofjndbpndpjjaaW.PrintLast Go.Proofs.YtofjndbpndpjjaaW.PrintMore
attribute [local go_sem] max2_int min2_int max_two min_two max_three min_three max_four min_four   -- for this text's walks alone
set_option linter.unusedVariables false
set_option linter.unusedSimpArgs false

/-! ### spec_l1Has: function 75 -/
def spec_l1Has.l0 : Nat → Int → List Int → Int → Int → Option (Bool)
 | 0, _, _, _, _ => none
 | k + 1, x1, x7, x8, x9 => if x9 < x8 then (if 0 ≤ x9 then (if x9 < (x7.length : Int) then (if (rd x7 x9) = x1 then (some true) else (spec_l1Has.l0 k x1 x7 x8 (wrap64 (x9 + 1)))) else (none)) else (none)) else (some false)
def spec_l1Has.f (k : Nat) (l0 : List Int) (a1 : Int) : Option (Bool) := spec_l1Has.l0 k a1 l0 (l0.length : Int) 0
theorem spec_l1Has.mono_l : ∀ k, (∀ y0 y1 y2 y3, LeO (spec_l1Has.l0 k y0 y1 y2 y3) (spec_l1Has.l0 (k + 1) y0 y1 y2 y3))
 | 0 => fun _ _ _ _ r h => by simp [spec_l1Has.l0] at h
 | k + 1 => by
  have ih0 := spec_l1Has.mono_l k
  ·intro y0 y1 y2 y3
   unfold spec_l1Has.l0
   repeat' (first | (with_reducible first | exact ih0 _ _ _ _ | exact LeO.refl _ | exact LeO.none _ | refine LeO.ite ?_ ?_ | refine LeO.bind ?_ (fun _ => ?_)) | exact ih0 _ _ _ _ | exact LeO.none _ | refine LeO.ite ?_ ?_ | refine LeO.bind ?_ (fun _ => ?_))
theorem spec_l1Has.mono : ∀ a0 a1 k, LeO (spec_l1Has.f k a0 a1) (spec_l1Has.f (k + 1) a0 a1) := by
 intro a0 a1 k
 have ih0 := spec_l1Has.mono_l k
 unfold spec_l1Has.f
 repeat' (first | (with_reducible first | exact ih0 _ _ _ _ | exact LeO.refl _ | exact LeO.none _ | refine LeO.ite ?_ ?_ | refine LeO.bind ?_ (fun _ => ?_)) | exact ih0 _ _ _ _ | exact LeO.none _ | refine LeO.ite ?_ ?_ | refine LeO.bind ?_ (fun _ => ?_))
set_option maxHeartbeats 8000000 in
set_option maxRecDepth 100000 in
theorem spec_l1Has.calls (k : Nat) (A0 : Option Addr) (c0 : Nat) (l0 : List Int) (a1 : Int) (r : Bool) (w : World) (hr0 : Kd.C (Kd.int .i64) w A0 l0.length l0) (hc0 : l0.length ≤ c0) (h : spec_l1Has.f k l0 a1 = some r) :
  Calls Try.prog 75 #[.slice A0 l0.length c0, .int .i64 a1] w fun e w' => e = .returned (.bool r) ∧ Drawn0 w w' := by
 have HR0 := Aside0.mk hr0
 have HC0 := Aside0.mk hc0
 clear hr0 hc0
 have H := h
 unfold spec_l1Has.f at H
 clear h
 have H' := Aside0.mk H
 clear H
 go_enter Try.func75, Try.ntmps75
 go_wp2
 go_loopg [9] k (fun kq v9 w' => ∃ (x9_1 : Int), v9 = .int .i64 x9_1 ∧ Aside0 (spec_l1Has.l0 kq a1 l0 (l0.length : Int) x9_1 = some r) ∧ Aside0 (kq ≤ k) ∧ Drawn0 w w')
 case atStart => exact ⟨(0), eqd, H', ⟨Nat.le_refl _⟩, by repeat (first | exact Drawn0.refl _ | apply Drawn0.step)⟩
 case round =>
  clear H'
  try clear p2
  obtain ⟨x9_1, rfl, HA, HK1, ⟨m1, rfl⟩⟩ := hrel
  cases gk with
  | zero => exact absurd HA.out (by simp [spec_l1Has.l0])
  | succ k1 =>
   have H := HA.out
   clear HA
   simp only [spec_l1Has.l0] at H
   by_cases c3 : x9_1 < (l0.length : Int)
   ·rw [if_pos c3] at H
    have c3b0 : decide (x9_1 < (l0.length : Int)) = true := decide_eq_true c3
    clear c3
    by_cases c4 : 0 ≤ x9_1
    ·rw [if_pos c4] at H
     have c4b0 : decide (0 ≤ x9_1) = true := decide_eq_true c4
     clear c4
     by_cases c5 : x9_1 < (l0.length : Int)
     ·rw [if_pos c5] at H
      have c5b0 : decide (x9_1 < (l0.length : Int)) = true := decide_eq_true c5
      clear c5
      by_cases c6 : (rd l0 x9_1) = a1
      ·rw [if_pos c6] at H
       have c6b0 : ((rd l0 x9_1) == a1) = true := beq_iff_eq.mpr c6
       have c6b1 : ((rd l0 x9_1) != a1) = false := bne_eq_false_iff_eq.mpr c6
       clear c6
       obtain rfl := Option.some.inj H
       have p497 : 0 ≤ (x9_1 : Int) := ofd
       have q497 : x9_1 < (l0.length : Int) := ofd
       obtain ⟨ad497, e497, hx497_0⟩ := Kd.at_int HR0.out x9_1 p497 q497
       cases e497
       replace p497 := eq_true p497
       replace q497 := eq_true q497
       go_wp2
       go_ret
       exact ⟨by first | rfl | (simp; done) | (simp [*]; done), by repeat (first | exact Drawn0.refl _ | apply Drawn0.step)⟩
      ·rw [if_neg c6] at H
       have c6b0 : ((rd l0 x9_1) == a1) = false := beq_eq_false_iff_ne.mpr c6
       have c6b1 : ((rd l0 x9_1) != a1) = true := bne_iff_ne.mpr c6
       have H' := Aside0.mk H
       clear H
       have p497 : 0 ≤ (x9_1 : Int) := ofd
       have q497 : x9_1 < (l0.length : Int) := ofd
       obtain ⟨ad497, e497, hx497_0⟩ := Kd.at_int HR0.out x9_1 p497 q497
       cases e497
       replace p497 := eq_true p497
       replace q497 := eq_true q497
       go_wp2
       go_roundg k1
       case measure => have := HK1.out; omega
       case rel => exact ⟨(wrap64 (x9_1 + 1)), eqd, H', ⟨by have := HK1.out; omega⟩, by repeat (first | exact Drawn0.refl _ | apply Drawn0.step)⟩
     ·rw [if_neg c5] at H
      exact absurd H (by simp)
    ·rw [if_neg c4] at H
     exact absurd H (by simp)
   ·rw [if_neg c3] at H
    have c3b0 : decide (x9_1 < (l0.length : Int)) = false := decide_eq_false c3
    clear c3
    obtain rfl := Option.some.inj H
    go_wp2
    go_ret
    exact ⟨by first | rfl | (simp; done) | (simp [*]; done), by repeat (first | exact Drawn0.refl _ | apply Drawn0.step)⟩

noncomputable def spec_l1Has.L0 (x1 : Int) (x7 : List Int) (x8 : Int) (x9 : Int) : Option (Bool) := lim fun k => spec_l1Has.l0 k x1 x7 x8 x9
theorem spec_l1Has.L0_lim (x1 : Int) (x7 : List Int) (x8 : Int) (x9 : Int) : Lim (fun k => spec_l1Has.l0 k x1 x7 x8 x9) (spec_l1Has.L0 x1 x7 x8 x9) := Lim.of fun k => (spec_l1Has.mono_l k) x1 x7 x8 x9
noncomputable def spec_l1Has.F (l0 : List Int) (a1 : Int) : Option (Bool) := lim fun k => spec_l1Has.f k l0 a1
theorem spec_l1Has.F_lim (l0 : List Int) (a1 : Int) : Lim (fun k => spec_l1Has.f k l0 a1) (spec_l1Has.F l0 a1) := Lim.of fun k => spec_l1Has.mono l0 a1 k
theorem spec_l1Has.L0_eq (x1 : Int) (x7 : List Int) (x8 : Int) (x9 : Int) : spec_l1Has.L0 x1 x7 x8 x9 = (if x9 < x8 then (if 0 ≤ x9 then (if x9 < (x7.length : Int) then (if (rd x7 x9) = x1 then (some true) else (spec_l1Has.L0 x1 x7 x8 (wrap64 (x9 + 1)))) else (none)) else (none)) else (some false)) :=
 Lim.step (f := fun k => spec_l1Has.l0 (k + 1) x1 x7 x8 x9) (spec_l1Has.L0_lim x1 x7 x8 x9) (fun _ => rfl) (by
  simp only [spec_l1Has.l0]
  repeat' (first | (with_reducible first | exact Lim.const _ | exact spec_l1Has.L0_lim _ _ _ _ | refine Lim.ite ?_ ?_ | refine Lim.bind ?_ (fun _ => ?_))))
theorem spec_l1Has.F_eq (l0 : List Int) (a1 : Int) : spec_l1Has.F l0 a1 = (spec_l1Has.L0 a1 l0 (l0.length : Int) 0) :=
 Lim.unique (spec_l1Has.F_lim l0 a1) (by
  unfold spec_l1Has.f
  repeat' (first | (with_reducible first | exact Lim.const _ | exact spec_l1Has.L0_lim _ _ _ _ | refine Lim.ite ?_ ?_ | refine Lim.bind ?_ (fun _ => ?_))))

end Go.Proofs.Ytofjndbpndpjjaa.Fn
namespace Go.Proofs.Ytofjndbpndpjjaa.Fn
open Go.RowKit Go.Proofs.YtofjndbpndpjjaaW.PrintWords Go.Proofs.YtofjndbpndpjjaaW.PrintLast Go.Proofs.YtofjndbpndpjjaaW.PrintMore
attribute [local go_sem] max2_int min2_int max_two min_two max_three min_three max_four min_four   -- for this text's walks alone
set_option linter.unusedVariables false
set_option linter.unusedSimpArgs false

/-! ### spec_ComplementSet: function 57 -/
def spec_ComplementSet.l0 : Nat → Int → List Int → List Int → Int → Option (List Int × Bool)
 | 0, _, _, _, _ => none
 | k + 1, x0, x1, x6, x7 => if x7 < x0 then ((spec_l1Has.f k x1 x7).bind fun t920 => (if t920 = true then (spec_ComplementSet.l0 k x0 x1 x6 (wrap64 (x7 + 1))) else (if x6.length < 17592186044416 then (spec_ComplementSet.l0 k x0 x1 (x6 ++ [x7]) (wrap64 (x7 + 1))) else (none)))) else ((spec_ciGood.f k x0 x6).bind fun t924 => (if t924 = true then (some (x6, true)) else (some (([] : List Int), false))))
def spec_ComplementSet.f (k : Nat) (a0 : Int) (l1 : List Int) : Option (List Int × Bool) := (spec_ciGood.f k a0 l1).bind fun t919 => (if t919 = true then (spec_ComplementSet.l0 k a0 l1 ([] : List Int) 0) else (some (([] : List Int), false)))
theorem spec_ComplementSet.mono_l : ∀ k, (∀ y0 y1 y2 y3, LeO (spec_ComplementSet.l0 k y0 y1 y2 y3) (spec_ComplementSet.l0 (k + 1) y0 y1 y2 y3))
 | 0 => fun _ _ _ _ r h => by simp [spec_ComplementSet.l0] at h
 | k + 1 => by
  have ih0 := spec_ComplementSet.mono_l k
  ·intro y0 y1 y2 y3
   unfold spec_ComplementSet.l0
   repeat' (first | (with_reducible first | exact ih0 _ _ _ _ | exact spec_ciGood.mono _ _ _ | exact spec_l1Has.mono _ _ _ | exact LeO.refl _ | exact LeO.none _ | refine LeO.ite ?_ ?_ | refine LeO.bind ?_ (fun _ => ?_)) | exact ih0 _ _ _ _ | exact spec_ciGood.mono _ _ _ | exact spec_l1Has.mono _ _ _ | exact LeO.none _ | refine LeO.ite ?_ ?_ | refine LeO.bind ?_ (fun _ => ?_))
theorem spec_ComplementSet.mono : ∀ a0 a1 k, LeO (spec_ComplementSet.f k a0 a1) (spec_ComplementSet.f (k + 1) a0 a1) := by
 intro a0 a1 k
 have ih0 := spec_ComplementSet.mono_l k
 unfold spec_ComplementSet.f
 repeat' (first | (with_reducible first | exact ih0 _ _ _ _ | exact spec_ciGood.mono _ _ _ | exact LeO.refl _ | exact LeO.none _ | refine LeO.ite ?_ ?_ | refine LeO.bind ?_ (fun _ => ?_)) | exact ih0 _ _ _ _ | exact spec_ciGood.mono _ _ _ | exact LeO.none _ | refine LeO.ite ?_ ?_ | refine LeO.bind ?_ (fun _ => ?_))
set_option maxHeartbeats 8000000 in
set_option maxRecDepth 100000 in
theorem spec_ComplementSet.calls (k : Nat) (a0 : Int) (A1 : Option Addr) (c1 : Nat) (l1 : List Int) (r1 : List Int) (r2 : Bool) (w : World) (hr1 : Kd.C (Kd.int .i64) w A1 l1.length l1) (hc1 : l1.length ≤ c1) (h : spec_ComplementSet.f k a0 l1 = some (r1, r2)) :
  Calls Try.prog 57 #[.int .i64 a0, .slice A1 l1.length c1] w fun e w' => ∃ v0_ : Value, e = .returned (.tuple #[v0_, .bool r2]) ∧ Kd.R (Kd.int .i64) 3 w' w.heap.size (fun _ => True) v0_ r1 ∧ Below w.heap.size w w' := by
 have HR1 := Aside0.mk hr1
 have HC1 := Aside0.mk hc1
 clear hr1 hc1
 have HB := Aside0.mk (Below.refl w.heap.size w)
 have H := h
 unfold spec_ComplementSet.f at H
 clear h
 replace H := Option.bind_eq_some_iff.mp H
 obtain ⟨t919, A30, H⟩ := H
 replace H : (if t919 = true then (spec_ComplementSet.l0 k a0 l1 ([] : List Int) 0) else (some (([] : List Int), false))) = some (r1, r2) := H
 have A3 := Aside0.mk A30
 clear A30
 by_cases c4 : t919 = true
 ·subst c4
  have H1 : (spec_ComplementSet.l0 k a0 l1 ([] : List Int) 0) = some (r1, r2) := by rw [if_pos rfl] at H; exact H
  clear H
  have H := H1
  clear H1
  have H' := Aside0.mk H
  clear H
  go_enter Try.func57, Try.ntmps57
  go_wp2_with (first | ((with_reducible refine gate_callee (f := 82) rfl ?_); refine goesA (some 10) Try.func82 #[.int .i64 a0, .slice A1 l1.length c1] ?_; (with_reducible refine (spec_ciGood.calls k a0 _ _ l1 true _ ?side1 ?side2 A3.out).mono ?_); (case side1 => repeat (first | exact HR1.out | (with_reducible refine Kd.C_alloc ?_ _) | (with_reducible refine Kd.C_drewN ?_ _) | (with_reducible refine Kd.C_drew ?_))); (case side2 => exact HC1.out); rintro e w' ⟨rfl, ⟨nd, rfl⟩⟩; refine ⟨_, rfl, ?_⟩))
  go_loopg [6, 7] k (fun kq v6 v7 w' => ∃ (x6_1 : List Int) (x7_1 : Int), v7 = .int .i64 x7_1 ∧ Aside0 (spec_ComplementSet.l0 kq a0 l1 x6_1 x7_1 = some (r1, r2)) ∧ Aside0 (kq ≤ k) ∧ Aside0 (Kd.R (Kd.int .i64) 3 w' w.heap.size (fun _ => True) v6 x6_1) ∧ Aside0 (Below w.heap.size w w'))
  case atStart => exact ⟨(([] : List Int)), (0), eqd, H', ⟨Nat.le_refl _⟩, ⟨by first | exact Kd.R_nil _ _ _ _ _ | exact Kd.N_nil _ _ _ _ _ | exact Kd.V_nil _ _ _ _ _ | exact Kd.Q_nil _ _ _ _ _ | exact Kd.S_nil _ _ _ _ _⟩, ⟨atB HB⟩⟩
  case round =>
   clear H'
   try clear c1
   try clear p2
   try clear c4
   obtain ⟨x6_1, x7_1, rfl, HA, HK1, HO_6, HB⟩ := hrel
   cases gk with
   | zero => exact absurd HA.out (by simp [spec_ComplementSet.l0])
   | succ k1 =>
    have H := HA.out
    clear HA
    simp only [spec_ComplementSet.l0] at H
    by_cases c5 : x7_1 < a0
    ·rw [if_pos c5] at H
     have c5b0 : decide (x7_1 < a0) = true := decide_eq_true c5
     clear c5
     replace H := Option.bind_eq_some_iff.mp H
     obtain ⟨t920, A60, H⟩ := H
     replace H : (if t920 = true then (spec_ComplementSet.l0 k1 a0 l1 x6_1 (wrap64 (x7_1 + 1))) else (if x6_1.length < 17592186044416 then (spec_ComplementSet.l0 k1 a0 l1 (x6_1 ++ [x7_1]) (wrap64 (x7_1 + 1))) else (none))) = some (r1, r2) := H
     have A6 := Aside0.mk A60
     clear A60
     by_cases c7 : t920 = true
     ·subst c7
      have H1 : (spec_ComplementSet.l0 k1 a0 l1 x6_1 (wrap64 (x7_1 + 1))) = some (r1, r2) := by rw [if_pos rfl] at H; exact H
      clear H
      have H := H1
      clear H1
      have H' := Aside0.mk H
      clear H
      go_wp2_with (first | ((with_reducible refine gate_callee (f := 75) rfl ?_); refine goesA (some 19) Try.func75 #[.slice A1 l1.length c1, .int .i64 x7_1] ?_; (with_reducible refine (spec_l1Has.calls k1 _ _ l1 x7_1 true _ ?side1 ?side2 A6.out).mono ?_); (case side1 => repeat (first | exact (Kd.C_below HR1.out HB.out) | (with_reducible refine Kd.C_alloc ?_ _) | (with_reducible refine Kd.C_drewN ?_ _) | (with_reducible refine Kd.C_drew ?_))); (case side2 => exact HC1.out); rintro e w' ⟨rfl, ⟨nd, rfl⟩⟩; refine ⟨_, rfl, ?_⟩))
      go_roundg k1
      case measure => have := HK1.out; omega
      case rel => exact ⟨(x6_1), (wrap64 (x7_1 + 1)), eqd, H', ⟨by have := HK1.out; omega⟩, ⟨atR HO_6⟩, ⟨atB HB⟩⟩
     ·replace c7 := Bool.eq_false_iff.mpr c7
      subst c7
      have H1 : (if x6_1.length < 17592186044416 then (spec_ComplementSet.l0 k1 a0 l1 (x6_1 ++ [x7_1]) (wrap64 (x7_1 + 1))) else (none)) = some (r1, r2) := by rw [if_neg (show ¬ (false = true) by decide)] at H; exact H
      clear H
      have H := H1
      clear H1
      by_cases c8 : x6_1.length < 17592186044416
      ·rw [if_pos c8] at H
       have LMc8 := Aside0.mk c8
       clear c8
       obtain ⟨y921, hy921⟩ : ∃ y_ : List Int, y_ = (x6_1 ++ [x7_1]) := ⟨_, rfl⟩
       replace H : (spec_ComplementSet.l0 k1 a0 l1 y921 (wrap64 (x7_1 + 1))) = some (r1, r2) := by first | (rw [hy921]; with_reducible exact H) | (have H2_ := (Option.bind_some _ _).symm.trans H; rw [hy921]; with_reducible exact H2_) | (have H2_ := (Option.bind_some _ _).symm.trans H; with_reducible exact H2_) | with_reducible exact H | (rw [hy921]; exact H) | exact H
       have Ny921 := Aside0.mk hy921
       clear hy921
       have H' := Aside0.mk H
       clear H
       go_wp2_with (first | ((with_reducible refine gate_callee (f := 75) rfl ?_); refine goesA (some 19) Try.func75 #[.slice A1 l1.length c1, .int .i64 x7_1] ?_; (with_reducible refine (spec_l1Has.calls k1 _ _ l1 x7_1 false _ ?side1 ?side2 A6.out).mono ?_); (case side1 => repeat (first | exact (Kd.C_below HR1.out HB.out) | (with_reducible refine Kd.C_alloc ?_ _) | (with_reducible refine Kd.C_drewN ?_ _) | (with_reducible refine Kd.C_drew ?_))); (case side2 => exact HC1.out); rintro e w' ⟨rfl, ⟨nd, rfl⟩⟩; refine ⟨_, rfl, ?_⟩) | ((with_reducible refine gate_builtin (b := .append) (xs := #[.tmp 21, .tmp 23]) rfl ?_); at_builtin; refine Kd.R_append (Kd.int .i64) (w0 := w) w.heap.size rfl (.tmp 21) (.tmp 23) 24 3 (.int .i64 0) 8 rfl Try.underlying24 info3 rfl (by decide) (by omega) u6 x6_1 x7_1 [.int .i64 x7_1] (fun _ => True) (fun _ => False) rfl rfl ?aP (fun _ hk => hk.elim) ?aF ?aO ?aB ?aS ?aL ?_; (case aP => exact rfl); (case aB => exact (atB HB)); (case aF => exact (fun _ _ => trivial)); (case aO => exact (atR HO_6)); (case aS => exact (szB HB)); (case aL => have := LMc8.out; omega); intro v922 w9 ho hb hg hat; rw [← Ny921.out] at ho; have HO923 := Aside0.mk (ho); replace HB := Aside0.mk (hb); clear HO_6; clear ho hb hg hat))
       go_roundg k1
       case measure => have := HK1.out; omega
       case rel => exact ⟨(y921), (wrap64 (x7_1 + 1)), eqd, H', ⟨by have := HK1.out; omega⟩, ⟨atR HO923⟩, ⟨atB HB⟩⟩
      ·rw [if_neg c8] at H
       exact absurd H (by simp)
    ·rw [if_neg c5] at H
     have c5b0 : decide (x7_1 < a0) = false := decide_eq_false c5
     clear c5
     replace H := Option.bind_eq_some_iff.mp H
     obtain ⟨t924, A100, H⟩ := H
     replace H : (if t924 = true then (some (x6_1, true)) else (some (([] : List Int), false))) = some (r1, r2) := H
     have A10 := Aside0.mk A100
     clear A100
     by_cases c11 : t924 = true
     ·subst c11
      have H1 : (some (x6_1, true)) = some (r1, r2) := by rw [if_pos rfl] at H; exact H
      clear H
      have H := H1
      clear H1
      simp only [Option.some.injEq, Prod.mk.injEq] at H
      obtain ⟨rfl, rfl⟩ := H
      obtain ⟨Ao12, co12, eo12⟩ := Kd.R_slice HO_6.out
      subst eo12
      go_wp2_with (first | ((with_reducible refine gate_callee (f := 82) rfl ?_); refine goesA (some 27) Try.func82 #[.int .i64 a0, .slice Ao12 x6_1.length co12] ?_; (with_reducible refine (spec_ciGood.calls k1 a0 _ _ x6_1 true _ ?side1 ?side2 A10.out).mono ?_); (case side1 => exact atRC HO_6); (case side2 => exact (Kd.R_reads' HO_6.out).2.1); rintro e w' ⟨rfl, ⟨nd, rfl⟩⟩; refine ⟨_, rfl, ?_⟩))
      go_ret2
      exact ⟨_, eqr, atR HO_6, atB HB⟩
     ·replace c11 := Bool.eq_false_iff.mpr c11
      subst c11
      have H1 : (some (([] : List Int), false)) = some (r1, r2) := by rw [if_neg (show ¬ (false = true) by decide)] at H; exact H
      clear H
      have H := H1
      clear H1
      simp only [Option.some.injEq, Prod.mk.injEq] at H
      obtain ⟨rfl, rfl⟩ := H
      obtain ⟨Ao13, co13, eo13⟩ := Kd.R_slice HO_6.out
      subst eo13
      go_wp2_with (first | ((with_reducible refine gate_callee (f := 82) rfl ?_); refine goesA (some 27) Try.func82 #[.int .i64 a0, .slice Ao13 x6_1.length co13] ?_; (with_reducible refine (spec_ciGood.calls k1 a0 _ _ x6_1 false _ ?side1 ?side2 A10.out).mono ?_); (case side1 => exact atRC HO_6); (case side2 => exact (Kd.R_reads' HO_6.out).2.1); rintro e w' ⟨rfl, ⟨nd, rfl⟩⟩; refine ⟨_, rfl, ?_⟩))
      go_ret2
      exact ⟨_, eqr, by first | exact Kd.R_nil _ _ _ _ _ | exact Kd.N_nil _ _ _ _ _ | exact Kd.V_nil _ _ _ _ _ | exact Kd.Q_nil _ _ _ _ _ | exact Kd.S_nil _ _ _ _ _, atB HB⟩
 ·replace c4 := Bool.eq_false_iff.mpr c4
  subst c4
  have H1 : (some (([] : List Int), false)) = some (r1, r2) := by rw [if_neg (show ¬ (false = true) by decide)] at H; exact H
  clear H
  have H := H1
  clear H1
  simp only [Option.some.injEq, Prod.mk.injEq] at H
  obtain ⟨rfl, rfl⟩ := H
  go_enter Try.func57, Try.ntmps57
  go_wp2_with (first | ((with_reducible refine gate_callee (f := 82) rfl ?_); refine goesA (some 10) Try.func82 #[.int .i64 a0, .slice A1 l1.length c1] ?_; (with_reducible refine (spec_ciGood.calls k a0 _ _ l1 false _ ?side1 ?side2 A3.out).mono ?_); (case side1 => repeat (first | exact HR1.out | (with_reducible refine Kd.C_alloc ?_ _) | (with_reducible refine Kd.C_drewN ?_ _) | (with_reducible refine Kd.C_drew ?_))); (case side2 => exact HC1.out); rintro e w' ⟨rfl, ⟨nd, rfl⟩⟩; refine ⟨_, rfl, ?_⟩))
  go_ret2
  exact ⟨_, eqr, by first | exact Kd.R_nil _ _ _ _ _ | exact Kd.N_nil _ _ _ _ _ | exact Kd.V_nil _ _ _ _ _ | exact Kd.Q_nil _ _ _ _ _ | exact Kd.S_nil _ _ _ _ _, atB HB⟩

noncomputable def spec_ComplementSet.L0 (x0 : Int) (x1 : List Int) (x6 : List Int) (x7 : Int) : Option (List Int × Bool) := lim fun k => spec_ComplementSet.l0 k x0 x1 x6 x7
theorem spec_ComplementSet.L0_lim (x0 : Int) (x1 : List Int) (x6 : List Int) (x7 : Int) : Lim (fun k => spec_ComplementSet.l0 k x0 x1 x6 x7) (spec_ComplementSet.L0 x0 x1 x6 x7) := Lim.of fun k => (spec_ComplementSet.mono_l k) x0 x1 x6 x7
noncomputable def spec_ComplementSet.F (a0 : Int) (l1 : List Int) : Option (List Int × Bool) := lim fun k => spec_ComplementSet.f k a0 l1
theorem spec_ComplementSet.F_lim (a0 : Int) (l1 : List Int) : Lim (fun k => spec_ComplementSet.f k a0 l1) (spec_ComplementSet.F a0 l1) := Lim.of fun k => spec_ComplementSet.mono a0 l1 k
theorem spec_ComplementSet.L0_eq (x0 : Int) (x1 : List Int) (x6 : List Int) (x7 : Int) : spec_ComplementSet.L0 x0 x1 x6 x7 = (if x7 < x0 then ((spec_l1Has.F x1 x7).bind fun t920 => (if t920 = true then (spec_ComplementSet.L0 x0 x1 x6 (wrap64 (x7 + 1))) else (if x6.length < 17592186044416 then (spec_ComplementSet.L0 x0 x1 (x6 ++ [x7]) (wrap64 (x7 + 1))) else (none)))) else ((spec_ciGood.F x0 x6).bind fun t924 => (if t924 = true then (some (x6, true)) else (some (([] : List Int), false))))) :=
 Lim.step (f := fun k => spec_ComplementSet.l0 (k + 1) x0 x1 x6 x7) (spec_ComplementSet.L0_lim x0 x1 x6 x7) (fun _ => rfl) (by
  simp only [spec_ComplementSet.l0]
  repeat' (first | (with_reducible first | exact Lim.const _ | exact spec_ComplementSet.L0_lim _ _ _ _ | exact spec_ciGood.F_lim _ _ | exact spec_l1Has.F_lim _ _ | refine Lim.ite ?_ ?_ | refine Lim.bind ?_ (fun _ => ?_))))
theorem spec_ComplementSet.F_eq (a0 : Int) (l1 : List Int) : spec_ComplementSet.F a0 l1 = ((spec_ciGood.F a0 l1).bind fun t919 => (if t919 = true then (spec_ComplementSet.L0 a0 l1 ([] : List Int) 0) else (some (([] : List Int), false)))) :=
 Lim.unique (spec_ComplementSet.F_lim a0 l1) (by
  unfold spec_ComplementSet.f
  repeat' (first | (with_reducible first | exact Lim.const _ | exact spec_ComplementSet.L0_lim _ _ _ _ | exact spec_ciGood.F_lim _ _ | refine Lim.ite ?_ ?_ | refine Lim.bind ?_ (fun _ => ?_))))

end Go.Proofs.Ytofjndbpndpjjaa.Fn
namespace Go.Proofs.Ytofjndbpndpjjaa.Fn
open Go.RowKit Go.Proofs.YtofjndbpndpjjaaW.PrintWords Go.Proofs.YtofjndbpndpjjaaW.PrintLast Go.Proofs.YtofjndbpndpjjaaW.PrintMore
attribute [local go_sem] max2_int min2_int max_two min_two max_three min_three max_four min_four   -- for this text's walks alone
set_option linter.unusedVariables false
set_option linter.unusedSimpArgs false

/-! ### laws_FnCirclesDiffer: function 4 -/
mutual
def laws_FnCirclesDiffer.j0 : Nat → List Int → Int → List Int → Int → Bool → Bool → List Int → List Int → Bool → Bool → Option (Bool)
 | 0, _, _, _, _, _, _, _, _, _, _ => none
 | k + 1, x1, x5, x6, x7, x8, x12, x15, x19, x23, x224 => if x224 = true then (some false) else (if x12 = true then (laws_FnCirclesDiffer.l0 k x1 x5 x6 x7 x8 x15 x19 x23 (x6.length : Int) 0 x15 (x15.length : Int) 0) else (laws_FnCirclesDiffer.j5 k x1 x5 x6 x7 x8))
def laws_FnCirclesDiffer.j5 : Nat → List Int → Int → List Int → Int → Bool → Option (Bool)
 | 0, _, _, _, _, _ => none
 | k + 1, x1, x5, x6, x7, x8 => if x8 = true then (if (wrap64 (x7 * (wrap64 (x5 - 1)))) = (wrap64 ((x6.length : Int) * (wrap64 ((x6.length : Int) - 1)))) then ((impl_ComplementSet.f k x5 x6).bind fun bt980 => (if bt980.2 = true then (laws_FnCirclesDiffer.j6 k x1 x5 x6 x7 (x6.length : Int) bt980.1 (decide ((bt980.1.length : Int) > 1))) else (laws_FnCirclesDiffer.j6 k x1 x5 x6 x7 (x6.length : Int) bt980.1 false))) else (some false)) else (laws_FnCirclesDiffer.j10 k x1)
def laws_FnCirclesDiffer.j10 : Nat → List Int → Option (Bool)
 | 0, _ => none
 | k + 1, x1 => (spec_DrawMoveSet.f k x1).bind fun bt993 => ((impl_MoveSet.f k bt993.1 bt993.2.1 bt993.2.2).bind fun bt998 => ((spec_MoveSet.f k bt993.1 bt993.2.1 bt993.2.2).bind fun bt1002 => ((impl_TimesSet.f k bt993.1 bt993.2.1 bt993.2.2).bind fun bt1006 => ((spec_TimesSet.f k bt993.1 bt993.2.1 bt993.2.2).bind fun bt1010 => ((spec_DrawComplementSet.f k x1).bind fun bt1014 => ((impl_ComplementSet.f k bt1014.1 bt1014.2).bind fun bt1018 => ((spec_ComplementSet.f k bt1014.1 bt1014.2).bind fun bt1022 => (if (bt998.2 != bt1002.2) = true then (some false) else ((laws_zSame.f k bt998.1 bt1002.1).bind fun t1026 => (if t1026 = true then (if (bt1006.2 != bt1010.2) = true then (some false) else ((laws_zSame.f k bt1006.1 bt1010.1).bind fun t1027 => (if t1027 = true then (if (bt1018.2 != bt1022.2) = true then (some false) else ((laws_zSame.f k bt1018.1 bt1022.1).bind fun t1028 => (if t1028 = true then (if bt1018.2 = true then ((impl_ComplementSet.f k bt1014.1 bt1018.1).bind fun bt1029 => (if bt1029.2 = true then ((laws_zSame.f k bt1029.1 bt1014.2).bind fun t1033 => (if t1033 = true then (some ((wrap64 ((bt1018.1.length : Int) + (bt1014.2.length : Int))) == bt1014.1)) else (some false))) else (some false))) else (some true)) else (some false)))) else (some false)))) else (some false)))))))))))
def laws_FnCirclesDiffer.j6 : Nat → List Int → Int → List Int → Int → Int → List Int → Bool → Option (Bool)
 | 0, _, _, _, _, _, _, _ => none
 | k + 1, x1, x5, x6, x7, x39, x40, x361 => if x361 = true then ((impl_LambdaOf.f k x5 x40).bind fun bt984 => (if (wrap64 ((wrap64 (x5 - (wrap64 (2 * x39)))) + x7)) > 0 then (if bt984.2 = true then (if bt984.1 = (wrap64 ((wrap64 (x5 - (wrap64 (2 * x39)))) + x7)) then (laws_FnCirclesDiffer.j7 k x1 x5 x6 x7) else (some false)) else (some false)) else (laws_FnCirclesDiffer.j7 k x1 x5 x6 x7))) else (laws_FnCirclesDiffer.j7 k x1 x5 x6 x7)
def laws_FnCirclesDiffer.j7 : Nat → List Int → Int → List Int → Int → Option (Bool)
 | 0, _, _, _, _ => none
 | k + 1, x1, x5, x6, x7 => laws_FnCirclesDiffer.l3 k x1 x5 x6 x7 1
def laws_FnCirclesDiffer.l3 : Nat → List Int → Int → List Int → Int → Int → Option (Bool)
 | 0, _, _, _, _, _ => none
 | k + 1, x1, x5, x6, x7, x44 => if x44 < x5 then (laws_FnCirclesDiffer.j9 k x1 x5 x6 x7 x44 (decide (x44 < 6))) else (laws_FnCirclesDiffer.j9 k x1 x5 x6 x7 x44 false)
def laws_FnCirclesDiffer.j9 : Nat → List Int → Int → List Int → Int → Int → Bool → Option (Bool)
 | 0, _, _, _, _, _, _ => none
 | k + 1, x1, x5, x6, x7, x44, x395 => if x395 = true then ((impl_TimesSet.f k x5 x6 x44).bind fun bt986 => ((laws_zCommon.f k x44 x5).bind fun t990 => (if t990 = 1 then ((impl_LambdaOf.f k x5 bt986.1).bind fun bt991 => (if bt986.2 = true then (if bt991.2 = true then (if bt991.1 = x7 then (laws_FnCirclesDiffer.l3 k x1 x5 x6 x7 (wrap64 (x44 + 1))) else (some false)) else (some false)) else (some false))) else (laws_FnCirclesDiffer.l3 k x1 x5 x6 x7 (wrap64 (x44 + 1)))))) else (laws_FnCirclesDiffer.j10 k x1)
def laws_FnCirclesDiffer.l0 : Nat → List Int → Int → List Int → Int → Bool → List Int → List Int → Bool → Int → Int → List Int → Int → Int → Option (Bool)
 | 0, _, _, _, _, _, _, _, _, _, _, _, _, _ => none
 | k + 1, x1, x5, x6, x7, x8, x15, x19, x23, x27, x28, x228, x229, x230 => if x230 < x229 then (if 0 ≤ x230 then (if x230 < (x228.length : Int) then (if x230 = 0 then (if (rd x228 x230) = 0 then (if x230 > 0 then (if 0 ≤ (wrap64 (x5 - x230)) then (if (wrap64 (x5 - x230)) < (x15.length : Int) then (laws_FnCirclesDiffer.j2 k x1 x5 x6 x7 x8 x15 x19 x23 x27 x28 (rd x228 x230) x228 x229 x230 ((rd x228 x230) != (rd x15 (wrap64 (x5 - x230))))) else (none)) else (none)) else (laws_FnCirclesDiffer.j2 k x1 x5 x6 x7 x8 x15 x19 x23 x27 x28 (rd x228 x230) x228 x229 x230 false)) else (laws_FnCirclesDiffer.j2 k x1 x5 x6 x7 x8 x15 x19 x23 x27 x28 (rd x228 x230) x228 x229 x230 true)) else (if x230 > 0 then (if 0 ≤ (wrap64 (x5 - x230)) then (if (wrap64 (x5 - x230)) < (x15.length : Int) then (laws_FnCirclesDiffer.j2 k x1 x5 x6 x7 x8 x15 x19 x23 x27 x28 (rd x228 x230) x228 x229 x230 ((rd x228 x230) != (rd x15 (wrap64 (x5 - x230))))) else (none)) else (none)) else (laws_FnCirclesDiffer.j2 k x1 x5 x6 x7 x8 x15 x19 x23 x27 x28 (rd x228 x230) x228 x229 x230 false))) else (none)) else (none)) else (if (x15.length : Int) = x5 then ((laws_zSum.f k x15).bind fun t966 => (if t966 = (wrap64 (x27 * (wrap64 (x27 - 1)))) then (if (x23 != (decide (x28 ≤ 1))) = true then (some false) else (if (x19.length : Int) < 1 then (some false) else (if 0 < (x19.length : Int) then (if (rd x19 0) = 1 then (laws_FnCirclesDiffer.l1 k x1 x5 x6 x7 x8 x15 x19 x19 (x19.length : Int) 0) else (some false)) else (none)))) else (some false))) else (some false))
def laws_FnCirclesDiffer.j2 : Nat → List Int → Int → List Int → Int → Bool → List Int → List Int → Bool → Int → Int → Int → List Int → Int → Int → Bool → Option (Bool)
 | 0, _, _, _, _, _, _, _, _, _, _, _, _, _, _, _ => none
 | k + 1, x1, x5, x6, x7, x8, x15, x19, x23, x27, x28, x30, x228, x229, x230, x254 => if x254 = true then (some false) else (if x30 > x28 then (laws_FnCirclesDiffer.l0 k x1 x5 x6 x7 x8 x15 x19 x23 x27 x30 x228 x229 (wrap64 (x230 + 1))) else (laws_FnCirclesDiffer.l0 k x1 x5 x6 x7 x8 x15 x19 x23 x27 x28 x228 x229 (wrap64 (x230 + 1))))
def laws_FnCirclesDiffer.l1 : Nat → List Int → Int → List Int → Int → Bool → List Int → List Int → List Int → Int → Int → Option (Bool)
 | 0, _, _, _, _, _, _, _, _, _, _ => none
 | k + 1, x1, x5, x6, x7, x8, x15, x19, x290, x291, x292 => if x292 < x291 then (if 0 ≤ x292 then (if x292 < (x290.length : Int) then (laws_FnCirclesDiffer.l2 k x1 x5 x6 x7 x8 x15 x19 (rd x290 x292) x290 x291 x292 x19 (x19.length : Int) 0) else (none)) else (none)) else ((impl_MoveSet.f k x5 x6 (wrap64 (Int.tdiv x5 2))).bind fun bt971 => ((impl_DifferenceCounts.f k x5 bt971.1).bind fun bt975 => (if bt971.2 = true then (if bt975.2 = true then ((laws_zSame.f k bt975.1 x15).bind fun t979 => (if t979 = true then (laws_FnCirclesDiffer.j5 k x1 x5 x6 x7 x8) else (some false))) else (some false)) else (some false))))
def laws_FnCirclesDiffer.l2 : Nat → List Int → Int → List Int → Int → Bool → List Int → List Int → Int → List Int → Int → Int → List Int → Int → Int → Option (Bool)
 | 0, _, _, _, _, _, _, _, _, _, _, _, _, _, _ => none
 | k + 1, x1, x5, x6, x7, x8, x15, x19, x32, x290, x291, x292, x296, x297, x298 => if x298 < x297 then (if 0 ≤ x298 then (if x298 < (x296.length : Int) then (if x5 = 0 then (none) else ((laws_zHas.f k x19 (Int.tmod (wrap64 (x32 * (rd x296 x298))) x5)).bind fun t970 => (if t970 = true then (laws_FnCirclesDiffer.l2 k x1 x5 x6 x7 x8 x15 x19 x32 x290 x291 x292 x296 x297 (wrap64 (x298 + 1))) else (some false)))) else (none)) else (none)) else (laws_FnCirclesDiffer.l1 k x1 x5 x6 x7 x8 x15 x19 x290 x291 (wrap64 (x292 + 1)))
end
def laws_FnCirclesDiffer.f (k : Nat) (l0 : List Int) (l1 : List Int) : Option (Bool) := (laws_big.f l0 l1).bind fun t925 => (if t925 = true then (some true) else ((spec_DrawLambdaOf.f k l0).bind fun bt926 => ((impl_LambdaOf.f k bt926.1 bt926.2).bind fun bt930 => ((spec_LambdaOf.f k bt926.1 bt926.2).bind fun bt932 => ((impl_IsDifferenceSet.f k bt926.1 bt926.2).bind fun bt934 => ((spec_IsDifferenceSet.f k bt926.1 bt926.2).bind fun bt936 => ((impl_DifferenceCounts.f k bt926.1 bt926.2).bind fun bt938 => ((spec_DifferenceCounts.f k bt926.1 bt926.2).bind fun bt942 => ((impl_MultipliersOf.f k bt926.1 bt926.2).bind fun bt946 => ((spec_MultipliersOf.f k bt926.1 bt926.2).bind fun bt950 => ((impl_IsAroundRuler.f k bt926.1 bt926.2).bind fun bt954 => ((spec_IsAroundRuler.f k bt926.1 bt926.2).bind fun bt956 => (if (bt930.2 != bt932.2) = true then (laws_FnCirclesDiffer.j0 k l1 bt926.1 bt926.2 bt930.1 bt930.2 bt934.2 bt938.1 bt946.1 bt954.1 true) else (if bt930.1 = bt932.1 then (if (bt934.2 != bt936.2) = true then (laws_FnCirclesDiffer.j0 k l1 bt926.1 bt926.2 bt930.1 bt930.2 bt934.2 bt938.1 bt946.1 bt954.1 true) else (if (bt934.1 != bt936.1) = true then (laws_FnCirclesDiffer.j0 k l1 bt926.1 bt926.2 bt930.1 bt930.2 bt934.2 bt938.1 bt946.1 bt954.1 true) else (if (bt938.2 != bt942.2) = true then (laws_FnCirclesDiffer.j0 k l1 bt926.1 bt926.2 bt930.1 bt930.2 bt934.2 bt938.1 bt946.1 bt954.1 true) else ((laws_zSame.f k bt938.1 bt942.1).bind fun t958 => (if t958 = true then (if (bt946.2 != bt950.2) = true then (laws_FnCirclesDiffer.j0 k l1 bt926.1 bt926.2 bt930.1 bt930.2 bt934.2 bt938.1 bt946.1 bt954.1 true) else ((laws_zSame.f k bt946.1 bt950.1).bind fun t959 => (if t959 = true then (if (bt954.2 != bt956.2) = true then (laws_FnCirclesDiffer.j0 k l1 bt926.1 bt926.2 bt930.1 bt930.2 bt934.2 bt938.1 bt946.1 bt954.1 true) else (if (bt954.1 != bt956.1) = true then (laws_FnCirclesDiffer.j0 k l1 bt926.1 bt926.2 bt930.1 bt930.2 bt934.2 bt938.1 bt946.1 bt954.1 true) else ((impl_IsCircleSet.f k bt926.1 bt926.2).bind fun t960 => (if (bt934.2 != t960) = true then (laws_FnCirclesDiffer.j0 k l1 bt926.1 bt926.2 bt930.1 bt930.2 bt934.2 bt938.1 bt946.1 bt954.1 true) else ((impl_IsCircleSet.f k bt926.1 bt926.2).bind fun t961 => ((spec_IsCircleSet.f k bt926.1 bt926.2).bind fun t962 => (if (t961 != t962) = true then (laws_FnCirclesDiffer.j0 k l1 bt926.1 bt926.2 bt930.1 bt930.2 bt934.2 bt938.1 bt946.1 bt954.1 true) else (if bt934.2 = true then (if (bt930.2 != bt934.1) = true then (laws_FnCirclesDiffer.j0 k l1 bt926.1 bt926.2 bt930.1 bt930.2 bt934.2 bt938.1 bt946.1 bt954.1 true) else (if (bt938.2 != bt934.2) = true then (laws_FnCirclesDiffer.j0 k l1 bt926.1 bt926.2 bt930.1 bt930.2 bt934.2 bt938.1 bt946.1 bt954.1 true) else (if (bt946.2 != bt934.2) = true then (laws_FnCirclesDiffer.j0 k l1 bt926.1 bt926.2 bt930.1 bt930.2 bt934.2 bt938.1 bt946.1 bt954.1 true) else (laws_FnCirclesDiffer.j0 k l1 bt926.1 bt926.2 bt930.1 bt930.2 bt934.2 bt938.1 bt946.1 bt954.1 (bt954.2 != bt934.2))))) else (if (bt930.2 != false) = true then (laws_FnCirclesDiffer.j0 k l1 bt926.1 bt926.2 bt930.1 bt930.2 bt934.2 bt938.1 bt946.1 bt954.1 true) else (if (bt938.2 != bt934.2) = true then (laws_FnCirclesDiffer.j0 k l1 bt926.1 bt926.2 bt930.1 bt930.2 bt934.2 bt938.1 bt946.1 bt954.1 true) else (if (bt946.2 != bt934.2) = true then (laws_FnCirclesDiffer.j0 k l1 bt926.1 bt926.2 bt930.1 bt930.2 bt934.2 bt938.1 bt946.1 bt954.1 true) else (laws_FnCirclesDiffer.j0 k l1 bt926.1 bt926.2 bt930.1 bt930.2 bt934.2 bt938.1 bt946.1 bt954.1 (bt954.2 != bt934.2))))))))))))) else (laws_FnCirclesDiffer.j0 k l1 bt926.1 bt926.2 bt930.1 bt930.2 bt934.2 bt938.1 bt946.1 bt954.1 true)))) else (laws_FnCirclesDiffer.j0 k l1 bt926.1 bt926.2 bt930.1 bt930.2 bt934.2 bt938.1 bt946.1 bt954.1 true)))))) else (laws_FnCirclesDiffer.j0 k l1 bt926.1 bt926.2 bt930.1 bt930.2 bt934.2 bt938.1 bt946.1 bt954.1 true)))))))))))))))
theorem laws_FnCirclesDiffer.mono_l : ∀ k, (∀ y0 y1 y2 y3 y4 y5 y6 y7 y8 y9, LeO (laws_FnCirclesDiffer.j0 k y0 y1 y2 y3 y4 y5 y6 y7 y8 y9) (laws_FnCirclesDiffer.j0 (k + 1) y0 y1 y2 y3 y4 y5 y6 y7 y8 y9)) ∧ (∀ y0 y1 y2 y3 y4, LeO (laws_FnCirclesDiffer.j5 k y0 y1 y2 y3 y4) (laws_FnCirclesDiffer.j5 (k + 1) y0 y1 y2 y3 y4)) ∧ (∀ y0, LeO (laws_FnCirclesDiffer.j10 k y0) (laws_FnCirclesDiffer.j10 (k + 1) y0)) ∧ (∀ y0 y1 y2 y3 y4 y5 y6, LeO (laws_FnCirclesDiffer.j6 k y0 y1 y2 y3 y4 y5 y6) (laws_FnCirclesDiffer.j6 (k + 1) y0 y1 y2 y3 y4 y5 y6)) ∧ (∀ y0 y1 y2 y3, LeO (laws_FnCirclesDiffer.j7 k y0 y1 y2 y3) (laws_FnCirclesDiffer.j7 (k + 1) y0 y1 y2 y3)) ∧ (∀ y0 y1 y2 y3 y4, LeO (laws_FnCirclesDiffer.l3 k y0 y1 y2 y3 y4) (laws_FnCirclesDiffer.l3 (k + 1) y0 y1 y2 y3 y4)) ∧ (∀ y0 y1 y2 y3 y4 y5, LeO (laws_FnCirclesDiffer.j9 k y0 y1 y2 y3 y4 y5) (laws_FnCirclesDiffer.j9 (k + 1) y0 y1 y2 y3 y4 y5)) ∧ (∀ y0 y1 y2 y3 y4 y5 y6 y7 y8 y9 y10 y11 y12, LeO (laws_FnCirclesDiffer.l0 k y0 y1 y2 y3 y4 y5 y6 y7 y8 y9 y10 y11 y12) (laws_FnCirclesDiffer.l0 (k + 1) y0 y1 y2 y3 y4 y5 y6 y7 y8 y9 y10 y11 y12)) ∧ (∀ y0 y1 y2 y3 y4 y5 y6 y7 y8 y9 y10 y11 y12 y13 y14, LeO (laws_FnCirclesDiffer.j2 k y0 y1 y2 y3 y4 y5 y6 y7 y8 y9 y10 y11 y12 y13 y14) (laws_FnCirclesDiffer.j2 (k + 1) y0 y1 y2 y3 y4 y5 y6 y7 y8 y9 y10 y11 y12 y13 y14)) ∧ (∀ y0 y1 y2 y3 y4 y5 y6 y7 y8 y9, LeO (laws_FnCirclesDiffer.l1 k y0 y1 y2 y3 y4 y5 y6 y7 y8 y9) (laws_FnCirclesDiffer.l1 (k + 1) y0 y1 y2 y3 y4 y5 y6 y7 y8 y9)) ∧ (∀ y0 y1 y2 y3 y4 y5 y6 y7 y8 y9 y10 y11 y12 y13, LeO (laws_FnCirclesDiffer.l2 k y0 y1 y2 y3 y4 y5 y6 y7 y8 y9 y10 y11 y12 y13) (laws_FnCirclesDiffer.l2 (k + 1) y0 y1 y2 y3 y4 y5 y6 y7 y8 y9 y10 y11 y12 y13))
 | 0 => ⟨fun _ _ _ _ _ _ _ _ _ _ r h => by simp [laws_FnCirclesDiffer.j0] at h, fun _ _ _ _ _ r h => by simp [laws_FnCirclesDiffer.j5] at h, fun _ r h => by simp [laws_FnCirclesDiffer.j10] at h, fun _ _ _ _ _ _ _ r h => by simp [laws_FnCirclesDiffer.j6] at h, fun _ _ _ _ r h => by simp [laws_FnCirclesDiffer.j7] at h, fun _ _ _ _ _ r h => by simp [laws_FnCirclesDiffer.l3] at h, fun _ _ _ _ _ _ r h => by simp [laws_FnCirclesDiffer.j9] at h, fun _ _ _ _ _ _ _ _ _ _ _ _ _ r h => by simp [laws_FnCirclesDiffer.l0] at h, fun _ _ _ _ _ _ _ _ _ _ _ _ _ _ _ r h => by simp [laws_FnCirclesDiffer.j2] at h, fun _ _ _ _ _ _ _ _ _ _ r h => by simp [laws_FnCirclesDiffer.l1] at h, fun _ _ _ _ _ _ _ _ _ _ _ _ _ _ r h => by simp [laws_FnCirclesDiffer.l2] at h⟩
 | k + 1 => by
  obtain ⟨ih0, ih1, ih2, ih3, ih4, ih5, ih6, ih7, ih8, ih9, ih10⟩ := laws_FnCirclesDiffer.mono_l k
  refine ⟨?_, ?_, ?_, ?_, ?_, ?_, ?_, ?_, ?_, ?_, ?_⟩
  ·intro y0 y1 y2 y3 y4 y5 y6 y7 y8 y9
   unfold laws_FnCirclesDiffer.j0
   repeat' (first | (with_reducible first | exact ih1 _ _ _ _ _ | exact ih7 _ _ _ _ _ _ _ _ _ _ _ _ _ | exact LeO.refl _ | exact LeO.none _ | refine LeO.ite ?_ ?_ | refine LeO.bind ?_ (fun _ => ?_)) | exact ih1 _ _ _ _ _ | exact ih7 _ _ _ _ _ _ _ _ _ _ _ _ _ | exact LeO.none _ | refine LeO.ite ?_ ?_ | refine LeO.bind ?_ (fun _ => ?_))
  ·intro y0 y1 y2 y3 y4
   unfold laws_FnCirclesDiffer.j5
   repeat' (first | (with_reducible first | exact ih2 _ | exact ih3 _ _ _ _ _ _ _ | exact impl_ComplementSet.mono _ _ _ | exact LeO.refl _ | exact LeO.none _ | refine LeO.ite ?_ ?_ | refine LeO.bind ?_ (fun _ => ?_)) | exact ih2 _ | exact ih3 _ _ _ _ _ _ _ | exact impl_ComplementSet.mono _ _ _ | exact LeO.none _ | refine LeO.ite ?_ ?_ | refine LeO.bind ?_ (fun _ => ?_))
  ·intro y0
   unfold laws_FnCirclesDiffer.j10
   repeat' (first | (with_reducible first | exact impl_ComplementSet.mono _ _ _ | exact impl_MoveSet.mono _ _ _ _ | exact impl_TimesSet.mono _ _ _ _ | exact laws_zSame.mono _ _ _ | exact spec_ComplementSet.mono _ _ _ | exact spec_DrawComplementSet.mono _ _ | exact spec_DrawMoveSet.mono _ _ | exact spec_MoveSet.mono _ _ _ _ | exact spec_TimesSet.mono _ _ _ _ | exact LeO.refl _ | exact LeO.none _ | refine LeO.ite ?_ ?_ | refine LeO.bind ?_ (fun _ => ?_)) | exact impl_ComplementSet.mono _ _ _ | exact impl_MoveSet.mono _ _ _ _ | exact impl_TimesSet.mono _ _ _ _ | exact laws_zSame.mono _ _ _ | exact spec_ComplementSet.mono _ _ _ | exact spec_DrawComplementSet.mono _ _ | exact spec_DrawMoveSet.mono _ _ | exact spec_MoveSet.mono _ _ _ _ | exact spec_TimesSet.mono _ _ _ _ | exact LeO.none _ | refine LeO.ite ?_ ?_ | refine LeO.bind ?_ (fun _ => ?_))
  ·intro y0 y1 y2 y3 y4 y5 y6
   unfold laws_FnCirclesDiffer.j6
   repeat' (first | (with_reducible first | exact ih4 _ _ _ _ | exact impl_LambdaOf.mono _ _ _ | exact LeO.refl _ | exact LeO.none _ | refine LeO.ite ?_ ?_ | refine LeO.bind ?_ (fun _ => ?_)) | exact ih4 _ _ _ _ | exact impl_LambdaOf.mono _ _ _ | exact LeO.none _ | refine LeO.ite ?_ ?_ | refine LeO.bind ?_ (fun _ => ?_))
  ·intro y0 y1 y2 y3
   unfold laws_FnCirclesDiffer.j7
   repeat' (first | (with_reducible first | exact ih5 _ _ _ _ _ | exact LeO.refl _ | exact LeO.none _ | refine LeO.ite ?_ ?_ | refine LeO.bind ?_ (fun _ => ?_)) | exact ih5 _ _ _ _ _ | exact LeO.none _ | refine LeO.ite ?_ ?_ | refine LeO.bind ?_ (fun _ => ?_))
  ·intro y0 y1 y2 y3 y4
   unfold laws_FnCirclesDiffer.l3
   repeat' (first | (with_reducible first | exact ih6 _ _ _ _ _ _ | exact LeO.refl _ | exact LeO.none _ | refine LeO.ite ?_ ?_ | refine LeO.bind ?_ (fun _ => ?_)) | exact ih6 _ _ _ _ _ _ | exact LeO.none _ | refine LeO.ite ?_ ?_ | refine LeO.bind ?_ (fun _ => ?_))
  ·intro y0 y1 y2 y3 y4 y5
   unfold laws_FnCirclesDiffer.j9
   repeat' (first | (with_reducible first | exact ih2 _ | exact ih5 _ _ _ _ _ | exact impl_LambdaOf.mono _ _ _ | exact impl_TimesSet.mono _ _ _ _ | exact laws_zCommon.mono _ _ _ | exact LeO.refl _ | exact LeO.none _ | refine LeO.ite ?_ ?_ | refine LeO.bind ?_ (fun _ => ?_)) | exact ih2 _ | exact ih5 _ _ _ _ _ | exact impl_LambdaOf.mono _ _ _ | exact impl_TimesSet.mono _ _ _ _ | exact laws_zCommon.mono _ _ _ | exact LeO.none _ | refine LeO.ite ?_ ?_ | refine LeO.bind ?_ (fun _ => ?_))
  ·intro y0 y1 y2 y3 y4 y5 y6 y7 y8 y9 y10 y11 y12
   unfold laws_FnCirclesDiffer.l0
   repeat' (first | (with_reducible first | exact ih8 _ _ _ _ _ _ _ _ _ _ _ _ _ _ _ | exact ih9 _ _ _ _ _ _ _ _ _ _ | exact laws_zSum.mono _ _ | exact LeO.refl _ | exact LeO.none _ | refine LeO.ite ?_ ?_ | refine LeO.bind ?_ (fun _ => ?_)) | exact ih8 _ _ _ _ _ _ _ _ _ _ _ _ _ _ _ | exact ih9 _ _ _ _ _ _ _ _ _ _ | exact laws_zSum.mono _ _ | exact LeO.none _ | refine LeO.ite ?_ ?_ | refine LeO.bind ?_ (fun _ => ?_))
  ·intro y0 y1 y2 y3 y4 y5 y6 y7 y8 y9 y10 y11 y12 y13 y14
   unfold laws_FnCirclesDiffer.j2
   repeat' (first | (with_reducible first | exact ih7 _ _ _ _ _ _ _ _ _ _ _ _ _ | exact LeO.refl _ | exact LeO.none _ | refine LeO.ite ?_ ?_ | refine LeO.bind ?_ (fun _ => ?_)) | exact ih7 _ _ _ _ _ _ _ _ _ _ _ _ _ | exact LeO.none _ | refine LeO.ite ?_ ?_ | refine LeO.bind ?_ (fun _ => ?_))
  ·intro y0 y1 y2 y3 y4 y5 y6 y7 y8 y9
   unfold laws_FnCirclesDiffer.l1
   repeat' (first | (with_reducible first | exact ih1 _ _ _ _ _ | exact ih10 _ _ _ _ _ _ _ _ _ _ _ _ _ _ | exact impl_DifferenceCounts.mono _ _ _ | exact impl_MoveSet.mono _ _ _ _ | exact laws_zSame.mono _ _ _ | exact LeO.refl _ | exact LeO.none _ | refine LeO.ite ?_ ?_ | refine LeO.bind ?_ (fun _ => ?_)) | exact ih1 _ _ _ _ _ | exact ih10 _ _ _ _ _ _ _ _ _ _ _ _ _ _ | exact impl_DifferenceCounts.mono _ _ _ | exact impl_MoveSet.mono _ _ _ _ | exact laws_zSame.mono _ _ _ | exact LeO.none _ | refine LeO.ite ?_ ?_ | refine LeO.bind ?_ (fun _ => ?_))
  ·intro y0 y1 y2 y3 y4 y5 y6 y7 y8 y9 y10 y11 y12 y13
   unfold laws_FnCirclesDiffer.l2
   repeat' (first | (with_reducible first | exact ih9 _ _ _ _ _ _ _ _ _ _ | exact ih10 _ _ _ _ _ _ _ _ _ _ _ _ _ _ | exact laws_zHas.mono _ _ _ | exact LeO.refl _ | exact LeO.none _ | refine LeO.ite ?_ ?_ | refine LeO.bind ?_ (fun _ => ?_)) | exact ih9 _ _ _ _ _ _ _ _ _ _ | exact ih10 _ _ _ _ _ _ _ _ _ _ _ _ _ _ | exact laws_zHas.mono _ _ _ | exact LeO.none _ | refine LeO.ite ?_ ?_ | refine LeO.bind ?_ (fun _ => ?_))
theorem laws_FnCirclesDiffer.mono : ∀ a0 a1 k, LeO (laws_FnCirclesDiffer.f k a0 a1) (laws_FnCirclesDiffer.f (k + 1) a0 a1) := by
 intro a0 a1 k
 obtain ⟨ih0, ih1, ih2, ih3, ih4, ih5, ih6, ih7, ih8, ih9, ih10⟩ := laws_FnCirclesDiffer.mono_l k
 unfold laws_FnCirclesDiffer.f
 repeat' (first | (with_reducible first | exact ih0 _ _ _ _ _ _ _ _ _ _ | exact impl_DifferenceCounts.mono _ _ _ | exact impl_IsAroundRuler.mono _ _ _ | exact impl_IsCircleSet.mono _ _ _ | exact impl_IsDifferenceSet.mono _ _ _ | exact impl_LambdaOf.mono _ _ _ | exact impl_MultipliersOf.mono _ _ _ | exact laws_zSame.mono _ _ _ | exact spec_DifferenceCounts.mono _ _ _ | exact spec_DrawLambdaOf.mono _ _ | exact spec_IsAroundRuler.mono _ _ _ | exact spec_IsCircleSet.mono _ _ _ | exact spec_IsDifferenceSet.mono _ _ _ | exact spec_LambdaOf.mono _ _ _ | exact spec_MultipliersOf.mono _ _ _ | exact LeO.refl _ | exact LeO.none _ | refine LeO.ite ?_ ?_ | refine LeO.bind ?_ (fun _ => ?_)) | exact ih0 _ _ _ _ _ _ _ _ _ _ | exact impl_DifferenceCounts.mono _ _ _ | exact impl_IsAroundRuler.mono _ _ _ | exact impl_IsCircleSet.mono _ _ _ | exact impl_IsDifferenceSet.mono _ _ _ | exact impl_LambdaOf.mono _ _ _ | exact impl_MultipliersOf.mono _ _ _ | exact laws_zSame.mono _ _ _ | exact spec_DifferenceCounts.mono _ _ _ | exact spec_DrawLambdaOf.mono _ _ | exact spec_IsAroundRuler.mono _ _ _ | exact spec_IsCircleSet.mono _ _ _ | exact spec_IsDifferenceSet.mono _ _ _ | exact spec_LambdaOf.mono _ _ _ | exact spec_MultipliersOf.mono _ _ _ | exact LeO.none _ | refine LeO.ite ?_ ?_ | refine LeO.bind ?_ (fun _ => ?_))
theorem laws_FnCirclesDiffer.j0_no : ∀ k y0 y1 y2 y3 y4 y5 y6 y7 y8, laws_FnCirclesDiffer.j0 k y0 y1 y2 y3 y4 y5 y6 y7 y8 true ≠ some true := by
 intro k
 cases k <;> intros <;> simp [laws_FnCirclesDiffer.j0]
theorem laws_FnCirclesDiffer.j2_no : ∀ k y0 y1 y2 y3 y4 y5 y6 y7 y8 y9 y10 y11 y12 y13, laws_FnCirclesDiffer.j2 k y0 y1 y2 y3 y4 y5 y6 y7 y8 y9 y10 y11 y12 y13 true ≠ some true := by
 intro k
 cases k <;> intros <;> simp [laws_FnCirclesDiffer.j2]

end Go.Proofs.Ytofjndbpndpjjaa.Fn
namespace Go.Proofs.Ytofjndbpndpjjaa.Fn
open Go.RowKit Go.Proofs.YtofjndbpndpjjaaW.PrintWords Go.Proofs.YtofjndbpndpjjaaW.PrintLast Go.Proofs.YtofjndbpndpjjaaW.PrintMore
attribute [local go_sem] max2_int min2_int max_two min_two max_three min_three max_four min_four   -- for this text's walks alone
set_option linter.unusedVariables false
set_option linter.unusedSimpArgs false


/-- The statement of laws_FnCirclesDiffer over numbers and lists. -/
def laws_FnCirclesDiffer.Pure : Prop := ∀ (l0 : List Int) (l1 : List Int), l0.length ≤ maxLen → l0.length * 1 ≤ 140737488351232 → (∀ x ∈ l0, (Lit.int .u8 x).wf = true) → l1.length ≤ maxLen → l1.length * 1 ≤ 140737488351232 → (∀ x ∈ l1, (Lit.int .u8 x).wf = true) → ∃ k, laws_FnCirclesDiffer.f k l0 l1 = some true

noncomputable def laws_FnCirclesDiffer.J0 (x1 : List Int) (x5 : Int) (x6 : List Int) (x7 : Int) (x8 : Bool) (x12 : Bool) (x15 : List Int) (x19 : List Int) (x23 : Bool) (x224 : Bool) : Option (Bool) := lim fun k => laws_FnCirclesDiffer.j0 k x1 x5 x6 x7 x8 x12 x15 x19 x23 x224
theorem laws_FnCirclesDiffer.J0_lim (x1 : List Int) (x5 : Int) (x6 : List Int) (x7 : Int) (x8 : Bool) (x12 : Bool) (x15 : List Int) (x19 : List Int) (x23 : Bool) (x224 : Bool) : Lim (fun k => laws_FnCirclesDiffer.j0 k x1 x5 x6 x7 x8 x12 x15 x19 x23 x224) (laws_FnCirclesDiffer.J0 x1 x5 x6 x7 x8 x12 x15 x19 x23 x224) := Lim.of fun k => (laws_FnCirclesDiffer.mono_l k).1 x1 x5 x6 x7 x8 x12 x15 x19 x23 x224
noncomputable def laws_FnCirclesDiffer.J5 (x1 : List Int) (x5 : Int) (x6 : List Int) (x7 : Int) (x8 : Bool) : Option (Bool) := lim fun k => laws_FnCirclesDiffer.j5 k x1 x5 x6 x7 x8
theorem laws_FnCirclesDiffer.J5_lim (x1 : List Int) (x5 : Int) (x6 : List Int) (x7 : Int) (x8 : Bool) : Lim (fun k => laws_FnCirclesDiffer.j5 k x1 x5 x6 x7 x8) (laws_FnCirclesDiffer.J5 x1 x5 x6 x7 x8) := Lim.of fun k => (laws_FnCirclesDiffer.mono_l k).2.1 x1 x5 x6 x7 x8
noncomputable def laws_FnCirclesDiffer.J10 (x1 : List Int) : Option (Bool) := lim fun k => laws_FnCirclesDiffer.j10 k x1
theorem laws_FnCirclesDiffer.J10_lim (x1 : List Int) : Lim (fun k => laws_FnCirclesDiffer.j10 k x1) (laws_FnCirclesDiffer.J10 x1) := Lim.of fun k => (laws_FnCirclesDiffer.mono_l k).2.2.1 x1
noncomputable def laws_FnCirclesDiffer.J6 (x1 : List Int) (x5 : Int) (x6 : List Int) (x7 : Int) (x39 : Int) (x40 : List Int) (x361 : Bool) : Option (Bool) := lim fun k => laws_FnCirclesDiffer.j6 k x1 x5 x6 x7 x39 x40 x361
theorem laws_FnCirclesDiffer.J6_lim (x1 : List Int) (x5 : Int) (x6 : List Int) (x7 : Int) (x39 : Int) (x40 : List Int) (x361 : Bool) : Lim (fun k => laws_FnCirclesDiffer.j6 k x1 x5 x6 x7 x39 x40 x361) (laws_FnCirclesDiffer.J6 x1 x5 x6 x7 x39 x40 x361) := Lim.of fun k => (laws_FnCirclesDiffer.mono_l k).2.2.2.1 x1 x5 x6 x7 x39 x40 x361
noncomputable def laws_FnCirclesDiffer.J7 (x1 : List Int) (x5 : Int) (x6 : List Int) (x7 : Int) : Option (Bool) := lim fun k => laws_FnCirclesDiffer.j7 k x1 x5 x6 x7
theorem laws_FnCirclesDiffer.J7_lim (x1 : List Int) (x5 : Int) (x6 : List Int) (x7 : Int) : Lim (fun k => laws_FnCirclesDiffer.j7 k x1 x5 x6 x7) (laws_FnCirclesDiffer.J7 x1 x5 x6 x7) := Lim.of fun k => (laws_FnCirclesDiffer.mono_l k).2.2.2.2.1 x1 x5 x6 x7
noncomputable def laws_FnCirclesDiffer.L3 (x1 : List Int) (x5 : Int) (x6 : List Int) (x7 : Int) (x44 : Int) : Option (Bool) := lim fun k => laws_FnCirclesDiffer.l3 k x1 x5 x6 x7 x44
theorem laws_FnCirclesDiffer.L3_lim (x1 : List Int) (x5 : Int) (x6 : List Int) (x7 : Int) (x44 : Int) : Lim (fun k => laws_FnCirclesDiffer.l3 k x1 x5 x6 x7 x44) (laws_FnCirclesDiffer.L3 x1 x5 x6 x7 x44) := Lim.of fun k => (laws_FnCirclesDiffer.mono_l k).2.2.2.2.2.1 x1 x5 x6 x7 x44
noncomputable def laws_FnCirclesDiffer.J9 (x1 : List Int) (x5 : Int) (x6 : List Int) (x7 : Int) (x44 : Int) (x395 : Bool) : Option (Bool) := lim fun k => laws_FnCirclesDiffer.j9 k x1 x5 x6 x7 x44 x395
theorem laws_FnCirclesDiffer.J9_lim (x1 : List Int) (x5 : Int) (x6 : List Int) (x7 : Int) (x44 : Int) (x395 : Bool) : Lim (fun k => laws_FnCirclesDiffer.j9 k x1 x5 x6 x7 x44 x395) (laws_FnCirclesDiffer.J9 x1 x5 x6 x7 x44 x395) := Lim.of fun k => (laws_FnCirclesDiffer.mono_l k).2.2.2.2.2.2.1 x1 x5 x6 x7 x44 x395
noncomputable def laws_FnCirclesDiffer.L0 (x1 : List Int) (x5 : Int) (x6 : List Int) (x7 : Int) (x8 : Bool) (x15 : List Int) (x19 : List Int) (x23 : Bool) (x27 : Int) (x28 : Int) (x228 : List Int) (x229 : Int) (x230 : Int) : Option (Bool) := lim fun k => laws_FnCirclesDiffer.l0 k x1 x5 x6 x7 x8 x15 x19 x23 x27 x28 x228 x229 x230
theorem laws_FnCirclesDiffer.L0_lim (x1 : List Int) (x5 : Int) (x6 : List Int) (x7 : Int) (x8 : Bool) (x15 : List Int) (x19 : List Int) (x23 : Bool) (x27 : Int) (x28 : Int) (x228 : List Int) (x229 : Int) (x230 : Int) : Lim (fun k => laws_FnCirclesDiffer.l0 k x1 x5 x6 x7 x8 x15 x19 x23 x27 x28 x228 x229 x230) (laws_FnCirclesDiffer.L0 x1 x5 x6 x7 x8 x15 x19 x23 x27 x28 x228 x229 x230) := Lim.of fun k => (laws_FnCirclesDiffer.mono_l k).2.2.2.2.2.2.2.1 x1 x5 x6 x7 x8 x15 x19 x23 x27 x28 x228 x229 x230
noncomputable def laws_FnCirclesDiffer.J2 (x1 : List Int) (x5 : Int) (x6 : List Int) (x7 : Int) (x8 : Bool) (x15 : List Int) (x19 : List Int) (x23 : Bool) (x27 : Int) (x28 : Int) (x30 : Int) (x228 : List Int) (x229 : Int) (x230 : Int) (x254 : Bool) : Option (Bool) := lim fun k => laws_FnCirclesDiffer.j2 k x1 x5 x6 x7 x8 x15 x19 x23 x27 x28 x30 x228 x229 x230 x254
theorem laws_FnCirclesDiffer.J2_lim (x1 : List Int) (x5 : Int) (x6 : List Int) (x7 : Int) (x8 : Bool) (x15 : List Int) (x19 : List Int) (x23 : Bool) (x27 : Int) (x28 : Int) (x30 : Int) (x228 : List Int) (x229 : Int) (x230 : Int) (x254 : Bool) : Lim (fun k => laws_FnCirclesDiffer.j2 k x1 x5 x6 x7 x8 x15 x19 x23 x27 x28 x30 x228 x229 x230 x254) (laws_FnCirclesDiffer.J2 x1 x5 x6 x7 x8 x15 x19 x23 x27 x28 x30 x228 x229 x230 x254) := Lim.of fun k => (laws_FnCirclesDiffer.mono_l k).2.2.2.2.2.2.2.2.1 x1 x5 x6 x7 x8 x15 x19 x23 x27 x28 x30 x228 x229 x230 x254
noncomputable def laws_FnCirclesDiffer.L1 (x1 : List Int) (x5 : Int) (x6 : List Int) (x7 : Int) (x8 : Bool) (x15 : List Int) (x19 : List Int) (x290 : List Int) (x291 : Int) (x292 : Int) : Option (Bool) := lim fun k => laws_FnCirclesDiffer.l1 k x1 x5 x6 x7 x8 x15 x19 x290 x291 x292
theorem laws_FnCirclesDiffer.L1_lim (x1 : List Int) (x5 : Int) (x6 : List Int) (x7 : Int) (x8 : Bool) (x15 : List Int) (x19 : List Int) (x290 : List Int) (x291 : Int) (x292 : Int) : Lim (fun k => laws_FnCirclesDiffer.l1 k x1 x5 x6 x7 x8 x15 x19 x290 x291 x292) (laws_FnCirclesDiffer.L1 x1 x5 x6 x7 x8 x15 x19 x290 x291 x292) := Lim.of fun k => (laws_FnCirclesDiffer.mono_l k).2.2.2.2.2.2.2.2.2.1 x1 x5 x6 x7 x8 x15 x19 x290 x291 x292
noncomputable def laws_FnCirclesDiffer.L2 (x1 : List Int) (x5 : Int) (x6 : List Int) (x7 : Int) (x8 : Bool) (x15 : List Int) (x19 : List Int) (x32 : Int) (x290 : List Int) (x291 : Int) (x292 : Int) (x296 : List Int) (x297 : Int) (x298 : Int) : Option (Bool) := lim fun k => laws_FnCirclesDiffer.l2 k x1 x5 x6 x7 x8 x15 x19 x32 x290 x291 x292 x296 x297 x298
theorem laws_FnCirclesDiffer.L2_lim (x1 : List Int) (x5 : Int) (x6 : List Int) (x7 : Int) (x8 : Bool) (x15 : List Int) (x19 : List Int) (x32 : Int) (x290 : List Int) (x291 : Int) (x292 : Int) (x296 : List Int) (x297 : Int) (x298 : Int) : Lim (fun k => laws_FnCirclesDiffer.l2 k x1 x5 x6 x7 x8 x15 x19 x32 x290 x291 x292 x296 x297 x298) (laws_FnCirclesDiffer.L2 x1 x5 x6 x7 x8 x15 x19 x32 x290 x291 x292 x296 x297 x298) := Lim.of fun k => (laws_FnCirclesDiffer.mono_l k).2.2.2.2.2.2.2.2.2.2 x1 x5 x6 x7 x8 x15 x19 x32 x290 x291 x292 x296 x297 x298
noncomputable def laws_FnCirclesDiffer.F (l0 : List Int) (l1 : List Int) : Option (Bool) := lim fun k => laws_FnCirclesDiffer.f k l0 l1
theorem laws_FnCirclesDiffer.F_lim (l0 : List Int) (l1 : List Int) : Lim (fun k => laws_FnCirclesDiffer.f k l0 l1) (laws_FnCirclesDiffer.F l0 l1) := Lim.of fun k => laws_FnCirclesDiffer.mono l0 l1 k
theorem laws_FnCirclesDiffer.J0_eq (x1 : List Int) (x5 : Int) (x6 : List Int) (x7 : Int) (x8 : Bool) (x12 : Bool) (x15 : List Int) (x19 : List Int) (x23 : Bool) (x224 : Bool) : laws_FnCirclesDiffer.J0 x1 x5 x6 x7 x8 x12 x15 x19 x23 x224 = (if x224 = true then (some false) else (if x12 = true then (laws_FnCirclesDiffer.L0 x1 x5 x6 x7 x8 x15 x19 x23 (x6.length : Int) 0 x15 (x15.length : Int) 0) else (laws_FnCirclesDiffer.J5 x1 x5 x6 x7 x8))) :=
 Lim.step (f := fun k => laws_FnCirclesDiffer.j0 (k + 1) x1 x5 x6 x7 x8 x12 x15 x19 x23 x224) (laws_FnCirclesDiffer.J0_lim x1 x5 x6 x7 x8 x12 x15 x19 x23 x224) (fun _ => rfl) (by
  simp only [laws_FnCirclesDiffer.j0]
  repeat' (first | (with_reducible first | exact Lim.const _ | exact laws_FnCirclesDiffer.J5_lim _ _ _ _ _ | exact laws_FnCirclesDiffer.L0_lim _ _ _ _ _ _ _ _ _ _ _ _ _ | refine Lim.ite ?_ ?_ | refine Lim.bind ?_ (fun _ => ?_))))
theorem laws_FnCirclesDiffer.J5_eq (x1 : List Int) (x5 : Int) (x6 : List Int) (x7 : Int) (x8 : Bool) : laws_FnCirclesDiffer.J5 x1 x5 x6 x7 x8 = (if x8 = true then (if (wrap64 (x7 * (wrap64 (x5 - 1)))) = (wrap64 ((x6.length : Int) * (wrap64 ((x6.length : Int) - 1)))) then ((impl_ComplementSet.F x5 x6).bind fun bt980 => (if bt980.2 = true then (laws_FnCirclesDiffer.J6 x1 x5 x6 x7 (x6.length : Int) bt980.1 (decide ((bt980.1.length : Int) > 1))) else (laws_FnCirclesDiffer.J6 x1 x5 x6 x7 (x6.length : Int) bt980.1 false))) else (some false)) else (laws_FnCirclesDiffer.J10 x1)) :=
 Lim.step (f := fun k => laws_FnCirclesDiffer.j5 (k + 1) x1 x5 x6 x7 x8) (laws_FnCirclesDiffer.J5_lim x1 x5 x6 x7 x8) (fun _ => rfl) (by
  simp only [laws_FnCirclesDiffer.j5]
  repeat' (first | (with_reducible first | exact Lim.const _ | exact impl_ComplementSet.F_lim _ _ | exact laws_FnCirclesDiffer.J10_lim _ | exact laws_FnCirclesDiffer.J6_lim _ _ _ _ _ _ _ | refine Lim.ite ?_ ?_ | refine Lim.bind ?_ (fun _ => ?_))))
theorem laws_FnCirclesDiffer.J10_eq (x1 : List Int) : laws_FnCirclesDiffer.J10 x1 = ((spec_DrawMoveSet.F x1).bind fun bt993 => ((impl_MoveSet.F bt993.1 bt993.2.1 bt993.2.2).bind fun bt998 => ((spec_MoveSet.F bt993.1 bt993.2.1 bt993.2.2).bind fun bt1002 => ((impl_TimesSet.F bt993.1 bt993.2.1 bt993.2.2).bind fun bt1006 => ((spec_TimesSet.F bt993.1 bt993.2.1 bt993.2.2).bind fun bt1010 => ((spec_DrawComplementSet.F x1).bind fun bt1014 => ((impl_ComplementSet.F bt1014.1 bt1014.2).bind fun bt1018 => ((spec_ComplementSet.F bt1014.1 bt1014.2).bind fun bt1022 => (if (bt998.2 != bt1002.2) = true then (some false) else ((laws_zSame.F bt998.1 bt1002.1).bind fun t1026 => (if t1026 = true then (if (bt1006.2 != bt1010.2) = true then (some false) else ((laws_zSame.F bt1006.1 bt1010.1).bind fun t1027 => (if t1027 = true then (if (bt1018.2 != bt1022.2) = true then (some false) else ((laws_zSame.F bt1018.1 bt1022.1).bind fun t1028 => (if t1028 = true then (if bt1018.2 = true then ((impl_ComplementSet.F bt1014.1 bt1018.1).bind fun bt1029 => (if bt1029.2 = true then ((laws_zSame.F bt1029.1 bt1014.2).bind fun t1033 => (if t1033 = true then (some ((wrap64 ((bt1018.1.length : Int) + (bt1014.2.length : Int))) == bt1014.1)) else (some false))) else (some false))) else (some true)) else (some false)))) else (some false)))) else (some false)))))))))))) :=
 Lim.step (f := fun k => laws_FnCirclesDiffer.j10 (k + 1) x1) (laws_FnCirclesDiffer.J10_lim x1) (fun _ => rfl) (by
  simp only [laws_FnCirclesDiffer.j10]
  repeat' (first | (with_reducible first | exact Lim.const _ | exact impl_ComplementSet.F_lim _ _ | exact impl_MoveSet.F_lim _ _ _ | exact impl_TimesSet.F_lim _ _ _ | exact laws_zSame.F_lim _ _ | exact spec_ComplementSet.F_lim _ _ | exact spec_DrawComplementSet.F_lim _ | exact spec_DrawMoveSet.F_lim _ | exact spec_MoveSet.F_lim _ _ _ | exact spec_TimesSet.F_lim _ _ _ | refine Lim.ite ?_ ?_ | refine Lim.bind ?_ (fun _ => ?_))))
theorem laws_FnCirclesDiffer.J6_eq (x1 : List Int) (x5 : Int) (x6 : List Int) (x7 : Int) (x39 : Int) (x40 : List Int) (x361 : Bool) : laws_FnCirclesDiffer.J6 x1 x5 x6 x7 x39 x40 x361 = (if x361 = true then ((impl_LambdaOf.F x5 x40).bind fun bt984 => (if (wrap64 ((wrap64 (x5 - (wrap64 (2 * x39)))) + x7)) > 0 then (if bt984.2 = true then (if bt984.1 = (wrap64 ((wrap64 (x5 - (wrap64 (2 * x39)))) + x7)) then (laws_FnCirclesDiffer.J7 x1 x5 x6 x7) else (some false)) else (some false)) else (laws_FnCirclesDiffer.J7 x1 x5 x6 x7))) else (laws_FnCirclesDiffer.J7 x1 x5 x6 x7)) :=
 Lim.step (f := fun k => laws_FnCirclesDiffer.j6 (k + 1) x1 x5 x6 x7 x39 x40 x361) (laws_FnCirclesDiffer.J6_lim x1 x5 x6 x7 x39 x40 x361) (fun _ => rfl) (by
  simp only [laws_FnCirclesDiffer.j6]
  repeat' (first | (with_reducible first | exact Lim.const _ | exact impl_LambdaOf.F_lim _ _ | exact laws_FnCirclesDiffer.J7_lim _ _ _ _ | refine Lim.ite ?_ ?_ | refine Lim.bind ?_ (fun _ => ?_))))
theorem laws_FnCirclesDiffer.J7_eq (x1 : List Int) (x5 : Int) (x6 : List Int) (x7 : Int) : laws_FnCirclesDiffer.J7 x1 x5 x6 x7 = (laws_FnCirclesDiffer.L3 x1 x5 x6 x7 1) :=
 Lim.step (f := fun k => laws_FnCirclesDiffer.j7 (k + 1) x1 x5 x6 x7) (laws_FnCirclesDiffer.J7_lim x1 x5 x6 x7) (fun _ => rfl) (by
  simp only [laws_FnCirclesDiffer.j7]
  repeat' (first | (with_reducible first | exact Lim.const _ | exact laws_FnCirclesDiffer.L3_lim _ _ _ _ _ | refine Lim.ite ?_ ?_ | refine Lim.bind ?_ (fun _ => ?_))))
theorem laws_FnCirclesDiffer.L3_eq (x1 : List Int) (x5 : Int) (x6 : List Int) (x7 : Int) (x44 : Int) : laws_FnCirclesDiffer.L3 x1 x5 x6 x7 x44 = (if x44 < x5 then (laws_FnCirclesDiffer.J9 x1 x5 x6 x7 x44 (decide (x44 < 6))) else (laws_FnCirclesDiffer.J9 x1 x5 x6 x7 x44 false)) :=
 Lim.step (f := fun k => laws_FnCirclesDiffer.l3 (k + 1) x1 x5 x6 x7 x44) (laws_FnCirclesDiffer.L3_lim x1 x5 x6 x7 x44) (fun _ => rfl) (by
  simp only [laws_FnCirclesDiffer.l3]
  repeat' (first | (with_reducible first | exact Lim.const _ | exact laws_FnCirclesDiffer.J9_lim _ _ _ _ _ _ | refine Lim.ite ?_ ?_ | refine Lim.bind ?_ (fun _ => ?_))))
theorem laws_FnCirclesDiffer.J9_eq (x1 : List Int) (x5 : Int) (x6 : List Int) (x7 : Int) (x44 : Int) (x395 : Bool) : laws_FnCirclesDiffer.J9 x1 x5 x6 x7 x44 x395 = (if x395 = true then ((impl_TimesSet.F x5 x6 x44).bind fun bt986 => ((laws_zCommon.F x44 x5).bind fun t990 => (if t990 = 1 then ((impl_LambdaOf.F x5 bt986.1).bind fun bt991 => (if bt986.2 = true then (if bt991.2 = true then (if bt991.1 = x7 then (laws_FnCirclesDiffer.L3 x1 x5 x6 x7 (wrap64 (x44 + 1))) else (some false)) else (some false)) else (some false))) else (laws_FnCirclesDiffer.L3 x1 x5 x6 x7 (wrap64 (x44 + 1)))))) else (laws_FnCirclesDiffer.J10 x1)) :=
 Lim.step (f := fun k => laws_FnCirclesDiffer.j9 (k + 1) x1 x5 x6 x7 x44 x395) (laws_FnCirclesDiffer.J9_lim x1 x5 x6 x7 x44 x395) (fun _ => rfl) (by
  simp only [laws_FnCirclesDiffer.j9]
  repeat' (first | (with_reducible first | exact Lim.const _ | exact impl_LambdaOf.F_lim _ _ | exact impl_TimesSet.F_lim _ _ _ | exact laws_FnCirclesDiffer.J10_lim _ | exact laws_FnCirclesDiffer.L3_lim _ _ _ _ _ | exact laws_zCommon.F_lim _ _ | refine Lim.ite ?_ ?_ | refine Lim.bind ?_ (fun _ => ?_))))
theorem laws_FnCirclesDiffer.L0_eq (x1 : List Int) (x5 : Int) (x6 : List Int) (x7 : Int) (x8 : Bool) (x15 : List Int) (x19 : List Int) (x23 : Bool) (x27 : Int) (x28 : Int) (x228 : List Int) (x229 : Int) (x230 : Int) : laws_FnCirclesDiffer.L0 x1 x5 x6 x7 x8 x15 x19 x23 x27 x28 x228 x229 x230 = (if x230 < x229 then (if 0 ≤ x230 then (if x230 < (x228.length : Int) then (if x230 = 0 then (if (rd x228 x230) = 0 then (if x230 > 0 then (if 0 ≤ (wrap64 (x5 - x230)) then (if (wrap64 (x5 - x230)) < (x15.length : Int) then (laws_FnCirclesDiffer.J2 x1 x5 x6 x7 x8 x15 x19 x23 x27 x28 (rd x228 x230) x228 x229 x230 ((rd x228 x230) != (rd x15 (wrap64 (x5 - x230))))) else (none)) else (none)) else (laws_FnCirclesDiffer.J2 x1 x5 x6 x7 x8 x15 x19 x23 x27 x28 (rd x228 x230) x228 x229 x230 false)) else (laws_FnCirclesDiffer.J2 x1 x5 x6 x7 x8 x15 x19 x23 x27 x28 (rd x228 x230) x228 x229 x230 true)) else (if x230 > 0 then (if 0 ≤ (wrap64 (x5 - x230)) then (if (wrap64 (x5 - x230)) < (x15.length : Int) then (laws_FnCirclesDiffer.J2 x1 x5 x6 x7 x8 x15 x19 x23 x27 x28 (rd x228 x230) x228 x229 x230 ((rd x228 x230) != (rd x15 (wrap64 (x5 - x230))))) else (none)) else (none)) else (laws_FnCirclesDiffer.J2 x1 x5 x6 x7 x8 x15 x19 x23 x27 x28 (rd x228 x230) x228 x229 x230 false))) else (none)) else (none)) else (if (x15.length : Int) = x5 then ((laws_zSum.F x15).bind fun t966 => (if t966 = (wrap64 (x27 * (wrap64 (x27 - 1)))) then (if (x23 != (decide (x28 ≤ 1))) = true then (some false) else (if (x19.length : Int) < 1 then (some false) else (if 0 < (x19.length : Int) then (if (rd x19 0) = 1 then (laws_FnCirclesDiffer.L1 x1 x5 x6 x7 x8 x15 x19 x19 (x19.length : Int) 0) else (some false)) else (none)))) else (some false))) else (some false))) :=
 Lim.step (f := fun k => laws_FnCirclesDiffer.l0 (k + 1) x1 x5 x6 x7 x8 x15 x19 x23 x27 x28 x228 x229 x230) (laws_FnCirclesDiffer.L0_lim x1 x5 x6 x7 x8 x15 x19 x23 x27 x28 x228 x229 x230) (fun _ => rfl) (by
  simp only [laws_FnCirclesDiffer.l0]
  repeat' (first | (with_reducible first | exact Lim.const _ | exact laws_FnCirclesDiffer.J2_lim _ _ _ _ _ _ _ _ _ _ _ _ _ _ _ | exact laws_FnCirclesDiffer.L1_lim _ _ _ _ _ _ _ _ _ _ | exact laws_zSum.F_lim _ | refine Lim.ite ?_ ?_ | refine Lim.bind ?_ (fun _ => ?_))))
theorem laws_FnCirclesDiffer.J2_eq (x1 : List Int) (x5 : Int) (x6 : List Int) (x7 : Int) (x8 : Bool) (x15 : List Int) (x19 : List Int) (x23 : Bool) (x27 : Int) (x28 : Int) (x30 : Int) (x228 : List Int) (x229 : Int) (x230 : Int) (x254 : Bool) : laws_FnCirclesDiffer.J2 x1 x5 x6 x7 x8 x15 x19 x23 x27 x28 x30 x228 x229 x230 x254 = (if x254 = true then (some false) else (if x30 > x28 then (laws_FnCirclesDiffer.L0 x1 x5 x6 x7 x8 x15 x19 x23 x27 x30 x228 x229 (wrap64 (x230 + 1))) else (laws_FnCirclesDiffer.L0 x1 x5 x6 x7 x8 x15 x19 x23 x27 x28 x228 x229 (wrap64 (x230 + 1))))) :=
 Lim.step (f := fun k => laws_FnCirclesDiffer.j2 (k + 1) x1 x5 x6 x7 x8 x15 x19 x23 x27 x28 x30 x228 x229 x230 x254) (laws_FnCirclesDiffer.J2_lim x1 x5 x6 x7 x8 x15 x19 x23 x27 x28 x30 x228 x229 x230 x254) (fun _ => rfl) (by
  simp only [laws_FnCirclesDiffer.j2]
  repeat' (first | (with_reducible first | exact Lim.const _ | exact laws_FnCirclesDiffer.L0_lim _ _ _ _ _ _ _ _ _ _ _ _ _ | refine Lim.ite ?_ ?_ | refine Lim.bind ?_ (fun _ => ?_))))
theorem laws_FnCirclesDiffer.L1_eq (x1 : List Int) (x5 : Int) (x6 : List Int) (x7 : Int) (x8 : Bool) (x15 : List Int) (x19 : List Int) (x290 : List Int) (x291 : Int) (x292 : Int) : laws_FnCirclesDiffer.L1 x1 x5 x6 x7 x8 x15 x19 x290 x291 x292 = (if x292 < x291 then (if 0 ≤ x292 then (if x292 < (x290.length : Int) then (laws_FnCirclesDiffer.L2 x1 x5 x6 x7 x8 x15 x19 (rd x290 x292) x290 x291 x292 x19 (x19.length : Int) 0) else (none)) else (none)) else ((impl_MoveSet.F x5 x6 (wrap64 (Int.tdiv x5 2))).bind fun bt971 => ((impl_DifferenceCounts.F x5 bt971.1).bind fun bt975 => (if bt971.2 = true then (if bt975.2 = true then ((laws_zSame.F bt975.1 x15).bind fun t979 => (if t979 = true then (laws_FnCirclesDiffer.J5 x1 x5 x6 x7 x8) else (some false))) else (some false)) else (some false))))) :=
 Lim.step (f := fun k => laws_FnCirclesDiffer.l1 (k + 1) x1 x5 x6 x7 x8 x15 x19 x290 x291 x292) (laws_FnCirclesDiffer.L1_lim x1 x5 x6 x7 x8 x15 x19 x290 x291 x292) (fun _ => rfl) (by
  simp only [laws_FnCirclesDiffer.l1]
  repeat' (first | (with_reducible first | exact Lim.const _ | exact impl_DifferenceCounts.F_lim _ _ | exact impl_MoveSet.F_lim _ _ _ | exact laws_FnCirclesDiffer.J5_lim _ _ _ _ _ | exact laws_FnCirclesDiffer.L2_lim _ _ _ _ _ _ _ _ _ _ _ _ _ _ | exact laws_zSame.F_lim _ _ | refine Lim.ite ?_ ?_ | refine Lim.bind ?_ (fun _ => ?_))))
theorem laws_FnCirclesDiffer.L2_eq (x1 : List Int) (x5 : Int) (x6 : List Int) (x7 : Int) (x8 : Bool) (x15 : List Int) (x19 : List Int) (x32 : Int) (x290 : List Int) (x291 : Int) (x292 : Int) (x296 : List Int) (x297 : Int) (x298 : Int) : laws_FnCirclesDiffer.L2 x1 x5 x6 x7 x8 x15 x19 x32 x290 x291 x292 x296 x297 x298 = (if x298 < x297 then (if 0 ≤ x298 then (if x298 < (x296.length : Int) then (if x5 = 0 then (none) else ((laws_zHas.F x19 (Int.tmod (wrap64 (x32 * (rd x296 x298))) x5)).bind fun t970 => (if t970 = true then (laws_FnCirclesDiffer.L2 x1 x5 x6 x7 x8 x15 x19 x32 x290 x291 x292 x296 x297 (wrap64 (x298 + 1))) else (some false)))) else (none)) else (none)) else (laws_FnCirclesDiffer.L1 x1 x5 x6 x7 x8 x15 x19 x290 x291 (wrap64 (x292 + 1)))) :=
 Lim.step (f := fun k => laws_FnCirclesDiffer.l2 (k + 1) x1 x5 x6 x7 x8 x15 x19 x32 x290 x291 x292 x296 x297 x298) (laws_FnCirclesDiffer.L2_lim x1 x5 x6 x7 x8 x15 x19 x32 x290 x291 x292 x296 x297 x298) (fun _ => rfl) (by
  simp only [laws_FnCirclesDiffer.l2]
  repeat' (first | (with_reducible first | exact Lim.const _ | exact laws_FnCirclesDiffer.L1_lim _ _ _ _ _ _ _ _ _ _ | exact laws_FnCirclesDiffer.L2_lim _ _ _ _ _ _ _ _ _ _ _ _ _ _ | exact laws_zHas.F_lim _ _ | refine Lim.ite ?_ ?_ | refine Lim.bind ?_ (fun _ => ?_))))
theorem laws_FnCirclesDiffer.F_eq (l0 : List Int) (l1 : List Int) : laws_FnCirclesDiffer.F l0 l1 = ((laws_big.f l0 l1).bind fun t925 => (if t925 = true then (some true) else ((spec_DrawLambdaOf.F l0).bind fun bt926 => ((impl_LambdaOf.F bt926.1 bt926.2).bind fun bt930 => ((spec_LambdaOf.F bt926.1 bt926.2).bind fun bt932 => ((impl_IsDifferenceSet.F bt926.1 bt926.2).bind fun bt934 => ((spec_IsDifferenceSet.F bt926.1 bt926.2).bind fun bt936 => ((impl_DifferenceCounts.F bt926.1 bt926.2).bind fun bt938 => ((spec_DifferenceCounts.F bt926.1 bt926.2).bind fun bt942 => ((impl_MultipliersOf.F bt926.1 bt926.2).bind fun bt946 => ((spec_MultipliersOf.F bt926.1 bt926.2).bind fun bt950 => ((impl_IsAroundRuler.F bt926.1 bt926.2).bind fun bt954 => ((spec_IsAroundRuler.F bt926.1 bt926.2).bind fun bt956 => (if (bt930.2 != bt932.2) = true then (laws_FnCirclesDiffer.J0 l1 bt926.1 bt926.2 bt930.1 bt930.2 bt934.2 bt938.1 bt946.1 bt954.1 true) else (if bt930.1 = bt932.1 then (if (bt934.2 != bt936.2) = true then (laws_FnCirclesDiffer.J0 l1 bt926.1 bt926.2 bt930.1 bt930.2 bt934.2 bt938.1 bt946.1 bt954.1 true) else (if (bt934.1 != bt936.1) = true then (laws_FnCirclesDiffer.J0 l1 bt926.1 bt926.2 bt930.1 bt930.2 bt934.2 bt938.1 bt946.1 bt954.1 true) else (if (bt938.2 != bt942.2) = true then (laws_FnCirclesDiffer.J0 l1 bt926.1 bt926.2 bt930.1 bt930.2 bt934.2 bt938.1 bt946.1 bt954.1 true) else ((laws_zSame.F bt938.1 bt942.1).bind fun t958 => (if t958 = true then (if (bt946.2 != bt950.2) = true then (laws_FnCirclesDiffer.J0 l1 bt926.1 bt926.2 bt930.1 bt930.2 bt934.2 bt938.1 bt946.1 bt954.1 true) else ((laws_zSame.F bt946.1 bt950.1).bind fun t959 => (if t959 = true then (if (bt954.2 != bt956.2) = true then (laws_FnCirclesDiffer.J0 l1 bt926.1 bt926.2 bt930.1 bt930.2 bt934.2 bt938.1 bt946.1 bt954.1 true) else (if (bt954.1 != bt956.1) = true then (laws_FnCirclesDiffer.J0 l1 bt926.1 bt926.2 bt930.1 bt930.2 bt934.2 bt938.1 bt946.1 bt954.1 true) else ((impl_IsCircleSet.F bt926.1 bt926.2).bind fun t960 => (if (bt934.2 != t960) = true then (laws_FnCirclesDiffer.J0 l1 bt926.1 bt926.2 bt930.1 bt930.2 bt934.2 bt938.1 bt946.1 bt954.1 true) else ((impl_IsCircleSet.F bt926.1 bt926.2).bind fun t961 => ((spec_IsCircleSet.F bt926.1 bt926.2).bind fun t962 => (if (t961 != t962) = true then (laws_FnCirclesDiffer.J0 l1 bt926.1 bt926.2 bt930.1 bt930.2 bt934.2 bt938.1 bt946.1 bt954.1 true) else (if bt934.2 = true then (if (bt930.2 != bt934.1) = true then (laws_FnCirclesDiffer.J0 l1 bt926.1 bt926.2 bt930.1 bt930.2 bt934.2 bt938.1 bt946.1 bt954.1 true) else (if (bt938.2 != bt934.2) = true then (laws_FnCirclesDiffer.J0 l1 bt926.1 bt926.2 bt930.1 bt930.2 bt934.2 bt938.1 bt946.1 bt954.1 true) else (if (bt946.2 != bt934.2) = true then (laws_FnCirclesDiffer.J0 l1 bt926.1 bt926.2 bt930.1 bt930.2 bt934.2 bt938.1 bt946.1 bt954.1 true) else (laws_FnCirclesDiffer.J0 l1 bt926.1 bt926.2 bt930.1 bt930.2 bt934.2 bt938.1 bt946.1 bt954.1 (bt954.2 != bt934.2))))) else (if (bt930.2 != false) = true then (laws_FnCirclesDiffer.J0 l1 bt926.1 bt926.2 bt930.1 bt930.2 bt934.2 bt938.1 bt946.1 bt954.1 true) else (if (bt938.2 != bt934.2) = true then (laws_FnCirclesDiffer.J0 l1 bt926.1 bt926.2 bt930.1 bt930.2 bt934.2 bt938.1 bt946.1 bt954.1 true) else (if (bt946.2 != bt934.2) = true then (laws_FnCirclesDiffer.J0 l1 bt926.1 bt926.2 bt930.1 bt930.2 bt934.2 bt938.1 bt946.1 bt954.1 true) else (laws_FnCirclesDiffer.J0 l1 bt926.1 bt926.2 bt930.1 bt930.2 bt934.2 bt938.1 bt946.1 bt954.1 (bt954.2 != bt934.2))))))))))))) else (laws_FnCirclesDiffer.J0 l1 bt926.1 bt926.2 bt930.1 bt930.2 bt934.2 bt938.1 bt946.1 bt954.1 true)))) else (laws_FnCirclesDiffer.J0 l1 bt926.1 bt926.2 bt930.1 bt930.2 bt934.2 bt938.1 bt946.1 bt954.1 true)))))) else (laws_FnCirclesDiffer.J0 l1 bt926.1 bt926.2 bt930.1 bt930.2 bt934.2 bt938.1 bt946.1 bt954.1 true)))))))))))))))) :=
 Lim.unique (laws_FnCirclesDiffer.F_lim l0 l1) (by
  unfold laws_FnCirclesDiffer.f
  repeat' (first | (with_reducible first | exact Lim.const _ | exact impl_DifferenceCounts.F_lim _ _ | exact impl_IsAroundRuler.F_lim _ _ | exact impl_IsCircleSet.F_lim _ _ | exact impl_IsDifferenceSet.F_lim _ _ | exact impl_LambdaOf.F_lim _ _ | exact impl_MultipliersOf.F_lim _ _ | exact laws_FnCirclesDiffer.J0_lim _ _ _ _ _ _ _ _ _ _ | exact laws_zSame.F_lim _ _ | exact spec_DifferenceCounts.F_lim _ _ | exact spec_DrawLambdaOf.F_lim _ | exact spec_IsAroundRuler.F_lim _ _ | exact spec_IsCircleSet.F_lim _ _ | exact spec_IsDifferenceSet.F_lim _ _ | exact spec_LambdaOf.F_lim _ _ | exact spec_MultipliersOf.F_lim _ _ | refine Lim.ite ?_ ?_ | refine Lim.bind ?_ (fun _ => ?_))))

end Go.Proofs.Ytofjndbpndpjjaa.Fn
