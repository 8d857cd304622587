/- The machine's side and plain lemmas for FnDotsCostas: texts of this session, merged by its program (part 3). -/
import Derived.Test.YtnhnpplccfojeaaMFnDotsCostas0
import Derived.Test.YtnhnpplccfojeaaMFnDotsCostas1
import Derived.Test.YtnhnpplccfojeaaMFnDotsCostas2
namespace Go.Proofs.Ytnhnpplccfojeaa.Fn
open Go.RowKit Go.Proofs.YtnhnpplccfojeaaW.PrintWords Go.Proofs.YtnhnpplccfojeaaW.PrintLast Go.Proofs.YtnhnpplccfojeaaW.PrintMore
attribute [local go_sem] max2_int min2_int max_two min_two max_three min_three max_four min_four   -- for this text's walks alone
set_option linter.unusedVariables false
set_option linter.unusedSimpArgs false
/-! ### laws_zRows: function 70 -/
def laws_zRows.l0 : Nat → List (List Int) → List (List Int) → Int → Int → Option (Bool)
 | 0, _, _, _, _ => none
 | k + 1, x0, x1, x12, x13 => if x13 < x12 then (if 0 ≤ x13 then (if x13 < (x0.length : Int) then (if x13 < (x1.length : Int) then ((laws_zSame.f k (rd_L2 x0 x13) (rd_L2 x1 x13)).bind fun t978 => (if t978 = true then (laws_zRows.l0 k x0 x1 x12 (wrap64 (x13 + 1))) else (some false))) else (none)) else (none)) else (none)) else (some true)
def laws_zRows.f (k : Nat) (l0 : List (List Int)) (l1 : List (List Int)) : Option (Bool) := if (l0.length : Int) = (l1.length : Int) then (laws_zRows.l0 k l0 l1 (l0.length : Int) 0) else (some false)
theorem laws_zRows.mono_l : ∀ k, (∀ y0 y1 y2 y3, LeO (laws_zRows.l0 k y0 y1 y2 y3) (laws_zRows.l0 (k + 1) y0 y1 y2 y3))
 | 0 => fun _ _ _ _ r h => by simp [laws_zRows.l0] at h
 | k + 1 => by
  have ih0 := laws_zRows.mono_l k
  ·intro y0 y1 y2 y3
   unfold laws_zRows.l0
   repeat' (first | (with_reducible first | exact ih0 _ _ _ _ | exact laws_zSame.mono _ _ _ | exact LeO.refl _ | exact LeO.none _ | refine LeO.ite ?_ ?_ | refine LeO.bind ?_ (fun _ => ?_)) | exact ih0 _ _ _ _ | exact laws_zSame.mono _ _ _ | exact LeO.none _ | refine LeO.ite ?_ ?_ | refine LeO.bind ?_ (fun _ => ?_))
theorem laws_zRows.mono : ∀ a0 a1 k, LeO (laws_zRows.f k a0 a1) (laws_zRows.f (k + 1) a0 a1) := by
 intro a0 a1 k
 have ih0 := laws_zRows.mono_l k
 unfold laws_zRows.f
 repeat' (first | (with_reducible first | exact ih0 _ _ _ _ | exact LeO.refl _ | exact LeO.none _ | refine LeO.ite ?_ ?_ | refine LeO.bind ?_ (fun _ => ?_)) | exact ih0 _ _ _ _ | exact LeO.none _ | refine LeO.ite ?_ ?_ | refine LeO.bind ?_ (fun _ => ?_))
set_option maxHeartbeats 8000000 in
set_option maxRecDepth 100000 in
theorem laws_zRows.calls (k : Nat) (A0 : Option Addr) (c0 : Nat) (l0 : List (List Int)) (A1 : Option Addr) (c1 : Nat) (l1 : List (List Int)) (r : Bool) (w : World) (hr0 : Kd.C (Kd.slice 3 (Kd.int .i64)) w A0 l0.length l0) (hc0 : l0.length ≤ c0) (hr1 : Kd.C (Kd.slice 3 (Kd.int .i64)) w A1 l1.length l1) (hc1 : l1.length ≤ c1) (h : laws_zRows.f k l0 l1 = some r) :
  Calls Try.prog 70 #[.slice A0 l0.length c0, .slice A1 l1.length c1] w fun e w' => e = .returned (.bool r) ∧ Drawn0 w w' := by
 have HR0 := Aside0.mk hr0
 have HC0 := Aside0.mk hc0
 clear hr0 hc0
 have HR1 := Aside0.mk hr1
 have HC1 := Aside0.mk hc1
 clear hr1 hc1
 have H := h
 unfold laws_zRows.f at H
 clear h
 by_cases c3 : (l0.length : Int) = (l1.length : Int)
 ·rw [if_pos c3] at H
  have c3b0 : ((l0.length : Int) == (l1.length : Int)) = true := beq_iff_eq.mpr c3
  have c3b1 : ((l0.length : Int) != (l1.length : Int)) = false := bne_eq_false_iff_eq.mpr c3
  have c3b2 : (l0.length == l1.length) = true := by first | simpa using c3 | (simp at c3 ⊢; omega)
  clear c3
  have H' := Aside0.mk H
  clear H
  go_enter Try.func70, Try.ntmps70
  go_wp2
  repeat (go_quiet (fail); try go_wp2)
  go_loopg [13] k (fun kq v13 w' => ∃ (x13_1 : Int), v13 = .int .i64 x13_1 ∧ Aside0 (laws_zRows.l0 kq l0 l1 (l0.length : Int) x13_1 = some r) ∧ Aside0 (kq ≤ k) ∧ Drawn0 w w')
  case atStart => exact ⟨(0), eqd, H', ⟨Nat.le_refl _⟩, by repeat (first | exact Drawn0.refl _ | apply Drawn0.step)⟩
  case round =>
   clear H'
   try clear c1
   try clear p2
   try clear c3
   try clear c3b0
   try clear c3b1
   try clear c3b2
   obtain ⟨x13_1, rfl, HA, HK1, ⟨m1, rfl⟩⟩ := hrel
   cases gk with
   | zero => exact absurd HA.out (by simp [laws_zRows.l0])
   | succ k1 =>
    have H := HA.out
    clear HA
    simp only [laws_zRows.l0] at H
    by_cases c4 : x13_1 < (l0.length : Int)
    ·rw [if_pos c4] at H
     have c4b0 : decide (x13_1 < (l0.length : Int)) = true := decide_eq_true c4
     clear c4
     by_cases c5 : 0 ≤ x13_1
     ·rw [if_pos c5] at H
      have c5b0 : decide (0 ≤ x13_1) = true := decide_eq_true c5
      clear c5
      by_cases c6 : x13_1 < (l0.length : Int)
      ·rw [if_pos c6] at H
       have c6b0 : decide (x13_1 < (l0.length : Int)) = true := decide_eq_true c6
       clear c6
       by_cases c7 : x13_1 < (l1.length : Int)
       ·rw [if_pos c7] at H
        have c7b0 : decide (x13_1 < (l1.length : Int)) = true := decide_eq_true c7
        clear c7
        replace H := Option.bind_eq_some_iff.mp H
        obtain ⟨t978, A80, H⟩ := H
        replace H : (if t978 = true then (laws_zRows.l0 k1 l0 l1 (l0.length : Int) (wrap64 (x13_1 + 1))) else (some false)) = some r := H
        have A8 := Aside0.mk A80
        clear A80
        by_cases c9 : t978 = true
        ·subst c9
         have H1 : (laws_zRows.l0 k1 l0 l1 (l0.length : Int) (wrap64 (x13_1 + 1))) = some r := by rw [if_pos rfl] at H; exact H
         clear H
         have H := H1
         clear H1
         have H' := Aside0.mk H
         clear H
         have p976 : 0 ≤ (x13_1 : Int) := ofd
         have q976 : x13_1 < (l0.length : Int) := ofd
         obtain ⟨ad976, A976_0, c976_0, e976, hx976_0, hl976_0, hi976_0⟩ := at_L2 HR0.out x13_1 p976 q976
         cases e976
         have HR976_0 := Aside0.mk hi976_0
         have HC976_0 := Aside0.mk hl976_0
         clear hi976_0 hl976_0
         replace p976 := eq_true p976
         replace q976 := eq_true q976
         have p977 : 0 ≤ (x13_1 : Int) := ofd
         have q977 : x13_1 < (l1.length : Int) := ofd
         obtain ⟨ad977, A977_0, c977_0, e977, hx977_0, hl977_0, hi977_0⟩ := at_L2 HR1.out x13_1 p977 q977
         cases e977
         have HR977_0 := Aside0.mk hi977_0
         have HC977_0 := Aside0.mk hl977_0
         clear hi977_0 hl977_0
         replace p977 := eq_true p977
         replace q977 := eq_true q977
         go_wp2_with (first | (go_at_call 72; (with_reducible refine (laws_zSame.calls k1 _ _ (rd_L2 l0 x13_1) _ _ (rd_L2 l1 x13_1) true _ ?side1 ?side2 ?side3 ?side4 A8.out).mono ?_); (case side1 => repeat (first | exact HR976_0.out | (with_reducible refine Kd.C_alloc ?_ _) | (with_reducible refine Kd.C_drewN ?_ _) | (with_reducible refine Kd.C_drew ?_))); (case side2 => exact HC976_0.out); (case side3 => repeat (first | exact HR977_0.out | (with_reducible refine Kd.C_alloc ?_ _) | (with_reducible refine Kd.C_drewN ?_ _) | (with_reducible refine Kd.C_drew ?_))); (case side4 => exact HC977_0.out); rintro e w' ⟨rfl, ⟨nd, rfl⟩⟩; (try first | exact ⟨rfl, _, World.drewN_drewN _ _ _⟩ | exact ⟨rfl, _, Eq.trans (World.drewN_drewN _ _ _) (congrArg (World.drewN _) (Nat.add_assoc _ _ _))⟩)))
         repeat (go_quiet (first | (go_at_call 72; (with_reducible refine (laws_zSame.calls k1 _ _ (rd_L2 l0 x13_1) _ _ (rd_L2 l1 x13_1) true _ ?side1 ?side2 ?side3 ?side4 A8.out).mono ?_); (case side1 => repeat (first | exact HR976_0.out | (with_reducible refine Kd.C_alloc ?_ _) | (with_reducible refine Kd.C_drewN ?_ _) | (with_reducible refine Kd.C_drew ?_))); (case side2 => exact HC976_0.out); (case side3 => repeat (first | exact HR977_0.out | (with_reducible refine Kd.C_alloc ?_ _) | (with_reducible refine Kd.C_drewN ?_ _) | (with_reducible refine Kd.C_drew ?_))); (case side4 => exact HC977_0.out); rintro e w' ⟨rfl, ⟨nd, rfl⟩⟩; (try first | exact ⟨rfl, _, World.drewN_drewN _ _ _⟩ | exact ⟨rfl, _, Eq.trans (World.drewN_drewN _ _ _) (congrArg (World.drewN _) (Nat.add_assoc _ _ _))⟩))); try go_wp2_with (first | (go_at_call 72; (with_reducible refine (laws_zSame.calls k1 _ _ (rd_L2 l0 x13_1) _ _ (rd_L2 l1 x13_1) true _ ?side1 ?side2 ?side3 ?side4 A8.out).mono ?_); (case side1 => repeat (first | exact HR976_0.out | (with_reducible refine Kd.C_alloc ?_ _) | (with_reducible refine Kd.C_drewN ?_ _) | (with_reducible refine Kd.C_drew ?_))); (case side2 => exact HC976_0.out); (case side3 => repeat (first | exact HR977_0.out | (with_reducible refine Kd.C_alloc ?_ _) | (with_reducible refine Kd.C_drewN ?_ _) | (with_reducible refine Kd.C_drew ?_))); (case side4 => exact HC977_0.out); rintro e w' ⟨rfl, ⟨nd, rfl⟩⟩; (try first | exact ⟨rfl, _, World.drewN_drewN _ _ _⟩ | exact ⟨rfl, _, Eq.trans (World.drewN_drewN _ _ _) (congrArg (World.drewN _) (Nat.add_assoc _ _ _))⟩))))
         go_roundg k1
         case measure => have := HK1.out; omega
         case rel => exact ⟨(wrap64 (x13_1 + 1)), eqd, H', ⟨by have := HK1.out; omega⟩, by repeat (first | exact Drawn0.refl _ | apply Drawn0.step)⟩
        ·replace c9 := Bool.eq_false_iff.mpr c9
         subst c9
         have H1 : (some false) = some r := by rw [if_neg (show ¬ (false = true) by decide)] at H; exact H
         clear H
         have H := H1
         clear H1
         obtain rfl := Option.some.inj H
         have p976 : 0 ≤ (x13_1 : Int) := ofd
         have q976 : x13_1 < (l0.length : Int) := ofd
         obtain ⟨ad976, A976_0, c976_0, e976, hx976_0, hl976_0, hi976_0⟩ := at_L2 HR0.out x13_1 p976 q976
         cases e976
         have HR976_0 := Aside0.mk hi976_0
         have HC976_0 := Aside0.mk hl976_0
         clear hi976_0 hl976_0
         replace p976 := eq_true p976
         replace q976 := eq_true q976
         have p977 : 0 ≤ (x13_1 : Int) := ofd
         have q977 : x13_1 < (l1.length : Int) := ofd
         obtain ⟨ad977, A977_0, c977_0, e977, hx977_0, hl977_0, hi977_0⟩ := at_L2 HR1.out x13_1 p977 q977
         cases e977
         have HR977_0 := Aside0.mk hi977_0
         have HC977_0 := Aside0.mk hl977_0
         clear hi977_0 hl977_0
         replace p977 := eq_true p977
         replace q977 := eq_true q977
         go_wp2_with (first | (go_at_call 72; (with_reducible refine (laws_zSame.calls k1 _ _ (rd_L2 l0 x13_1) _ _ (rd_L2 l1 x13_1) false _ ?side1 ?side2 ?side3 ?side4 A8.out).mono ?_); (case side1 => repeat (first | exact HR976_0.out | (with_reducible refine Kd.C_alloc ?_ _) | (with_reducible refine Kd.C_drewN ?_ _) | (with_reducible refine Kd.C_drew ?_))); (case side2 => exact HC976_0.out); (case side3 => repeat (first | exact HR977_0.out | (with_reducible refine Kd.C_alloc ?_ _) | (with_reducible refine Kd.C_drewN ?_ _) | (with_reducible refine Kd.C_drew ?_))); (case side4 => exact HC977_0.out); rintro e w' ⟨rfl, ⟨nd, rfl⟩⟩; (try first | exact ⟨rfl, _, World.drewN_drewN _ _ _⟩ | exact ⟨rfl, _, Eq.trans (World.drewN_drewN _ _ _) (congrArg (World.drewN _) (Nat.add_assoc _ _ _))⟩)))
         repeat (go_quiet (first | (go_at_call 72; (with_reducible refine (laws_zSame.calls k1 _ _ (rd_L2 l0 x13_1) _ _ (rd_L2 l1 x13_1) false _ ?side1 ?side2 ?side3 ?side4 A8.out).mono ?_); (case side1 => repeat (first | exact HR976_0.out | (with_reducible refine Kd.C_alloc ?_ _) | (with_reducible refine Kd.C_drewN ?_ _) | (with_reducible refine Kd.C_drew ?_))); (case side2 => exact HC976_0.out); (case side3 => repeat (first | exact HR977_0.out | (with_reducible refine Kd.C_alloc ?_ _) | (with_reducible refine Kd.C_drewN ?_ _) | (with_reducible refine Kd.C_drew ?_))); (case side4 => exact HC977_0.out); rintro e w' ⟨rfl, ⟨nd, rfl⟩⟩; (try first | exact ⟨rfl, _, World.drewN_drewN _ _ _⟩ | exact ⟨rfl, _, Eq.trans (World.drewN_drewN _ _ _) (congrArg (World.drewN _) (Nat.add_assoc _ _ _))⟩))); try go_wp2_with (first | (go_at_call 72; (with_reducible refine (laws_zSame.calls k1 _ _ (rd_L2 l0 x13_1) _ _ (rd_L2 l1 x13_1) false _ ?side1 ?side2 ?side3 ?side4 A8.out).mono ?_); (case side1 => repeat (first | exact HR976_0.out | (with_reducible refine Kd.C_alloc ?_ _) | (with_reducible refine Kd.C_drewN ?_ _) | (with_reducible refine Kd.C_drew ?_))); (case side2 => exact HC976_0.out); (case side3 => repeat (first | exact HR977_0.out | (with_reducible refine Kd.C_alloc ?_ _) | (with_reducible refine Kd.C_drewN ?_ _) | (with_reducible refine Kd.C_drew ?_))); (case side4 => exact HC977_0.out); rintro e w' ⟨rfl, ⟨nd, rfl⟩⟩; (try first | exact ⟨rfl, _, World.drewN_drewN _ _ _⟩ | exact ⟨rfl, _, Eq.trans (World.drewN_drewN _ _ _) (congrArg (World.drewN _) (Nat.add_assoc _ _ _))⟩))))
         go_ret
         exact ⟨by first | rfl | (simp; done) | (simp [*]; done), by repeat (first | exact Drawn0.refl _ | apply Drawn0.step)⟩
       ·rw [if_neg c7] at H
        exact absurd H (by simp)
      ·rw [if_neg c6] at H
       exact absurd H (by simp)
     ·rw [if_neg c5] at H
      exact absurd H (by simp)
    ·rw [if_neg c4] at H
     have c4b0 : decide (x13_1 < (l0.length : Int)) = false := decide_eq_false c4
     clear c4
     obtain rfl := Option.some.inj H
     go_wp2
     repeat (go_quiet (fail); try go_wp2)
     go_ret
     exact ⟨by first | rfl | (simp; done) | (simp [*]; done), by repeat (first | exact Drawn0.refl _ | apply Drawn0.step)⟩
 ·rw [if_neg c3] at H
  have c3b0 : ((l0.length : Int) == (l1.length : Int)) = false := beq_eq_false_iff_ne.mpr c3
  have c3b1 : ((l0.length : Int) != (l1.length : Int)) = true := bne_iff_ne.mpr c3
  have c3b2 : (l0.length == l1.length) = false := by first | simpa using c3 | (simp at c3 ⊢; omega)
  obtain rfl := Option.some.inj H
  go_enter Try.func70, Try.ntmps70
  go_wp2
  repeat (go_quiet (fail); try go_wp2)
  go_ret
  exact ⟨by first | rfl | (simp; done) | (simp [*]; done), by repeat (first | exact Drawn0.refl _ | apply Drawn0.step)⟩
noncomputable def laws_zRows.L0 (x0 : List (List Int)) (x1 : List (List Int)) (x12 : Int) (x13 : Int) : Option (Bool) := lim fun k => laws_zRows.l0 k x0 x1 x12 x13
theorem laws_zRows.L0_lim (x0 : List (List Int)) (x1 : List (List Int)) (x12 : Int) (x13 : Int) : Lim (fun k => laws_zRows.l0 k x0 x1 x12 x13) (laws_zRows.L0 x0 x1 x12 x13) := Lim.of fun k => (laws_zRows.mono_l k) x0 x1 x12 x13
noncomputable def laws_zRows.F (l0 : List (List Int)) (l1 : List (List Int)) : Option (Bool) := lim fun k => laws_zRows.f k l0 l1
theorem laws_zRows.F_lim (l0 : List (List Int)) (l1 : List (List Int)) : Lim (fun k => laws_zRows.f k l0 l1) (laws_zRows.F l0 l1) := Lim.of fun k => laws_zRows.mono l0 l1 k
theorem laws_zRows.L0_eq (x0 : List (List Int)) (x1 : List (List Int)) (x12 : Int) (x13 : Int) : laws_zRows.L0 x0 x1 x12 x13 = (if x13 < x12 then (if 0 ≤ x13 then (if x13 < (x0.length : Int) then (if x13 < (x1.length : Int) then ((laws_zSame.F (rd_L2 x0 x13) (rd_L2 x1 x13)).bind fun t978 => (if t978 = true then (laws_zRows.L0 x0 x1 x12 (wrap64 (x13 + 1))) else (some false))) else (none)) else (none)) else (none)) else (some true)) :=
 Lim.step (f := fun k => laws_zRows.l0 (k + 1) x0 x1 x12 x13) (laws_zRows.L0_lim x0 x1 x12 x13) (fun _ => rfl) (by
  simp only [laws_zRows.l0]
  repeat' (first | (with_reducible first | exact Lim.const _ | exact laws_zRows.L0_lim _ _ _ _ | exact laws_zSame.F_lim _ _ | refine Lim.ite ?_ ?_ | refine Lim.bind ?_ (fun _ => ?_))))
theorem laws_zRows.F_eq (l0 : List (List Int)) (l1 : List (List Int)) : laws_zRows.F l0 l1 = (if (l0.length : Int) = (l1.length : Int) then (laws_zRows.L0 l0 l1 (l0.length : Int) 0) else (some false)) :=
 Lim.unique (laws_zRows.F_lim l0 l1) (by
  unfold laws_zRows.f
  repeat' (first | (with_reducible first | exact Lim.const _ | exact laws_zRows.L0_lim _ _ _ _ | refine Lim.ite ?_ ?_ | refine Lim.bind ?_ (fun _ => ?_))))
/-! ### laws_zLess: function 74 -/
def laws_zLess.l0 : Nat → List Int → List Int → Int → Int → Option (Bool)
 | 0, _, _, _, _ => none
 | k + 1, x0, x1, x7, x8 => if x8 < x7 then (if x8 ≥ (x1.length : Int) then (some false) else (if 0 ≤ x8 then (if x8 < (x0.length : Int) then (if x8 < (x1.length : Int) then (if (rd x0 x8) = (rd x1 x8) then (laws_zLess.l0 k x0 x1 x7 (wrap64 (x8 + 1))) else (some (decide ((rd x0 x8) < (rd x1 x8))))) else (none)) else (none)) else (none))) else (some (decide ((x0.length : Int) < (x1.length : Int))))
def laws_zLess.f (k : Nat) (l0 : List Int) (l1 : List Int) : Option (Bool) := laws_zLess.l0 k l0 l1 (l0.length : Int) 0
theorem laws_zLess.mono_l : ∀ k, (∀ y0 y1 y2 y3, LeO (laws_zLess.l0 k y0 y1 y2 y3) (laws_zLess.l0 (k + 1) y0 y1 y2 y3))
 | 0 => fun _ _ _ _ r h => by simp [laws_zLess.l0] at h
 | k + 1 => by
  have ih0 := laws_zLess.mono_l k
  ·intro y0 y1 y2 y3
   unfold laws_zLess.l0
   repeat' (first | (with_reducible first | exact ih0 _ _ _ _ | exact LeO.refl _ | exact LeO.none _ | refine LeO.ite ?_ ?_ | refine LeO.bind ?_ (fun _ => ?_)) | exact ih0 _ _ _ _ | exact LeO.none _ | refine LeO.ite ?_ ?_ | refine LeO.bind ?_ (fun _ => ?_))
theorem laws_zLess.mono : ∀ a0 a1 k, LeO (laws_zLess.f k a0 a1) (laws_zLess.f (k + 1) a0 a1) := by
 intro a0 a1 k
 have ih0 := laws_zLess.mono_l k
 unfold laws_zLess.f
 repeat' (first | (with_reducible first | exact ih0 _ _ _ _ | exact LeO.refl _ | exact LeO.none _ | refine LeO.ite ?_ ?_ | refine LeO.bind ?_ (fun _ => ?_)) | exact ih0 _ _ _ _ | exact LeO.none _ | refine LeO.ite ?_ ?_ | refine LeO.bind ?_ (fun _ => ?_))
set_option maxHeartbeats 8000000 in
set_option maxRecDepth 100000 in
theorem laws_zLess.calls (k : Nat) (A0 : Option Addr) (c0 : Nat) (l0 : List Int) (A1 : Option Addr) (c1 : Nat) (l1 : List Int) (r : Bool) (w : World) (hr0 : Kd.C (Kd.int .i64) w A0 l0.length l0) (hc0 : l0.length ≤ c0) (hr1 : Kd.C (Kd.int .i64) w A1 l1.length l1) (hc1 : l1.length ≤ c1) (h : laws_zLess.f k l0 l1 = some r) :
  Calls Try.prog 74 #[.slice A0 l0.length c0, .slice A1 l1.length c1] w fun e w' => e = .returned (.bool r) ∧ Drawn0 w w' := by
 have HR0 := Aside0.mk hr0
 have HC0 := Aside0.mk hc0
 clear hr0 hc0
 have HR1 := Aside0.mk hr1
 have HC1 := Aside0.mk hc1
 clear hr1 hc1
 have H := h
 unfold laws_zLess.f at H
 clear h
 have H' := Aside0.mk H
 clear H
 go_enter Try.func74, Try.ntmps74
 go_wp2
 repeat (go_quiet (fail); try go_wp2)
 go_loopg [8] k (fun kq v8 w' => ∃ (x8_1 : Int), v8 = .int .i64 x8_1 ∧ Aside0 (laws_zLess.l0 kq l0 l1 (l0.length : Int) x8_1 = some r) ∧ Aside0 (kq ≤ k) ∧ Drawn0 w w')
 case atStart => exact ⟨(0), eqd, H', ⟨Nat.le_refl _⟩, by repeat (first | exact Drawn0.refl _ | apply Drawn0.step)⟩
 case round =>
  clear H'
  try clear c1
  try clear p2
  obtain ⟨x8_1, rfl, HA, HK1, ⟨m1, rfl⟩⟩ := hrel
  cases gk with
  | zero => exact absurd HA.out (by simp [laws_zLess.l0])
  | succ k1 =>
   have H := HA.out
   clear HA
   simp only [laws_zLess.l0] at H
   by_cases c3 : x8_1 < (l0.length : Int)
   ·rw [if_pos c3] at H
    have c3b0 : decide (x8_1 < (l0.length : Int)) = true := decide_eq_true c3
    clear c3
    by_cases c4 : x8_1 ≥ (l1.length : Int)
    ·rw [if_pos c4] at H
     have c4b0 : decide ((l1.length : Int) ≤ x8_1) = true := decide_eq_true c4
     clear c4
     obtain rfl := Option.some.inj H
     go_wp2
     repeat (go_quiet (fail); try go_wp2)
     go_ret
     exact ⟨by first | rfl | (simp; done) | (simp [*]; done), by repeat (first | exact Drawn0.refl _ | apply Drawn0.step)⟩
    ·rw [if_neg c4] at H
     have c4b0 : decide ((l1.length : Int) ≤ x8_1) = false := decide_eq_false c4
     clear c4
     by_cases c5 : 0 ≤ x8_1
     ·rw [if_pos c5] at H
      have c5b0 : decide (0 ≤ x8_1) = true := decide_eq_true c5
      clear c5
      by_cases c6 : x8_1 < (l0.length : Int)
      ·rw [if_pos c6] at H
       have c6b0 : decide (x8_1 < (l0.length : Int)) = true := decide_eq_true c6
       clear c6
       by_cases c7 : x8_1 < (l1.length : Int)
       ·rw [if_pos c7] at H
        have c7b0 : decide (x8_1 < (l1.length : Int)) = true := decide_eq_true c7
        clear c7
        by_cases c8 : (rd l0 x8_1) = (rd l1 x8_1)
        ·rw [if_pos c8] at H
         have c8b0 : ((rd l0 x8_1) == (rd l1 x8_1)) = true := beq_iff_eq.mpr c8
         have c8b1 : ((rd l0 x8_1) != (rd l1 x8_1)) = false := bne_eq_false_iff_eq.mpr c8
         clear c8
         have H' := Aside0.mk H
         clear H
         have p986 : 0 ≤ (x8_1 : Int) := ofd
         have q986 : x8_1 < (l0.length : Int) := ofd
         obtain ⟨ad986, e986, hx986_0⟩ := Kd.at_int HR0.out x8_1 p986 q986
         cases e986
         replace p986 := eq_true p986
         replace q986 := eq_true q986
         have p987 : 0 ≤ (x8_1 : Int) := ofd
         have q987 : x8_1 < (l1.length : Int) := ofd
         obtain ⟨ad987, e987, hx987_0⟩ := Kd.at_int HR1.out x8_1 p987 q987
         cases e987
         replace p987 := eq_true p987
         replace q987 := eq_true q987
         go_wp2
         repeat (go_quiet (fail); try go_wp2)
         go_roundg k1
         case measure => have := HK1.out; omega
         case rel => exact ⟨(wrap64 (x8_1 + 1)), eqd, H', ⟨by have := HK1.out; omega⟩, by repeat (first | exact Drawn0.refl _ | apply Drawn0.step)⟩
        ·rw [if_neg c8] at H
         have c8b0 : ((rd l0 x8_1) == (rd l1 x8_1)) = false := beq_eq_false_iff_ne.mpr c8
         have c8b1 : ((rd l0 x8_1) != (rd l1 x8_1)) = true := bne_iff_ne.mpr c8
         obtain rfl := Option.some.inj H
         have p986 : 0 ≤ (x8_1 : Int) := ofd
         have q986 : x8_1 < (l0.length : Int) := ofd
         obtain ⟨ad986, e986, hx986_0⟩ := Kd.at_int HR0.out x8_1 p986 q986
         cases e986
         replace p986 := eq_true p986
         replace q986 := eq_true q986
         have p987 : 0 ≤ (x8_1 : Int) := ofd
         have q987 : x8_1 < (l1.length : Int) := ofd
         obtain ⟨ad987, e987, hx987_0⟩ := Kd.at_int HR1.out x8_1 p987 q987
         cases e987
         replace p987 := eq_true p987
         replace q987 := eq_true q987
         have p988 : 0 ≤ (x8_1 : Int) := ofd
         have q988 : x8_1 < (l0.length : Int) := ofd
         obtain ⟨ad988, e988, hx988_0⟩ := Kd.at_int HR0.out x8_1 p988 q988
         obtain rfl : ad986 = ad988 := (by injection e988)
         replace p988 := eq_true p988
         replace q988 := eq_true q988
         have p989 : 0 ≤ (x8_1 : Int) := ofd
         have q989 : x8_1 < (l1.length : Int) := ofd
         obtain ⟨ad989, e989, hx989_0⟩ := Kd.at_int HR1.out x8_1 p989 q989
         obtain rfl : ad987 = ad989 := (by injection e989)
         replace p989 := eq_true p989
         replace q989 := eq_true q989
         go_wp2
         repeat (go_quiet (fail); try go_wp2)
         go_ret
         exact ⟨by first | rfl | (simp; done) | (simp [*]; done), by repeat (first | exact Drawn0.refl _ | apply Drawn0.step)⟩
       ·rw [if_neg c7] at H
        exact absurd H (by simp)
      ·rw [if_neg c6] at H
       exact absurd H (by simp)
     ·rw [if_neg c5] at H
      exact absurd H (by simp)
   ·rw [if_neg c3] at H
    have c3b0 : decide (x8_1 < (l0.length : Int)) = false := decide_eq_false c3
    clear c3
    obtain rfl := Option.some.inj H
    go_wp2
    repeat (go_quiet (fail); try go_wp2)
    go_ret
    exact ⟨by first | rfl | (simp; done) | (simp [*]; done), by repeat (first | exact Drawn0.refl _ | apply Drawn0.step)⟩
noncomputable def laws_zLess.L0 (x0 : List Int) (x1 : List Int) (x7 : Int) (x8 : Int) : Option (Bool) := lim fun k => laws_zLess.l0 k x0 x1 x7 x8
theorem laws_zLess.L0_lim (x0 : List Int) (x1 : List Int) (x7 : Int) (x8 : Int) : Lim (fun k => laws_zLess.l0 k x0 x1 x7 x8) (laws_zLess.L0 x0 x1 x7 x8) := Lim.of fun k => (laws_zLess.mono_l k) x0 x1 x7 x8
noncomputable def laws_zLess.F (l0 : List Int) (l1 : List Int) : Option (Bool) := lim fun k => laws_zLess.f k l0 l1
theorem laws_zLess.F_lim (l0 : List Int) (l1 : List Int) : Lim (fun k => laws_zLess.f k l0 l1) (laws_zLess.F l0 l1) := Lim.of fun k => laws_zLess.mono l0 l1 k
theorem laws_zLess.L0_eq (x0 : List Int) (x1 : List Int) (x7 : Int) (x8 : Int) : laws_zLess.L0 x0 x1 x7 x8 = (if x8 < x7 then (if x8 ≥ (x1.length : Int) then (some false) else (if 0 ≤ x8 then (if x8 < (x0.length : Int) then (if x8 < (x1.length : Int) then (if (rd x0 x8) = (rd x1 x8) then (laws_zLess.L0 x0 x1 x7 (wrap64 (x8 + 1))) else (some (decide ((rd x0 x8) < (rd x1 x8))))) else (none)) else (none)) else (none))) else (some (decide ((x0.length : Int) < (x1.length : Int))))) :=
 Lim.step (f := fun k => laws_zLess.l0 (k + 1) x0 x1 x7 x8) (laws_zLess.L0_lim x0 x1 x7 x8) (fun _ => rfl) (by
  simp only [laws_zLess.l0]
  repeat' (first | (with_reducible first | exact Lim.const _ | exact laws_zLess.L0_lim _ _ _ _ | refine Lim.ite ?_ ?_ | refine Lim.bind ?_ (fun _ => ?_))))
theorem laws_zLess.F_eq (l0 : List Int) (l1 : List Int) : laws_zLess.F l0 l1 = (laws_zLess.L0 l0 l1 (l0.length : Int) 0) :=
 Lim.unique (laws_zLess.F_lim l0 l1) (by
  unfold laws_zLess.f
  repeat' (first | (with_reducible first | exact Lim.const _ | exact laws_zLess.L0_lim _ _ _ _ | refine Lim.ite ?_ ?_ | refine Lim.bind ?_ (fun _ => ?_))))
/-! ### spec_DrawFirstCostas: function 75 -/
def spec_DrawFirstCostas.f (l0 : List Int) : Option (Int) := (spec_l1Cur_among.f l0 0 0 (([1, 2, 3, 4, 5, 6, 7, 8, 9, 0, 10] : List Int))).bind fun bt994 => (some bt994.1)
set_option maxHeartbeats 8000000 in
set_option maxRecDepth 100000 in
theorem spec_DrawFirstCostas.calls (A0 : Option Addr) (c0 : Nat) (l0 : List Int) (r : Int) (w : World) (hr0 : Kd.C (Kd.int .u8) w A0 l0.length l0) (hc0 : l0.length ≤ c0) (h : spec_DrawFirstCostas.f l0 = some r) :
  Calls Try.prog 75 #[.slice A0 l0.length c0] w fun e w' => e = .returned (.int .i64 r) ∧ Below w.heap.size w w' := by
 have hu68 := Try.underlying68
 have HR0 := Aside0.mk hr0
 have HC0 := Aside0.mk hc0
 clear hr0 hc0
 have HB := Aside0.mk (Below.refl w.heap.size w)
 have H := h
 unfold spec_DrawFirstCostas.f at H
 clear h
 obtain ⟨y991, hy991⟩ : ∃ y_ : List Int, y_ = (([1, 2, 3, 4, 5, 6, 7, 8, 9, 0, 10] : List Int)) := ⟨_, rfl⟩
 replace H : ((spec_l1Cur_among.f l0 0 0 y991).bind fun bt994 => (some bt994.1)) = some r := by first | (rw [hy991]; with_reducible exact H) | (have H2_ := (Option.bind_some _ _).symm.trans H; rw [hy991]; with_reducible exact H2_) | (have H2_ := (Option.bind_some _ _).symm.trans H; with_reducible exact H2_) | with_reducible exact H | (rw [hy991]; exact H) | exact H
 have Ny991 := Aside0.mk hy991
 clear hy991
 replace H := Option.bind_eq_some_iff.mp H
 obtain ⟨⟨t994, t995, t996⟩, A20, H⟩ := H
 replace H : (some t994) = some r := H
 have A2 := Aside0.mk A20
 clear A20
 obtain rfl := Option.some.inj H
 go_enter Try.func75, Try.ntmps75
 go_wp2_with (first | ((with_reducible refine gate_dst (N := 6) rfl ?_); refine box_event ?hg (N := 6) ?hd (cs := #[.slice A0 l0.length c0, .int .i64 0, .int .u64 0]) (t := 68) ?hr ?_; (case hd => rfl); (case hg => rfl); (case hr => first | (go_simp; done) | (go_simp; rfl)); intro gb990 hg w3 hbox hb; have HI990 := Aside0.mk ((⟨_, _, hbox, (by rw [hg]; exact (szB HB) : w.heap.size ≤ gb990), HR0.out⟩ : IsS68 w w3 gb990 l0 0 0)); replace HB := upB HB hb; clear hb hbox hg) | ((with_reducible refine gate_dst (N := 8) rfl ?_); refine Kd.R_lit (Kd.int .i64) _ 3 ?hg (N := 8) ?hd (xs := ([1, 2, 3, 4, 5, 6, 7, 8, 9, 0, 10] : List Int)) (inner := [.int .i64 1, .int .i64 2, .int .i64 3, .int .i64 4, .int .i64 5, .int .i64 6, .int .i64 7, .int .i64 8, .int .i64 9, .int .i64 0, .int .i64 10]) (ok := fun _ => True) (okp := fun _ => True) ?hr ?hp (fun _ hk => hk) trivial (Below.refl _ _) (Nat.le_refl _) (by simp) ?_; (case hd => rfl); (case hg => rfl); (case hr => first | (go_simp; done) | (go_simp; rfl)); (case hp => exact repsI _); intro v992 w4 ho5 hb hg_ hnew_; clear hg_ hnew_; (first | rw [← Ny991.out] at ho5 | (simp only [Int.reduceToNat] at ho5; rw [← Ny991.out] at ho5)); have HO993 := lowR ho5 HB; replace HI990 := IsS68.up HI990 hb; replace HB := upB HB hb; clear hb ho5; obtain ⟨Ao6, co6, eo6⟩ := Kd.R_slice HO993.out; subst eo6) | ((with_reducible refine gate_callee (f := 109) rfl ?_); refine goesA (some 9) Try.func109 #[.pointer (some ⟨gb990, 0, none⟩), .slice Ao6 y991.length co6] ?_; (with_reducible refine (spec_l1Cur_among.calls gb990 l0 0 0 _ _ y991 t994 t995 t996 w _ ?side1 ?side2 ?side3 ?side4 ?side5 A2.out).mono ?_); (case side1 => exact IsS68.at HI990); (case side2 => exact atB HB); (case side3 => exact atRC HO993); (case side4 => exact (Kd.R_reads' HO993.out).2.1); (case side5 => exact far_slice (IsS68.own_ne HI990.out HO993.out (by decide))); rintro e w7 ⟨rfl, hi, hb, hk⟩; refine ⟨_, rfl, ?_⟩; replace HO993 := IsS68.keepR HI990 HO993 hk; replace HB := Aside0.mk (hb); replace HI990 := Aside0.mk (hi); (try clear hb); (try clear hb2); (try clear hk); (try clear hi)))
 go_ret
 exact ⟨eqr, atB HB⟩
/-! ### spec_DrawEchoAt: function 77 -/
def spec_DrawEchoAt.f (k : Nat) (l0 : List Int) : Option (List Int × Int × Int) := (spec_l1Cur_dots.f k l0 0 0 7).bind fun bt1003 => ((spec_l1Cur_among.f l0 bt1003.2.1 bt1003.2.2 (([0, 1, (-1), 2, 3, 12, 13] : List Int))).bind fun bt1011 => ((spec_l1Cur_among.f l0 bt1011.2.1 bt1011.2.2 (([0, 1, (-1), 2, (-3), (-12), (-13)] : List Int))).bind fun bt1017 => (some (bt1003.1, bt1011.1, bt1017.1))))
theorem spec_DrawEchoAt.mono : ∀ a0 k, LeO (spec_DrawEchoAt.f k a0) (spec_DrawEchoAt.f (k + 1) a0) := by
 intro a0 k
 unfold spec_DrawEchoAt.f
 repeat' (first | (with_reducible first | exact spec_l1Cur_dots.mono _ _ _ _ _ | exact LeO.refl _ | exact LeO.none _ | refine LeO.ite ?_ ?_ | refine LeO.bind ?_ (fun _ => ?_)) | exact spec_l1Cur_dots.mono _ _ _ _ _ | exact LeO.none _ | refine LeO.ite ?_ ?_ | refine LeO.bind ?_ (fun _ => ?_))
set_option maxHeartbeats 8000000 in
set_option maxRecDepth 100000 in
theorem spec_DrawEchoAt.calls (k : Nat) (A0 : Option Addr) (c0 : Nat) (l0 : List Int) (r1 : List Int) (r2 : Int) (r3 : Int) (w : World) (hr0 : Kd.C (Kd.int .u8) w A0 l0.length l0) (hc0 : l0.length ≤ c0) (h : spec_DrawEchoAt.f k l0 = some (r1, r2, r3)) :
  Calls Try.prog 77 #[.slice A0 l0.length c0] w fun e w' => ∃ v0_ : Value, e = .returned (.tuple #[v0_, .int .i64 r2, .int .i64 r3]) ∧ Kd.R (Kd.int .i64) 3 w' w.heap.size (fun _ => True) v0_ r1 ∧ Below w.heap.size w w' := by
 have hu68 := Try.underlying68
 have HR0 := Aside0.mk hr0
 have HC0 := Aside0.mk hc0
 clear hr0 hc0
 have HB := Aside0.mk (Below.refl w.heap.size w)
 have H := h
 unfold spec_DrawEchoAt.f at H
 clear h
 replace H := Option.bind_eq_some_iff.mp H
 obtain ⟨⟨t1003, t1006, t1007⟩, A20, H⟩ := H
 replace H : ((spec_l1Cur_among.f l0 t1006 t1007 (([0, 1, (-1), 2, 3, 12, 13] : List Int))).bind fun bt1011 => ((spec_l1Cur_among.f l0 bt1011.2.1 bt1011.2.2 (([0, 1, (-1), 2, (-3), (-12), (-13)] : List Int))).bind fun bt1017 => (some (t1003, bt1011.1, bt1017.1)))) = some (r1, r2, r3) := H
 have A2 := Aside0.mk A20
 clear A20
 obtain ⟨y1008, hy1008⟩ : ∃ y_ : List Int, y_ = (([0, 1, (-1), 2, 3, 12, 13] : List Int)) := ⟨_, rfl⟩
 replace H : ((spec_l1Cur_among.f l0 t1006 t1007 y1008).bind fun bt1011 => ((spec_l1Cur_among.f l0 bt1011.2.1 bt1011.2.2 (([0, 1, (-1), 2, (-3), (-12), (-13)] : List Int))).bind fun bt1017 => (some (t1003, bt1011.1, bt1017.1)))) = some (r1, r2, r3) := by first | (rw [hy1008]; with_reducible exact H) | (have H2_ := (Option.bind_some _ _).symm.trans H; rw [hy1008]; with_reducible exact H2_) | (have H2_ := (Option.bind_some _ _).symm.trans H; with_reducible exact H2_) | with_reducible exact H | (rw [hy1008]; exact H) | exact H
 have Ny1008 := Aside0.mk hy1008
 clear hy1008
 replace H := Option.bind_eq_some_iff.mp H
 obtain ⟨⟨t1011, t1012, t1013⟩, A30, H⟩ := H
 replace H : ((spec_l1Cur_among.f l0 t1012 t1013 (([0, 1, (-1), 2, (-3), (-12), (-13)] : List Int))).bind fun bt1017 => (some (t1003, t1011, bt1017.1))) = some (r1, r2, r3) := H
 have A3 := Aside0.mk A30
 clear A30
 obtain ⟨y1014, hy1014⟩ : ∃ y_ : List Int, y_ = (([0, 1, (-1), 2, (-3), (-12), (-13)] : List Int)) := ⟨_, rfl⟩
 replace H : ((spec_l1Cur_among.f l0 t1012 t1013 y1014).bind fun bt1017 => (some (t1003, t1011, bt1017.1))) = some (r1, r2, r3) := by first | (rw [hy1014]; with_reducible exact H) | (have H2_ := (Option.bind_some _ _).symm.trans H; rw [hy1014]; with_reducible exact H2_) | (have H2_ := (Option.bind_some _ _).symm.trans H; with_reducible exact H2_) | with_reducible exact H | (rw [hy1014]; exact H) | exact H
 have Ny1014 := Aside0.mk hy1014
 clear hy1014
 replace H := Option.bind_eq_some_iff.mp H
 obtain ⟨⟨t1017, t1018, t1019⟩, A40, H⟩ := H
 replace H : (some (t1003, t1011, t1017)) = some (r1, r2, r3) := H
 have A4 := Aside0.mk A40
 clear A40
 simp only [Option.some.injEq, Prod.mk.injEq] at H
 obtain ⟨rfl, rfl, rfl⟩ := H
 go_enter Try.func77, Try.ntmps77
 go_wp2_with (first | ((with_reducible refine gate_dst (N := 8) rfl ?_); refine box_event ?hg (N := 8) ?hd (cs := #[.slice A0 l0.length c0, .int .i64 0, .int .u64 0]) (t := 68) ?hr ?_; (case hd => rfl); (case hg => rfl); (case hr => first | (go_simp; done) | (go_simp; rfl)); intro gb1002 hg w5 hbox hb; have HI1002 := Aside0.mk ((⟨_, _, hbox, (by rw [hg]; exact (szB HB) : w.heap.size ≤ gb1002), HR0.out⟩ : IsS68 w w5 gb1002 l0 0 0)); replace HB := upB HB hb; clear hb hbox hg) | ((with_reducible refine gate_callee (f := 115) rfl ?_); refine goesA (some 10) Try.func115 #[.pointer (some ⟨gb1002, 0, none⟩), .int .i64 7] ?_; (with_reducible refine (spec_l1Cur_dots.calls k gb1002 l0 0 0 7 t1003 t1006 t1007 w _ ?side1 ?side2 A2.out).mono ?_); (case side1 => exact IsS68.at HI1002); (case side2 => exact atB HB); rintro e w6 ⟨v1004, rfl, ho0, hi, hb, hk⟩; refine ⟨_, rfl, ?_⟩; have HO1005 := lowR ho0 HB; replace HB := Aside0.mk (hb); replace HI1002 := Aside0.mk (hi); (try clear hb); (try clear hb2); (try clear hk); (try clear hi); (try clear ho0)) | ((with_reducible refine gate_dst (N := 12) rfl ?_); refine Kd.R_lit (Kd.int .i64) _ 3 ?hg (N := 12) ?hd (xs := ([0, 1, (-1), 2, 3, 12, 13] : List Int)) (inner := [.int .i64 0, .int .i64 1, .int .i64 (-1), .int .i64 2, .int .i64 3, .int .i64 12, .int .i64 13]) (ok := fun _ => True) (okp := fun _ => True) ?hr ?hp (fun _ hk => hk) trivial (Below.refl _ _) (Nat.le_refl _) (by simp) ?_; (case hd => rfl); (case hg => rfl); (case hr => first | (go_simp; done) | (go_simp; rfl)); (case hp => exact repsI _); intro v1009 w7 ho8 hb hg_ hnew_; clear hg_ hnew_; (first | rw [← Ny1008.out] at ho8 | (simp only [Int.reduceToNat] at ho8; rw [← Ny1008.out] at ho8)); have HO1010 := Aside0.mk (Kd.R_lower (Kd.R_new' ho8 (ltR HO1005)) (szB HB)); replace HO1005 := eldRR HO1005 ho8 hb; replace HI1002 := IsS68.up HI1002 hb; replace HB := upB HB hb; clear hb ho8; obtain ⟨Ao9, co9, eo9⟩ := Kd.R_slice HO1010.out; subst eo9) | ((with_reducible refine gate_callee (f := 109) rfl ?_); refine goesA (some 13) Try.func109 #[.pointer (some ⟨gb1002, 0, none⟩), .slice Ao9 y1008.length co9] ?_; (with_reducible refine (spec_l1Cur_among.calls gb1002 l0 t1006 t1007 _ _ y1008 t1011 t1012 t1013 w _ ?side1 ?side2 ?side3 ?side4 ?side5 A3.out).mono ?_); (case side1 => exact IsS68.at HI1002); (case side2 => exact atB HB); (case side3 => exact atRC HO1010); (case side4 => exact (Kd.R_reads' HO1010.out).2.1); (case side5 => exact far_slice (IsS68.own_ne HI1002.out HO1010.out (by decide))); rintro e w10 ⟨rfl, hi, hb, hk⟩; refine ⟨_, rfl, ?_⟩; replace HO1005 := IsS68.keepR HI1002 HO1005 hk; replace HO1010 := IsS68.keepR HI1002 HO1010 hk; replace HB := Aside0.mk (hb); replace HI1002 := Aside0.mk (hi); (try clear hb); (try clear hb2); (try clear hk); (try clear hi)) | ((with_reducible refine gate_dst (N := 15) rfl ?_); refine Kd.R_lit (Kd.int .i64) _ 3 ?hg (N := 15) ?hd (xs := ([0, 1, (-1), 2, (-3), (-12), (-13)] : List Int)) (inner := [.int .i64 0, .int .i64 1, .int .i64 (-1), .int .i64 2, .int .i64 (-3), .int .i64 (-12), .int .i64 (-13)]) (ok := fun _ => True) (okp := fun _ => True) ?hr ?hp (fun _ hk => hk) trivial (Below.refl _ _) (Nat.le_refl _) (by simp) ?_; (case hd => rfl); (case hg => rfl); (case hr => first | (go_simp; done) | (go_simp; rfl)); (case hp => exact repsI _); intro v1015 w11 ho12 hb hg_ hnew_; clear hg_ hnew_; (first | rw [← Ny1014.out] at ho12 | (simp only [Int.reduceToNat] at ho12; rw [← Ny1014.out] at ho12)); have HO1016 := Aside0.mk (Kd.R_lower (Kd.R_new' (Kd.R_new' ho12 (ltR HO1005)) (ltR HO1010)) (szB HB)); replace HO1005 := eldRR HO1005 ho12 hb; replace HO1010 := eldRR HO1010 ho12 hb; replace HI1002 := IsS68.up HI1002 hb; replace HB := upB HB hb; clear hb ho12; obtain ⟨Ao13, co13, eo13⟩ := Kd.R_slice HO1016.out; subst eo13) | ((with_reducible refine gate_callee (f := 109) rfl ?_); refine goesA (some 16) Try.func109 #[.pointer (some ⟨gb1002, 0, none⟩), .slice Ao13 y1014.length co13] ?_; (with_reducible refine (spec_l1Cur_among.calls gb1002 l0 t1012 t1013 _ _ y1014 t1017 t1018 t1019 w _ ?side1 ?side2 ?side3 ?side4 ?side5 A4.out).mono ?_); (case side1 => exact IsS68.at HI1002); (case side2 => exact atB HB); (case side3 => exact atRC HO1016); (case side4 => exact (Kd.R_reads' HO1016.out).2.1); (case side5 => exact far_slice (IsS68.own_ne HI1002.out HO1016.out (by decide))); rintro e w14 ⟨rfl, hi, hb, hk⟩; refine ⟨_, rfl, ?_⟩; replace HO1005 := IsS68.keepR HI1002 HO1005 hk; replace HO1010 := IsS68.keepR HI1002 HO1010 hk; replace HO1016 := IsS68.keepR HI1002 HO1016 hk; replace HB := Aside0.mk (hb); replace HI1002 := Aside0.mk (hi); (try clear hb); (try clear hb2); (try clear hk); (try clear hi)))
 go_ret3
 exact ⟨_, eqr, by (with_reducible repeat (first | apply Kd.R_alloc | apply Kd.R_drewN | apply Kd.R_drew)); exact Kd.R_mono HO1005.out (fun _ hk => trivial), atB HB⟩
noncomputable def spec_DrawEchoAt.F (l0 : List Int) : Option (List Int × Int × Int) := lim fun k => spec_DrawEchoAt.f k l0
theorem spec_DrawEchoAt.F_lim (l0 : List Int) : Lim (fun k => spec_DrawEchoAt.f k l0) (spec_DrawEchoAt.F l0) := Lim.of fun k => spec_DrawEchoAt.mono l0 k
theorem spec_DrawEchoAt.F_eq (l0 : List Int) : spec_DrawEchoAt.F l0 = ((spec_l1Cur_dots.F l0 0 0 7).bind fun bt1003 => ((spec_l1Cur_among.f l0 bt1003.2.1 bt1003.2.2 (([0, 1, (-1), 2, 3, 12, 13] : List Int))).bind fun bt1011 => ((spec_l1Cur_among.f l0 bt1011.2.1 bt1011.2.2 (([0, 1, (-1), 2, (-3), (-12), (-13)] : List Int))).bind fun bt1017 => (some (bt1003.1, bt1011.1, bt1017.1))))) :=
 Lim.unique (spec_DrawEchoAt.F_lim l0) (by
  unfold spec_DrawEchoAt.f
  repeat' (first | (with_reducible first | exact Lim.const _ | exact spec_l1Cur_dots.F_lim _ _ _ _ | refine Lim.ite ?_ ?_ | refine Lim.bind ?_ (fun _ => ?_))))
/-! ### spec_EchoAt: function 78 -/
mutual
def spec_EchoAt.j0 : Nat → List Int → Int → Int → Bool → Option (Int × Bool)
 | 0, _, _, _, _ => none
 | k + 1, x0, x1, x2, x31 => if x31 = true then (some (0, false)) else (spec_EchoAt.l0 k x0 x1 x2 0 x0 (x0.length : Int) 0)
def spec_EchoAt.l0 : Nat → List Int → Int → Int → Int → List Int → Int → Int → Option (Int × Bool)
 | 0, _, _, _, _, _, _, _ => none
 | k + 1, x0, x1, x2, x8, x32, x33, x34 => if x34 < x33 then (if 0 ≤ x34 then (if x34 < (x32.length : Int) then ((spec_l1In.f (wrap64 (x34 + x1)) 0 (wrap64 ((x0.length : Int) - 1))).bind fun t1024 => (if t1024 = true then (if 0 ≤ (wrap64 (x34 + x1)) then (if (wrap64 (x34 + x1)) < (x0.length : Int) then (if (rd x0 (wrap64 (x34 + x1))) = (wrap64 ((rd x32 x34) + x2)) then (spec_EchoAt.l0 k x0 x1 x2 (wrap64 (x8 + 1)) x32 x33 (wrap64 (x34 + 1))) else (spec_EchoAt.l0 k x0 x1 x2 x8 x32 x33 (wrap64 (x34 + 1)))) else (none)) else (none)) else (spec_EchoAt.l0 k x0 x1 x2 x8 x32 x33 (wrap64 (x34 + 1))))) else (none)) else (none)) else (some (x8, true))
end
def spec_EchoAt.f (k : Nat) (l0 : List Int) (a1 : Int) (a2 : Int) : Option (Int × Bool) := (spec_doGood.f k l0).bind fun t1020 => (if t1020 = true then ((spec_l1In.f a1 (-12) 12).bind fun t1021 => (if t1021 = true then ((spec_l1In.f a2 (-12) 12).bind fun t1022 => (if t1022 = true then (if a1 = 0 then (spec_EchoAt.j0 k l0 a1 a2 (a2 == 0)) else (spec_EchoAt.j0 k l0 a1 a2 false)) else (spec_EchoAt.j0 k l0 a1 a2 true))) else (spec_EchoAt.j0 k l0 a1 a2 true))) else (spec_EchoAt.j0 k l0 a1 a2 true))
theorem spec_EchoAt.mono_l : ∀ k, (∀ y0 y1 y2 y3, LeO (spec_EchoAt.j0 k y0 y1 y2 y3) (spec_EchoAt.j0 (k + 1) y0 y1 y2 y3)) ∧ (∀ y0 y1 y2 y3 y4 y5 y6, LeO (spec_EchoAt.l0 k y0 y1 y2 y3 y4 y5 y6) (spec_EchoAt.l0 (k + 1) y0 y1 y2 y3 y4 y5 y6))
 | 0 => ⟨fun _ _ _ _ r h => by simp [spec_EchoAt.j0] at h, fun _ _ _ _ _ _ _ r h => by simp [spec_EchoAt.l0] at h⟩
 | k + 1 => by
  obtain ⟨ih0, ih1⟩ := spec_EchoAt.mono_l k
  refine ⟨?_, ?_⟩
  ·intro y0 y1 y2 y3
   unfold spec_EchoAt.j0
   repeat' (first | (with_reducible first | exact ih1 _ _ _ _ _ _ _ | exact LeO.refl _ | exact LeO.none _ | refine LeO.ite ?_ ?_ | refine LeO.bind ?_ (fun _ => ?_)) | exact ih1 _ _ _ _ _ _ _ | exact LeO.none _ | refine LeO.ite ?_ ?_ | refine LeO.bind ?_ (fun _ => ?_))
  ·intro y0 y1 y2 y3 y4 y5 y6
   unfold spec_EchoAt.l0
   repeat' (first | (with_reducible first | exact ih1 _ _ _ _ _ _ _ | exact LeO.refl _ | exact LeO.none _ | refine LeO.ite ?_ ?_ | refine LeO.bind ?_ (fun _ => ?_)) | exact ih1 _ _ _ _ _ _ _ | exact LeO.none _ | refine LeO.ite ?_ ?_ | refine LeO.bind ?_ (fun _ => ?_))
theorem spec_EchoAt.mono : ∀ a0 a1 a2 k, LeO (spec_EchoAt.f k a0 a1 a2) (spec_EchoAt.f (k + 1) a0 a1 a2) := by
 intro a0 a1 a2 k
 obtain ⟨ih0, ih1⟩ := spec_EchoAt.mono_l k
 unfold spec_EchoAt.f
 repeat' (first | (with_reducible first | exact ih0 _ _ _ _ | exact spec_doGood.mono _ _ | exact LeO.refl _ | exact LeO.none _ | refine LeO.ite ?_ ?_ | refine LeO.bind ?_ (fun _ => ?_)) | exact ih0 _ _ _ _ | exact spec_doGood.mono _ _ | exact LeO.none _ | refine LeO.ite ?_ ?_ | refine LeO.bind ?_ (fun _ => ?_))
set_option maxHeartbeats 8000000 in
set_option maxRecDepth 100000 in
theorem spec_EchoAt.calls (k : Nat) (A0 : Option Addr) (c0 : Nat) (l0 : List Int) (a1 : Int) (a2 : Int) (r1 : Int) (r2 : Bool) (w : World) (hr0 : Kd.C (Kd.int .i64) w A0 l0.length l0) (hc0 : l0.length ≤ c0) (h : spec_EchoAt.f k l0 a1 a2 = some (r1, r2)) :
  Calls Try.prog 78 #[.slice A0 l0.length c0, .int .i64 a1, .int .i64 a2] w fun e w' => e = .returned (.tuple #[.int .i64 r1, .bool r2]) ∧ Drawn0 w w' := by
 have HR0 := Aside0.mk hr0
 have HC0 := Aside0.mk hc0
 clear hr0 hc0
 have H := h
 unfold spec_EchoAt.f at H
 clear h
 have HC4 := Aside0.mk H
 clear H
 go_enter Try.func78, Try.ntmps78
 go_upto_region 1 with (fail)
 go_cut [31] (fun v31 wc => ∃ (kq : Nat) (x31_3 : Bool), v31 = .bool x31_3 ∧ Aside0 (spec_EchoAt.j0 kq l0 a1 a2 x31_3 = some (r1, r2)) ∧ Aside0 (kq ≤ k) ∧ Drawn0 w wc)
 case first =>
  have H := HC4.out
  clear HC4
  replace H := Option.bind_eq_some_iff.mp H
  obtain ⟨t1020, A50, H⟩ := H
  replace H : (if t1020 = true then ((spec_l1In.f a1 (-12) 12).bind fun t1021 => (if t1021 = true then ((spec_l1In.f a2 (-12) 12).bind fun t1022 => (if t1022 = true then (if a1 = 0 then (spec_EchoAt.j0 k l0 a1 a2 (a2 == 0)) else (spec_EchoAt.j0 k l0 a1 a2 false)) else (spec_EchoAt.j0 k l0 a1 a2 true))) else (spec_EchoAt.j0 k l0 a1 a2 true))) else (spec_EchoAt.j0 k l0 a1 a2 true)) = some (r1, r2) := H
  have A5 := Aside0.mk A50
  clear A50
  by_cases c6 : t1020 = true
  ·subst c6
   have H1 : ((spec_l1In.f a1 (-12) 12).bind fun t1021 => (if t1021 = true then ((spec_l1In.f a2 (-12) 12).bind fun t1022 => (if t1022 = true then (if a1 = 0 then (spec_EchoAt.j0 k l0 a1 a2 (a2 == 0)) else (spec_EchoAt.j0 k l0 a1 a2 false)) else (spec_EchoAt.j0 k l0 a1 a2 true))) else (spec_EchoAt.j0 k l0 a1 a2 true))) = some (r1, r2) := by rw [if_pos rfl] at H; exact H
   clear H
   have H := H1
   clear H1
   replace H := Option.bind_eq_some_iff.mp H
   obtain ⟨t1021, A70, H⟩ := H
   replace H : (if t1021 = true then ((spec_l1In.f a2 (-12) 12).bind fun t1022 => (if t1022 = true then (if a1 = 0 then (spec_EchoAt.j0 k l0 a1 a2 (a2 == 0)) else (spec_EchoAt.j0 k l0 a1 a2 false)) else (spec_EchoAt.j0 k l0 a1 a2 true))) else (spec_EchoAt.j0 k l0 a1 a2 true)) = some (r1, r2) := H
   have A7 := Aside0.mk A70
   clear A70
   by_cases c8 : t1021 = true
   ·subst c8
    have H1 : ((spec_l1In.f a2 (-12) 12).bind fun t1022 => (if t1022 = true then (if a1 = 0 then (spec_EchoAt.j0 k l0 a1 a2 (a2 == 0)) else (spec_EchoAt.j0 k l0 a1 a2 false)) else (spec_EchoAt.j0 k l0 a1 a2 true))) = some (r1, r2) := by rw [if_pos rfl] at H; exact H
    clear H
    have H := H1
    clear H1
    replace H := Option.bind_eq_some_iff.mp H
    obtain ⟨t1022, A90, H⟩ := H
    replace H : (if t1022 = true then (if a1 = 0 then (spec_EchoAt.j0 k l0 a1 a2 (a2 == 0)) else (spec_EchoAt.j0 k l0 a1 a2 false)) else (spec_EchoAt.j0 k l0 a1 a2 true)) = some (r1, r2) := H
    have A9 := Aside0.mk A90
    clear A90
    by_cases c10 : t1022 = true
    ·subst c10
     have H1 : (if a1 = 0 then (spec_EchoAt.j0 k l0 a1 a2 (a2 == 0)) else (spec_EchoAt.j0 k l0 a1 a2 false)) = some (r1, r2) := by rw [if_pos rfl] at H; exact H
     clear H
     have H := H1
     clear H1
     by_cases c11 : a1 = 0
     ·rw [if_pos c11] at H
      have c11b0 : (a1 == 0) = true := beq_iff_eq.mpr c11
      have c11b1 : (a1 != 0) = false := bne_eq_false_iff_eq.mpr c11
      clear c11
      (first | rw [c11b0] | (simp only [i64_w, i32_w]; rw [c11b0]) | skip)
      have H' := Aside0.mk H
      clear H
      go_wp2_with (first | ((with_reducible refine gate_callee (f := 117) rfl ?_); refine goesA (some 12) Try.func117 #[.slice A0 l0.length c0] ?_; (with_reducible refine (spec_doGood.calls k _ _ l0 true _ ?side1 ?side2 A5.out).mono ?_); (case side1 => repeat (first | exact HR0.out | (with_reducible refine Kd.C_alloc ?_ _) | (with_reducible refine Kd.C_drewN ?_ _) | (with_reducible refine Kd.C_drew ?_))); (case side2 => exact HC0.out); rintro e w' ⟨rfl, ⟨nd, rfl⟩⟩; refine ⟨_, rfl, ?_⟩) | (go_at_call 102; (with_reducible refine (spec_l1In.calls a1 (-12) 12 true _ A7.out).mono ?_); rintro e w' ⟨rfl, ⟨nd, rfl⟩⟩) | (go_at_call 102; (with_reducible refine (spec_l1In.calls a2 (-12) 12 true _ A9.out).mono ?_); rintro e w' ⟨rfl, ⟨nd, rfl⟩⟩))
      go_meet
      case rel => exact ⟨_, ((a2 == 0)), eqd, H', ⟨leD⟩, by repeat (first | exact Drawn0.refl _ | apply Drawn0.step)⟩
     ·rw [if_neg c11] at H
      have c11b0 : (a1 == 0) = false := beq_eq_false_iff_ne.mpr c11
      have c11b1 : (a1 != 0) = true := bne_iff_ne.mpr c11
      (first | rw [c11b0] | (simp only [i64_w, i32_w]; rw [c11b0]) | skip)
      have H' := Aside0.mk H
      clear H
      go_wp2_with (first | ((with_reducible refine gate_callee (f := 117) rfl ?_); refine goesA (some 12) Try.func117 #[.slice A0 l0.length c0] ?_; (with_reducible refine (spec_doGood.calls k _ _ l0 true _ ?side1 ?side2 A5.out).mono ?_); (case side1 => repeat (first | exact HR0.out | (with_reducible refine Kd.C_alloc ?_ _) | (with_reducible refine Kd.C_drewN ?_ _) | (with_reducible refine Kd.C_drew ?_))); (case side2 => exact HC0.out); rintro e w' ⟨rfl, ⟨nd, rfl⟩⟩; refine ⟨_, rfl, ?_⟩) | (go_at_call 102; (with_reducible refine (spec_l1In.calls a1 (-12) 12 true _ A7.out).mono ?_); rintro e w' ⟨rfl, ⟨nd, rfl⟩⟩) | (go_at_call 102; (with_reducible refine (spec_l1In.calls a2 (-12) 12 true _ A9.out).mono ?_); rintro e w' ⟨rfl, ⟨nd, rfl⟩⟩))
      go_meet
      case rel => exact ⟨_, (false), eqd, H', ⟨leD⟩, by repeat (first | exact Drawn0.refl _ | apply Drawn0.step)⟩
    ·replace c10 := Bool.eq_false_iff.mpr c10
     subst c10
     have H1 : (spec_EchoAt.j0 k l0 a1 a2 true) = some (r1, r2) := by rw [if_neg (show ¬ (false = true) by decide)] at H; exact H
     clear H
     have H := H1
     clear H1
     have H' := Aside0.mk H
     clear H
     go_wp2_with (first | ((with_reducible refine gate_callee (f := 117) rfl ?_); refine goesA (some 12) Try.func117 #[.slice A0 l0.length c0] ?_; (with_reducible refine (spec_doGood.calls k _ _ l0 true _ ?side1 ?side2 A5.out).mono ?_); (case side1 => repeat (first | exact HR0.out | (with_reducible refine Kd.C_alloc ?_ _) | (with_reducible refine Kd.C_drewN ?_ _) | (with_reducible refine Kd.C_drew ?_))); (case side2 => exact HC0.out); rintro e w' ⟨rfl, ⟨nd, rfl⟩⟩; refine ⟨_, rfl, ?_⟩) | (go_at_call 102; (with_reducible refine (spec_l1In.calls a1 (-12) 12 true _ A7.out).mono ?_); rintro e w' ⟨rfl, ⟨nd, rfl⟩⟩) | (go_at_call 102; (with_reducible refine (spec_l1In.calls a2 (-12) 12 false _ A9.out).mono ?_); rintro e w' ⟨rfl, ⟨nd, rfl⟩⟩))
     go_meet
     case rel => exact ⟨_, (true), eqd, H', ⟨leD⟩, by repeat (first | exact Drawn0.refl _ | apply Drawn0.step)⟩
   ·replace c8 := Bool.eq_false_iff.mpr c8
    subst c8
    have H1 : (spec_EchoAt.j0 k l0 a1 a2 true) = some (r1, r2) := by rw [if_neg (show ¬ (false = true) by decide)] at H; exact H
    clear H
    have H := H1
    clear H1
    have H' := Aside0.mk H
    clear H
    go_wp2_with (first | ((with_reducible refine gate_callee (f := 117) rfl ?_); refine goesA (some 12) Try.func117 #[.slice A0 l0.length c0] ?_; (with_reducible refine (spec_doGood.calls k _ _ l0 true _ ?side1 ?side2 A5.out).mono ?_); (case side1 => repeat (first | exact HR0.out | (with_reducible refine Kd.C_alloc ?_ _) | (with_reducible refine Kd.C_drewN ?_ _) | (with_reducible refine Kd.C_drew ?_))); (case side2 => exact HC0.out); rintro e w' ⟨rfl, ⟨nd, rfl⟩⟩; refine ⟨_, rfl, ?_⟩) | (go_at_call 102; (with_reducible refine (spec_l1In.calls a1 (-12) 12 false _ A7.out).mono ?_); rintro e w' ⟨rfl, ⟨nd, rfl⟩⟩))
    go_meet
    case rel => exact ⟨_, (true), eqd, H', ⟨leD⟩, by repeat (first | exact Drawn0.refl _ | apply Drawn0.step)⟩
  ·replace c6 := Bool.eq_false_iff.mpr c6
   subst c6
   have H1 : (spec_EchoAt.j0 k l0 a1 a2 true) = some (r1, r2) := by rw [if_neg (show ¬ (false = true) by decide)] at H; exact H
   clear H
   have H := H1
   clear H1
   have H' := Aside0.mk H
   clear H
   go_wp2_with (first | ((with_reducible refine gate_callee (f := 117) rfl ?_); refine goesA (some 12) Try.func117 #[.slice A0 l0.length c0] ?_; (with_reducible refine (spec_doGood.calls k _ _ l0 false _ ?side1 ?side2 A5.out).mono ?_); (case side1 => repeat (first | exact HR0.out | (with_reducible refine Kd.C_alloc ?_ _) | (with_reducible refine Kd.C_drewN ?_ _) | (with_reducible refine Kd.C_drew ?_))); (case side2 => exact HC0.out); rintro e w' ⟨rfl, ⟨nd, rfl⟩⟩; refine ⟨_, rfl, ?_⟩))
   go_meet
   case rel => exact ⟨_, (true), eqd, H', ⟨leD⟩, by repeat (first | exact Drawn0.refl _ | apply Drawn0.step)⟩
 case rest =>
  clear HC4
  try clear c1
  try clear p2
  try clear c6
  try clear c7
  try clear c8
  try clear c10
  try clear c11
  try clear c11b0
  try clear c11b1
  obtain ⟨kq, x31_3, rfl, HA, HJ3, ⟨mc3, rfl⟩⟩ := hcut
  cases kq with
  | zero => exact absurd HA.out (by simp [spec_EchoAt.j0])
  | succ kj3 =>
   have H := HA.out
   clear HA
   simp only [spec_EchoAt.j0] at H
   by_cases c12 : x31_3 = true
   ·subst c12
    have H1 : (some (0, false)) = some (r1, r2) := by rw [if_pos rfl] at H; exact H
    clear H
    have H := H1
    clear H1
    simp only [Option.some.injEq, Prod.mk.injEq] at H
    obtain ⟨rfl, rfl⟩ := H
    go_wp2
    go_ret2
    exact ⟨by first | rfl | (simp; done) | (simp [*]; done), by repeat (first | exact Drawn0.refl _ | apply Drawn0.step)⟩
   ·replace c12 := Bool.eq_false_iff.mpr c12
    subst c12
    have H1 : (spec_EchoAt.l0 kj3 l0 a1 a2 0 l0 (l0.length : Int) 0) = some (r1, r2) := by rw [if_neg (show ¬ (false = true) by decide)] at H; exact H
    clear H
    have H := H1
    clear H1
    have H' := Aside0.mk H
    clear H
    go_wp2
    go_loopg [8, 34] kj3 (fun kq v8 v34 w' => ∃ (x8_2 : Int) (x34_2 : Int), v8 = .int .i64 x8_2 ∧ v34 = .int .i64 x34_2 ∧ Aside0 (spec_EchoAt.l0 kq l0 a1 a2 x8_2 l0 (l0.length : Int) x34_2 = some (r1, r2)) ∧ Aside0 (kq ≤ kj3) ∧ Drawn0 w w')
    case atStart => exact ⟨(0), (0), eqd, eqd, H', ⟨Nat.le_refl _⟩, by repeat (first | exact Drawn0.refl _ | apply Drawn0.step)⟩
    case round =>
     clear H'
     try clear c1
     try clear p2
     try clear c3
     try clear c6
     try clear c7
     try clear c8
     try clear c10
     try clear c11
     try clear c11b0
     try clear c11b1
     try clear c12
     try clear p2
     obtain ⟨x8_2, x34_2, rfl, rfl, HA, HK2, ⟨m2, rfl⟩⟩ := hrel
     cases gk with
     | zero => exact absurd HA.out (by simp [spec_EchoAt.l0])
     | succ k2 =>
      have H := HA.out
      clear HA
      simp only [spec_EchoAt.l0] at H
      by_cases c13 : x34_2 < (l0.length : Int)
      ·rw [if_pos c13] at H
       have c13b0 : decide (x34_2 < (l0.length : Int)) = true := decide_eq_true c13
       clear c13
       by_cases c14 : 0 ≤ x34_2
       ·rw [if_pos c14] at H
        have c14b0 : decide (0 ≤ x34_2) = true := decide_eq_true c14
        clear c14
        by_cases c15 : x34_2 < (l0.length : Int)
        ·rw [if_pos c15] at H
         have c15b0 : decide (x34_2 < (l0.length : Int)) = true := decide_eq_true c15
         clear c15
         replace H := Option.bind_eq_some_iff.mp H
         obtain ⟨t1024, A160, H⟩ := H
         replace H : (if t1024 = true then (if 0 ≤ (wrap64 (x34_2 + a1)) then (if (wrap64 (x34_2 + a1)) < (l0.length : Int) then (if (rd l0 (wrap64 (x34_2 + a1))) = (wrap64 ((rd l0 x34_2) + a2)) then (spec_EchoAt.l0 k2 l0 a1 a2 (wrap64 (x8_2 + 1)) l0 (l0.length : Int) (wrap64 (x34_2 + 1))) else (spec_EchoAt.l0 k2 l0 a1 a2 x8_2 l0 (l0.length : Int) (wrap64 (x34_2 + 1)))) else (none)) else (none)) else (spec_EchoAt.l0 k2 l0 a1 a2 x8_2 l0 (l0.length : Int) (wrap64 (x34_2 + 1)))) = some (r1, r2) := H
         have A16 := Aside0.mk A160
         clear A160
         by_cases c17 : t1024 = true
         ·subst c17
          have H1 : (if 0 ≤ (wrap64 (x34_2 + a1)) then (if (wrap64 (x34_2 + a1)) < (l0.length : Int) then (if (rd l0 (wrap64 (x34_2 + a1))) = (wrap64 ((rd l0 x34_2) + a2)) then (spec_EchoAt.l0 k2 l0 a1 a2 (wrap64 (x8_2 + 1)) l0 (l0.length : Int) (wrap64 (x34_2 + 1))) else (spec_EchoAt.l0 k2 l0 a1 a2 x8_2 l0 (l0.length : Int) (wrap64 (x34_2 + 1)))) else (none)) else (none)) = some (r1, r2) := by rw [if_pos rfl] at H; exact H
          clear H
          have H := H1
          clear H1
          obtain ⟨ji18, hji18⟩ : ∃ j_ : Int, (wrap64 (x34_2 + a1)) = j_ := ⟨_, rfl⟩
          replace H : (if 0 ≤ (ji18) then (if (ji18) < (l0.length : Int) then (if (rd l0 (ji18)) = (wrap64 ((rd l0 x34_2) + a2)) then (spec_EchoAt.l0 k2 l0 a1 a2 (wrap64 (x8_2 + 1)) l0 (l0.length : Int) (wrap64 (x34_2 + 1))) else (spec_EchoAt.l0 k2 l0 a1 a2 x8_2 l0 (l0.length : Int) (wrap64 (x34_2 + 1)))) else (none)) else (none)) = some (r1, r2) := by first | (rw [hji18] at H; exact H) | (simp only [hji18] at H ⊢; exact H)
          (try rw [hji18] at A16)
          have hji18w : (IntKind.i64.wrap (x34_2 + a1)) = ji18 := (i64_w _).trans hji18
          by_cases c19 : 0 ≤ (ji18)
          ·rw [if_pos c19] at H
           have c19b0 : decide (0 ≤ (ji18)) = true := decide_eq_true c19
           clear c19
           by_cases c20 : (ji18) < (l0.length : Int)
           ·rw [if_pos c20] at H
            have c20b0 : decide ((ji18) < (l0.length : Int)) = true := decide_eq_true c20
            clear c20
            by_cases c21 : (rd l0 (ji18)) = (wrap64 ((rd l0 x34_2) + a2))
            ·rw [if_pos c21] at H
             have c21b0 : ((rd l0 (ji18)) == (wrap64 ((rd l0 x34_2) + a2))) = true := beq_iff_eq.mpr c21
             have c21b1 : ((rd l0 (ji18)) != (wrap64 ((rd l0 x34_2) + a2))) = false := bne_eq_false_iff_eq.mpr c21
             clear c21
             have H' := Aside0.mk H
             clear H
             have p1023 : 0 ≤ (x34_2 : Int) := ofd
             have q1023 : x34_2 < (l0.length : Int) := ofd
             obtain ⟨ad1023, e1023, hx1023_0⟩ := Kd.at_int HR0.out x34_2 p1023 q1023
             cases e1023
             replace p1023 := eq_true p1023
             replace q1023 := eq_true q1023
             go_wp2_with (first | ((with_reducible refine gate_callee (f := 102) rfl ?_); refine goesL_ (some 45) rfl rfl Try.func102 (by kernel_rfl) rfl #[.int .i64 ji18, .int .i64 0, .int .i64 (wrap64 ((l0.length : Int) - 1))] rfl (by (try simp only [List.map_toArray, List.map_cons, List.map_nil]); first | done | (simp only [hji18]; rfl) | rfl | (simp only [List.length_drop, List.length_take]; rfl)) ?_; (with_reducible refine (spec_l1In.calls ji18 0 (wrap64 ((l0.length : Int) - 1)) true _ A16.out).mono ?_); rintro e w' ⟨rfl, ⟨nd, rfl⟩⟩; refine ⟨_, rfl, ?_⟩; have p1025 : 0 ≤ ((ji18) : Int) := ofd; have q1025 : (ji18) < (l0.length : Int) := ofd; obtain ⟨ad1025, e1025, hx1025_0⟩ := Kd.at_int HR0.out (ji18) p1025 q1025; obtain rfl : ad1023 = ad1025 := (by injection e1025); replace p1025 := eq_true p1025; replace q1025 := eq_true q1025))
             first | go_roundg k2 | ((try subst hji18); go_roundg k2)
             case measure => have := HJ3.out; have := HK2.out; omega
             case rel => exact ⟨(wrap64 (x8_2 + 1)), (wrap64 (x34_2 + 1)), eqd, eqd, H', ⟨by have := HJ3.out; have := HK2.out; omega⟩, by repeat (first | exact Drawn0.refl _ | apply Drawn0.step)⟩
            ·rw [if_neg c21] at H
             have c21b0 : ((rd l0 (ji18)) == (wrap64 ((rd l0 x34_2) + a2))) = false := beq_eq_false_iff_ne.mpr c21
             have c21b1 : ((rd l0 (ji18)) != (wrap64 ((rd l0 x34_2) + a2))) = true := bne_iff_ne.mpr c21
             have H' := Aside0.mk H
             clear H
             have p1023 : 0 ≤ (x34_2 : Int) := ofd
             have q1023 : x34_2 < (l0.length : Int) := ofd
             obtain ⟨ad1023, e1023, hx1023_0⟩ := Kd.at_int HR0.out x34_2 p1023 q1023
             cases e1023
             replace p1023 := eq_true p1023
             replace q1023 := eq_true q1023
             go_wp2_with (first | ((with_reducible refine gate_callee (f := 102) rfl ?_); refine goesL_ (some 45) rfl rfl Try.func102 (by kernel_rfl) rfl #[.int .i64 ji18, .int .i64 0, .int .i64 (wrap64 ((l0.length : Int) - 1))] rfl (by (try simp only [List.map_toArray, List.map_cons, List.map_nil]); first | done | (simp only [hji18]; rfl) | rfl | (simp only [List.length_drop, List.length_take]; rfl)) ?_; (with_reducible refine (spec_l1In.calls ji18 0 (wrap64 ((l0.length : Int) - 1)) true _ A16.out).mono ?_); rintro e w' ⟨rfl, ⟨nd, rfl⟩⟩; refine ⟨_, rfl, ?_⟩; have p1025 : 0 ≤ ((ji18) : Int) := ofd; have q1025 : (ji18) < (l0.length : Int) := ofd; obtain ⟨ad1025, e1025, hx1025_0⟩ := Kd.at_int HR0.out (ji18) p1025 q1025; obtain rfl : ad1023 = ad1025 := (by injection e1025); replace p1025 := eq_true p1025; replace q1025 := eq_true q1025))
             first | go_roundg k2 | ((try subst hji18); go_roundg k2)
             case measure => have := HJ3.out; have := HK2.out; omega
             case rel => exact ⟨(x8_2), (wrap64 (x34_2 + 1)), eqd, eqd, H', ⟨by have := HJ3.out; have := HK2.out; omega⟩, by repeat (first | exact Drawn0.refl _ | apply Drawn0.step)⟩
           ·rw [if_neg c20] at H
            exact absurd H (by simp)
          ·rw [if_neg c19] at H
           exact absurd H (by simp)
         ·replace c17 := Bool.eq_false_iff.mpr c17
          subst c17
          have H1 : (spec_EchoAt.l0 k2 l0 a1 a2 x8_2 l0 (l0.length : Int) (wrap64 (x34_2 + 1))) = some (r1, r2) := by rw [if_neg (show ¬ (false = true) by decide)] at H; exact H
          clear H
          have H := H1
          clear H1
          have H' := Aside0.mk H
          clear H
          have p1023 : 0 ≤ (x34_2 : Int) := ofd
          have q1023 : x34_2 < (l0.length : Int) := ofd
          obtain ⟨ad1023, e1023, hx1023_0⟩ := Kd.at_int HR0.out x34_2 p1023 q1023
          cases e1023
          replace p1023 := eq_true p1023
          replace q1023 := eq_true q1023
          go_wp2_with (first | ((with_reducible refine gate_callee (f := 102) rfl ?_); refine goesA (some 45) Try.func102 #[.int .i64 (wrap64 (x34_2 + a1)), .int .i64 0, .int .i64 (wrap64 ((l0.length : Int) - 1))] ?_; (with_reducible refine (spec_l1In.calls (wrap64 (x34_2 + a1)) 0 (wrap64 ((l0.length : Int) - 1)) false _ A16.out).mono ?_); rintro e w' ⟨rfl, ⟨nd, rfl⟩⟩; refine ⟨_, rfl, ?_⟩))
          go_roundg k2
          case measure => have := HJ3.out; have := HK2.out; omega
          case rel => exact ⟨(x8_2), (wrap64 (x34_2 + 1)), eqd, eqd, H', ⟨by have := HJ3.out; have := HK2.out; omega⟩, by repeat (first | exact Drawn0.refl _ | apply Drawn0.step)⟩
        ·rw [if_neg c15] at H
         exact absurd H (by simp)
       ·rw [if_neg c14] at H
        exact absurd H (by simp)
      ·rw [if_neg c13] at H
       have c13b0 : decide (x34_2 < (l0.length : Int)) = false := decide_eq_false c13
       clear c13
       simp only [Option.some.injEq, Prod.mk.injEq] at H
       obtain ⟨rfl, rfl⟩ := H
       go_wp2
       go_ret2
       exact ⟨by first | rfl | (simp; done) | (simp [*]; done), by repeat (first | exact Drawn0.refl _ | apply Drawn0.step)⟩
noncomputable def spec_EchoAt.J0 (x0 : List Int) (x1 : Int) (x2 : Int) (x31 : Bool) : Option (Int × Bool) := lim fun k => spec_EchoAt.j0 k x0 x1 x2 x31
theorem spec_EchoAt.J0_lim (x0 : List Int) (x1 : Int) (x2 : Int) (x31 : Bool) : Lim (fun k => spec_EchoAt.j0 k x0 x1 x2 x31) (spec_EchoAt.J0 x0 x1 x2 x31) := Lim.of fun k => (spec_EchoAt.mono_l k).1 x0 x1 x2 x31
noncomputable def spec_EchoAt.L0 (x0 : List Int) (x1 : Int) (x2 : Int) (x8 : Int) (x32 : List Int) (x33 : Int) (x34 : Int) : Option (Int × Bool) := lim fun k => spec_EchoAt.l0 k x0 x1 x2 x8 x32 x33 x34
theorem spec_EchoAt.L0_lim (x0 : List Int) (x1 : Int) (x2 : Int) (x8 : Int) (x32 : List Int) (x33 : Int) (x34 : Int) : Lim (fun k => spec_EchoAt.l0 k x0 x1 x2 x8 x32 x33 x34) (spec_EchoAt.L0 x0 x1 x2 x8 x32 x33 x34) := Lim.of fun k => (spec_EchoAt.mono_l k).2 x0 x1 x2 x8 x32 x33 x34
noncomputable def spec_EchoAt.F (l0 : List Int) (a1 : Int) (a2 : Int) : Option (Int × Bool) := lim fun k => spec_EchoAt.f k l0 a1 a2
theorem spec_EchoAt.F_lim (l0 : List Int) (a1 : Int) (a2 : Int) : Lim (fun k => spec_EchoAt.f k l0 a1 a2) (spec_EchoAt.F l0 a1 a2) := Lim.of fun k => spec_EchoAt.mono l0 a1 a2 k
theorem spec_EchoAt.J0_eq (x0 : List Int) (x1 : Int) (x2 : Int) (x31 : Bool) : spec_EchoAt.J0 x0 x1 x2 x31 = (if x31 = true then (some (0, false)) else (spec_EchoAt.L0 x0 x1 x2 0 x0 (x0.length : Int) 0)) :=
 Lim.step (f := fun k => spec_EchoAt.j0 (k + 1) x0 x1 x2 x31) (spec_EchoAt.J0_lim x0 x1 x2 x31) (fun _ => rfl) (by
  simp only [spec_EchoAt.j0]
  repeat' (first | (with_reducible first | exact Lim.const _ | exact spec_EchoAt.L0_lim _ _ _ _ _ _ _ | refine Lim.ite ?_ ?_ | refine Lim.bind ?_ (fun _ => ?_))))
theorem spec_EchoAt.L0_eq (x0 : List Int) (x1 : Int) (x2 : Int) (x8 : Int) (x32 : List Int) (x33 : Int) (x34 : Int) : spec_EchoAt.L0 x0 x1 x2 x8 x32 x33 x34 = (if x34 < x33 then (if 0 ≤ x34 then (if x34 < (x32.length : Int) then ((spec_l1In.f (wrap64 (x34 + x1)) 0 (wrap64 ((x0.length : Int) - 1))).bind fun t1024 => (if t1024 = true then (if 0 ≤ (wrap64 (x34 + x1)) then (if (wrap64 (x34 + x1)) < (x0.length : Int) then (if (rd x0 (wrap64 (x34 + x1))) = (wrap64 ((rd x32 x34) + x2)) then (spec_EchoAt.L0 x0 x1 x2 (wrap64 (x8 + 1)) x32 x33 (wrap64 (x34 + 1))) else (spec_EchoAt.L0 x0 x1 x2 x8 x32 x33 (wrap64 (x34 + 1)))) else (none)) else (none)) else (spec_EchoAt.L0 x0 x1 x2 x8 x32 x33 (wrap64 (x34 + 1))))) else (none)) else (none)) else (some (x8, true))) :=
 Lim.step (f := fun k => spec_EchoAt.l0 (k + 1) x0 x1 x2 x8 x32 x33 x34) (spec_EchoAt.L0_lim x0 x1 x2 x8 x32 x33 x34) (fun _ => rfl) (by
  simp only [spec_EchoAt.l0]
  repeat' (first | (with_reducible first | exact Lim.const _ | exact spec_EchoAt.L0_lim _ _ _ _ _ _ _ | refine Lim.ite ?_ ?_ | refine Lim.bind ?_ (fun _ => ?_))))
theorem spec_EchoAt.F_eq (l0 : List Int) (a1 : Int) (a2 : Int) : spec_EchoAt.F l0 a1 a2 = ((spec_doGood.F l0).bind fun t1020 => (if t1020 = true then ((spec_l1In.f a1 (-12) 12).bind fun t1021 => (if t1021 = true then ((spec_l1In.f a2 (-12) 12).bind fun t1022 => (if t1022 = true then (if a1 = 0 then (spec_EchoAt.J0 l0 a1 a2 (a2 == 0)) else (spec_EchoAt.J0 l0 a1 a2 false)) else (spec_EchoAt.J0 l0 a1 a2 true))) else (spec_EchoAt.J0 l0 a1 a2 true))) else (spec_EchoAt.J0 l0 a1 a2 true))) :=
 Lim.unique (spec_EchoAt.F_lim l0 a1 a2) (by
  unfold spec_EchoAt.f
  repeat' (first | (with_reducible first | exact Lim.const _ | exact spec_EchoAt.J0_lim _ _ _ _ | exact spec_doGood.F_lim _ | refine Lim.ite ?_ ?_ | refine Lim.bind ?_ (fun _ => ?_))))
/-! ### spec_DrawDifferencesOf: function 79 -/
def spec_DrawDifferencesOf.f (k : Nat) (l0 : List Int) : Option (List Int × Int) := (spec_l1Cur_dots.f k l0 0 0 7).bind fun bt1027 => ((spec_l1Cur_among.f l0 bt1027.2.1 bt1027.2.2 (([1, 1, 2, 3, 5, 0, 12, (-1)] : List Int))).bind fun bt1035 => (some (bt1027.1, bt1035.1)))
theorem spec_DrawDifferencesOf.mono : ∀ a0 k, LeO (spec_DrawDifferencesOf.f k a0) (spec_DrawDifferencesOf.f (k + 1) a0) := by
 intro a0 k
 unfold spec_DrawDifferencesOf.f
 repeat' (first | (with_reducible first | exact spec_l1Cur_dots.mono _ _ _ _ _ | exact LeO.refl _ | exact LeO.none _ | refine LeO.ite ?_ ?_ | refine LeO.bind ?_ (fun _ => ?_)) | exact spec_l1Cur_dots.mono _ _ _ _ _ | exact LeO.none _ | refine LeO.ite ?_ ?_ | refine LeO.bind ?_ (fun _ => ?_))
set_option maxHeartbeats 8000000 in
set_option maxRecDepth 100000 in
theorem spec_DrawDifferencesOf.calls (k : Nat) (A0 : Option Addr) (c0 : Nat) (l0 : List Int) (r1 : List Int) (r2 : Int) (w : World) (hr0 : Kd.C (Kd.int .u8) w A0 l0.length l0) (hc0 : l0.length ≤ c0) (h : spec_DrawDifferencesOf.f k l0 = some (r1, r2)) :
  Calls Try.prog 79 #[.slice A0 l0.length c0] w fun e w' => ∃ v0_ : Value, e = .returned (.tuple #[v0_, .int .i64 r2]) ∧ Kd.R (Kd.int .i64) 3 w' w.heap.size (fun _ => True) v0_ r1 ∧ Below w.heap.size w w' := by
 have hu68 := Try.underlying68
 have HR0 := Aside0.mk hr0
 have HC0 := Aside0.mk hc0
 clear hr0 hc0
 have HB := Aside0.mk (Below.refl w.heap.size w)
 have H := h
 unfold spec_DrawDifferencesOf.f at H
 clear h
 replace H := Option.bind_eq_some_iff.mp H
 obtain ⟨⟨t1027, t1030, t1031⟩, A20, H⟩ := H
 replace H : ((spec_l1Cur_among.f l0 t1030 t1031 (([1, 1, 2, 3, 5, 0, 12, (-1)] : List Int))).bind fun bt1035 => (some (t1027, bt1035.1))) = some (r1, r2) := H
 have A2 := Aside0.mk A20
 clear A20
 obtain ⟨y1032, hy1032⟩ : ∃ y_ : List Int, y_ = (([1, 1, 2, 3, 5, 0, 12, (-1)] : List Int)) := ⟨_, rfl⟩
 replace H : ((spec_l1Cur_among.f l0 t1030 t1031 y1032).bind fun bt1035 => (some (t1027, bt1035.1))) = some (r1, r2) := by first | (rw [hy1032]; with_reducible exact H) | (have H2_ := (Option.bind_some _ _).symm.trans H; rw [hy1032]; with_reducible exact H2_) | (have H2_ := (Option.bind_some _ _).symm.trans H; with_reducible exact H2_) | with_reducible exact H | (rw [hy1032]; exact H) | exact H
 have Ny1032 := Aside0.mk hy1032
 clear hy1032
 replace H := Option.bind_eq_some_iff.mp H
 obtain ⟨⟨t1035, t1036, t1037⟩, A30, H⟩ := H
 replace H : (some (t1027, t1035)) = some (r1, r2) := H
 have A3 := Aside0.mk A30
 clear A30
 simp only [Option.some.injEq, Prod.mk.injEq] at H
 obtain ⟨rfl, rfl⟩ := H
 go_enter Try.func79, Try.ntmps79
 go_wp2_with (first | ((with_reducible refine gate_dst (N := 7) rfl ?_); refine box_event ?hg (N := 7) ?hd (cs := #[.slice A0 l0.length c0, .int .i64 0, .int .u64 0]) (t := 68) ?hr ?_; (case hd => rfl); (case hg => rfl); (case hr => first | (go_simp; done) | (go_simp; rfl)); intro gb1026 hg w4 hbox hb; have HI1026 := Aside0.mk ((⟨_, _, hbox, (by rw [hg]; exact (szB HB) : w.heap.size ≤ gb1026), HR0.out⟩ : IsS68 w w4 gb1026 l0 0 0)); replace HB := upB HB hb; clear hb hbox hg) | ((with_reducible refine gate_callee (f := 115) rfl ?_); refine goesA (some 9) Try.func115 #[.pointer (some ⟨gb1026, 0, none⟩), .int .i64 7] ?_; (with_reducible refine (spec_l1Cur_dots.calls k gb1026 l0 0 0 7 t1027 t1030 t1031 w _ ?side1 ?side2 A2.out).mono ?_); (case side1 => exact IsS68.at HI1026); (case side2 => exact atB HB); rintro e w5 ⟨v1028, rfl, ho0, hi, hb, hk⟩; refine ⟨_, rfl, ?_⟩; have HO1029 := lowR ho0 HB; replace HB := Aside0.mk (hb); replace HI1026 := Aside0.mk (hi); (try clear hb); (try clear hb2); (try clear hk); (try clear hi); (try clear ho0)) | ((with_reducible refine gate_dst (N := 11) rfl ?_); refine Kd.R_lit (Kd.int .i64) _ 3 ?hg (N := 11) ?hd (xs := ([1, 1, 2, 3, 5, 0, 12, (-1)] : List Int)) (inner := [.int .i64 1, .int .i64 1, .int .i64 2, .int .i64 3, .int .i64 5, .int .i64 0, .int .i64 12, .int .i64 (-1)]) (ok := fun _ => True) (okp := fun _ => True) ?hr ?hp (fun _ hk => hk) trivial (Below.refl _ _) (Nat.le_refl _) (by simp) ?_; (case hd => rfl); (case hg => rfl); (case hr => first | (go_simp; done) | (go_simp; rfl)); (case hp => exact repsI _); intro v1033 w6 ho7 hb hg_ hnew_; clear hg_ hnew_; (first | rw [← Ny1032.out] at ho7 | (simp only [Int.reduceToNat] at ho7; rw [← Ny1032.out] at ho7)); have HO1034 := Aside0.mk (Kd.R_lower (Kd.R_new' ho7 (ltR HO1029)) (szB HB)); replace HO1029 := eldRR HO1029 ho7 hb; replace HI1026 := IsS68.up HI1026 hb; replace HB := upB HB hb; clear hb ho7; obtain ⟨Ao8, co8, eo8⟩ := Kd.R_slice HO1034.out; subst eo8) | ((with_reducible refine gate_callee (f := 109) rfl ?_); refine goesA (some 12) Try.func109 #[.pointer (some ⟨gb1026, 0, none⟩), .slice Ao8 y1032.length co8] ?_; (with_reducible refine (spec_l1Cur_among.calls gb1026 l0 t1030 t1031 _ _ y1032 t1035 t1036 t1037 w _ ?side1 ?side2 ?side3 ?side4 ?side5 A3.out).mono ?_); (case side1 => exact IsS68.at HI1026); (case side2 => exact atB HB); (case side3 => exact atRC HO1034); (case side4 => exact (Kd.R_reads' HO1034.out).2.1); (case side5 => exact far_slice (IsS68.own_ne HI1026.out HO1034.out (by decide))); rintro e w9 ⟨rfl, hi, hb, hk⟩; refine ⟨_, rfl, ?_⟩; replace HO1029 := IsS68.keepR HI1026 HO1029 hk; replace HO1034 := IsS68.keepR HI1026 HO1034 hk; replace HB := Aside0.mk (hb); replace HI1026 := Aside0.mk (hi); (try clear hb); (try clear hb2); (try clear hk); (try clear hi)))
 go_ret2
 exact ⟨_, eqr, by (with_reducible repeat (first | apply Kd.R_alloc | apply Kd.R_drewN | apply Kd.R_drew)); exact Kd.R_mono HO1029.out (fun _ hk => trivial), atB HB⟩
noncomputable def spec_DrawDifferencesOf.F (l0 : List Int) : Option (List Int × Int) := lim fun k => spec_DrawDifferencesOf.f k l0
theorem spec_DrawDifferencesOf.F_lim (l0 : List Int) : Lim (fun k => spec_DrawDifferencesOf.f k l0) (spec_DrawDifferencesOf.F l0) := Lim.of fun k => spec_DrawDifferencesOf.mono l0 k
theorem spec_DrawDifferencesOf.F_eq (l0 : List Int) : spec_DrawDifferencesOf.F l0 = ((spec_l1Cur_dots.F l0 0 0 7).bind fun bt1027 => ((spec_l1Cur_among.f l0 bt1027.2.1 bt1027.2.2 (([1, 1, 2, 3, 5, 0, 12, (-1)] : List Int))).bind fun bt1035 => (some (bt1027.1, bt1035.1)))) :=
 Lim.unique (spec_DrawDifferencesOf.F_lim l0) (by
  unfold spec_DrawDifferencesOf.f
  repeat' (first | (with_reducible first | exact Lim.const _ | exact spec_l1Cur_dots.F_lim _ _ _ _ | refine Lim.ite ?_ ?_ | refine Lim.bind ?_ (fun _ => ?_))))
/-! ### spec_DifferencesOf: function 80 -/
def spec_DifferencesOf.f (k : Nat) (l0 : List Int) (a1 : Int) : Option (List Int × Bool) := (spec_doGood.f k l0).bind fun t1038 => (if t1038 = true then ((spec_l1In.f a1 1 (wrap64 ((l0.length : Int) - 1))).bind fun t1039 => (if t1039 = true then ((spec_doDifferences.f k l0 a1).bind fun t1040 => (some (t1040, true))) else (some (([] : List Int), false)))) else (some (([] : List Int), false)))
theorem spec_DifferencesOf.mono : ∀ a0 a1 k, LeO (spec_DifferencesOf.f k a0 a1) (spec_DifferencesOf.f (k + 1) a0 a1) := by
 intro a0 a1 k
 unfold spec_DifferencesOf.f
 repeat' (first | (with_reducible first | exact spec_doDifferences.mono _ _ _ | exact spec_doGood.mono _ _ | exact LeO.refl _ | exact LeO.none _ | refine LeO.ite ?_ ?_ | refine LeO.bind ?_ (fun _ => ?_)) | exact spec_doDifferences.mono _ _ _ | exact spec_doGood.mono _ _ | exact LeO.none _ | refine LeO.ite ?_ ?_ | refine LeO.bind ?_ (fun _ => ?_))
set_option maxHeartbeats 8000000 in
set_option maxRecDepth 100000 in
theorem spec_DifferencesOf.calls (k : Nat) (A0 : Option Addr) (c0 : Nat) (l0 : List Int) (a1 : Int) (r1 : List Int) (r2 : Bool) (w : World) (hr0 : Kd.C (Kd.int .i64) w A0 l0.length l0) (hc0 : l0.length ≤ c0) (h : spec_DifferencesOf.f k l0 a1 = some (r1, r2)) :
  Calls Try.prog 80 #[.slice A0 l0.length c0, .int .i64 a1] w fun e w' => ∃ v0_ : Value, e = .returned (.tuple #[v0_, .bool r2]) ∧ Kd.R (Kd.int .i64) 3 w' w.heap.size (fun _ => True) v0_ r1 ∧ Below w.heap.size w w' := by
 have HR0 := Aside0.mk hr0
 have HC0 := Aside0.mk hc0
 clear hr0 hc0
 have HB := Aside0.mk (Below.refl w.heap.size w)
 have H := h
 unfold spec_DifferencesOf.f at H
 clear h
 replace H := Option.bind_eq_some_iff.mp H
 obtain ⟨t1038, A30, H⟩ := H
 replace H : (if t1038 = true then ((spec_l1In.f a1 1 (wrap64 ((l0.length : Int) - 1))).bind fun t1039 => (if t1039 = true then ((spec_doDifferences.f k l0 a1).bind fun t1040 => (some (t1040, true))) else (some (([] : List Int), false)))) else (some (([] : List Int), false))) = some (r1, r2) := H
 have A3 := Aside0.mk A30
 clear A30
 by_cases c4 : t1038 = true
 ·subst c4
  have H1 : ((spec_l1In.f a1 1 (wrap64 ((l0.length : Int) - 1))).bind fun t1039 => (if t1039 = true then ((spec_doDifferences.f k l0 a1).bind fun t1040 => (some (t1040, true))) else (some (([] : List Int), false)))) = some (r1, r2) := by rw [if_pos rfl] at H; exact H
  clear H
  have H := H1
  clear H1
  replace H := Option.bind_eq_some_iff.mp H
  obtain ⟨t1039, A50, H⟩ := H
  replace H : (if t1039 = true then ((spec_doDifferences.f k l0 a1).bind fun t1040 => (some (t1040, true))) else (some (([] : List Int), false))) = some (r1, r2) := H
  have A5 := Aside0.mk A50
  clear A50
  by_cases c6 : t1039 = true
  ·subst c6
   have H1 : ((spec_doDifferences.f k l0 a1).bind fun t1040 => (some (t1040, true))) = some (r1, r2) := by rw [if_pos rfl] at H; exact H
   clear H
   have H := H1
   clear H1
   replace H := Option.bind_eq_some_iff.mp H
   obtain ⟨t1040, A70, H⟩ := H
   replace H : (some (t1040, true)) = some (r1, r2) := H
   have A7 := Aside0.mk A70
   clear A70
   simp only [Option.some.injEq, Prod.mk.injEq] at H
   obtain ⟨rfl, rfl⟩ := H
   go_enter Try.func80, Try.ntmps80
   go_wp2_with (first | ((with_reducible refine gate_callee (f := 117) rfl ?_); refine goesA (some 7) Try.func117 #[.slice A0 l0.length c0] ?_; (with_reducible refine (spec_doGood.calls k _ _ l0 true _ ?side1 ?side2 A3.out).mono ?_); (case side1 => repeat (first | exact HR0.out | (with_reducible refine Kd.C_alloc ?_ _) | (with_reducible refine Kd.C_drewN ?_ _) | (with_reducible refine Kd.C_drew ?_))); (case side2 => exact HC0.out); rintro e w' ⟨rfl, ⟨nd, rfl⟩⟩; refine ⟨_, rfl, ?_⟩) | (go_at_call 102; (with_reducible refine (spec_l1In.calls a1 1 (wrap64 ((l0.length : Int) - 1)) true _ A5.out).mono ?_); rintro e w' ⟨rfl, ⟨nd, rfl⟩⟩) | ((with_reducible refine gate_callee (f := 132) rfl ?_); refine goesA (some 19) Try.func132 #[.slice A0 l0.length c0, .int .i64 a1] ?_; (with_reducible refine (spec_doDifferences.calls k _ _ l0 a1 t1040 _ ?side1 ?side2 A7.out).mono ?_); (case side1 => repeat (first | exact HR0.out | (with_reducible refine Kd.C_alloc ?_ _) | (with_reducible refine Kd.C_drewN ?_ _) | (with_reducible refine Kd.C_drew ?_))); (case side2 => exact HC0.out); rintro e w8 ⟨v1041, rfl, ho0, hb⟩; refine ⟨_, rfl, ?_⟩; have HO1042 := lowR ho0 HB; replace HB := upB HB hb; (try clear hb); (try clear hb2); (try clear hk); (try clear hi); (try clear ho0)))
   go_ret2
   exact ⟨_, eqr, atR HO1042, atB HB⟩
  ·replace c6 := Bool.eq_false_iff.mpr c6
   subst c6
   have H1 : (some (([] : List Int), false)) = some (r1, r2) := by rw [if_neg (show ¬ (false = true) by decide)] at H; exact H
   clear H
   have H := H1
   clear H1
   simp only [Option.some.injEq, Prod.mk.injEq] at H
   obtain ⟨rfl, rfl⟩ := H
   go_enter Try.func80, Try.ntmps80
   go_wp2_with (first | ((with_reducible refine gate_callee (f := 117) rfl ?_); refine goesA (some 7) Try.func117 #[.slice A0 l0.length c0] ?_; (with_reducible refine (spec_doGood.calls k _ _ l0 true _ ?side1 ?side2 A3.out).mono ?_); (case side1 => repeat (first | exact HR0.out | (with_reducible refine Kd.C_alloc ?_ _) | (with_reducible refine Kd.C_drewN ?_ _) | (with_reducible refine Kd.C_drew ?_))); (case side2 => exact HC0.out); rintro e w' ⟨rfl, ⟨nd, rfl⟩⟩; refine ⟨_, rfl, ?_⟩) | (go_at_call 102; (with_reducible refine (spec_l1In.calls a1 1 (wrap64 ((l0.length : Int) - 1)) false _ A5.out).mono ?_); rintro e w' ⟨rfl, ⟨nd, rfl⟩⟩))
   go_ret2
   exact ⟨_, eqr, by first | exact Kd.R_nil _ _ _ _ _ | exact Kd.N_nil _ _ _ _ _ | exact Kd.V_nil _ _ _ _ _ | exact Kd.Q_nil _ _ _ _ _ | exact Kd.S_nil _ _ _ _ _, atB HB⟩
 ·replace c4 := Bool.eq_false_iff.mpr c4
  subst c4
  have H1 : (some (([] : List Int), false)) = some (r1, r2) := by rw [if_neg (show ¬ (false = true) by decide)] at H; exact H
  clear H
  have H := H1
  clear H1
  simp only [Option.some.injEq, Prod.mk.injEq] at H
  obtain ⟨rfl, rfl⟩ := H
  go_enter Try.func80, Try.ntmps80
  go_wp2_with (first | ((with_reducible refine gate_callee (f := 117) rfl ?_); refine goesA (some 7) Try.func117 #[.slice A0 l0.length c0] ?_; (with_reducible refine (spec_doGood.calls k _ _ l0 false _ ?side1 ?side2 A3.out).mono ?_); (case side1 => repeat (first | exact HR0.out | (with_reducible refine Kd.C_alloc ?_ _) | (with_reducible refine Kd.C_drewN ?_ _) | (with_reducible refine Kd.C_drew ?_))); (case side2 => exact HC0.out); rintro e w' ⟨rfl, ⟨nd, rfl⟩⟩; refine ⟨_, rfl, ?_⟩))
  go_ret2
  exact ⟨_, eqr, by first | exact Kd.R_nil _ _ _ _ _ | exact Kd.N_nil _ _ _ _ _ | exact Kd.V_nil _ _ _ _ _ | exact Kd.Q_nil _ _ _ _ _ | exact Kd.S_nil _ _ _ _ _, atB HB⟩
noncomputable def spec_DifferencesOf.F (l0 : List Int) (a1 : Int) : Option (List Int × Bool) := lim fun k => spec_DifferencesOf.f k l0 a1
theorem spec_DifferencesOf.F_lim (l0 : List Int) (a1 : Int) : Lim (fun k => spec_DifferencesOf.f k l0 a1) (spec_DifferencesOf.F l0 a1) := Lim.of fun k => spec_DifferencesOf.mono l0 a1 k
theorem spec_DifferencesOf.F_eq (l0 : List Int) (a1 : Int) : spec_DifferencesOf.F l0 a1 = ((spec_doGood.F l0).bind fun t1038 => (if t1038 = true then ((spec_l1In.f a1 1 (wrap64 ((l0.length : Int) - 1))).bind fun t1039 => (if t1039 = true then ((spec_doDifferences.F l0 a1).bind fun t1040 => (some (t1040, true))) else (some (([] : List Int), false)))) else (some (([] : List Int), false)))) :=
 Lim.unique (spec_DifferencesOf.F_lim l0 a1) (by
  unfold spec_DifferencesOf.f
  repeat' (first | (with_reducible first | exact Lim.const _ | exact spec_doDifferences.F_lim _ _ | exact spec_doGood.F_lim _ | refine Lim.ite ?_ ?_ | refine Lim.bind ?_ (fun _ => ?_))))
/-! ### laws_FnDotsCostas: function 5 -/
mutual
def laws_FnDotsCostas.j0 : Nat → List Int → List Int → Bool → Bool → Int → Int → Int → Bool → Bool → Option (Bool)
 | 0, _, _, _, _, _, _, _, _, _ => none
 | k + 1, x1, x5, x6, x7, x10, x11, x12, x13, x150 => if x150 = true then (some false) else (if x13 = true then ((impl_DifferencesOf.f k x5 x10).bind fun bt1063 => (if bt1063.2 = true then (if x11 ≥ x12 then (some false) else (if x12 ≥ (bt1063.1.length : Int) then (some false) else (if 0 ≤ x11 then (if x11 < (bt1063.1.length : Int) then (if 0 ≤ x12 then (if x12 < (bt1063.1.length : Int) then (if (rd bt1063.1 x11) = (rd bt1063.1 x12) then (laws_FnDotsCostas.j1 k x1 x5 x6 x7) else (some false)) else (none)) else (none)) else (none)) else (none)))) else (some false))) else (laws_FnDotsCostas.j1 k x1 x5 x6 x7))
def laws_FnDotsCostas.j1 : Nat → List Int → List Int → Bool → Bool → Option (Bool)
 | 0, _, _, _, _ => none
 | k + 1, x1, x5, x6, x7 => if x7 = true then (laws_FnDotsCostas.l0 k x1 x5 x6 0 1) else (laws_FnDotsCostas.j5 k x1)
def laws_FnDotsCostas.j5 : Nat → List Int → Option (Bool)
 | 0, _ => none
 | k + 1, x1 => (spec_DrawAllCostas.f x1).bind fun t1091 => ((impl_AllCostas.f k t1091).bind fun bt1092 => ((spec_AllCostas.f k t1091).bind fun bt1096 => ((impl_CountCostas.f k t1091).bind fun bt1100 => ((spec_CountCostas.f k t1091).bind fun bt1102 => ((impl_CountClasses.f k t1091).bind fun bt1104 => ((spec_CountClasses.f k t1091).bind fun bt1106 => (if (bt1092.2 != bt1096.2) = true then (some false) else ((laws_zRows.f k bt1092.1 bt1096.1).bind fun t1108 => (if t1108 = true then (if (bt1100.2 != bt1102.2) = true then (some false) else (if bt1100.1 = bt1102.1 then (if (bt1104.2 != bt1106.2) = true then (some false) else (if bt1104.1 = bt1106.1 then (if (bt1100.2 != bt1092.2) = true then (some false) else (if (bt1104.2 != bt1092.2) = true then (some false) else (if bt1092.2 = true then ((impl_FirstCostas.f k t1091).bind fun bt1109 => (if (bt1092.1.length : Int) = bt1100.1 then (if bt1109.2 = true then (if 0 < (bt1092.1.length : Int) then ((laws_zSame.f k bt1109.1 (rd_L2 bt1092.1 0)).bind fun t1114 => (if t1114 = true then (if bt1104.1 > bt1100.1 then (some false) else (if (wrap64 (8 * bt1104.1)) < bt1100.1 then (some false) else (laws_FnDotsCostas.l3 k x1 bt1092.1 bt1104.1 0 bt1092.1 (bt1092.1.length : Int) 0))) else (some false))) else (none)) else (some false)) else (some false))) else (laws_FnDotsCostas.j7 k x1)))) else (some false))) else (some false))) else (some false))))))))))
def laws_FnDotsCostas.j7 : Nat → List Int → Option (Bool)
 | 0, _ => none
 | k + 1, x1 => (spec_DrawFirstCostas.f x1).bind fun t1126 => ((impl_FirstCostas.f k t1126).bind fun bt1127 => ((spec_FirstCostas.f k t1126).bind fun bt1131 => ((spec_DrawEchoAt.f k x1).bind fun bt1135 => ((impl_EchoAt.f k bt1135.1 bt1135.2.1 bt1135.2.2).bind fun bt1140 => ((spec_EchoAt.f k bt1135.1 bt1135.2.1 bt1135.2.2).bind fun bt1142 => ((spec_DrawDifferencesOf.f k x1).bind fun bt1144 => ((impl_DifferencesOf.f k bt1144.1 bt1144.2).bind fun bt1148 => ((spec_DifferencesOf.f k bt1144.1 bt1144.2).bind fun bt1152 => (if (bt1127.2 == bt1131.2) = true then ((laws_zSame.f k bt1127.1 bt1131.1).bind fun t1156 => (if t1156 = true then (if (bt1140.2 == bt1142.2) = true then (if bt1140.1 = bt1142.1 then (if (bt1148.2 == bt1152.2) = true then ((laws_zSame.f k bt1148.1 bt1152.1).bind fun t1157 => (some t1157)) else (some false)) else (some false)) else (some false)) else (some false))) else (some false))))))))))
def laws_FnDotsCostas.l3 : Nat → List Int → List (List Int) → Int → Int → List (List Int) → Int → Int → Option (Bool)
 | 0, _, _, _, _, _, _, _ => none
 | k + 1, x1, x33, x41, x47, x388, x389, x390 => if x390 < x389 then (if 0 ≤ x390 then (if x390 < (x388.length : Int) then ((impl_IsCostas.f k (rd_L2 x388 x390)).bind fun bt1116 => ((impl_LeastDots.f k (rd_L2 x388 x390)).bind fun bt1118 => (if bt1116.2 = true then (if bt1116.1 = true then (if bt1118.2 = true then (if x390 > 0 then (if 0 ≤ (wrap64 (x390 - 1)) then (if (wrap64 (x390 - 1)) < (x33.length : Int) then ((laws_zLess.f k (rd_L2 x33 (wrap64 (x390 - 1))) (rd_L2 x388 x390)).bind fun t1123 => (if t1123 = true then ((laws_zSame.f k bt1118.1 (rd_L2 x388 x390)).bind fun t1124 => (if t1124 = true then (laws_FnDotsCostas.l3 k x1 x33 x41 (wrap64 (x47 + 1)) x388 x389 (wrap64 (x390 + 1))) else (laws_FnDotsCostas.l3 k x1 x33 x41 x47 x388 x389 (wrap64 (x390 + 1))))) else (some false))) else (none)) else (none)) else ((laws_zSame.f k bt1118.1 (rd_L2 x388 x390)).bind fun t1125 => (if t1125 = true then (laws_FnDotsCostas.l3 k x1 x33 x41 (wrap64 (x47 + 1)) x388 x389 (wrap64 (x390 + 1))) else (laws_FnDotsCostas.l3 k x1 x33 x41 x47 x388 x389 (wrap64 (x390 + 1)))))) else (some false)) else (some false)) else (some false)))) else (none)) else (none)) else (if x47 = x41 then (laws_FnDotsCostas.j7 k x1) else (some false))
def laws_FnDotsCostas.l0 : Nat → List Int → List Int → Bool → Int → Int → Option (Bool)
 | 0, _, _, _, _, _ => none
 | k + 1, x1, x5, x6, x20, x21 => if x21 < (x5.length : Int) then ((impl_DifferencesOf.f k x5 x21).bind fun bt1069 => (if bt1069.2 = true then (if (bt1069.1.length : Int) = (wrap64 ((x5.length : Int) - x21)) then ((laws_zSum.f k bt1069.1).bind fun t1073 => (if 0 ≤ x21 then (if x21 ≤ (x5.length : Int) then ((laws_zSum.f k (x5.drop (x21 : Int).toNat)).bind fun t1079 => (if 0 ≤ (wrap64 ((x5.length : Int) - x21)) then (if (wrap64 ((x5.length : Int) - x21)) ≤ (x5.length : Int) then ((laws_zSum.f k (x5.take ((wrap64 ((x5.length : Int) - x21)) : Int).toNat)).bind fun t1085 => (if t1073 = (wrap64 (t1079 - t1085)) then (laws_FnDotsCostas.l1 k x1 x5 x6 x20 x21 bt1069.1 (wrap64 (-(x5.length : Int)))) else (some false))) else (none)) else (none))) else (none)) else (none))) else (some false)) else (some false))) else (if (x6 != (decide (x20 ≤ 1))) = true then (some false) else (laws_FnDotsCostas.j5 k x1))
def laws_FnDotsCostas.l1 : Nat → List Int → List Int → Bool → Int → Int → List Int → Int → Option (Bool)
 | 0, _, _, _, _, _, _, _ => none
 | k + 1, x1, x5, x6, x20, x21, x22, x24 => if x24 ≤ (x5.length : Int) then ((impl_EchoAt.f k x5 x21 x24).bind fun bt1086 => ((impl_EchoAt.f k x5 (wrap64 (-x21)) (wrap64 (-x24))).bind fun bt1088 => (laws_FnDotsCostas.l2 k x1 x5 x6 x20 x21 x22 x24 bt1086.1 bt1086.2 bt1088.1 bt1088.2 0 x22 (x22.length : Int) 0))) else (laws_FnDotsCostas.l0 k x1 x5 x6 x20 (wrap64 (x21 + 1)))
def laws_FnDotsCostas.l2 : Nat → List Int → List Int → Bool → Int → Int → List Int → Int → Int → Bool → Int → Bool → Int → List Int → Int → Int → Option (Bool)
 | 0, _, _, _, _, _, _, _, _, _, _, _, _, _, _, _ => none
 | k + 1, x1, x5, x6, x20, x21, x22, x24, x25, x26, x27, x28, x29, x248, x249, x250 => if x250 < x249 then (if 0 ≤ x250 then (if x250 < (x248.length : Int) then (if (rd x248 x250) = x24 then (laws_FnDotsCostas.l2 k x1 x5 x6 x20 x21 x22 x24 x25 x26 x27 x28 (wrap64 (x29 + 1)) x248 x249 (wrap64 (x250 + 1))) else (laws_FnDotsCostas.l2 k x1 x5 x6 x20 x21 x22 x24 x25 x26 x27 x28 x29 x248 x249 (wrap64 (x250 + 1)))) else (none)) else (none)) else (if x26 = true then (if x25 = x29 then (if x28 = true then (if x27 = x25 then (if x25 > x20 then (laws_FnDotsCostas.l1 k x1 x5 x6 x25 x21 x22 (wrap64 (x24 + 1))) else (laws_FnDotsCostas.l1 k x1 x5 x6 x20 x21 x22 (wrap64 (x24 + 1)))) else (some false)) else (some false)) else (some false)) else (some false))
end
def laws_FnDotsCostas.f (k : Nat) (l0 : List Int) (l1 : List Int) : Option (Bool) := (laws_big.f l0 l1).bind fun t1044 => (if t1044 = true then (some true) else ((spec_DrawIsCostas.f k l0).bind fun t1045 => ((impl_IsCostas.f k t1045).bind fun bt1048 => ((spec_IsCostas.f k t1045).bind fun bt1050 => ((impl_FirstRepeat.f k t1045).bind fun bt1052 => ((spec_FirstRepeat.f k t1045).bind fun bt1056 => (if (bt1048.2 != bt1050.2) = true then (laws_FnDotsCostas.j0 k l1 t1045 bt1048.1 bt1048.2 bt1052.1 bt1052.2.1 bt1052.2.2.1 bt1052.2.2.2 true) else (if (bt1048.1 != bt1050.1) = true then (laws_FnDotsCostas.j0 k l1 t1045 bt1048.1 bt1048.2 bt1052.1 bt1052.2.1 bt1052.2.2.1 bt1052.2.2.2 true) else (if (bt1052.2.2.2 != bt1056.2.2.2) = true then (laws_FnDotsCostas.j0 k l1 t1045 bt1048.1 bt1048.2 bt1052.1 bt1052.2.1 bt1052.2.2.1 bt1052.2.2.2 true) else (if bt1052.1 = bt1056.1 then (if bt1052.2.1 = bt1056.2.1 then (if bt1052.2.2.1 = bt1056.2.2.1 then ((impl_IsDots.f k t1045).bind fun t1060 => (if (bt1048.2 != t1060) = true then (laws_FnDotsCostas.j0 k l1 t1045 bt1048.1 bt1048.2 bt1052.1 bt1052.2.1 bt1052.2.2.1 bt1052.2.2.2 true) else ((impl_IsDots.f k t1045).bind fun t1061 => ((spec_IsDots.f k t1045).bind fun t1062 => (if (t1061 != t1062) = true then (laws_FnDotsCostas.j0 k l1 t1045 bt1048.1 bt1048.2 bt1052.1 bt1052.2.1 bt1052.2.2.1 bt1052.2.2.2 true) else (if bt1048.2 = true then (laws_FnDotsCostas.j0 k l1 t1045 bt1048.1 bt1048.2 bt1052.1 bt1052.2.1 bt1052.2.2.1 bt1052.2.2.2 (bt1052.2.2.2 != (!bt1048.1))) else (laws_FnDotsCostas.j0 k l1 t1045 bt1048.1 bt1048.2 bt1052.1 bt1052.2.1 bt1052.2.2.1 bt1052.2.2.2 (bt1052.2.2.2 != false)))))))) else (laws_FnDotsCostas.j0 k l1 t1045 bt1048.1 bt1048.2 bt1052.1 bt1052.2.1 bt1052.2.2.1 bt1052.2.2.2 true)) else (laws_FnDotsCostas.j0 k l1 t1045 bt1048.1 bt1048.2 bt1052.1 bt1052.2.1 bt1052.2.2.1 bt1052.2.2.2 true)) else (laws_FnDotsCostas.j0 k l1 t1045 bt1048.1 bt1048.2 bt1052.1 bt1052.2.1 bt1052.2.2.1 bt1052.2.2.2 true)))))))))))
theorem laws_FnDotsCostas.mono_l : ∀ k, (∀ y0 y1 y2 y3 y4 y5 y6 y7 y8, LeO (laws_FnDotsCostas.j0 k y0 y1 y2 y3 y4 y5 y6 y7 y8) (laws_FnDotsCostas.j0 (k + 1) y0 y1 y2 y3 y4 y5 y6 y7 y8)) ∧ (∀ y0 y1 y2 y3, LeO (laws_FnDotsCostas.j1 k y0 y1 y2 y3) (laws_FnDotsCostas.j1 (k + 1) y0 y1 y2 y3)) ∧ (∀ y0, LeO (laws_FnDotsCostas.j5 k y0) (laws_FnDotsCostas.j5 (k + 1) y0)) ∧ (∀ y0, LeO (laws_FnDotsCostas.j7 k y0) (laws_FnDotsCostas.j7 (k + 1) y0)) ∧ (∀ y0 y1 y2 y3 y4 y5 y6, LeO (laws_FnDotsCostas.l3 k y0 y1 y2 y3 y4 y5 y6) (laws_FnDotsCostas.l3 (k + 1) y0 y1 y2 y3 y4 y5 y6)) ∧ (∀ y0 y1 y2 y3 y4, LeO (laws_FnDotsCostas.l0 k y0 y1 y2 y3 y4) (laws_FnDotsCostas.l0 (k + 1) y0 y1 y2 y3 y4)) ∧ (∀ y0 y1 y2 y3 y4 y5 y6, LeO (laws_FnDotsCostas.l1 k y0 y1 y2 y3 y4 y5 y6) (laws_FnDotsCostas.l1 (k + 1) y0 y1 y2 y3 y4 y5 y6)) ∧ (∀ y0 y1 y2 y3 y4 y5 y6 y7 y8 y9 y10 y11 y12 y13 y14, LeO (laws_FnDotsCostas.l2 k y0 y1 y2 y3 y4 y5 y6 y7 y8 y9 y10 y11 y12 y13 y14) (laws_FnDotsCostas.l2 (k + 1) y0 y1 y2 y3 y4 y5 y6 y7 y8 y9 y10 y11 y12 y13 y14))
 | 0 => ⟨fun _ _ _ _ _ _ _ _ _ r h => by simp [laws_FnDotsCostas.j0] at h, fun _ _ _ _ r h => by simp [laws_FnDotsCostas.j1] at h, fun _ r h => by simp [laws_FnDotsCostas.j5] at h, fun _ r h => by simp [laws_FnDotsCostas.j7] at h, fun _ _ _ _ _ _ _ r h => by simp [laws_FnDotsCostas.l3] at h, fun _ _ _ _ _ r h => by simp [laws_FnDotsCostas.l0] at h, fun _ _ _ _ _ _ _ r h => by simp [laws_FnDotsCostas.l1] at h, fun _ _ _ _ _ _ _ _ _ _ _ _ _ _ _ r h => by simp [laws_FnDotsCostas.l2] at h⟩
 | k + 1 => by
  obtain ⟨ih0, ih1, ih2, ih3, ih4, ih5, ih6, ih7⟩ := laws_FnDotsCostas.mono_l k
  refine ⟨?_, ?_, ?_, ?_, ?_, ?_, ?_, ?_⟩
  ·intro y0 y1 y2 y3 y4 y5 y6 y7 y8
   unfold laws_FnDotsCostas.j0
   repeat' (first | (with_reducible first | exact ih1 _ _ _ _ | exact impl_DifferencesOf.mono _ _ _ | exact LeO.refl _ | exact LeO.none _ | refine LeO.ite ?_ ?_ | refine LeO.bind ?_ (fun _ => ?_)) | exact ih1 _ _ _ _ | exact impl_DifferencesOf.mono _ _ _ | exact LeO.none _ | refine LeO.ite ?_ ?_ | refine LeO.bind ?_ (fun _ => ?_))
  ·intro y0 y1 y2 y3
   unfold laws_FnDotsCostas.j1
   repeat' (first | (with_reducible first | exact ih2 _ | exact ih5 _ _ _ _ _ | exact LeO.refl _ | exact LeO.none _ | refine LeO.ite ?_ ?_ | refine LeO.bind ?_ (fun _ => ?_)) | exact ih2 _ | exact ih5 _ _ _ _ _ | exact LeO.none _ | refine LeO.ite ?_ ?_ | refine LeO.bind ?_ (fun _ => ?_))
  ·intro y0
   unfold laws_FnDotsCostas.j5
   repeat' (first | (with_reducible first | exact ih3 _ | exact ih4 _ _ _ _ _ _ _ | exact impl_AllCostas.mono _ _ | exact impl_CountClasses.mono _ _ | exact impl_CountCostas.mono _ _ | exact impl_FirstCostas.mono _ _ | exact laws_zRows.mono _ _ _ | exact laws_zSame.mono _ _ _ | exact spec_AllCostas.mono _ _ | exact spec_CountClasses.mono _ _ | exact spec_CountCostas.mono _ _ | exact LeO.refl _ | exact LeO.none _ | refine LeO.ite ?_ ?_ | refine LeO.bind ?_ (fun _ => ?_)) | exact ih3 _ | exact ih4 _ _ _ _ _ _ _ | exact impl_AllCostas.mono _ _ | exact impl_CountClasses.mono _ _ | exact impl_CountCostas.mono _ _ | exact impl_FirstCostas.mono _ _ | exact laws_zRows.mono _ _ _ | exact laws_zSame.mono _ _ _ | exact spec_AllCostas.mono _ _ | exact spec_CountClasses.mono _ _ | exact spec_CountCostas.mono _ _ | exact LeO.none _ | refine LeO.ite ?_ ?_ | refine LeO.bind ?_ (fun _ => ?_))
  ·intro y0
   unfold laws_FnDotsCostas.j7
   repeat' (first | (with_reducible first | exact impl_DifferencesOf.mono _ _ _ | exact impl_EchoAt.mono _ _ _ _ | exact impl_FirstCostas.mono _ _ | exact laws_zSame.mono _ _ _ | exact spec_DifferencesOf.mono _ _ _ | exact spec_DrawDifferencesOf.mono _ _ | exact spec_DrawEchoAt.mono _ _ | exact spec_EchoAt.mono _ _ _ _ | exact spec_FirstCostas.mono _ _ | exact LeO.refl _ | exact LeO.none _ | refine LeO.ite ?_ ?_ | refine LeO.bind ?_ (fun _ => ?_)) | exact impl_DifferencesOf.mono _ _ _ | exact impl_EchoAt.mono _ _ _ _ | exact impl_FirstCostas.mono _ _ | exact laws_zSame.mono _ _ _ | exact spec_DifferencesOf.mono _ _ _ | exact spec_DrawDifferencesOf.mono _ _ | exact spec_DrawEchoAt.mono _ _ | exact spec_EchoAt.mono _ _ _ _ | exact spec_FirstCostas.mono _ _ | exact LeO.none _ | refine LeO.ite ?_ ?_ | refine LeO.bind ?_ (fun _ => ?_))
  ·intro y0 y1 y2 y3 y4 y5 y6
   unfold laws_FnDotsCostas.l3
   repeat' (first | (with_reducible first | exact ih3 _ | exact ih4 _ _ _ _ _ _ _ | exact impl_IsCostas.mono _ _ | exact impl_LeastDots.mono _ _ | exact laws_zLess.mono _ _ _ | exact laws_zSame.mono _ _ _ | exact LeO.refl _ | exact LeO.none _ | refine LeO.ite ?_ ?_ | refine LeO.bind ?_ (fun _ => ?_)) | exact ih3 _ | exact ih4 _ _ _ _ _ _ _ | exact impl_IsCostas.mono _ _ | exact impl_LeastDots.mono _ _ | exact laws_zLess.mono _ _ _ | exact laws_zSame.mono _ _ _ | exact LeO.none _ | refine LeO.ite ?_ ?_ | refine LeO.bind ?_ (fun _ => ?_))
  ·intro y0 y1 y2 y3 y4
   unfold laws_FnDotsCostas.l0
   repeat' (first | (with_reducible first | exact ih2 _ | exact ih6 _ _ _ _ _ _ _ | exact impl_DifferencesOf.mono _ _ _ | exact laws_zSum.mono _ _ | exact LeO.refl _ | exact LeO.none _ | refine LeO.ite ?_ ?_ | refine LeO.bind ?_ (fun _ => ?_)) | exact ih2 _ | exact ih6 _ _ _ _ _ _ _ | exact impl_DifferencesOf.mono _ _ _ | exact laws_zSum.mono _ _ | exact LeO.none _ | refine LeO.ite ?_ ?_ | refine LeO.bind ?_ (fun _ => ?_))
  ·intro y0 y1 y2 y3 y4 y5 y6
   unfold laws_FnDotsCostas.l1
   repeat' (first | (with_reducible first | exact ih5 _ _ _ _ _ | exact ih7 _ _ _ _ _ _ _ _ _ _ _ _ _ _ _ | exact impl_EchoAt.mono _ _ _ _ | exact LeO.refl _ | exact LeO.none _ | refine LeO.ite ?_ ?_ | refine LeO.bind ?_ (fun _ => ?_)) | exact ih5 _ _ _ _ _ | exact ih7 _ _ _ _ _ _ _ _ _ _ _ _ _ _ _ | exact impl_EchoAt.mono _ _ _ _ | exact LeO.none _ | refine LeO.ite ?_ ?_ | refine LeO.bind ?_ (fun _ => ?_))
  ·intro y0 y1 y2 y3 y4 y5 y6 y7 y8 y9 y10 y11 y12 y13 y14
   unfold laws_FnDotsCostas.l2
   repeat' (first | (with_reducible first | exact ih6 _ _ _ _ _ _ _ | exact ih7 _ _ _ _ _ _ _ _ _ _ _ _ _ _ _ | exact LeO.refl _ | exact LeO.none _ | refine LeO.ite ?_ ?_ | refine LeO.bind ?_ (fun _ => ?_)) | exact ih6 _ _ _ _ _ _ _ | exact ih7 _ _ _ _ _ _ _ _ _ _ _ _ _ _ _ | exact LeO.none _ | refine LeO.ite ?_ ?_ | refine LeO.bind ?_ (fun _ => ?_))
theorem laws_FnDotsCostas.mono : ∀ a0 a1 k, LeO (laws_FnDotsCostas.f k a0 a1) (laws_FnDotsCostas.f (k + 1) a0 a1) := by
 intro a0 a1 k
 obtain ⟨ih0, ih1, ih2, ih3, ih4, ih5, ih6, ih7⟩ := laws_FnDotsCostas.mono_l k
 unfold laws_FnDotsCostas.f
 repeat' (first | (with_reducible first | exact ih0 _ _ _ _ _ _ _ _ _ | exact impl_FirstRepeat.mono _ _ | exact impl_IsCostas.mono _ _ | exact impl_IsDots.mono _ _ | exact spec_DrawIsCostas.mono _ _ | exact spec_FirstRepeat.mono _ _ | exact spec_IsCostas.mono _ _ | exact spec_IsDots.mono _ _ | exact LeO.refl _ | exact LeO.none _ | refine LeO.ite ?_ ?_ | refine LeO.bind ?_ (fun _ => ?_)) | exact ih0 _ _ _ _ _ _ _ _ _ | exact impl_FirstRepeat.mono _ _ | exact impl_IsCostas.mono _ _ | exact impl_IsDots.mono _ _ | exact spec_DrawIsCostas.mono _ _ | exact spec_FirstRepeat.mono _ _ | exact spec_IsCostas.mono _ _ | exact spec_IsDots.mono _ _ | exact LeO.none _ | refine LeO.ite ?_ ?_ | refine LeO.bind ?_ (fun _ => ?_))
theorem laws_FnDotsCostas.j0_no : ∀ k y0 y1 y2 y3 y4 y5 y6 y7, laws_FnDotsCostas.j0 k y0 y1 y2 y3 y4 y5 y6 y7 true ≠ some true := by
 intro k
 cases k <;> intros <;> simp [laws_FnDotsCostas.j0]
/-- The statement of laws_FnDotsCostas over numbers and lists. -/
def laws_FnDotsCostas.Pure : Prop := ∀ (l0 : List Int) (l1 : List Int), l0.length ≤ maxLen → l0.length * 1 ≤ 140737488351232 → (∀ x ∈ l0, (Lit.int .u8 x).wf = true) → l1.length ≤ maxLen → l1.length * 1 ≤ 140737488351232 → (∀ x ∈ l1, (Lit.int .u8 x).wf = true) → ∃ k, laws_FnDotsCostas.f k l0 l1 = some true
noncomputable def laws_FnDotsCostas.J0 (x1 : List Int) (x5 : List Int) (x6 : Bool) (x7 : Bool) (x10 : Int) (x11 : Int) (x12 : Int) (x13 : Bool) (x150 : Bool) : Option (Bool) := lim fun k => laws_FnDotsCostas.j0 k x1 x5 x6 x7 x10 x11 x12 x13 x150
theorem laws_FnDotsCostas.J0_lim (x1 : List Int) (x5 : List Int) (x6 : Bool) (x7 : Bool) (x10 : Int) (x11 : Int) (x12 : Int) (x13 : Bool) (x150 : Bool) : Lim (fun k => laws_FnDotsCostas.j0 k x1 x5 x6 x7 x10 x11 x12 x13 x150) (laws_FnDotsCostas.J0 x1 x5 x6 x7 x10 x11 x12 x13 x150) := Lim.of fun k => (laws_FnDotsCostas.mono_l k).1 x1 x5 x6 x7 x10 x11 x12 x13 x150
noncomputable def laws_FnDotsCostas.J1 (x1 : List Int) (x5 : List Int) (x6 : Bool) (x7 : Bool) : Option (Bool) := lim fun k => laws_FnDotsCostas.j1 k x1 x5 x6 x7
theorem laws_FnDotsCostas.J1_lim (x1 : List Int) (x5 : List Int) (x6 : Bool) (x7 : Bool) : Lim (fun k => laws_FnDotsCostas.j1 k x1 x5 x6 x7) (laws_FnDotsCostas.J1 x1 x5 x6 x7) := Lim.of fun k => (laws_FnDotsCostas.mono_l k).2.1 x1 x5 x6 x7
noncomputable def laws_FnDotsCostas.J5 (x1 : List Int) : Option (Bool) := lim fun k => laws_FnDotsCostas.j5 k x1
theorem laws_FnDotsCostas.J5_lim (x1 : List Int) : Lim (fun k => laws_FnDotsCostas.j5 k x1) (laws_FnDotsCostas.J5 x1) := Lim.of fun k => (laws_FnDotsCostas.mono_l k).2.2.1 x1
noncomputable def laws_FnDotsCostas.J7 (x1 : List Int) : Option (Bool) := lim fun k => laws_FnDotsCostas.j7 k x1
theorem laws_FnDotsCostas.J7_lim (x1 : List Int) : Lim (fun k => laws_FnDotsCostas.j7 k x1) (laws_FnDotsCostas.J7 x1) := Lim.of fun k => (laws_FnDotsCostas.mono_l k).2.2.2.1 x1
noncomputable def laws_FnDotsCostas.L3 (x1 : List Int) (x33 : List (List Int)) (x41 : Int) (x47 : Int) (x388 : List (List Int)) (x389 : Int) (x390 : Int) : Option (Bool) := lim fun k => laws_FnDotsCostas.l3 k x1 x33 x41 x47 x388 x389 x390
theorem laws_FnDotsCostas.L3_lim (x1 : List Int) (x33 : List (List Int)) (x41 : Int) (x47 : Int) (x388 : List (List Int)) (x389 : Int) (x390 : Int) : Lim (fun k => laws_FnDotsCostas.l3 k x1 x33 x41 x47 x388 x389 x390) (laws_FnDotsCostas.L3 x1 x33 x41 x47 x388 x389 x390) := Lim.of fun k => (laws_FnDotsCostas.mono_l k).2.2.2.2.1 x1 x33 x41 x47 x388 x389 x390
noncomputable def laws_FnDotsCostas.L0 (x1 : List Int) (x5 : List Int) (x6 : Bool) (x20 : Int) (x21 : Int) : Option (Bool) := lim fun k => laws_FnDotsCostas.l0 k x1 x5 x6 x20 x21
theorem laws_FnDotsCostas.L0_lim (x1 : List Int) (x5 : List Int) (x6 : Bool) (x20 : Int) (x21 : Int) : Lim (fun k => laws_FnDotsCostas.l0 k x1 x5 x6 x20 x21) (laws_FnDotsCostas.L0 x1 x5 x6 x20 x21) := Lim.of fun k => (laws_FnDotsCostas.mono_l k).2.2.2.2.2.1 x1 x5 x6 x20 x21
noncomputable def laws_FnDotsCostas.L1 (x1 : List Int) (x5 : List Int) (x6 : Bool) (x20 : Int) (x21 : Int) (x22 : List Int) (x24 : Int) : Option (Bool) := lim fun k => laws_FnDotsCostas.l1 k x1 x5 x6 x20 x21 x22 x24
theorem laws_FnDotsCostas.L1_lim (x1 : List Int) (x5 : List Int) (x6 : Bool) (x20 : Int) (x21 : Int) (x22 : List Int) (x24 : Int) : Lim (fun k => laws_FnDotsCostas.l1 k x1 x5 x6 x20 x21 x22 x24) (laws_FnDotsCostas.L1 x1 x5 x6 x20 x21 x22 x24) := Lim.of fun k => (laws_FnDotsCostas.mono_l k).2.2.2.2.2.2.1 x1 x5 x6 x20 x21 x22 x24
noncomputable def laws_FnDotsCostas.L2 (x1 : List Int) (x5 : List Int) (x6 : Bool) (x20 : Int) (x21 : Int) (x22 : List Int) (x24 : Int) (x25 : Int) (x26 : Bool) (x27 : Int) (x28 : Bool) (x29 : Int) (x248 : List Int) (x249 : Int) (x250 : Int) : Option (Bool) := lim fun k => laws_FnDotsCostas.l2 k x1 x5 x6 x20 x21 x22 x24 x25 x26 x27 x28 x29 x248 x249 x250
theorem laws_FnDotsCostas.L2_lim (x1 : List Int) (x5 : List Int) (x6 : Bool) (x20 : Int) (x21 : Int) (x22 : List Int) (x24 : Int) (x25 : Int) (x26 : Bool) (x27 : Int) (x28 : Bool) (x29 : Int) (x248 : List Int) (x249 : Int) (x250 : Int) : Lim (fun k => laws_FnDotsCostas.l2 k x1 x5 x6 x20 x21 x22 x24 x25 x26 x27 x28 x29 x248 x249 x250) (laws_FnDotsCostas.L2 x1 x5 x6 x20 x21 x22 x24 x25 x26 x27 x28 x29 x248 x249 x250) := Lim.of fun k => (laws_FnDotsCostas.mono_l k).2.2.2.2.2.2.2 x1 x5 x6 x20 x21 x22 x24 x25 x26 x27 x28 x29 x248 x249 x250
noncomputable def laws_FnDotsCostas.F (l0 : List Int) (l1 : List Int) : Option (Bool) := lim fun k => laws_FnDotsCostas.f k l0 l1
theorem laws_FnDotsCostas.F_lim (l0 : List Int) (l1 : List Int) : Lim (fun k => laws_FnDotsCostas.f k l0 l1) (laws_FnDotsCostas.F l0 l1) := Lim.of fun k => laws_FnDotsCostas.mono l0 l1 k
theorem laws_FnDotsCostas.J0_eq (x1 : List Int) (x5 : List Int) (x6 : Bool) (x7 : Bool) (x10 : Int) (x11 : Int) (x12 : Int) (x13 : Bool) (x150 : Bool) : laws_FnDotsCostas.J0 x1 x5 x6 x7 x10 x11 x12 x13 x150 = (if x150 = true then (some false) else (if x13 = true then ((impl_DifferencesOf.F x5 x10).bind fun bt1063 => (if bt1063.2 = true then (if x11 ≥ x12 then (some false) else (if x12 ≥ (bt1063.1.length : Int) then (some false) else (if 0 ≤ x11 then (if x11 < (bt1063.1.length : Int) then (if 0 ≤ x12 then (if x12 < (bt1063.1.length : Int) then (if (rd bt1063.1 x11) = (rd bt1063.1 x12) then (laws_FnDotsCostas.J1 x1 x5 x6 x7) else (some false)) else (none)) else (none)) else (none)) else (none)))) else (some false))) else (laws_FnDotsCostas.J1 x1 x5 x6 x7))) :=
 Lim.step (f := fun k => laws_FnDotsCostas.j0 (k + 1) x1 x5 x6 x7 x10 x11 x12 x13 x150) (laws_FnDotsCostas.J0_lim x1 x5 x6 x7 x10 x11 x12 x13 x150) (fun _ => rfl) (by
  simp only [laws_FnDotsCostas.j0]
  repeat' (first | (with_reducible first | exact Lim.const _ | exact impl_DifferencesOf.F_lim _ _ | exact laws_FnDotsCostas.J1_lim _ _ _ _ | refine Lim.ite ?_ ?_ | refine Lim.bind ?_ (fun _ => ?_))))
theorem laws_FnDotsCostas.J1_eq (x1 : List Int) (x5 : List Int) (x6 : Bool) (x7 : Bool) : laws_FnDotsCostas.J1 x1 x5 x6 x7 = (if x7 = true then (laws_FnDotsCostas.L0 x1 x5 x6 0 1) else (laws_FnDotsCostas.J5 x1)) :=
 Lim.step (f := fun k => laws_FnDotsCostas.j1 (k + 1) x1 x5 x6 x7) (laws_FnDotsCostas.J1_lim x1 x5 x6 x7) (fun _ => rfl) (by
  simp only [laws_FnDotsCostas.j1]
  repeat' (first | (with_reducible first | exact Lim.const _ | exact laws_FnDotsCostas.J5_lim _ | exact laws_FnDotsCostas.L0_lim _ _ _ _ _ | refine Lim.ite ?_ ?_ | refine Lim.bind ?_ (fun _ => ?_))))
theorem laws_FnDotsCostas.J5_eq (x1 : List Int) : laws_FnDotsCostas.J5 x1 = ((spec_DrawAllCostas.f x1).bind fun t1091 => ((impl_AllCostas.F t1091).bind fun bt1092 => ((spec_AllCostas.F t1091).bind fun bt1096 => ((impl_CountCostas.F t1091).bind fun bt1100 => ((spec_CountCostas.F t1091).bind fun bt1102 => ((impl_CountClasses.F t1091).bind fun bt1104 => ((spec_CountClasses.F t1091).bind fun bt1106 => (if (bt1092.2 != bt1096.2) = true then (some false) else ((laws_zRows.F bt1092.1 bt1096.1).bind fun t1108 => (if t1108 = true then (if (bt1100.2 != bt1102.2) = true then (some false) else (if bt1100.1 = bt1102.1 then (if (bt1104.2 != bt1106.2) = true then (some false) else (if bt1104.1 = bt1106.1 then (if (bt1100.2 != bt1092.2) = true then (some false) else (if (bt1104.2 != bt1092.2) = true then (some false) else (if bt1092.2 = true then ((impl_FirstCostas.F t1091).bind fun bt1109 => (if (bt1092.1.length : Int) = bt1100.1 then (if bt1109.2 = true then (if 0 < (bt1092.1.length : Int) then ((laws_zSame.F bt1109.1 (rd_L2 bt1092.1 0)).bind fun t1114 => (if t1114 = true then (if bt1104.1 > bt1100.1 then (some false) else (if (wrap64 (8 * bt1104.1)) < bt1100.1 then (some false) else (laws_FnDotsCostas.L3 x1 bt1092.1 bt1104.1 0 bt1092.1 (bt1092.1.length : Int) 0))) else (some false))) else (none)) else (some false)) else (some false))) else (laws_FnDotsCostas.J7 x1)))) else (some false))) else (some false))) else (some false))))))))))) :=
 Lim.step (f := fun k => laws_FnDotsCostas.j5 (k + 1) x1) (laws_FnDotsCostas.J5_lim x1) (fun _ => rfl) (by
  simp only [laws_FnDotsCostas.j5]
  repeat' (first | (with_reducible first | exact Lim.const _ | exact impl_AllCostas.F_lim | exact impl_CountClasses.F_lim _ | exact impl_CountCostas.F_lim _ | exact impl_FirstCostas.F_lim | exact laws_FnDotsCostas.J7_lim _ | exact laws_FnDotsCostas.L3_lim _ _ _ _ _ _ _ | exact laws_zRows.F_lim _ _ | exact laws_zSame.F_lim _ _ | exact spec_AllCostas.F_lim _ | exact spec_CountClasses.F_lim _ | exact spec_CountCostas.F_lim _ | refine Lim.ite ?_ ?_ | refine Lim.bind ?_ (fun _ => ?_))))
theorem laws_FnDotsCostas.J7_eq (x1 : List Int) : laws_FnDotsCostas.J7 x1 = ((spec_DrawFirstCostas.f x1).bind fun t1126 => ((impl_FirstCostas.F t1126).bind fun bt1127 => ((spec_FirstCostas.F t1126).bind fun bt1131 => ((spec_DrawEchoAt.F x1).bind fun bt1135 => ((impl_EchoAt.F bt1135.1 bt1135.2.1 bt1135.2.2).bind fun bt1140 => ((spec_EchoAt.F bt1135.1 bt1135.2.1 bt1135.2.2).bind fun bt1142 => ((spec_DrawDifferencesOf.F x1).bind fun bt1144 => ((impl_DifferencesOf.F bt1144.1 bt1144.2).bind fun bt1148 => ((spec_DifferencesOf.F bt1144.1 bt1144.2).bind fun bt1152 => (if (bt1127.2 == bt1131.2) = true then ((laws_zSame.F bt1127.1 bt1131.1).bind fun t1156 => (if t1156 = true then (if (bt1140.2 == bt1142.2) = true then (if bt1140.1 = bt1142.1 then (if (bt1148.2 == bt1152.2) = true then ((laws_zSame.F bt1148.1 bt1152.1).bind fun t1157 => (some t1157)) else (some false)) else (some false)) else (some false)) else (some false))) else (some false))))))))))) :=
 Lim.step (f := fun k => laws_FnDotsCostas.j7 (k + 1) x1) (laws_FnDotsCostas.J7_lim x1) (fun _ => rfl) (by
  simp only [laws_FnDotsCostas.j7]
  repeat' (first | (with_reducible first | exact Lim.const _ | exact impl_DifferencesOf.F_lim _ _ | exact impl_EchoAt.F_lim _ _ _ | exact impl_FirstCostas.F_lim | exact laws_zSame.F_lim _ _ | exact spec_DifferencesOf.F_lim _ _ | exact spec_DrawDifferencesOf.F_lim _ | exact spec_DrawEchoAt.F_lim _ | exact spec_EchoAt.F_lim _ _ _ | exact spec_FirstCostas.F_lim _ | refine Lim.ite ?_ ?_ | refine Lim.bind ?_ (fun _ => ?_))))
theorem laws_FnDotsCostas.L3_eq (x1 : List Int) (x33 : List (List Int)) (x41 : Int) (x47 : Int) (x388 : List (List Int)) (x389 : Int) (x390 : Int) : laws_FnDotsCostas.L3 x1 x33 x41 x47 x388 x389 x390 = (if x390 < x389 then (if 0 ≤ x390 then (if x390 < (x388.length : Int) then ((impl_IsCostas.F (rd_L2 x388 x390)).bind fun bt1116 => ((impl_LeastDots.F (rd_L2 x388 x390)).bind fun bt1118 => (if bt1116.2 = true then (if bt1116.1 = true then (if bt1118.2 = true then (if x390 > 0 then (if 0 ≤ (wrap64 (x390 - 1)) then (if (wrap64 (x390 - 1)) < (x33.length : Int) then ((laws_zLess.F (rd_L2 x33 (wrap64 (x390 - 1))) (rd_L2 x388 x390)).bind fun t1123 => (if t1123 = true then ((laws_zSame.F bt1118.1 (rd_L2 x388 x390)).bind fun t1124 => (if t1124 = true then (laws_FnDotsCostas.L3 x1 x33 x41 (wrap64 (x47 + 1)) x388 x389 (wrap64 (x390 + 1))) else (laws_FnDotsCostas.L3 x1 x33 x41 x47 x388 x389 (wrap64 (x390 + 1))))) else (some false))) else (none)) else (none)) else ((laws_zSame.F bt1118.1 (rd_L2 x388 x390)).bind fun t1125 => (if t1125 = true then (laws_FnDotsCostas.L3 x1 x33 x41 (wrap64 (x47 + 1)) x388 x389 (wrap64 (x390 + 1))) else (laws_FnDotsCostas.L3 x1 x33 x41 x47 x388 x389 (wrap64 (x390 + 1)))))) else (some false)) else (some false)) else (some false)))) else (none)) else (none)) else (if x47 = x41 then (laws_FnDotsCostas.J7 x1) else (some false))) :=
 Lim.step (f := fun k => laws_FnDotsCostas.l3 (k + 1) x1 x33 x41 x47 x388 x389 x390) (laws_FnDotsCostas.L3_lim x1 x33 x41 x47 x388 x389 x390) (fun _ => rfl) (by
  simp only [laws_FnDotsCostas.l3]
  repeat' (first | (with_reducible first | exact Lim.const _ | exact impl_IsCostas.F_lim _ | exact impl_LeastDots.F_lim _ | exact laws_FnDotsCostas.J7_lim _ | exact laws_FnDotsCostas.L3_lim _ _ _ _ _ _ _ | exact laws_zLess.F_lim _ _ | exact laws_zSame.F_lim _ _ | refine Lim.ite ?_ ?_ | refine Lim.bind ?_ (fun _ => ?_))))
theorem laws_FnDotsCostas.L0_eq (x1 : List Int) (x5 : List Int) (x6 : Bool) (x20 : Int) (x21 : Int) : laws_FnDotsCostas.L0 x1 x5 x6 x20 x21 = (if x21 < (x5.length : Int) then ((impl_DifferencesOf.F x5 x21).bind fun bt1069 => (if bt1069.2 = true then (if (bt1069.1.length : Int) = (wrap64 ((x5.length : Int) - x21)) then ((laws_zSum.F bt1069.1).bind fun t1073 => (if 0 ≤ x21 then (if x21 ≤ (x5.length : Int) then ((laws_zSum.F (x5.drop (x21 : Int).toNat)).bind fun t1079 => (if 0 ≤ (wrap64 ((x5.length : Int) - x21)) then (if (wrap64 ((x5.length : Int) - x21)) ≤ (x5.length : Int) then ((laws_zSum.F (x5.take ((wrap64 ((x5.length : Int) - x21)) : Int).toNat)).bind fun t1085 => (if t1073 = (wrap64 (t1079 - t1085)) then (laws_FnDotsCostas.L1 x1 x5 x6 x20 x21 bt1069.1 (wrap64 (-(x5.length : Int)))) else (some false))) else (none)) else (none))) else (none)) else (none))) else (some false)) else (some false))) else (if (x6 != (decide (x20 ≤ 1))) = true then (some false) else (laws_FnDotsCostas.J5 x1))) :=
 Lim.step (f := fun k => laws_FnDotsCostas.l0 (k + 1) x1 x5 x6 x20 x21) (laws_FnDotsCostas.L0_lim x1 x5 x6 x20 x21) (fun _ => rfl) (by
  simp only [laws_FnDotsCostas.l0]
  repeat' (first | (with_reducible first | exact Lim.const _ | exact impl_DifferencesOf.F_lim _ _ | exact laws_FnDotsCostas.J5_lim _ | exact laws_FnDotsCostas.L1_lim _ _ _ _ _ _ _ | exact laws_zSum.F_lim _ | refine Lim.ite ?_ ?_ | refine Lim.bind ?_ (fun _ => ?_))))
theorem laws_FnDotsCostas.L1_eq (x1 : List Int) (x5 : List Int) (x6 : Bool) (x20 : Int) (x21 : Int) (x22 : List Int) (x24 : Int) : laws_FnDotsCostas.L1 x1 x5 x6 x20 x21 x22 x24 = (if x24 ≤ (x5.length : Int) then ((impl_EchoAt.F x5 x21 x24).bind fun bt1086 => ((impl_EchoAt.F x5 (wrap64 (-x21)) (wrap64 (-x24))).bind fun bt1088 => (laws_FnDotsCostas.L2 x1 x5 x6 x20 x21 x22 x24 bt1086.1 bt1086.2 bt1088.1 bt1088.2 0 x22 (x22.length : Int) 0))) else (laws_FnDotsCostas.L0 x1 x5 x6 x20 (wrap64 (x21 + 1)))) :=
 Lim.step (f := fun k => laws_FnDotsCostas.l1 (k + 1) x1 x5 x6 x20 x21 x22 x24) (laws_FnDotsCostas.L1_lim x1 x5 x6 x20 x21 x22 x24) (fun _ => rfl) (by
  simp only [laws_FnDotsCostas.l1]
  repeat' (first | (with_reducible first | exact Lim.const _ | exact impl_EchoAt.F_lim _ _ _ | exact laws_FnDotsCostas.L0_lim _ _ _ _ _ | exact laws_FnDotsCostas.L2_lim _ _ _ _ _ _ _ _ _ _ _ _ _ _ _ | refine Lim.ite ?_ ?_ | refine Lim.bind ?_ (fun _ => ?_))))
theorem laws_FnDotsCostas.L2_eq (x1 : List Int) (x5 : List Int) (x6 : Bool) (x20 : Int) (x21 : Int) (x22 : List Int) (x24 : Int) (x25 : Int) (x26 : Bool) (x27 : Int) (x28 : Bool) (x29 : Int) (x248 : List Int) (x249 : Int) (x250 : Int) : laws_FnDotsCostas.L2 x1 x5 x6 x20 x21 x22 x24 x25 x26 x27 x28 x29 x248 x249 x250 = (if x250 < x249 then (if 0 ≤ x250 then (if x250 < (x248.length : Int) then (if (rd x248 x250) = x24 then (laws_FnDotsCostas.L2 x1 x5 x6 x20 x21 x22 x24 x25 x26 x27 x28 (wrap64 (x29 + 1)) x248 x249 (wrap64 (x250 + 1))) else (laws_FnDotsCostas.L2 x1 x5 x6 x20 x21 x22 x24 x25 x26 x27 x28 x29 x248 x249 (wrap64 (x250 + 1)))) else (none)) else (none)) else (if x26 = true then (if x25 = x29 then (if x28 = true then (if x27 = x25 then (if x25 > x20 then (laws_FnDotsCostas.L1 x1 x5 x6 x25 x21 x22 (wrap64 (x24 + 1))) else (laws_FnDotsCostas.L1 x1 x5 x6 x20 x21 x22 (wrap64 (x24 + 1)))) else (some false)) else (some false)) else (some false)) else (some false))) :=
 Lim.step (f := fun k => laws_FnDotsCostas.l2 (k + 1) x1 x5 x6 x20 x21 x22 x24 x25 x26 x27 x28 x29 x248 x249 x250) (laws_FnDotsCostas.L2_lim x1 x5 x6 x20 x21 x22 x24 x25 x26 x27 x28 x29 x248 x249 x250) (fun _ => rfl) (by
  simp only [laws_FnDotsCostas.l2]
  repeat' (first | (with_reducible first | exact Lim.const _ | exact laws_FnDotsCostas.L1_lim _ _ _ _ _ _ _ | exact laws_FnDotsCostas.L2_lim _ _ _ _ _ _ _ _ _ _ _ _ _ _ _ | refine Lim.ite ?_ ?_ | refine Lim.bind ?_ (fun _ => ?_))))
theorem laws_FnDotsCostas.F_eq (l0 : List Int) (l1 : List Int) : laws_FnDotsCostas.F l0 l1 = ((laws_big.f l0 l1).bind fun t1044 => (if t1044 = true then (some true) else ((spec_DrawIsCostas.F l0).bind fun t1045 => ((impl_IsCostas.F t1045).bind fun bt1048 => ((spec_IsCostas.F t1045).bind fun bt1050 => ((impl_FirstRepeat.F t1045).bind fun bt1052 => ((spec_FirstRepeat.F t1045).bind fun bt1056 => (if (bt1048.2 != bt1050.2) = true then (laws_FnDotsCostas.J0 l1 t1045 bt1048.1 bt1048.2 bt1052.1 bt1052.2.1 bt1052.2.2.1 bt1052.2.2.2 true) else (if (bt1048.1 != bt1050.1) = true then (laws_FnDotsCostas.J0 l1 t1045 bt1048.1 bt1048.2 bt1052.1 bt1052.2.1 bt1052.2.2.1 bt1052.2.2.2 true) else (if (bt1052.2.2.2 != bt1056.2.2.2) = true then (laws_FnDotsCostas.J0 l1 t1045 bt1048.1 bt1048.2 bt1052.1 bt1052.2.1 bt1052.2.2.1 bt1052.2.2.2 true) else (if bt1052.1 = bt1056.1 then (if bt1052.2.1 = bt1056.2.1 then (if bt1052.2.2.1 = bt1056.2.2.1 then ((impl_IsDots.F t1045).bind fun t1060 => (if (bt1048.2 != t1060) = true then (laws_FnDotsCostas.J0 l1 t1045 bt1048.1 bt1048.2 bt1052.1 bt1052.2.1 bt1052.2.2.1 bt1052.2.2.2 true) else ((impl_IsDots.F t1045).bind fun t1061 => ((spec_IsDots.F t1045).bind fun t1062 => (if (t1061 != t1062) = true then (laws_FnDotsCostas.J0 l1 t1045 bt1048.1 bt1048.2 bt1052.1 bt1052.2.1 bt1052.2.2.1 bt1052.2.2.2 true) else (if bt1048.2 = true then (laws_FnDotsCostas.J0 l1 t1045 bt1048.1 bt1048.2 bt1052.1 bt1052.2.1 bt1052.2.2.1 bt1052.2.2.2 (bt1052.2.2.2 != (!bt1048.1))) else (laws_FnDotsCostas.J0 l1 t1045 bt1048.1 bt1048.2 bt1052.1 bt1052.2.1 bt1052.2.2.1 bt1052.2.2.2 (bt1052.2.2.2 != false)))))))) else (laws_FnDotsCostas.J0 l1 t1045 bt1048.1 bt1048.2 bt1052.1 bt1052.2.1 bt1052.2.2.1 bt1052.2.2.2 true)) else (laws_FnDotsCostas.J0 l1 t1045 bt1048.1 bt1048.2 bt1052.1 bt1052.2.1 bt1052.2.2.1 bt1052.2.2.2 true)) else (laws_FnDotsCostas.J0 l1 t1045 bt1048.1 bt1048.2 bt1052.1 bt1052.2.1 bt1052.2.2.1 bt1052.2.2.2 true)))))))))))) :=
 Lim.unique (laws_FnDotsCostas.F_lim l0 l1) (by
  unfold laws_FnDotsCostas.f
  repeat' (first | (with_reducible first | exact Lim.const _ | exact impl_FirstRepeat.F_lim _ | exact impl_IsCostas.F_lim _ | exact impl_IsDots.F_lim _ | exact laws_FnDotsCostas.J0_lim _ _ _ _ _ _ _ _ _ | exact spec_DrawIsCostas.F_lim _ | exact spec_FirstRepeat.F_lim _ | exact spec_IsCostas.F_lim _ | exact spec_IsDots.F_lim _ | refine Lim.ite ?_ ?_ | refine Lim.bind ?_ (fun _ => ?_))))
end Go.Proofs.Ytnhnpplccfojeaa.Fn
