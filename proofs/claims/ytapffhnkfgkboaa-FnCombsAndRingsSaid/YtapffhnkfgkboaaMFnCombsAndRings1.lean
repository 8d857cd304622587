/- The machine's side and plain lemmas for FnCombsAndRings: texts of this session, merged by its program (part 1). -/
import Derived.BigQuiet
import Derived.Laws.Rows
import Derived.Test.YtapffhnkfgkboaaMFnCombsAndRings0
set_option maxHeartbeats 80000000
set_option maxRecDepth 100000
namespace Go.Proofs.Ytapffhnkfgkboaa.Fn
open Go.RowKit Go.Proofs.YtapffhnkfgkboaaW.PrintWords Go.Proofs.YtapffhnkfgkboaaW.PrintLast Go.Proofs.YtapffhnkfgkboaaW.PrintMore
attribute [local go_sem] max2_int min2_int max_two min_two max_three min_three max_four min_four
set_option linter.unusedVariables false
set_option linter.unusedSimpArgs false
mutual
def Zbs.j0 : Nat → List Int → Bool → Option (Bool)
 | 0, _, _ => none
 | k + 1, x0, x14 => if x14 = true then (some false) else (Zbs.l0 k (x0.length : Int) x0 (x0.length : Int) 0)
def Zbs.l0 : Nat → Int → List Int → Int → Int → Option (Bool)
 | 0, _, _, _, _ => none
 | k + 1, x3, x17, x18, x19 => if x19 < x18 then (if 0 ≤ x19 then (if x19 < (x17.length : Int) then (Zbs.l0 k (wrap64 (x3 + (rd x17 x19))) x17 x18 (wrap64 (x19 + 1))) else (none)) else (none)) else (some (decide (x3 ≤ 9)))
end
def Zbs.f (k : Nat) (l0 : List Int) : Option (Bool) := (Zcc.f (l0.length : Int) 1 5).bind fun t143 => (if t143 = true then ((Zba.f k l0 0 5).bind fun t144 => (Zbs.j0 k l0 (!t144))) else (Zbs.j0 k l0 true))
theorem Zbs.mono_l : ∀ k, (∀ y0 y1, LeO (Zbs.j0 k y0 y1) (Zbs.j0 (k + 1) y0 y1)) ∧ (∀ y0 y1 y2 y3, LeO (Zbs.l0 k y0 y1 y2 y3) (Zbs.l0 (k + 1) y0 y1 y2 y3))
 | 0 => ⟨fun _ _ r h => by simp [Zbs.j0] at h, fun _ _ _ _ r h => by simp [Zbs.l0] at h⟩
 | k + 1 => by
  obtain ⟨ih0, ih1⟩ := Zbs.mono_l k
  refine ⟨?_, ?_⟩
  ·intro y0 y1
   unfold Zbs.j0
   repeat' (first | (with_reducible first | exact ih1 _ _ _ _ | exact LeO.refl _ | exact LeO.none _ | refine LeO.ite ?_ ?_ | refine LeO.bind ?_ (fun _ => ?_)) | exact ih1 _ _ _ _ | exact LeO.none _ | refine LeO.ite ?_ ?_ | refine LeO.bind ?_ (fun _ => ?_))
  ·intro y0 y1 y2 y3
   unfold Zbs.l0
   repeat' (first | (with_reducible first | exact ih1 _ _ _ _ | exact LeO.refl _ | exact LeO.none _ | refine LeO.ite ?_ ?_ | refine LeO.bind ?_ (fun _ => ?_)) | exact ih1 _ _ _ _ | exact LeO.none _ | refine LeO.ite ?_ ?_ | refine LeO.bind ?_ (fun _ => ?_))
theorem Zbs.mono : ∀ a0 k, LeO (Zbs.f k a0) (Zbs.f (k + 1) a0) := by
 intro a0 k
 obtain ⟨ih0, ih1⟩ := Zbs.mono_l k
 unfold Zbs.f
 repeat' (first | (with_reducible first | exact ih0 _ _ | exact Zba.mono _ _ _ _ | exact LeO.refl _ | exact LeO.none _ | refine LeO.ite ?_ ?_ | refine LeO.bind ?_ (fun _ => ?_)) | exact ih0 _ _ | exact Zba.mono _ _ _ _ | exact LeO.none _ | refine LeO.ite ?_ ?_ | refine LeO.bind ?_ (fun _ => ?_))
theorem Zbs.calls (k : Nat) (A0 : Option Addr) (c0 : Nat) (l0 : List Int) (r : Bool) (w : World) (hr0 : Kd.C (Kd.int .i64) w A0 l0.length l0) (hc0 : l0.length ≤ c0) (h : Zbs.f k l0 = some r) :
  Calls Try.prog 37 #[.slice A0 l0.length c0] w fun e w' => e = .returned (.bool r) ∧ Drawn0 w w' := by
 have HR0 := Aside0.mk hr0
 have HC0 := Aside0.mk hc0
 clear hr0 hc0
 have H := h
 unfold Zbs.f at H
 clear h
 have HC2 := Aside0.mk H
 clear H
 go_enter Try.func37, Try.ntmps37
 go_upto_region 1 with (fail)
 go_cut [14] (fun v14 wc => ∃ (kq : Nat) (x14_1 : Bool), v14 = .bool x14_1 ∧ Aside0 (Zbs.j0 kq l0 x14_1 = some r) ∧ Aside0 (kq ≤ k) ∧ Drawn0 w wc)
 case first =>
  have H := HC2.out
  clear HC2
  obtain ⟨t143, A3, H⟩ := bs_ H
  (try dsimp only at H)
  by_cases c4 : t143 = true
  rotate_left
  ·replace c4 := Bool.eq_false_iff.mpr c4
   subst c4
   replace H := if_ H
   have H' := Aside0.mk H
   clear H
   go_wp2_with (first | ((with_reducible refine gate_callee (f := 44) rfl ?_); refine goesA (some 8) Try.func44 #[.int .i64 (l0.length : Int), .int .i64 1, .int .i64 5] ?_; (with_reducible refine (Zcc.calls (l0.length : Int) 1 5 false _ A3.out).mono ?_); rintro e w' ⟨rfl, ⟨nd, rfl⟩⟩; refine ⟨_, rfl, ?_⟩))
   go_meet
   case rel => exact ⟨_, (true), eqd, H', ⟨leD⟩, by repeat (first | exact Drawn0.refl _ | apply Drawn0.step)⟩
  subst c4
  replace H := it_ H
  obtain ⟨t144, A5, H⟩ := bs_ H
  (try dsimp only at H)
  have H' := Aside0.mk H
  clear H
  go_wp2_with (first | ((with_reducible refine gate_callee (f := 44) rfl ?_); refine goesA (some 8) Try.func44 #[.int .i64 (l0.length : Int), .int .i64 1, .int .i64 5] ?_; (with_reducible refine (Zcc.calls (l0.length : Int) 1 5 true _ A3.out).mono ?_); rintro e w' ⟨rfl, ⟨nd, rfl⟩⟩; refine ⟨_, rfl, ?_⟩) | (go_at_call 50; (with_reducible refine (Zba.calls k _ _ l0 0 5 t144 _ ?side1 ?side2 A5.out).mono ?_); (case side1 => repeat (first | exact HR0.out | (with_reducible refine Kd.C_alloc ?_ _) | (with_reducible refine Kd.C_drewN ?_ _) | (with_reducible refine Kd.C_drew ?_))); (case side2 => exact HC0.out); rintro e w' ⟨rfl, ⟨nd, rfl⟩⟩))
  go_meet
  case rel => exact ⟨_, (!t144), eqd, H', ⟨leD⟩, by repeat (first | exact Drawn0.refl _ | apply Drawn0.step)⟩
 case rest =>
  clear HC2
  obtain ⟨kq, x14_1, rfl, HA, HJ1, ⟨mc1, rfl⟩⟩ := hcut
  cases kq with
  | zero => exact absurd HA.out (by simp [Zbs.j0])
  | succ kj1 =>
   have H := HA.out
   clear HA
   simp only [Zbs.j0] at H
   by_cases c6 : x14_1 = true
   ·subst c6
    replace H := it_ H
    obtain rfl := Option.some.inj H
    go_wp2
    go_ret
    exact ⟨by first | rfl | (simp; done) | (simp [*]; done), by repeat (first | exact Drawn0.refl _ | apply Drawn0.step)⟩
   replace c6 := Bool.eq_false_iff.mpr c6
   subst c6
   replace H := if_ H
   have H' := Aside0.mk H
   clear H
   go_wp2
   go_loopg [3, 19] kj1 (fun kq v3 v19 w' => ∃ (x3_2 : Int) (x19_2 : Int), v3 = .int .i64 x3_2 ∧ v19 = .int .i64 x19_2 ∧ Aside0 (Zbs.l0 kq x3_2 l0 (l0.length : Int) x19_2 = some r) ∧ Aside0 (kq ≤ kj1) ∧ Drawn0 w w')
   case atStart => exact ⟨((l0.length : Int)), (0), eqd, eqd, H', ⟨Nat.le_refl _⟩, by repeat (first | exact Drawn0.refl _ | apply Drawn0.step)⟩
   case round =>
    clear H'
    try clear c6
    obtain ⟨x3_2, x19_2, rfl, rfl, HA, HK2, ⟨m2, rfl⟩⟩ := hrel
    cases gk with
    | zero => exact absurd HA.out (by simp [Zbs.l0])
    | succ k2 =>
     have H := HA.out
     clear HA
     simp only [Zbs.l0] at H
     by_cases c7 : x19_2 < (l0.length : Int)
     rotate_left
     ·rw [if_neg c7] at H
      have c7b0 := decide_eq_false c7
      clear c7
      obtain rfl := Option.some.inj H
      go_wp2
      go_ret
      exact ⟨by first | rfl | (simp; done) | (simp [*]; done), by repeat (first | exact Drawn0.refl _ | apply Drawn0.step)⟩
     rw [if_pos c7] at H
     have c7b0 := decide_eq_true c7
     clear c7
     obtain ⟨c8b0, H⟩ := in_ H
     obtain ⟨c9b0, H⟩ := in_ H
     have H' := Aside0.mk H
     clear H
     have p145 : 0 ≤ (x19_2 : Int) := ofd
     have q145 : x19_2 < (l0.length : Int) := ofd
     obtain ⟨ad145, e145, hx145_0⟩ := Kd.at_int HR0.out x19_2 p145 q145
     cases e145
     replace p145 := eq_true p145
     replace q145 := eq_true q145
     go_wp2
     go_roundg k2
     case measure => have := HJ1.out; have := HK2.out; omega
     case rel => exact ⟨(wrap64 (x3_2 + (rd l0 x19_2))), (wrap64 (x19_2 + 1)), eqd, eqd, H', ⟨by have := HJ1.out; have := HK2.out; omega⟩, by repeat (first | exact Drawn0.refl _ | apply Drawn0.step)⟩
mutual
def Zbu.l0 : Nat → List Int → Int → List Int → Int → Int → Option (List Int)
 | 0, _, _, _, _, _ => none
 | k + 1, x3, x4, x8, x9, x10 => if x10 < x9 then (if 0 ≤ x10 then (if x10 < (x8.length : Int) then (if x3.length < 17592186044416 then (Zbu.l1 k (x3 ++ [x4]) (rd x8 x10) (x3.length : Int) x8 x9 x10) else (none)) else (none)) else (none)) else (some x3)
def Zbu.l1 : Nat → List Int → Int → Int → List Int → Int → Int → Option (List Int)
 | 0, _, _, _, _, _, _ => none
 | k + 1, x3, x6, x7, x8, x9, x10 => if x6 > 0 then (if x3.length < 17592186044416 then (Zbu.l1 k (x3 ++ [x7]) (wrap64 (x6 - 1)) x7 x8 x9 x10) else (none)) else (Zbu.l0 k x3 x7 x8 x9 (wrap64 (x10 + 1)))
end
def Zbu.f (k : Nat) (l0 : List Int) : Option (List Int) := Zbu.l0 k ([] : List Int) (-1) l0 (l0.length : Int) 0
theorem Zbu.mono_l : ∀ k, (∀ y0 y1 y2 y3 y4, LeO (Zbu.l0 k y0 y1 y2 y3 y4) (Zbu.l0 (k + 1) y0 y1 y2 y3 y4)) ∧ (∀ y0 y1 y2 y3 y4 y5, LeO (Zbu.l1 k y0 y1 y2 y3 y4 y5) (Zbu.l1 (k + 1) y0 y1 y2 y3 y4 y5))
 | 0 => ⟨fun _ _ _ _ _ r h => by simp [Zbu.l0] at h, fun _ _ _ _ _ _ r h => by simp [Zbu.l1] at h⟩
 | k + 1 => by
  obtain ⟨ih0, ih1⟩ := Zbu.mono_l k
  refine ⟨?_, ?_⟩
  ·intro y0 y1 y2 y3 y4
   unfold Zbu.l0
   repeat' (first | (with_reducible first | exact ih1 _ _ _ _ _ _ | exact LeO.refl _ | exact LeO.none _ | refine LeO.ite ?_ ?_ | refine LeO.bind ?_ (fun _ => ?_)) | exact ih1 _ _ _ _ _ _ | exact LeO.none _ | refine LeO.ite ?_ ?_ | refine LeO.bind ?_ (fun _ => ?_))
  ·intro y0 y1 y2 y3 y4 y5
   unfold Zbu.l1
   repeat' (first | (with_reducible first | exact ih0 _ _ _ _ _ | exact ih1 _ _ _ _ _ _ | exact LeO.refl _ | exact LeO.none _ | refine LeO.ite ?_ ?_ | refine LeO.bind ?_ (fun _ => ?_)) | exact ih0 _ _ _ _ _ | exact ih1 _ _ _ _ _ _ | exact LeO.none _ | refine LeO.ite ?_ ?_ | refine LeO.bind ?_ (fun _ => ?_))
theorem Zbu.mono : ∀ a0 k, LeO (Zbu.f k a0) (Zbu.f (k + 1) a0) := by
 intro a0 k
 obtain ⟨ih0, ih1⟩ := Zbu.mono_l k
 unfold Zbu.f
 repeat' (first | (with_reducible first | exact ih0 _ _ _ _ _ | exact LeO.refl _ | exact LeO.none _ | refine LeO.ite ?_ ?_ | refine LeO.bind ?_ (fun _ => ?_)) | exact ih0 _ _ _ _ _ | exact LeO.none _ | refine LeO.ite ?_ ?_ | refine LeO.bind ?_ (fun _ => ?_))
theorem Zbu.calls (k : Nat) (A0 : Option Addr) (c0 : Nat) (l0 : List Int) (r : List Int) (w : World) (hr0 : Kd.C (Kd.int .i64) w A0 l0.length l0) (hc0 : l0.length ≤ c0) (h : Zbu.f k l0 = some r) :
  Calls Try.prog 38 #[.slice A0 l0.length c0] w fun e w' => ∃ v0_ : Value, e = .returned (v0_) ∧ Kd.R (Kd.int .i64) 3 w' w.heap.size (fun _ => True) v0_ r ∧ Below w.heap.size w w' := by
 have HR0 := Aside0.mk hr0
 have HC0 := Aside0.mk hc0
 clear hr0 hc0
 have HB := Aside0.mk (Below.refl w.heap.size w)
 have H := h
 unfold Zbu.f at H
 clear h
 have H' := Aside0.mk H
 clear H
 go_enter Try.func38, Try.ntmps38
 go_wp2
 go_loopg [3, 4, 10] k (fun kq v3 v4 v10 w' => ∃ (x3_1 : List Int) (x4_1 : Int) (x10_1 : Int), v4 = .int .i64 x4_1 ∧ v10 = .int .i64 x10_1 ∧ Aside0 (Zbu.l0 kq x3_1 x4_1 l0 (l0.length : Int) x10_1 = some r) ∧ Aside0 (kq ≤ k) ∧ Aside0 (Kd.R (Kd.int .i64) 3 w' w.heap.size (fun _ => True) v3 x3_1) ∧ Aside0 (Below w.heap.size w w'))
 case atStart => exact ⟨(([] : List Int)), ((-1)), (0), eqd, eqd, H', ⟨Nat.le_refl _⟩, ⟨by first | exact Kd.R_nil _ _ _ _ _ | exact Kd.N_nil _ _ _ _ _ | exact Kd.V_nil _ _ _ _ _ | exact Kd.Q_nil _ _ _ _ _ | exact Kd.S_nil _ _ _ _ _⟩, ⟨atB HB⟩⟩
 case round =>
  clear H'
  obtain ⟨x3_1, x4_1, x10_1, rfl, rfl, HA, HK1, HO_3, HB⟩ := hrel
  cases gk with
  | zero => exact absurd HA.out (by simp [Zbu.l0])
  | succ k1 =>
   have H := HA.out
   clear HA
   simp only [Zbu.l0] at H
   by_cases c2 : x10_1 < (l0.length : Int)
   rotate_left
   ·rw [if_neg c2] at H
    have c2b0 := decide_eq_false c2
    clear c2
    obtain rfl := Option.some.inj H
    go_wp2
    go_ret
    exact ⟨_, eqr, atR HO_3, atB HB⟩
   rw [if_pos c2] at H
   have c2b0 := decide_eq_true c2
   clear c2
   obtain ⟨c3b0, H⟩ := in_ H
   obtain ⟨c4b0, H⟩ := in_ H
   obtain ⟨c5, H⟩ := in0_ H
   have LMc5 := Aside0.mk c5
   clear c5
   obtain ⟨y147, hy147⟩ : ∃ y_ : List Int, y_ = (x3_1 ++ [x4_1]) := ⟨_, rfl⟩
   replace H : (Zbu.l1 k1 y147 (rd l0 x10_1) (x3_1.length : Int) l0 (l0.length : Int) x10_1) = some r := by first | (rw [hy147]; with_reducible exact H) | (have H2_ := (Option.bind_some _ _).symm.trans H; rw [hy147]; with_reducible exact H2_) | (have H2_ := (Option.bind_some _ _).symm.trans H; with_reducible exact H2_) | with_reducible exact H | (rw [hy147]; exact H) | exact H
   have Ny147 := Aside0.mk hy147
   clear hy147
   have H' := Aside0.mk H
   clear H
   have p146 : 0 ≤ (x10_1 : Int) := ofd
   have q146 : x10_1 < (l0.length : Int) := ofd
   obtain ⟨ad146, e146, hx146_0⟩ := Kd.at_int HR0.out x10_1 p146 q146
   cases e146
   (try replace hx146_0 := (HB.out.cell (World.block_lt_of_cell? w _ hx146_0)).trans hx146_0)
   replace p146 := eq_true p146
   replace q146 := eq_true q146
   obtain ⟨Ao6, co6, eo6⟩ := Kd.R_slice HO_3.out
   subst eo6
   go_wp2_with (first | ((with_reducible refine gate_builtin (b := .append) (xs := #[.tmp 16, .tmp 18]) rfl ?_); at_builtin; refine Kd.R_append (Kd.int .i64) (w0 := w) w.heap.size rfl (.tmp 16) (.tmp 18) 24 3 (.int .i64 0) 8 rfl Try.underlying24 info3 rfl (by decide) (by omega) (.slice Ao6 x3_1.length co6) x3_1 x4_1 [.int .i64 x4_1] (fun _ => True) (fun _ => False) rfl rfl ?aP (fun _ hk => hk.elim) ?aF ?aO ?aB ?aS ?aL ?_; (case aP => exact rfl); (case aB => exact (atB HB)); (case aF => exact (fun _ _ => trivial)); (case aO => exact (atR HO_3)); (case aS => exact (szB HB)); (case aL => have := LMc5.out; omega); intro v148 w7 ho hb hg hat; rw [← Ny147.out] at ho; have HO149 := Aside0.mk (ho); replace HB := Aside0.mk (hb); clear HO_3; clear ho hb hg hat))
   go_loopg [3, 6] k1 (fun kq v3 v6 w' => ∃ (x3_2 : List Int) (x6_2 : Int), v6 = .int .i64 x6_2 ∧ Aside0 (Zbu.l1 kq x3_2 x6_2 (x3_1.length : Int) l0 (l0.length : Int) x10_1 = some r) ∧ Aside0 (kq ≤ k1) ∧ Aside0 (Kd.R (Kd.int .i64) 3 w' w.heap.size (fun _ => True) v3 x3_2) ∧ Aside0 (Below w.heap.size w w'))
   case atStart => exact ⟨(y147), (rd l0 x10_1), eqd, H', ⟨Nat.le_refl _⟩, ⟨atR HO149⟩, ⟨atB HB⟩⟩
   case round =>
    clear H'
    try clear c2b0
    try clear c3b0
    try clear c4b0
    try clear hx146_0
    try clear p146
    try clear q146
    obtain ⟨x3_2, x6_2, rfl, HA, HK2, HO_3, HB⟩ := hrel
    cases gk with
    | zero => exact absurd HA.out (by simp [Zbu.l1])
    | succ k2 =>
     have H := HA.out
     clear HA
     simp only [Zbu.l1] at H
     by_cases c8 : x6_2 > 0
     rotate_left
     ·rw [if_neg c8] at H
      have c8b0 := decide_eq_false c8
      clear c8
      have H' := Aside0.mk H
      clear H
      go_wp2
      go_roundg k2
      case measure => have := HK1.out; have := HK2.out; omega
      case rel => exact ⟨(x3_2), ((x3_1.length : Int)), (wrap64 (x10_1 + 1)), eqd, eqd, H', ⟨by have := HK1.out; have := HK2.out; omega⟩, ⟨atR HO_3⟩, ⟨atB HB⟩⟩
     rw [if_pos c8] at H
     have c8b0 := decide_eq_true c8
     clear c8
     obtain ⟨c9, H⟩ := in0_ H
     have LMc9 := Aside0.mk c9
     clear c9
     obtain ⟨y150, hy150⟩ : ∃ y_ : List Int, y_ = (x3_2 ++ [(x3_1.length : Int)]) := ⟨_, rfl⟩
     replace H : (Zbu.l1 k2 y150 (wrap64 (x6_2 - 1)) (x3_1.length : Int) l0 (l0.length : Int) x10_1) = some r := by first | (rw [hy150]; with_reducible exact H) | (have H2_ := (Option.bind_some _ _).symm.trans H; rw [hy150]; with_reducible exact H2_) | (have H2_ := (Option.bind_some _ _).symm.trans H; with_reducible exact H2_) | with_reducible exact H | (rw [hy150]; exact H) | exact H
     have Ny150 := Aside0.mk hy150
     clear hy150
     have H' := Aside0.mk H
     clear H
     go_wp2_with (first | ((with_reducible refine gate_builtin (b := .append) (xs := #[.tmp 24, .tmp 26]) rfl ?_); at_builtin; refine Kd.R_append (Kd.int .i64) (w0 := w) w.heap.size rfl (.tmp 24) (.tmp 26) 24 3 (.int .i64 0) 8 rfl Try.underlying24 info3 rfl (by decide) (by omega) u3 x3_2 (x3_1.length : Int) [.int .i64 (x3_1.length : Int)] (fun _ => True) (fun _ => False) rfl rfl ?aP (fun _ hk => hk.elim) ?aF ?aO ?aB ?aS ?aL ?_; (case aP => exact rfl); (case aB => exact (atB HB)); (case aF => exact (fun _ _ => trivial)); (case aO => exact (atR HO_3)); (case aS => exact (szB HB)); (case aL => have := LMc9.out; omega); intro v151 w10 ho hb hg hat; rw [← Ny150.out] at ho; have HO152 := Aside0.mk (ho); replace HB := Aside0.mk (hb); clear HO_3; clear ho hb hg hat))
     go_roundg k2
     case measure => have := HK1.out; have := HK2.out; omega
     case rel => exact ⟨(y150), (wrap64 (x6_2 - 1)), eqd, H', ⟨by have := HK1.out; have := HK2.out; omega⟩, ⟨atR HO152⟩, ⟨atB HB⟩⟩
mutual
def Zas.l0 : Nat → Int → Int → List Int → List Int → Int → Int → Option (List Int × Bool)
 | 0, _, _, _, _, _, _ => none
 | k + 1, x4, x5, x6, x16, x17, x18 => if x18 < x17 then (if 0 ≤ x18 then (if x18 < (x16.length : Int) then (if (Int.tmod x18 2) = 0 then (if x6.length < 17592186044416 then (Zas.j1 k (wrap64 (x4 + 1)) x5 (x6 ++ [x4]) x18 (rd x16 x18) x16 x17 x18) else (none)) else (if x6.length < 17592186044416 then (Zas.j1 k x4 (wrap64 (x5 - 1)) (x6 ++ [x5]) x18 (rd x16 x18) x16 x17 x18) else (none))) else (none)) else (none)) else (some (x6, true))
def Zas.j1 : Nat → Int → Int → List Int → Int → Int → List Int → Int → Int → Option (List Int × Bool)
 | 0, _, _, _, _, _, _, _, _ => none
 | k + 1, x4, x5, x6, x7, x8, x16, x17, x18 => Zas.l1 k x4 x5 x6 x7 x8 x16 x17 x18
def Zas.l1 : Nat → Int → Int → List Int → Int → Int → List Int → Int → Int → Option (List Int × Bool)
 | 0, _, _, _, _, _, _, _, _ => none
 | k + 1, x4, x5, x6, x7, x8, x16, x17, x18 => if x8 > 0 then (if (Int.tmod x7 2) = 0 then (if x6.length < 17592186044416 then (Zas.l1 k x4 (wrap64 (x5 - 1)) (x6 ++ [x5]) x7 (wrap64 (x8 - 1)) x16 x17 x18) else (none)) else (if x6.length < 17592186044416 then (Zas.l1 k (wrap64 (x4 + 1)) x5 (x6 ++ [x4]) x7 (wrap64 (x8 - 1)) x16 x17 x18) else (none))) else (Zas.l0 k x4 x5 x6 x16 x17 (wrap64 (x18 + 1)))
end
def Zas.f (k : Nat) (l0 : List Int) : Option (List Int × Bool) := (Zbs.f k l0).bind fun t153 => (if t153 = true then ((Zbu.f k l0).bind fun t154 => (Zas.l0 k 0 (wrap64 ((t154.length : Int) - 1)) ([] : List Int) l0 (l0.length : Int) 0)) else (some (([] : List Int), false)))
theorem Zas.mono_l : ∀ k, (∀ y0 y1 y2 y3 y4 y5, LeO (Zas.l0 k y0 y1 y2 y3 y4 y5) (Zas.l0 (k + 1) y0 y1 y2 y3 y4 y5)) ∧ (∀ y0 y1 y2 y3 y4 y5 y6 y7, LeO (Zas.j1 k y0 y1 y2 y3 y4 y5 y6 y7) (Zas.j1 (k + 1) y0 y1 y2 y3 y4 y5 y6 y7)) ∧ (∀ y0 y1 y2 y3 y4 y5 y6 y7, LeO (Zas.l1 k y0 y1 y2 y3 y4 y5 y6 y7) (Zas.l1 (k + 1) y0 y1 y2 y3 y4 y5 y6 y7))
 | 0 => ⟨fun _ _ _ _ _ _ r h => by simp [Zas.l0] at h, fun _ _ _ _ _ _ _ _ r h => by simp [Zas.j1] at h, fun _ _ _ _ _ _ _ _ r h => by simp [Zas.l1] at h⟩
 | k + 1 => by
  obtain ⟨ih0, ih1, ih2⟩ := Zas.mono_l k
  refine ⟨?_, ?_, ?_⟩
  ·intro y0 y1 y2 y3 y4 y5
   unfold Zas.l0
   repeat' (first | (with_reducible first | exact ih1 _ _ _ _ _ _ _ _ | exact LeO.refl _ | exact LeO.none _ | refine LeO.ite ?_ ?_ | refine LeO.bind ?_ (fun _ => ?_)) | exact ih1 _ _ _ _ _ _ _ _ | exact LeO.none _ | refine LeO.ite ?_ ?_ | refine LeO.bind ?_ (fun _ => ?_))
  ·intro y0 y1 y2 y3 y4 y5 y6 y7
   unfold Zas.j1
   repeat' (first | (with_reducible first | exact ih2 _ _ _ _ _ _ _ _ | exact LeO.refl _ | exact LeO.none _ | refine LeO.ite ?_ ?_ | refine LeO.bind ?_ (fun _ => ?_)) | exact ih2 _ _ _ _ _ _ _ _ | exact LeO.none _ | refine LeO.ite ?_ ?_ | refine LeO.bind ?_ (fun _ => ?_))
  ·intro y0 y1 y2 y3 y4 y5 y6 y7
   unfold Zas.l1
   repeat' (first | (with_reducible first | exact ih0 _ _ _ _ _ _ | exact ih2 _ _ _ _ _ _ _ _ | exact LeO.refl _ | exact LeO.none _ | refine LeO.ite ?_ ?_ | refine LeO.bind ?_ (fun _ => ?_)) | exact ih0 _ _ _ _ _ _ | exact ih2 _ _ _ _ _ _ _ _ | exact LeO.none _ | refine LeO.ite ?_ ?_ | refine LeO.bind ?_ (fun _ => ?_))
theorem Zas.mono : ∀ a0 k, LeO (Zas.f k a0) (Zas.f (k + 1) a0) := by
 intro a0 k
 obtain ⟨ih0, ih1, ih2⟩ := Zas.mono_l k
 unfold Zas.f
 repeat' (first | (with_reducible first | exact ih0 _ _ _ _ _ _ | exact Zbu.mono _ _ | exact Zbs.mono _ _ | exact LeO.refl _ | exact LeO.none _ | refine LeO.ite ?_ ?_ | refine LeO.bind ?_ (fun _ => ?_)) | exact ih0 _ _ _ _ _ _ | exact Zbu.mono _ _ | exact Zbs.mono _ _ | exact LeO.none _ | refine LeO.ite ?_ ?_ | refine LeO.bind ?_ (fun _ => ?_))
theorem Zas.calls (k : Nat) (A0 : Option Addr) (c0 : Nat) (l0 : List Int) (r1 : List Int) (r2 : Bool) (w : World) (hr0 : Kd.C (Kd.int .i64) w A0 l0.length l0) (hc0 : l0.length ≤ c0) (h : Zas.f k l0 = some (r1, r2)) :
  Calls Try.prog 7 #[.slice A0 l0.length c0] w fun e w' => ∃ v0_ : Value, e = .returned (.tuple #[v0_, .bool r2]) ∧ Kd.R (Kd.int .i64) 3 w' w.heap.size (fun _ => True) v0_ r1 ∧ Below w.heap.size w w' := by
 have HR0 := Aside0.mk hr0
 have HC0 := Aside0.mk hc0
 clear hr0 hc0
 have HB := Aside0.mk (Below.refl w.heap.size w)
 have H := h
 unfold Zas.f at H
 clear h
 obtain ⟨t153, A2, H⟩ := bs_ H
 (try dsimp only at H)
 by_cases c3 : t153 = true
 rotate_left
 ·replace c3 := Bool.eq_false_iff.mpr c3
  subst c3
  replace H := if_ H
  simp only [Option.some.injEq, Prod.mk.injEq] at H
  obtain ⟨rfl, rfl⟩ := H
  go_enter Try.func7, Try.ntmps7
  go_wp2_with (first | ((with_reducible refine gate_callee (f := 37) rfl ?_); refine goesA (some 10) Try.func37 #[.slice A0 l0.length c0] ?_; (with_reducible refine (Zbs.calls k _ _ l0 false _ ?side1 ?side2 A2.out).mono ?_); (case side1 => repeat (first | exact HR0.out | (with_reducible refine Kd.C_alloc ?_ _) | (with_reducible refine Kd.C_drewN ?_ _) | (with_reducible refine Kd.C_drew ?_))); (case side2 => exact HC0.out); rintro e w' ⟨rfl, ⟨nd, rfl⟩⟩; refine ⟨_, rfl, ?_⟩))
  go_ret2
  exact ⟨_, eqr, by first | exact Kd.R_nil _ _ _ _ _ | exact Kd.N_nil _ _ _ _ _ | exact Kd.V_nil _ _ _ _ _ | exact Kd.Q_nil _ _ _ _ _ | exact Kd.S_nil _ _ _ _ _, atB HB⟩
 subst c3
 replace H := it_ H
 obtain ⟨t154, A4, H⟩ := bs_ H
 (try dsimp only at H)
 have H' := Aside0.mk H
 clear H
 go_enter Try.func7, Try.ntmps7
 go_wp2_with (first | ((with_reducible refine gate_callee (f := 37) rfl ?_); refine goesA (some 10) Try.func37 #[.slice A0 l0.length c0] ?_; (with_reducible refine (Zbs.calls k _ _ l0 true _ ?side1 ?side2 A2.out).mono ?_); (case side1 => repeat (first | exact HR0.out | (with_reducible refine Kd.C_alloc ?_ _) | (with_reducible refine Kd.C_drewN ?_ _) | (with_reducible refine Kd.C_drew ?_))); (case side2 => exact HC0.out); rintro e w' ⟨rfl, ⟨nd, rfl⟩⟩; refine ⟨_, rfl, ?_⟩) | ((with_reducible refine gate_callee (f := 38) rfl ?_); refine goesA (some 13) Try.func38 #[.slice A0 l0.length c0] ?_; (with_reducible refine (Zbu.calls k _ _ l0 t154 _ ?side1 ?side2 A4.out).mono ?_); (case side1 => repeat (first | exact HR0.out | (with_reducible refine Kd.C_alloc ?_ _) | (with_reducible refine Kd.C_drewN ?_ _) | (with_reducible refine Kd.C_drew ?_))); (case side2 => exact HC0.out); rintro e w5 ⟨v155, rfl, ho0, hb⟩; refine ⟨_, rfl, ?_⟩; have HO156 := lowR ho0 HB; replace HB := upB HB hb; obtain ⟨Ao6, co6, eo6⟩ := Kd.R_slice HO156.out; subst eo6))
 go_loopg [4, 5, 6, 18] k (fun kq v4 v5 v6 v18 w' => ∃ (x4_1 : Int) (x5_1 : Int) (x6_1 : List Int) (x18_1 : Int), v4 = .int .i64 x4_1 ∧ v5 = .int .i64 x5_1 ∧ v18 = .int .i64 x18_1 ∧ Aside0 (Zas.l0 kq x4_1 x5_1 x6_1 l0 (l0.length : Int) x18_1 = some (r1, r2)) ∧ Aside0 (kq ≤ k) ∧ Aside0 (Kd.R (Kd.int .i64) 3 w' w.heap.size (fun _ => True) v6 x6_1) ∧ Aside0 (Below w.heap.size w w'))
 case atStart => exact ⟨(0), (wrap64 ((t154.length : Int) - 1)), (([] : List Int)), (0), eqd, eqd, eqd, H', ⟨Nat.le_refl _⟩, ⟨by first | exact Kd.R_nil _ _ _ _ _ | exact Kd.N_nil _ _ _ _ _ | exact Kd.V_nil _ _ _ _ _ | exact Kd.Q_nil _ _ _ _ _ | exact Kd.S_nil _ _ _ _ _⟩, ⟨atB HB⟩⟩
 case round =>
  clear H'
  try clear c3
  obtain ⟨x4_1, x5_1, x6_1, x18_1, rfl, rfl, rfl, HA, HK1, HO_6, HB⟩ := hrel
  cases gk with
  | zero => exact absurd HA.out (by simp [Zas.l0])
  | succ k1 =>
   have H := HA.out
   clear HA
   simp only [Zas.l0] at H
   by_cases c7 : x18_1 < (l0.length : Int)
   rotate_left
   ·rw [if_neg c7] at H
    have c7b0 := decide_eq_false c7
    clear c7
    simp only [Option.some.injEq, Prod.mk.injEq] at H
    obtain ⟨rfl, rfl⟩ := H
    go_wp2
    go_ret2
    exact ⟨_, eqr, atR HO_6, atB HB⟩
   rw [if_pos c7] at H
   have c7b0 := decide_eq_true c7
   clear c7
   obtain ⟨c8b0, H⟩ := in_ H
   obtain ⟨c9b0, H⟩ := in_ H
   have HC10 := Aside0.mk H
   clear H
   have p157 : 0 ≤ (x18_1 : Int) := ofd
   have q157 : x18_1 < (l0.length : Int) := ofd
   obtain ⟨ad157, e157, hx157_0⟩ := Kd.at_int HR0.out x18_1 p157 q157
   cases e157
   (try replace hx157_0 := (HB.out.cell (World.block_lt_of_cell? w _ hx157_0)).trans hx157_0)
   replace p157 := eq_true p157
   replace q157 := eq_true q157
   go_upto_if 25 with (fail)
   go_cut [4, 5, 6] (fun v4 v5 v6 wc => ∃ (kq : Nat) (x4_9 : Int) (x5_9 : Int) (x6_9 : List Int), v4 = .int .i64 x4_9 ∧ v5 = .int .i64 x5_9 ∧ Aside0 (Zas.j1 kq x4_9 x5_9 x6_9 x18_1 (rd l0 x18_1) l0 (l0.length : Int) x18_1 = some (r1, r2)) ∧ Aside0 (kq ≤ k1) ∧ Aside0 (Kd.R (Kd.int .i64) 3 wc w.heap.size (fun _ => True) v6 x6_9) ∧ Aside0 (Below w.heap.size w wc))
   case first =>
    have H := HC10.out
    clear HC10
    by_cases c11 : (Int.tmod x18_1 2) = 0
    ·rw [if_pos c11] at H
     have c11b0 : ((Int.tmod x18_1 2) == 0) = true := beq_iff_eq.mpr c11
     have c11b1 : ((Int.tmod x18_1 2) != 0) = false := bne_eq_false_iff_eq.mpr c11
     clear c11
     (first | rw [c11b0] | (simp only [i64_w, i32_w]; rw [c11b0]) | skip)
     obtain ⟨c12, H⟩ := in0_ H
     have LMc12 := Aside0.mk c12
     clear c12
     obtain ⟨y158, hy158⟩ : ∃ y_ : List Int, y_ = (x6_1 ++ [x4_1]) := ⟨_, rfl⟩
     replace H : (Zas.j1 k1 (wrap64 (x4_1 + 1)) x5_1 y158 x18_1 (rd l0 x18_1) l0 (l0.length : Int) x18_1) = some (r1, r2) := by first | (rw [hy158]; with_reducible exact H) | (have H2_ := (Option.bind_some _ _).symm.trans H; rw [hy158]; with_reducible exact H2_) | (have H2_ := (Option.bind_some _ _).symm.trans H; with_reducible exact H2_) | with_reducible exact H | (rw [hy158]; exact H) | exact H
     have Ny158 := Aside0.mk hy158
     clear hy158
     have H' := Aside0.mk H
     clear H
     go_wp2_with (first | ((with_reducible refine gate_builtin (b := .append) (xs := #[.tmp 26, .tmp 28]) rfl ?_); at_builtin; refine Kd.R_append (Kd.int .i64) (w0 := w) w.heap.size rfl (.tmp 26) (.tmp 28) 24 3 (.int .i64 0) 8 rfl Try.underlying24 info3 rfl (by decide) (by omega) u6 x6_1 x4_1 [.int .i64 x4_1] (fun _ => True) (fun _ => False) rfl rfl ?aP (fun _ hk => hk.elim) ?aF ?aO ?aB ?aS ?aL ?_; (case aP => exact rfl); (case aB => exact (atB HB)); (case aF => exact (fun _ _ => trivial)); (case aO => exact (atR HO_6)); (case aS => exact (szB HB)); (case aL => have := LMc12.out; omega); intro v159 w13 ho hb hg hat; rw [← Ny158.out] at ho; have HO160 := Aside0.mk (ho); replace HB := Aside0.mk (hb); clear HO_6; clear ho hb hg hat))
     go_meet
     case rel => exact ⟨_, (wrap64 (x4_1 + 1)), (x5_1), (y158), eqd, eqd, H', ⟨by have := HK1.out; first | omega | exact Nat.le_refl _⟩, ⟨atR HO160⟩, ⟨atB HB⟩⟩
    ·rw [if_neg c11] at H
     have c11b0 : ((Int.tmod x18_1 2) == 0) = false := beq_eq_false_iff_ne.mpr c11
     have c11b1 : ((Int.tmod x18_1 2) != 0) = true := bne_iff_ne.mpr c11
     (first | rw [c11b0] | (simp only [i64_w, i32_w]; rw [c11b0]) | skip)
     obtain ⟨c14, H⟩ := in0_ H
     have LMc14 := Aside0.mk c14
     clear c14
     obtain ⟨y161, hy161⟩ : ∃ y_ : List Int, y_ = (x6_1 ++ [x5_1]) := ⟨_, rfl⟩
     replace H : (Zas.j1 k1 x4_1 (wrap64 (x5_1 - 1)) y161 x18_1 (rd l0 x18_1) l0 (l0.length : Int) x18_1) = some (r1, r2) := by first | (rw [hy161]; with_reducible exact H) | (have H2_ := (Option.bind_some _ _).symm.trans H; rw [hy161]; with_reducible exact H2_) | (have H2_ := (Option.bind_some _ _).symm.trans H; with_reducible exact H2_) | with_reducible exact H | (rw [hy161]; exact H) | exact H
     have Ny161 := Aside0.mk hy161
     clear hy161
     have H' := Aside0.mk H
     clear H
     go_wp2_with (first | ((with_reducible refine gate_builtin (b := .append) (xs := #[.tmp 32, .tmp 34]) rfl ?_); at_builtin; refine Kd.R_append (Kd.int .i64) (w0 := w) w.heap.size rfl (.tmp 32) (.tmp 34) 24 3 (.int .i64 0) 8 rfl Try.underlying24 info3 rfl (by decide) (by omega) u6 x6_1 x5_1 [.int .i64 x5_1] (fun _ => True) (fun _ => False) rfl rfl ?aP (fun _ hk => hk.elim) ?aF ?aO ?aB ?aS ?aL ?_; (case aP => exact rfl); (case aB => exact (atB HB)); (case aF => exact (fun _ _ => trivial)); (case aO => exact (atR HO_6)); (case aS => exact (szB HB)); (case aL => have := LMc14.out; omega); intro v162 w15 ho hb hg hat; rw [← Ny161.out] at ho; have HO163 := Aside0.mk (ho); replace HB := Aside0.mk (hb); clear HO_6; clear ho hb hg hat))
     go_meet
     case rel => exact ⟨_, (x4_1), (wrap64 (x5_1 - 1)), (y161), eqd, eqd, H', ⟨by have := HK1.out; first | omega | exact Nat.le_refl _⟩, ⟨atR HO163⟩, ⟨atB HB⟩⟩
   case rest =>
    clear HC10
    try clear c7b0
    try clear c8b0
    try clear c9b0
    try clear hx157_0
    try clear p157
    try clear q157
    obtain ⟨kq, x4_9, x5_9, x6_9, rfl, rfl, HA, HJ9, HO_6, HB⟩ := hcut
    cases kq with
    | zero => exact absurd HA.out (by simp [Zas.j1])
    | succ kj9 =>
     have H := HA.out
     clear HA
     simp only [Zas.j1] at H
     have H' := Aside0.mk H
     clear H
     go_wp2
     go_loopg [4, 5, 6, 8] kj9 (fun kq v4 v5 v6 v8 w' => ∃ (x4_3 : Int) (x5_3 : Int) (x6_3 : List Int) (x8_3 : Int), v4 = .int .i64 x4_3 ∧ v5 = .int .i64 x5_3 ∧ v8 = .int .i64 x8_3 ∧ Aside0 (Zas.l1 kq x4_3 x5_3 x6_3 x18_1 x8_3 l0 (l0.length : Int) x18_1 = some (r1, r2)) ∧ Aside0 (kq ≤ kj9) ∧ Aside0 (Kd.R (Kd.int .i64) 3 w' w.heap.size (fun _ => True) v6 x6_3) ∧ Aside0 (Below w.heap.size w w'))
     case atStart => exact ⟨(x4_9), (x5_9), (x6_9), ((rd l0 x18_1)), eqd, eqd, eqd, H', ⟨Nat.le_refl _⟩, ⟨atR HO_6⟩, ⟨atB HB⟩⟩
     case round =>
      clear H'
      obtain ⟨x4_3, x5_3, x6_3, x8_3, rfl, rfl, rfl, HA, HK3, HO_6, HB⟩ := hrel
      cases gk with
      | zero => exact absurd HA.out (by simp [Zas.l1])
      | succ k3 =>
       have H := HA.out
       clear HA
       simp only [Zas.l1] at H
       by_cases c16 : x8_3 > 0
       rotate_left
       ·rw [if_neg c16] at H
        have c16b0 := decide_eq_false c16
        clear c16
        have H' := Aside0.mk H
        clear H
        go_wp2
        go_roundg k3
        case measure => have := HK1.out; have := HJ9.out; have := HK3.out; omega
        case rel => exact ⟨(x4_3), (x5_3), (x6_3), (wrap64 (x18_1 + 1)), eqd, eqd, eqd, H', ⟨by have := HK1.out; have := HJ9.out; have := HK3.out; omega⟩, ⟨atR HO_6⟩, ⟨atB HB⟩⟩
       rw [if_pos c16] at H
       have c16b0 := decide_eq_true c16
       clear c16
       by_cases c17 : (Int.tmod x18_1 2) = 0
       ·rw [if_pos c17] at H
        have c17b0 : ((Int.tmod x18_1 2) == 0) = true := beq_iff_eq.mpr c17
        have c17b1 : ((Int.tmod x18_1 2) != 0) = false := bne_eq_false_iff_eq.mpr c17
        clear c17
        obtain ⟨c18, H⟩ := in0_ H
        have LMc18 := Aside0.mk c18
        clear c18
        obtain ⟨y164, hy164⟩ : ∃ y_ : List Int, y_ = (x6_3 ++ [x5_3]) := ⟨_, rfl⟩
        replace H : (Zas.l1 k3 x4_3 (wrap64 (x5_3 - 1)) y164 x18_1 (wrap64 (x8_3 - 1)) l0 (l0.length : Int) x18_1) = some (r1, r2) := by first | (rw [hy164]; with_reducible exact H) | (have H2_ := (Option.bind_some _ _).symm.trans H; rw [hy164]; with_reducible exact H2_) | (have H2_ := (Option.bind_some _ _).symm.trans H; with_reducible exact H2_) | with_reducible exact H | (rw [hy164]; exact H) | exact H
        have Ny164 := Aside0.mk hy164
        clear hy164
        have H' := Aside0.mk H
        clear H
        go_wp2_with (first | ((with_reducible refine gate_builtin (b := .append) (xs := #[.tmp 45, .tmp 47]) rfl ?_); at_builtin; refine Kd.R_append (Kd.int .i64) (w0 := w) w.heap.size rfl (.tmp 45) (.tmp 47) 24 3 (.int .i64 0) 8 rfl Try.underlying24 info3 rfl (by decide) (by omega) u6 x6_3 x5_3 [.int .i64 x5_3] (fun _ => True) (fun _ => False) rfl rfl ?aP (fun _ hk => hk.elim) ?aF ?aO ?aB ?aS ?aL ?_; (case aP => exact rfl); (case aB => exact (atB HB)); (case aF => exact (fun _ _ => trivial)); (case aO => exact (atR HO_6)); (case aS => exact (szB HB)); (case aL => have := LMc18.out; omega); intro v165 w19 ho hb hg hat; rw [← Ny164.out] at ho; have HO166 := Aside0.mk (ho); replace HB := Aside0.mk (hb); clear HO_6; clear ho hb hg hat))
        go_roundg k3
        case measure => have := HK1.out; have := HJ9.out; have := HK3.out; omega
        case rel => exact ⟨(x4_3), (wrap64 (x5_3 - 1)), (y164), (wrap64 (x8_3 - 1)), eqd, eqd, eqd, H', ⟨by have := HK1.out; have := HJ9.out; have := HK3.out; omega⟩, ⟨atR HO166⟩, ⟨atB HB⟩⟩
       ·rw [if_neg c17] at H
        have c17b0 : ((Int.tmod x18_1 2) == 0) = false := beq_eq_false_iff_ne.mpr c17
        have c17b1 : ((Int.tmod x18_1 2) != 0) = true := bne_iff_ne.mpr c17
        obtain ⟨c20, H⟩ := in0_ H
        have LMc20 := Aside0.mk c20
        clear c20
        obtain ⟨y167, hy167⟩ : ∃ y_ : List Int, y_ = (x6_3 ++ [x4_3]) := ⟨_, rfl⟩
        replace H : (Zas.l1 k3 (wrap64 (x4_3 + 1)) x5_3 y167 x18_1 (wrap64 (x8_3 - 1)) l0 (l0.length : Int) x18_1) = some (r1, r2) := by first | (rw [hy167]; with_reducible exact H) | (have H2_ := (Option.bind_some _ _).symm.trans H; rw [hy167]; with_reducible exact H2_) | (have H2_ := (Option.bind_some _ _).symm.trans H; with_reducible exact H2_) | with_reducible exact H | (rw [hy167]; exact H) | exact H
        have Ny167 := Aside0.mk hy167
        clear hy167
        have H' := Aside0.mk H
        clear H
        go_wp2_with (first | ((with_reducible refine gate_builtin (b := .append) (xs := #[.tmp 51, .tmp 53]) rfl ?_); at_builtin; refine Kd.R_append (Kd.int .i64) (w0 := w) w.heap.size rfl (.tmp 51) (.tmp 53) 24 3 (.int .i64 0) 8 rfl Try.underlying24 info3 rfl (by decide) (by omega) u6 x6_3 x4_3 [.int .i64 x4_3] (fun _ => True) (fun _ => False) rfl rfl ?aP (fun _ hk => hk.elim) ?aF ?aO ?aB ?aS ?aL ?_; (case aP => exact rfl); (case aB => exact (atB HB)); (case aF => exact (fun _ _ => trivial)); (case aO => exact (atR HO_6)); (case aS => exact (szB HB)); (case aL => have := LMc20.out; omega); intro v168 w21 ho hb hg hat; rw [← Ny167.out] at ho; have HO169 := Aside0.mk (ho); replace HB := Aside0.mk (hb); clear HO_6; clear ho hb hg hat))
        go_roundg k3
        case measure => have := HK1.out; have := HJ9.out; have := HK3.out; omega
        case rel => exact ⟨(wrap64 (x4_3 + 1)), (x5_3), (y167), (wrap64 (x8_3 - 1)), eqd, eqd, eqd, H', ⟨by have := HK1.out; have := HJ9.out; have := HK3.out; omega⟩, ⟨atR HO169⟩, ⟨atB HB⟩⟩
noncomputable def Zas.F (l0 : List Int) : Option (List Int × Bool) := lim fun k => Zas.f k l0
theorem Zas.F_lim (l0 : List Int) : Lim (fun k => Zas.f k l0) (Zas.F l0) := Lim.of fun k => Zas.mono l0 k
def Zch.f (k : Nat) (l0 : List Int) : Option (List Int × Bool) := (Zbs.f k l0).bind fun t178 => (if t178 = true then ((Zbu.f k l0).bind fun t179 => (some (t179, true))) else (some (([] : List Int), false)))
theorem Zch.mono : ∀ a0 k, LeO (Zch.f k a0) (Zch.f (k + 1) a0) := by
 intro a0 k
 unfold Zch.f
 repeat' (first | (with_reducible first | exact Zbu.mono _ _ | exact Zbs.mono _ _ | exact LeO.refl _ | exact LeO.none _ | refine LeO.ite ?_ ?_ | refine LeO.bind ?_ (fun _ => ?_)) | exact Zbu.mono _ _ | exact Zbs.mono _ _ | exact LeO.none _ | refine LeO.ite ?_ ?_ | refine LeO.bind ?_ (fun _ => ?_))
theorem Zch.calls (k : Nat) (A0 : Option Addr) (c0 : Nat) (l0 : List Int) (r1 : List Int) (r2 : Bool) (w : World) (hr0 : Kd.C (Kd.int .i64) w A0 l0.length l0) (hc0 : l0.length ≤ c0) (h : Zch.f k l0 = some (r1, r2)) :
  Calls Try.prog 9 #[.slice A0 l0.length c0] w fun e w' => ∃ v0_ : Value, e = .returned (.tuple #[v0_, .bool r2]) ∧ Kd.R (Kd.int .i64) 3 w' w.heap.size (fun _ => True) v0_ r1 ∧ Below w.heap.size w w' := by
 have HR0 := Aside0.mk hr0
 have HC0 := Aside0.mk hc0
 clear hr0 hc0
 have HB := Aside0.mk (Below.refl w.heap.size w)
 have H := h
 unfold Zch.f at H
 clear h
 obtain ⟨t178, A2, H⟩ := bs_ H
 (try dsimp only at H)
 by_cases c3 : t178 = true
 rotate_left
 ·replace c3 := Bool.eq_false_iff.mpr c3
  subst c3
  replace H := if_ H
  simp only [Option.some.injEq, Prod.mk.injEq] at H
  obtain ⟨rfl, rfl⟩ := H
  go_enter Try.func9, Try.ntmps9
  go_wp2_with (first | ((with_reducible refine gate_callee (f := 37) rfl ?_); refine goesA (some 5) Try.func37 #[.slice A0 l0.length c0] ?_; (with_reducible refine (Zbs.calls k _ _ l0 false _ ?side1 ?side2 A2.out).mono ?_); (case side1 => repeat (first | exact HR0.out | (with_reducible refine Kd.C_alloc ?_ _) | (with_reducible refine Kd.C_drewN ?_ _) | (with_reducible refine Kd.C_drew ?_))); (case side2 => exact HC0.out); rintro e w' ⟨rfl, ⟨nd, rfl⟩⟩; refine ⟨_, rfl, ?_⟩))
  go_ret2
  exact ⟨_, eqr, by first | exact Kd.R_nil _ _ _ _ _ | exact Kd.N_nil _ _ _ _ _ | exact Kd.V_nil _ _ _ _ _ | exact Kd.Q_nil _ _ _ _ _ | exact Kd.S_nil _ _ _ _ _, atB HB⟩
 subst c3
 replace H := it_ H
 obtain ⟨t179, A4, H⟩ := bs_ H
 (try dsimp only at H)
 simp only [Option.some.injEq, Prod.mk.injEq] at H
 obtain ⟨rfl, rfl⟩ := H
 go_enter Try.func9, Try.ntmps9
 go_wp2_with (first | ((with_reducible refine gate_callee (f := 37) rfl ?_); refine goesA (some 5) Try.func37 #[.slice A0 l0.length c0] ?_; (with_reducible refine (Zbs.calls k _ _ l0 true _ ?side1 ?side2 A2.out).mono ?_); (case side1 => repeat (first | exact HR0.out | (with_reducible refine Kd.C_alloc ?_ _) | (with_reducible refine Kd.C_drewN ?_ _) | (with_reducible refine Kd.C_drew ?_))); (case side2 => exact HC0.out); rintro e w' ⟨rfl, ⟨nd, rfl⟩⟩; refine ⟨_, rfl, ?_⟩) | ((with_reducible refine gate_callee (f := 38) rfl ?_); refine goesA (some 8) Try.func38 #[.slice A0 l0.length c0] ?_; (with_reducible refine (Zbu.calls k _ _ l0 t179 _ ?side1 ?side2 A4.out).mono ?_); (case side1 => repeat (first | exact HR0.out | (with_reducible refine Kd.C_alloc ?_ _) | (with_reducible refine Kd.C_drewN ?_ _) | (with_reducible refine Kd.C_drew ?_))); (case side2 => exact HC0.out); rintro e w5 ⟨v180, rfl, ho0, hb⟩; refine ⟨_, rfl, ?_⟩; have HO181 := lowR ho0 HB; replace HB := upB HB hb))
 go_ret2
 exact ⟨_, eqr, atR HO181, atB HB⟩
noncomputable def Zch.F (l0 : List Int) : Option (List Int × Bool) := lim fun k => Zch.f k l0
theorem Zch.F_lim (l0 : List Int) : Lim (fun k => Zch.f k l0) (Zch.F l0) := Lim.of fun k => Zch.mono l0 k
mutual
def Zao.j0 : Nat → List Int → Bool → Option (Bool)
 | 0, _, _ => none
 | k + 1, x0, x13 => if x13 = true then (some false) else (Zao.l0 k x0 1)
def Zao.l0 : Nat → List Int → Int → Option (Bool)
 | 0, _, _ => none
 | k + 1, x0, x3 => if x3 < (x0.length : Int) then (if 0 ≤ x3 then ((Zcc.f (rd x0 x3) 0 (wrap64 (x3 - 1))).bind fun t321 => (if t321 = true then (Zao.l0 k x0 (wrap64 (x3 + 1))) else (some false))) else (none)) else (some true)
end
def Zao.f (k : Nat) (l0 : List Int) : Option (Bool) := (Zcc.f (l0.length : Int) 1 9).bind fun t318 => (if t318 = true then (if 0 < (l0.length : Int) then (Zao.j0 k l0 ((rd l0 0) != (-1))) else (none)) else (Zao.j0 k l0 true))
theorem Zao.mono_l : ∀ k, (∀ y0 y1, LeO (Zao.j0 k y0 y1) (Zao.j0 (k + 1) y0 y1)) ∧ (∀ y0 y1, LeO (Zao.l0 k y0 y1) (Zao.l0 (k + 1) y0 y1))
 | 0 => ⟨fun _ _ r h => by simp [Zao.j0] at h, fun _ _ r h => by simp [Zao.l0] at h⟩
 | k + 1 => by
  obtain ⟨ih0, ih1⟩ := Zao.mono_l k
  refine ⟨?_, ?_⟩
  ·intro y0 y1
   unfold Zao.j0
   repeat' (first | (with_reducible first | exact ih1 _ _ | exact LeO.refl _ | exact LeO.none _ | refine LeO.ite ?_ ?_ | refine LeO.bind ?_ (fun _ => ?_)) | exact ih1 _ _ | exact LeO.none _ | refine LeO.ite ?_ ?_ | refine LeO.bind ?_ (fun _ => ?_))
  ·intro y0 y1
   unfold Zao.l0
   repeat' (first | (with_reducible first | exact ih1 _ _ | exact LeO.refl _ | exact LeO.none _ | refine LeO.ite ?_ ?_ | refine LeO.bind ?_ (fun _ => ?_)) | exact ih1 _ _ | exact LeO.none _ | refine LeO.ite ?_ ?_ | refine LeO.bind ?_ (fun _ => ?_))
theorem Zao.mono : ∀ a0 k, LeO (Zao.f k a0) (Zao.f (k + 1) a0) := by
 intro a0 k
 obtain ⟨ih0, ih1⟩ := Zao.mono_l k
 unfold Zao.f
 repeat' (first | (with_reducible first | exact ih0 _ _ | exact LeO.refl _ | exact LeO.none _ | refine LeO.ite ?_ ?_ | refine LeO.bind ?_ (fun _ => ?_)) | exact ih0 _ _ | exact LeO.none _ | refine LeO.ite ?_ ?_ | refine LeO.bind ?_ (fun _ => ?_))
theorem Zao.calls (k : Nat) (A0 : Option Addr) (c0 : Nat) (l0 : List Int) (r : Bool) (w : World) (hr0 : Kd.C (Kd.int .i64) w A0 l0.length l0) (hc0 : l0.length ≤ c0) (h : Zao.f k l0 = some r) :
  Calls Try.prog 49 #[.slice A0 l0.length c0] w fun e w' => e = .returned (.bool r) ∧ Drawn0 w w' := by
 have HR0 := Aside0.mk hr0
 have HC0 := Aside0.mk hc0
 clear hr0 hc0
 have H := h
 unfold Zao.f at H
 clear h
 have HC2 := Aside0.mk H
 clear H
 go_enter Try.func49, Try.ntmps49
 go_upto_region 1 with (fail)
 go_cut [13] (fun v13 wc => ∃ (kq : Nat) (x13_1 : Bool), v13 = .bool x13_1 ∧ Aside0 (Zao.j0 kq l0 x13_1 = some r) ∧ Aside0 (kq ≤ k) ∧ Drawn0 w wc)
 case first =>
  have H := HC2.out
  clear HC2
  obtain ⟨t318, A3, H⟩ := bs_ H
  (try dsimp only at H)
  by_cases c4 : t318 = true
  rotate_left
  ·replace c4 := Bool.eq_false_iff.mpr c4
   subst c4
   replace H := if_ H
   have H' := Aside0.mk H
   clear H
   go_wp2_with (first | ((with_reducible refine gate_callee (f := 44) rfl ?_); refine goesA (some 6) Try.func44 #[.int .i64 (l0.length : Int), .int .i64 1, .int .i64 9] ?_; (with_reducible refine (Zcc.calls (l0.length : Int) 1 9 false _ A3.out).mono ?_); rintro e w' ⟨rfl, ⟨nd, rfl⟩⟩; refine ⟨_, rfl, ?_⟩))
   go_meet
   case rel => exact ⟨_, (true), eqd, H', ⟨leD⟩, by repeat (first | exact Drawn0.refl _ | apply Drawn0.step)⟩
  subst c4
  replace H := it_ H
  obtain ⟨c5, H⟩ := in0_ H
  have c5b0 := decide_eq_true c5
  have c5b1 : decide (0 < l0.length) = true := decide_eq_true (by omega)
  clear c5
  (first | rw [c5b0] | (simp only [i64_w, i32_w]; rw [c5b0]) | skip)
  have H' := Aside0.mk H
  clear H
  go_wp2_with (first | ((with_reducible refine gate_callee (f := 44) rfl ?_); refine goesA (some 6) Try.func44 #[.int .i64 (l0.length : Int), .int .i64 1, .int .i64 9] ?_; (with_reducible refine (Zcc.calls (l0.length : Int) 1 9 true _ A3.out).mono ?_); rintro e w' ⟨rfl, ⟨nd, rfl⟩⟩; refine ⟨_, rfl, ?_⟩; have p319 : 0 ≤ (0 : Int) := (by omega); have q319 : 0 < (l0.length : Int) := ofd; obtain ⟨ad319, e319, hx319_0⟩ := Kd.at_int HR0.out 0 p319 q319; cases e319; have qi319 : (0 < l0.length) = True := eq_true (by omega); (try rw [show ((0 : Int)).toNat = 0 from rfl] at hx319_0); (try rw [Addr.add_zero'] at hx319_0); replace p319 := eq_true p319; replace q319 := eq_true q319))
  go_meet
  case rel => exact ⟨_, (((rd l0 0) != (-1))), eqd, H', ⟨leD⟩, by repeat (first | exact Drawn0.refl _ | apply Drawn0.step)⟩
 case rest =>
  clear HC2
  obtain ⟨kq, x13_1, rfl, HA, HJ1, ⟨mc1, rfl⟩⟩ := hcut
  cases kq with
  | zero => exact absurd HA.out (by simp [Zao.j0])
  | succ kj1 =>
   have H := HA.out
   clear HA
   simp only [Zao.j0] at H
   by_cases c6 : x13_1 = true
   ·subst c6
    replace H := it_ H
    obtain rfl := Option.some.inj H
    go_wp2
    go_ret
    exact ⟨by first | rfl | (simp; done) | (simp [*]; done), by repeat (first | exact Drawn0.refl _ | apply Drawn0.step)⟩
   replace c6 := Bool.eq_false_iff.mpr c6
   subst c6
   replace H := if_ H
   have H' := Aside0.mk H
   clear H
   go_wp2
   go_loopg [3] kj1 (fun kq v3 w' => ∃ (x3_2 : Int), v3 = .int .i64 x3_2 ∧ Aside0 (Zao.l0 kq l0 x3_2 = some r) ∧ Aside0 (kq ≤ kj1) ∧ Drawn0 w w')
   case atStart => exact ⟨(1), eqd, H', ⟨Nat.le_refl _⟩, by repeat (first | exact Drawn0.refl _ | apply Drawn0.step)⟩
   case round =>
    clear H'
    try clear c6
    obtain ⟨x3_2, rfl, HA, HK2, ⟨m2, rfl⟩⟩ := hrel
    cases gk with
    | zero => exact absurd HA.out (by simp [Zao.l0])
    | succ k2 =>
     have H := HA.out
     clear HA
     simp only [Zao.l0] at H
     by_cases c7 : x3_2 < (l0.length : Int)
     rotate_left
     ·rw [if_neg c7] at H
      have c7b0 := decide_eq_false c7
      clear c7
      obtain rfl := Option.some.inj H
      go_wp2
      go_ret
      exact ⟨by first | rfl | (simp; done) | (simp [*]; done), by repeat (first | exact Drawn0.refl _ | apply Drawn0.step)⟩
     rw [if_pos c7] at H
     have c7b0 := decide_eq_true c7
     clear c7
     obtain ⟨c8b0, H⟩ := in_ H
     obtain ⟨t321, A9, H⟩ := bs_ H
     (try dsimp only at H)
     by_cases c10 : t321 = true
     ·subst c10
      replace H := it_ H
      have H' := Aside0.mk H
      clear H
      have p320 : 0 ≤ (x3_2 : Int) := ofd
      have q320 : x3_2 < (l0.length : Int) := ofd
      obtain ⟨ad320, e320, hx320_0⟩ := Kd.at_int HR0.out x3_2 p320 q320
      cases e320
      replace p320 := eq_true p320
      replace q320 := eq_true q320
      go_wp2_with (first | ((with_reducible refine gate_callee (f := 44) rfl ?_); refine goesA (some 26) Try.func44 #[.int .i64 (rd l0 x3_2), .int .i64 0, .int .i64 (wrap64 (x3_2 - 1))] ?_; (with_reducible refine (Zcc.calls (rd l0 x3_2) 0 (wrap64 (x3_2 - 1)) true _ A9.out).mono ?_); rintro e w' ⟨rfl, ⟨nd, rfl⟩⟩; refine ⟨_, rfl, ?_⟩))
      go_roundg k2
      case measure => have := HJ1.out; have := HK2.out; omega
      case rel => exact ⟨(wrap64 (x3_2 + 1)), eqd, H', ⟨by have := HJ1.out; have := HK2.out; omega⟩, by repeat (first | exact Drawn0.refl _ | apply Drawn0.step)⟩
     ·replace c10 := Bool.eq_false_iff.mpr c10
      subst c10
      replace H := if_ H
      obtain rfl := Option.some.inj H
      have p320 : 0 ≤ (x3_2 : Int) := ofd
      have q320 : x3_2 < (l0.length : Int) := ofd
      obtain ⟨ad320, e320, hx320_0⟩ := Kd.at_int HR0.out x3_2 p320 q320
      cases e320
      replace p320 := eq_true p320
      replace q320 := eq_true q320
      go_wp2_with (first | ((with_reducible refine gate_callee (f := 44) rfl ?_); refine goesA (some 26) Try.func44 #[.int .i64 (rd l0 x3_2), .int .i64 0, .int .i64 (wrap64 (x3_2 - 1))] ?_; (with_reducible refine (Zcc.calls (rd l0 x3_2) 0 (wrap64 (x3_2 - 1)) false _ A9.out).mono ?_); rintro e w' ⟨rfl, ⟨nd, rfl⟩⟩; refine ⟨_, rfl, ?_⟩))
      go_ret
      exact ⟨by first | rfl | (simp; done) | (simp [*]; done), by repeat (first | exact Drawn0.refl _ | apply Drawn0.step)⟩
noncomputable def Zao.J0 (x0 : List Int) (x13 : Bool) : Option (Bool) := lim fun k => Zao.j0 k x0 x13
theorem Zao.J0_lim (x0 : List Int) (x13 : Bool) : Lim (fun k => Zao.j0 k x0 x13) (Zao.J0 x0 x13) := Lim.of fun k => (Zao.mono_l k).1 x0 x13
noncomputable def Zao.L0 (x0 : List Int) (x3 : Int) : Option (Bool) := lim fun k => Zao.l0 k x0 x3
theorem Zao.L0_lim (x0 : List Int) (x3 : Int) : Lim (fun k => Zao.l0 k x0 x3) (Zao.L0 x0 x3) := Lim.of fun k => (Zao.mono_l k).2 x0 x3
noncomputable def Zao.F (l0 : List Int) : Option (Bool) := lim fun k => Zao.f k l0
theorem Zao.F_lim (l0 : List Int) : Lim (fun k => Zao.f k l0) (Zao.F l0) := Lim.of fun k => Zao.mono l0 k
theorem Zao.J0_eq (x0 : List Int) (x13 : Bool) : Zao.J0 x0 x13 = (if x13 = true then (some false) else (Zao.L0 x0 1)) :=
 Lim.step (f := fun k => Zao.j0 (k + 1) x0 x13) (Zao.J0_lim x0 x13) (fun _ => rfl) (by
  simp only [Zao.j0]
  repeat' (first | (with_reducible first | exact Lim.const _ | exact Zao.L0_lim _ _ | refine Lim.ite ?_ ?_ | refine Lim.bind ?_ (fun _ => ?_))))
theorem Zao.L0_eq (x0 : List Int) (x3 : Int) : Zao.L0 x0 x3 = (if x3 < (x0.length : Int) then (if 0 ≤ x3 then ((Zcc.f (rd x0 x3) 0 (wrap64 (x3 - 1))).bind fun t321 => (if t321 = true then (Zao.L0 x0 (wrap64 (x3 + 1))) else (some false))) else (none)) else (some true)) :=
 Lim.step (f := fun k => Zao.l0 (k + 1) x0 x3) (Zao.L0_lim x0 x3) (fun _ => rfl) (by
  simp only [Zao.l0]
  repeat' (first | (with_reducible first | exact Lim.const _ | exact Zao.L0_lim _ _ | refine Lim.ite ?_ ?_ | refine Lim.bind ?_ (fun _ => ?_))))
theorem Zao.F_eq (l0 : List Int) : Zao.F l0 = ((Zcc.f (l0.length : Int) 1 9).bind fun t318 => (if t318 = true then (if 0 < (l0.length : Int) then (Zao.J0 l0 ((rd l0 0) != (-1))) else (none)) else (Zao.J0 l0 true))) :=
 Lim.unique (Zao.F_lim l0) (by
  unfold Zao.f
  repeat' (first | (with_reducible first | exact Lim.const _ | exact Zao.J0_lim _ _ | refine Lim.ite ?_ ?_ | refine Lim.bind ?_ (fun _ => ?_))))
mutual
def Zak.l0 : Nat → List Int → List Int → Int → Option (Bool × Bool)
 | 0, _, _, _ => none
 | k + 1, x0, x4, x5 => if x5 < (x0.length : Int) then (if 0 ≤ x5 then (if x5 < (x4.length : Int) then ((some (x4.set (x5 : Int).toNat (wrap64 ((rd x4 x5) + 1)) : List Int)).bind fun y327 => (if 0 ≤ (rd x0 x5) then (if (rd x0 x5) < (x4.length : Int) then (Zak.l0 k x0 (y327.set ((rd x0 x5) : Int).toNat (wrap64 ((rd y327 (rd x0 x5)) + 1))) (wrap64 (x5 + 1))) else (none)) else (none))) else (none)) else (none)) else (if 0 ≤ (x0.length : Int) then (if ((x0.length : Int) : Int).toNat ≤ 35184372088832 then (Zak.l1 k x0 x4 (List.replicate ((x0.length : Int) : Int).toNat 0) 1) else (none)) else (none))
def Zak.l1 : Nat → List Int → List Int → List Int → Int → Option (Bool × Bool)
 | 0, _, _, _, _ => none
 | k + 1, x0, x4, x6, x7 => if x7 < (x0.length : Int) then (if 0 ≤ x7 then (if x7 < (x4.length : Int) then (if (rd x4 x7) > 1 then (if 0 ≤ (rd x0 x7) then (if (rd x0 x7) < (x4.length : Int) then (if (rd x4 (rd x0 x7)) > 1 then (if x7 < (x6.length : Int) then ((some (x6.set (x7 : Int).toNat (wrap64 ((rd x6 x7) + 1)) : List Int)).bind fun y338 => (if (rd x0 x7) < (x6.length : Int) then (Zak.l1 k x0 x4 (y338.set ((rd x0 x7) : Int).toNat (wrap64 ((rd y338 (rd x0 x7)) + 1))) (wrap64 (x7 + 1))) else (none))) else (none)) else (Zak.l1 k x0 x4 x6 (wrap64 (x7 + 1)))) else (none)) else (none)) else (Zak.l1 k x0 x4 x6 (wrap64 (x7 + 1)))) else (none)) else (none)) else ((Zba.f k x6 0 2).bind fun t341 => (some (t341, true)))
end
def Zak.f (k : Nat) (l0 : List Int) : Option (Bool × Bool) := (Zao.f k l0).bind fun t322 => (if t322 = true then (if 0 ≤ (l0.length : Int) then (if ((l0.length : Int) : Int).toNat ≤ 35184372088832 then (Zak.l0 k l0 (List.replicate ((l0.length : Int) : Int).toNat 0) 1) else (none)) else (none)) else (some (false, false)))
theorem Zak.mono_l : ∀ k, (∀ y0 y1 y2, LeO (Zak.l0 k y0 y1 y2) (Zak.l0 (k + 1) y0 y1 y2)) ∧ (∀ y0 y1 y2 y3, LeO (Zak.l1 k y0 y1 y2 y3) (Zak.l1 (k + 1) y0 y1 y2 y3))
 | 0 => ⟨fun _ _ _ r h => by simp [Zak.l0] at h, fun _ _ _ _ r h => by simp [Zak.l1] at h⟩
 | k + 1 => by
  obtain ⟨ih0, ih1⟩ := Zak.mono_l k
  refine ⟨?_, ?_⟩
  ·intro y0 y1 y2
   unfold Zak.l0
   repeat' (first | (with_reducible first | exact ih0 _ _ _ | exact ih1 _ _ _ _ | exact LeO.refl _ | exact LeO.none _ | refine LeO.ite ?_ ?_ | refine LeO.bind ?_ (fun _ => ?_)) | exact ih0 _ _ _ | exact ih1 _ _ _ _ | exact LeO.none _ | refine LeO.ite ?_ ?_ | refine LeO.bind ?_ (fun _ => ?_))
  ·intro y0 y1 y2 y3
   unfold Zak.l1
   repeat' (first | (with_reducible first | exact ih1 _ _ _ _ | exact Zba.mono _ _ _ _ | exact LeO.refl _ | exact LeO.none _ | refine LeO.ite ?_ ?_ | refine LeO.bind ?_ (fun _ => ?_)) | exact ih1 _ _ _ _ | exact Zba.mono _ _ _ _ | exact LeO.none _ | refine LeO.ite ?_ ?_ | refine LeO.bind ?_ (fun _ => ?_))
theorem Zak.mono : ∀ a0 k, LeO (Zak.f k a0) (Zak.f (k + 1) a0) := by
 intro a0 k
 obtain ⟨ih0, ih1⟩ := Zak.mono_l k
 unfold Zak.f
 repeat' (first | (with_reducible first | exact ih0 _ _ _ | exact Zao.mono _ _ | exact LeO.refl _ | exact LeO.none _ | refine LeO.ite ?_ ?_ | refine LeO.bind ?_ (fun _ => ?_)) | exact ih0 _ _ _ | exact Zao.mono _ _ | exact LeO.none _ | refine LeO.ite ?_ ?_ | refine LeO.bind ?_ (fun _ => ?_))
theorem Zak.calls (k : Nat) (A0 : Option Addr) (c0 : Nat) (l0 : List Int) (r1 : Bool) (r2 : Bool) (w : World) (hr0 : Kd.C (Kd.int .i64) w A0 l0.length l0) (hc0 : l0.length ≤ c0) (h : Zak.f k l0 = some (r1, r2)) :
  Calls Try.prog 22 #[.slice A0 l0.length c0] w fun e w' => e = .returned (.tuple #[.bool r1, .bool r2]) ∧ Below w.heap.size w w' := by
 have HR0 := Aside0.mk hr0
 have HC0 := Aside0.mk hc0
 clear hr0 hc0
 have HB := Aside0.mk (Below.refl w.heap.size w)
 have H := h
 unfold Zak.f at H
 clear h
 obtain ⟨t322, A2, H⟩ := bs_ H
 (try dsimp only at H)
 by_cases c3 : t322 = true
 rotate_left
 ·replace c3 := Bool.eq_false_iff.mpr c3
  subst c3
  replace H := if_ H
  simp only [Option.some.injEq, Prod.mk.injEq] at H
  obtain ⟨rfl, rfl⟩ := H
  go_enter Try.func22, Try.ntmps22
  go_wp2_with (first | ((with_reducible refine gate_callee (f := 49) rfl ?_); refine goesA (some 10) Try.func49 #[.slice A0 l0.length c0] ?_; (with_reducible refine (Zao.calls k _ _ l0 false _ ?side1 ?side2 A2.out).mono ?_); (case side1 => repeat (first | exact HR0.out | (with_reducible refine Kd.C_alloc ?_ _) | (with_reducible refine Kd.C_drewN ?_ _) | (with_reducible refine Kd.C_drew ?_))); (case side2 => exact HC0.out); rintro e w' ⟨rfl, ⟨nd, rfl⟩⟩; refine ⟨_, rfl, ?_⟩))
  go_ret2
  exact ⟨eqr, atB HB⟩
 subst c3
 replace H := it_ H
 obtain ⟨c4b0, c4b1, H⟩ := in2_ H
 obtain ⟨c5b0, c5b1, H⟩ := in2_ H
 obtain ⟨y323, hy323⟩ : ∃ y_ : List Int, y_ = (List.replicate ((l0.length : Int) : Int).toNat 0) := ⟨_, rfl⟩
 replace H : (Zak.l0 k l0 y323 1) = some (r1, r2) := by first | (rw [hy323]; with_reducible exact H) | (have H2_ := (Option.bind_some _ _).symm.trans H; rw [hy323]; with_reducible exact H2_) | (have H2_ := (Option.bind_some _ _).symm.trans H; with_reducible exact H2_) | with_reducible exact H | (rw [hy323]; exact H) | exact H
 have Ny323 := Aside0.mk hy323
 clear hy323
 have H' := Aside0.mk H
 clear H
 go_enter Try.func22, Try.ntmps22
 go_wp2_with (first | ((with_reducible refine gate_callee (f := 49) rfl ?_); refine goesA (some 10) Try.func49 #[.slice A0 l0.length c0] ?_; (with_reducible refine (Zao.calls k _ _ l0 true _ ?side1 ?side2 A2.out).mono ?_); (case side1 => repeat (first | exact HR0.out | (with_reducible refine Kd.C_alloc ?_ _) | (with_reducible refine Kd.C_drewN ?_ _) | (with_reducible refine Kd.C_drew ?_))); (case side2 => exact HC0.out); rintro e w' ⟨rfl, ⟨nd, rfl⟩⟩; refine ⟨_, rfl, ?_⟩) | ((with_reducible refine gate_dst (N := 14) rfl ?_); refine Kd.R_make (Kd.int .i64) _ 3 rfl (N := 14) rfl 24 _ _ rfl (l0.length : Int) rfl rfl Try.underlying24 (.int .i64 0) 8 info3 rfl (by decide) (by omega) 0 (ok := fun _ => True) (okp := fun _ => True) rfl (fun _ hk => hk) trivial (of_decide_eq_true (by first | (with_reducible assumption) | assumption)) (Nat.le_trans (Nat.mul_le_mul_right _ (of_decide_eq_true (by first | (with_reducible assumption) | assumption) : (l0.length : Int).toNat ≤ 35184372088832)) (by omega)) (Below.refl _ _) (Nat.le_refl _) ?_; intro v324 w6 ho7 hb hg_ hnew_; clear hg_ hnew_; (first | rw [← Ny323.out] at ho7 | (simp only [Int.reduceToNat] at ho7; rw [← Ny323.out] at ho7)); have HO325 := lowR ho7 HB; replace HB := upB HB hb; clear hb ho7))
 go_loopg [5] k (fun kq v5 w' => ∃ (x4_1 : List Int) (x5_1 : Int), v5 = .int .i64 x5_1 ∧ Aside0 (Zak.l0 kq l0 x4_1 x5_1 = some (r1, r2)) ∧ Aside0 (kq ≤ k) ∧ Aside0 (Kd.R (Kd.int .i64) 3 w' w.heap.size (fun _ => True) v324 x4_1) ∧ Aside0 (Below w.heap.size w w'))
 case atStart => exact ⟨(y323), (1), eqd, H', ⟨Nat.le_refl _⟩, ⟨atR HO325⟩, ⟨atB HB⟩⟩
 case round =>
  clear H'
  try clear c3
  try clear c4b0
  try clear c4b1
  try clear c5b0
  try clear c5b1
  obtain ⟨x4_1, x5_1, rfl, HA, HK1, HO_4, HB⟩ := hrel
  cases gk with
  | zero => exact absurd HA.out (by simp [Zak.l0])
  | succ k1 =>
   have H := HA.out
   clear HA
   simp only [Zak.l0] at H
   by_cases c8 : x5_1 < (l0.length : Int)
   ·rw [if_pos c8] at H
    have c8b0 := decide_eq_true c8
    clear c8
    obtain ⟨c9b0, H⟩ := in_ H
    obtain ⟨c10b0, H⟩ := in_ H
    obtain ⟨y327, hy327⟩ : ∃ y_ : List Int, y_ = (x4_1.set (x5_1 : Int).toNat (wrap64 ((rd x4_1 x5_1) + 1))) := ⟨_, rfl⟩
    replace H : (if 0 ≤ (rd l0 x5_1) then (if (rd l0 x5_1) < (x4_1.length : Int) then (Zak.l0 k1 l0 (y327.set ((rd l0 x5_1) : Int).toNat (wrap64 ((rd y327 (rd l0 x5_1)) + 1))) (wrap64 (x5_1 + 1))) else (none)) else (none)) = some (r1, r2) := by first | (rw [hy327]; with_reducible exact H) | (have H2_ := (Option.bind_some _ _).symm.trans H; rw [hy327]; with_reducible exact H2_) | (have H2_ := (Option.bind_some _ _).symm.trans H; with_reducible exact H2_) | with_reducible exact H | (rw [hy327]; exact H) | exact H
    have Ny327 := Aside0.mk hy327
    clear hy327
    obtain ⟨c12b0, H⟩ := in_ H
    obtain ⟨c13b0, H⟩ := in_ H
    obtain ⟨y330, hy330⟩ : ∃ y_ : List Int, y_ = (y327.set ((rd l0 x5_1) : Int).toNat (wrap64 ((rd y327 (rd l0 x5_1)) + 1))) := ⟨_, rfl⟩
    replace H : (Zak.l0 k1 l0 y330 (wrap64 (x5_1 + 1))) = some (r1, r2) := by first | (rw [hy330]; with_reducible exact H) | (have H2_ := (Option.bind_some _ _).symm.trans H; rw [hy330]; with_reducible exact H2_) | (have H2_ := (Option.bind_some _ _).symm.trans H; with_reducible exact H2_) | with_reducible exact H | (rw [hy330]; exact H) | exact H
    have Ny330 := Aside0.mk hy330
    clear hy330
    have H' := Aside0.mk H
    clear H
    obtain ⟨Ao15, co15, eo15⟩ := Kd.R_slice HO_4.out
    subst eo15
    have p326 : 0 ≤ (x5_1 : Int) := ofd
    have q326 : x5_1 < (x4_1.length : Int) := ofd
    obtain ⟨ad326, e326, hx326_0⟩ := Kd.at_int (Kd.R_reads' HO_4.out).2.2 x5_1 p326 q326
    cases e326
    replace p326 := eq_true p326
    replace q326 := eq_true q326
    have p11 : 0 ≤ (x5_1 : Int) := ofd
    have q11 : (x5_1 : Int) < ((x4_1.length : Int) : Int) := ofd
    obtain ⟨go11, co11, eo11, gb11, gl11, cl11, HG11⟩ := Kd.R_form HO_4.out (by omega)
    (first | cases eo11 | (injection eo11 with ea_ en_ ec_; (first | subst ea_ | (injection ea_ with ea_; subst ea_)); subst ec_; clear en_))
    have GB11 := Aside0.mk gb11
    have GG11 := Aside0.mk HG11
    clear gb11 gl11 HG11
    (first | simp only [add_plain] at hx326_0 | skip)
    obtain ⟨hx11_0, hf11_0⟩ := Kd.R_celln 0 HO_4.out (x5_1 : Int) p11 q11
    replace p11 := eq_true p11
    replace q11 := eq_true q11
    have HP16 := Kd.R_putg HO_4.out (x5_1 : Int) (wrap64 ((rd x4_1 x5_1) + 1))
    go_wp2_with (first | ((with_reducible refine gate_store (t := 3) (p := 26) rfl ?_); refine store_event (t := 3) (p := 26) (v := ?vo_w17) (w1 := (wr.setCell ⟨go11, (x5_1 : Int).toNat, none⟩ (.int .i64 (wrap64 ((rd x4_1 x5_1) + 1))))) ?hg ?ho ?hn ?hr ?_; (case ho => rfl); (case hg => rfl); (case hn => rfl); (case hr => first | (go_simp; done) | (go_simp; rfl)); intro w17 hw; have hg : wr.grownBy w17 (some go11) := (by rw [hw]; exact HP16.2); have hp_ : Kd.R (Kd.int .i64) 3 w17 w.heap.size (fun _ => True) (.slice (some ⟨go11, 0, none⟩) x4_1.length co15) y327 := (by rw [hw, Ny327.out]; exact HP16.1); clear HP16; replace HO_4 := Aside0.mk (hp_); replace HB := Aside0.mk ((by rw [hw]; exact below_set (HB.out) GB11.out : Below w.heap.size w w17)); clear hg hw hp_; have p328 : 0 ≤ (x5_1 : Int) := ofd; have q328 : x5_1 < (l0.length : Int) := ofd; obtain ⟨ad328, e328, hx328_0⟩ := Kd.at_int HR0.out x5_1 p328 q328; cases e328; replace hx328_0 := (HB.out.cell (World.block_lt_of_cell? w _ hx328_0)).trans hx328_0; replace p328 := eq_true p328; replace q328 := eq_true q328; have p329 : 0 ≤ ((rd l0 x5_1) : Int) := ofd; have q329 : (rd l0 x5_1) < (y327.length : Int) := (by have h_ : ((rd l0 x5_1) : Int) < ((x4_1.length : Int) : Int) := ofd; first | (have e_ := (Kd.R_reads' HO_4.out).1; omega) | simpa only [Ny327.out, List.length_set] using h_); have ql329 : (((rd l0 x5_1) : Int) < ((x4_1.length : Int) : Int)) = True := eq_true (of_decide_eq_true (by first | (with_reducible assumption) | assumption)); obtain ⟨ad329, e329, hx329_0⟩ := Kd.at_int (Kd.R_reads' HO_4.out).2.2 (rd l0 x5_1) p329 q329; obtain rfl : (⟨go11, 0, none⟩ : Addr) = ad329 := (by injection e329); (first | simp only [add_plain] at hx329_0 | simp only [add_at] at hx329_0 | simp only [Addr.add, Nat.zero_add] at hx329_0 | skip); replace p329 := eq_true p329; replace q329 := eq_true q329; have p14 : 0 ≤ ((rd l0 x5_1) : Int) := ofd; have q14 : ((rd l0 x5_1) : Int) < ((x4_1.length : Int) : Int) := ofd; obtain ⟨hx14_0, hf14_0⟩ := Kd.R_celln 0 HO_4.out ((rd l0 x5_1) : Int) p14 q14; replace p14 := eq_true p14; replace q14 := eq_true q14; obtain ⟨hy18_, hz18_⟩ := Kd.R_celln 0 HO_4.out ((rd l0 x5_1) : Int) (of_decide_eq_true (by first | (with_reducible assumption) | assumption)) (of_decide_eq_true (by first | (with_reducible assumption) | assumption)); have HP18 := Kd.R_putg HO_4.out ((rd l0 x5_1) : Int) (wrap64 ((rd y327 (rd l0 x5_1)) + 1))) | ((with_reducible refine gate_store (t := 3) (p := 35) rfl ?_); refine store_event (t := 3) (p := 35) (v := ?vo_w19) (w1 := (w17.setCell ⟨go11, ((rd l0 x5_1) : Int).toNat, none⟩ (.int .i64 (wrap64 ((rd y327 (rd l0 x5_1)) + 1))))) ?hg ?ho ?hn ?hr ?_; (case ho => rfl); (case hg => rfl); (case hn => rfl); (case hr => first | (go_simp; done) | (go_simp; rfl)); intro w19 hw; have hg : w17.grownBy w19 (some go11) := (by rw [hw]; exact HP18.2); have hp_ : Kd.R (Kd.int .i64) 3 w19 w.heap.size (fun _ => True) (.slice (some ⟨go11, 0, none⟩) x4_1.length co15) y330 := (by rw [hw, Ny330.out]; exact HP18.1); clear HP18; replace HO_4 := Aside0.mk (hp_); replace HB := Aside0.mk ((by rw [hw]; exact below_set (HB.out) GB11.out : Below w.heap.size w w19)); clear hg hw hp_))
    go_roundg k1
    case measure => have := HK1.out; omega
    case rel => exact ⟨(y330), (wrap64 (x5_1 + 1)), eqd, H', ⟨by have := HK1.out; omega⟩, ⟨atR HO_4⟩, ⟨atB HB⟩⟩
   ·rw [if_neg c8] at H
    have c8b0 := decide_eq_false c8
    clear c8
    obtain ⟨c20b0, c20b1, H⟩ := in2_ H
    obtain ⟨c21b0, c21b1, H⟩ := in2_ H
    obtain ⟨y331, hy331⟩ : ∃ y_ : List Int, y_ = (List.replicate ((l0.length : Int) : Int).toNat 0) := ⟨_, rfl⟩
    replace H : (Zak.l1 k1 l0 x4_1 y331 1) = some (r1, r2) := by first | (rw [hy331]; with_reducible exact H) | (have H2_ := (Option.bind_some _ _).symm.trans H; rw [hy331]; with_reducible exact H2_) | (have H2_ := (Option.bind_some _ _).symm.trans H; with_reducible exact H2_) | with_reducible exact H | (rw [hy331]; exact H) | exact H
    have Ny331 := Aside0.mk hy331
    clear hy331
    have H' := Aside0.mk H
    clear H
    go_wp2_with (first | ((with_reducible refine gate_dst (N := 38) rfl ?_); refine Kd.R_make (Kd.int .i64) _ 3 rfl (N := 38) rfl 24 _ _ rfl (l0.length : Int) rfl rfl Try.underlying24 (.int .i64 0) 8 info3 rfl (by decide) (by omega) 0 (ok := fun _ => True) (okp := fun _ => True) rfl (fun _ hk => hk) trivial (of_decide_eq_true (by first | (with_reducible assumption) | assumption)) (Nat.le_trans (Nat.mul_le_mul_right _ (of_decide_eq_true (by first | (with_reducible assumption) | assumption) : (l0.length : Int).toNat ≤ 35184372088832)) (by omega)) (Below.refl _ _) (Nat.le_refl _) ?_; intro v332 w22 ho23 hb hg_ hnew_; clear hg_ hnew_; (first | rw [← Ny331.out] at ho23 | (simp only [Int.reduceToNat] at ho23; rw [← Ny331.out] at ho23)); have HO333 := Aside0.mk (Kd.R_lower (Kd.R_new' ho23 (ltR HO_4)) (szB HB)); replace HO_4 := eldRR HO_4 ho23 hb; replace HB := upB HB hb; clear hb ho23))
    go_loopg [7] k1 (fun kq v7 w' => ∃ (x6_2 : List Int) (x7_2 : Int), v7 = .int .i64 x7_2 ∧ Aside0 (Zak.l1 kq l0 x4_1 x6_2 x7_2 = some (r1, r2)) ∧ Aside0 (kq ≤ k1) ∧ Aside0 (Kd.R (Kd.int .i64) 3 w' w.heap.size (fun k_ => some k_ ≠ (v332 : Value).ownBlock) v324 x4_1) ∧ Aside0 (Kd.R (Kd.int .i64) 3 w' w.heap.size (fun k_ => some k_ ≠ (v324 : Value).ownBlock) v332 x6_2) ∧ Aside0 (Below w.heap.size w w'))
    case atStart => exact ⟨(y331), (1), eqd, H', ⟨Nat.le_refl _⟩, ⟨by (with_reducible repeat (first | apply Kd.R_alloc | apply Kd.R_drewN | apply Kd.R_drew)); exact Kd.R_mono HO_4.out (fun _ hk => hk.2)⟩, ⟨by (with_reducible repeat (first | apply Kd.R_alloc | apply Kd.R_drewN | apply Kd.R_drew)); exact Kd.R_mono HO333.out (fun _ hk => hk.2)⟩, ⟨atB HB⟩⟩
    case round =>
     clear H'
     try clear c8b0
     try clear c20b0
     try clear c20b1
     try clear c21b0
     try clear c21b1
     obtain ⟨x6_2, x7_2, rfl, HA, HK2, HO_4, HO_6, HB⟩ := hrel
     cases gk with
     | zero => exact absurd HA.out (by simp [Zak.l1])
     | succ k2 =>
      have H := HA.out
      clear HA
      simp only [Zak.l1] at H
      by_cases c24 : x7_2 < (l0.length : Int)
      rotate_left
      ·rw [if_neg c24] at H
       have c24b0 := decide_eq_false c24
       clear c24
       obtain ⟨t341, A43, H⟩ := bs_ H
       (try dsimp only at H)
       simp only [Option.some.injEq, Prod.mk.injEq] at H
       obtain ⟨rfl, rfl⟩ := H
       obtain ⟨Ao44, co44, eo44⟩ := Kd.R_slice HO_6.out
       subst eo44
       go_wp2_with (first | ((with_reducible refine gate_callee (f := 50) rfl ?_); refine goesA (some 74) Try.func50 #[.slice Ao44 x6_2.length co44, .int .i64 0, .int .i64 2] ?_; (with_reducible refine (Zba.calls k2 _ _ x6_2 0 2 t341 _ ?side1 ?side2 A43.out).mono ?_); (case side1 => exact atRC HO_6); (case side2 => exact (Kd.R_reads' HO_6.out).2.1); rintro e w' ⟨rfl, ⟨nd, rfl⟩⟩; refine ⟨_, rfl, ?_⟩))
       go_ret2
       exact ⟨eqr, atB HB⟩
      rw [if_pos c24] at H
      have c24b0 := decide_eq_true c24
      clear c24
      obtain ⟨c25b0, H⟩ := in_ H
      obtain ⟨c26b0, H⟩ := in_ H
      by_cases c27 : (rd x4_1 x7_2) > 1
      ·rw [if_pos c27] at H
       have c27b0 := decide_eq_true c27
       clear c27
       obtain ⟨c28b0, H⟩ := in_ H
       obtain ⟨c29b0, H⟩ := in_ H
       by_cases c30 : (rd x4_1 (rd l0 x7_2)) > 1
       ·rw [if_pos c30] at H
        have c30b0 := decide_eq_true c30
        clear c30
        obtain ⟨c31b0, H⟩ := in_ H
        obtain ⟨y338, hy338⟩ : ∃ y_ : List Int, y_ = (x6_2.set (x7_2 : Int).toNat (wrap64 ((rd x6_2 x7_2) + 1))) := ⟨_, rfl⟩
        replace H : (if (rd l0 x7_2) < (x6_2.length : Int) then (Zak.l1 k2 l0 x4_1 (y338.set ((rd l0 x7_2) : Int).toNat (wrap64 ((rd y338 (rd l0 x7_2)) + 1))) (wrap64 (x7_2 + 1))) else (none)) = some (r1, r2) := by first | (rw [hy338]; with_reducible exact H) | (have H2_ := (Option.bind_some _ _).symm.trans H; rw [hy338]; with_reducible exact H2_) | (have H2_ := (Option.bind_some _ _).symm.trans H; with_reducible exact H2_) | with_reducible exact H | (rw [hy338]; exact H) | exact H
        have Ny338 := Aside0.mk hy338
        clear hy338
        obtain ⟨c33b0, H⟩ := in_ H
        obtain ⟨y340, hy340⟩ : ∃ y_ : List Int, y_ = (y338.set ((rd l0 x7_2) : Int).toNat (wrap64 ((rd y338 (rd l0 x7_2)) + 1))) := ⟨_, rfl⟩
        replace H : (Zak.l1 k2 l0 x4_1 y340 (wrap64 (x7_2 + 1))) = some (r1, r2) := by first | (rw [hy340]; with_reducible exact H) | (have H2_ := (Option.bind_some _ _).symm.trans H; rw [hy340]; with_reducible exact H2_) | (have H2_ := (Option.bind_some _ _).symm.trans H; with_reducible exact H2_) | with_reducible exact H | (rw [hy340]; exact H) | exact H
        have Ny340 := Aside0.mk hy340
        clear hy340
        have H' := Aside0.mk H
        clear H
        have p334 : 0 ≤ (x7_2 : Int) := ofd
        have q334 : x7_2 < (l0.length : Int) := ofd
        obtain ⟨ad334, e334, hx334_0⟩ := Kd.at_int HR0.out x7_2 p334 q334
        cases e334
        (try replace hx334_0 := (HB.out.cell (World.block_lt_of_cell? w _ hx334_0)).trans hx334_0)
        replace p334 := eq_true p334
        replace q334 := eq_true q334
        obtain ⟨Ao35, co35, eo35⟩ := Kd.R_slice HO_4.out
        subst eo35
        have p335 : 0 ≤ (x7_2 : Int) := ofd
        have q335 : x7_2 < (x4_1.length : Int) := ofd
        obtain ⟨ad335, e335, hx335_0⟩ := Kd.at_int (Kd.R_reads' HO_4.out).2.2 x7_2 p335 q335
        cases e335
        replace p335 := eq_true p335
        replace q335 := eq_true q335
        have p336 : 0 ≤ ((rd l0 x7_2) : Int) := ofd
        have q336 : (rd l0 x7_2) < (x4_1.length : Int) := ofd
        obtain ⟨ad336, e336, hx336_0⟩ := Kd.at_int (Kd.R_reads' HO_4.out).2.2 (rd l0 x7_2) p336 q336
        obtain rfl : ad335 = ad336 := (by injection e336)
        replace p336 := eq_true p336
        replace q336 := eq_true q336
        obtain ⟨Ao36, co36, eo36⟩ := Kd.R_slice HO_6.out
        subst eo36
        have p337 : 0 ≤ (x7_2 : Int) := ofd
        have q337 : x7_2 < (x6_2.length : Int) := ofd
        obtain ⟨ad337, e337, hx337_0⟩ := Kd.at_int (Kd.R_reads' HO_6.out).2.2 x7_2 p337 q337
        cases e337
        replace p337 := eq_true p337
        replace q337 := eq_true q337
        have p32 : 0 ≤ (x7_2 : Int) := ofd
        have q32 : (x7_2 : Int) < ((x6_2.length : Int) : Int) := ofd
        obtain ⟨go32, co32, eo32, gb32, gl32, cl32, HG32⟩ := Kd.R_form HO_6.out (by omega)
        (first | cases eo32 | (injection eo32 with ea_ en_ ec_; (first | subst ea_ | (injection ea_ with ea_; subst ea_)); subst ec_; clear en_))
        have GB32 := Aside0.mk gb32
        have GG32 := Aside0.mk HG32
        clear gb32 gl32 HG32
        (first | simp only [add_plain] at hx337_0 | skip)
        obtain ⟨hx32_0, hf32_0⟩ := Kd.R_celln 0 HO_6.out (x7_2 : Int) p32 q32
        replace p32 := eq_true p32
        replace q32 := eq_true q32
        have HP37 := Kd.R_putg HO_6.out (x7_2 : Int) (wrap64 ((rd x6_2 x7_2) + 1))
        go_wp2_with (first | ((with_reducible refine gate_store (t := 3) (p := 66) rfl ?_); refine store_event (t := 3) (p := 66) (v := ?vo_w38) (w1 := (wr.setCell ⟨go32, (x7_2 : Int).toNat, none⟩ (.int .i64 (wrap64 ((rd x6_2 x7_2) + 1))))) ?hg ?ho ?hn ?hr ?_; (case ho => rfl); (case hg => rfl); (case hn => rfl); (case hr => first | (go_simp; done) | (go_simp; rfl)); intro w38 hw; have hg : wr.grownBy w38 (some go32) := (by rw [hw]; exact HP37.2); have hp_ : Kd.R (Kd.int .i64) 3 w38 w.heap.size (fun k_ => some k_ ≠ (.slice (some ad335) x4_1.length co35 : Value).ownBlock) (.slice (some ⟨go32, 0, none⟩) x6_2.length co36) y338 := (by rw [hw, Ny338.out]; exact HP37.1); clear HP37; replace HO_4 := Aside0.mk (Kd.R_after (v := (.slice (some ⟨go32, 0, none⟩) x6_2.length co36)) (v1 := (.slice (some ⟨go32, 0, none⟩) x6_2.length co36)) (ok := (fun _ => True)) (by (with_reducible repeat (first | apply Kd.R_alloc | apply Kd.R_drewN | apply Kd.R_drew)); exact Kd.R_mono HO_4.out (fun _ hk => ⟨trivial, hk⟩)) hg (.inl rfl)); replace HO_6 := Aside0.mk (hp_); replace HB := Aside0.mk ((by rw [hw]; exact below_set (HB.out) GB32.out : Below w.heap.size w w38)); clear hg hw hp_; have p339 : 0 ≤ ((rd l0 x7_2) : Int) := ofd; have q339 : (rd l0 x7_2) < (y338.length : Int) := (by have h_ : ((rd l0 x7_2) : Int) < ((x6_2.length : Int) : Int) := ofd; first | (have e_ := (Kd.R_reads' HO_6.out).1; omega) | simpa only [Ny338.out, List.length_set] using h_); have ql339 : (((rd l0 x7_2) : Int) < ((x6_2.length : Int) : Int)) = True := eq_true (of_decide_eq_true (by first | (with_reducible assumption) | assumption)); obtain ⟨ad339, e339, hx339_0⟩ := Kd.at_int (Kd.R_reads' HO_6.out).2.2 (rd l0 x7_2) p339 q339; obtain rfl : (⟨go32, 0, none⟩ : Addr) = ad339 := (by injection e339); (first | simp only [add_plain] at hx339_0 | simp only [add_at] at hx339_0 | simp only [Addr.add, Nat.zero_add] at hx339_0 | skip); replace p339 := eq_true p339; replace q339 := eq_true q339; have p34 : 0 ≤ ((rd l0 x7_2) : Int) := ofd; have q34 : ((rd l0 x7_2) : Int) < ((x6_2.length : Int) : Int) := ofd; obtain ⟨hx34_0, hf34_0⟩ := Kd.R_celln 0 HO_6.out ((rd l0 x7_2) : Int) p34 q34; replace p34 := eq_true p34; replace q34 := eq_true q34; obtain ⟨hy39_, hz39_⟩ := Kd.R_celln 0 HO_6.out ((rd l0 x7_2) : Int) (of_decide_eq_true (by first | (with_reducible assumption) | assumption)) (of_decide_eq_true (by first | (with_reducible assumption) | assumption)); have HP39 := Kd.R_putg HO_6.out ((rd l0 x7_2) : Int) (wrap64 ((rd y338 (rd l0 x7_2)) + 1))) | ((with_reducible refine gate_store (t := 3) (p := 72) rfl ?_); refine store_event (t := 3) (p := 72) (v := ?vo_w40) (w1 := (w38.setCell ⟨go32, ((rd l0 x7_2) : Int).toNat, none⟩ (.int .i64 (wrap64 ((rd y338 (rd l0 x7_2)) + 1))))) ?hg ?ho ?hn ?hr ?_; (case ho => rfl); (case hg => rfl); (case hn => rfl); (case hr => first | (go_simp; done) | (go_simp; rfl)); intro w40 hw; have hg : w38.grownBy w40 (some go32) := (by rw [hw]; exact HP39.2); have hp_ : Kd.R (Kd.int .i64) 3 w40 w.heap.size (fun k_ => some k_ ≠ (.slice (some ad335) x4_1.length co35 : Value).ownBlock) (.slice (some ⟨go32, 0, none⟩) x6_2.length co36) y340 := (by rw [hw, Ny340.out]; exact HP39.1); clear HP39; replace HO_4 := Aside0.mk (Kd.R_after (v := (.slice (some ⟨go32, 0, none⟩) x6_2.length co36)) (v1 := (.slice (some ⟨go32, 0, none⟩) x6_2.length co36)) (ok := (fun _ => True)) (atR HO_4) hg (.inl rfl)); replace HO_6 := Aside0.mk (hp_); replace HB := Aside0.mk ((by rw [hw]; exact below_set (HB.out) GB32.out : Below w.heap.size w w40)); clear hg hw hp_))
        go_roundg k2
        case measure => have := HK1.out; have := HK2.out; omega
        case rel => exact ⟨(y340), (wrap64 (x7_2 + 1)), eqd, H', ⟨by have := HK1.out; have := HK2.out; omega⟩, ⟨by (with_reducible repeat (first | apply Kd.R_alloc | apply Kd.R_drewN | apply Kd.R_drew)); exact Kd.R_mono HO_4.out (fun _ hk => hk.2)⟩, ⟨atR HO_6⟩, ⟨atB HB⟩⟩
       ·rw [if_neg c30] at H
        have c30b0 := decide_eq_false c30
        clear c30
        have H' := Aside0.mk H
        clear H
        have p334 : 0 ≤ (x7_2 : Int) := ofd
        have q334 : x7_2 < (l0.length : Int) := ofd
        obtain ⟨ad334, e334, hx334_0⟩ := Kd.at_int HR0.out x7_2 p334 q334
        cases e334
        (try replace hx334_0 := (HB.out.cell (World.block_lt_of_cell? w _ hx334_0)).trans hx334_0)
        replace p334 := eq_true p334
        replace q334 := eq_true q334
        obtain ⟨Ao41, co41, eo41⟩ := Kd.R_slice HO_4.out
        subst eo41
        have p335 : 0 ≤ (x7_2 : Int) := ofd
        have q335 : x7_2 < (x4_1.length : Int) := ofd
        obtain ⟨ad335, e335, hx335_0⟩ := Kd.at_int (Kd.R_reads' HO_4.out).2.2 x7_2 p335 q335
        cases e335
        replace p335 := eq_true p335
        replace q335 := eq_true q335
        have p336 : 0 ≤ ((rd l0 x7_2) : Int) := ofd
        have q336 : (rd l0 x7_2) < (x4_1.length : Int) := ofd
        obtain ⟨ad336, e336, hx336_0⟩ := Kd.at_int (Kd.R_reads' HO_4.out).2.2 (rd l0 x7_2) p336 q336
        obtain rfl : ad335 = ad336 := (by injection e336)
        replace p336 := eq_true p336
        replace q336 := eq_true q336
        go_wp2
        go_roundg k2
        case measure => have := HK1.out; have := HK2.out; omega
        case rel => exact ⟨(x6_2), (wrap64 (x7_2 + 1)), eqd, H', ⟨by have := HK1.out; have := HK2.out; omega⟩, ⟨atR HO_4⟩, ⟨atR HO_6⟩, ⟨atB HB⟩⟩
      ·rw [if_neg c27] at H
       have c27b0 := decide_eq_false c27
       clear c27
       have H' := Aside0.mk H
       clear H
       have p334 : 0 ≤ (x7_2 : Int) := ofd
       have q334 : x7_2 < (l0.length : Int) := ofd
       obtain ⟨ad334, e334, hx334_0⟩ := Kd.at_int HR0.out x7_2 p334 q334
       cases e334
       (try replace hx334_0 := (HB.out.cell (World.block_lt_of_cell? w _ hx334_0)).trans hx334_0)
       replace p334 := eq_true p334
       replace q334 := eq_true q334
       obtain ⟨Ao42, co42, eo42⟩ := Kd.R_slice HO_4.out
       subst eo42
       have p335 : 0 ≤ (x7_2 : Int) := ofd
       have q335 : x7_2 < (x4_1.length : Int) := ofd
       obtain ⟨ad335, e335, hx335_0⟩ := Kd.at_int (Kd.R_reads' HO_4.out).2.2 x7_2 p335 q335
       cases e335
       replace p335 := eq_true p335
       replace q335 := eq_true q335
       go_wp2
       go_roundg k2
       case measure => have := HK1.out; have := HK2.out; omega
       case rel => exact ⟨(x6_2), (wrap64 (x7_2 + 1)), eqd, H', ⟨by have := HK1.out; have := HK2.out; omega⟩, ⟨atR HO_4⟩, ⟨atR HO_6⟩, ⟨atB HB⟩⟩
noncomputable def Zak.L0 (x0 : List Int) (x4 : List Int) (x5 : Int) : Option (Bool × Bool) := lim fun k => Zak.l0 k x0 x4 x5
theorem Zak.L0_lim (x0 : List Int) (x4 : List Int) (x5 : Int) : Lim (fun k => Zak.l0 k x0 x4 x5) (Zak.L0 x0 x4 x5) := Lim.of fun k => (Zak.mono_l k).1 x0 x4 x5
noncomputable def Zak.L1 (x0 : List Int) (x4 : List Int) (x6 : List Int) (x7 : Int) : Option (Bool × Bool) := lim fun k => Zak.l1 k x0 x4 x6 x7
theorem Zak.L1_lim (x0 : List Int) (x4 : List Int) (x6 : List Int) (x7 : Int) : Lim (fun k => Zak.l1 k x0 x4 x6 x7) (Zak.L1 x0 x4 x6 x7) := Lim.of fun k => (Zak.mono_l k).2 x0 x4 x6 x7
noncomputable def Zak.F (l0 : List Int) : Option (Bool × Bool) := lim fun k => Zak.f k l0
theorem Zak.F_lim (l0 : List Int) : Lim (fun k => Zak.f k l0) (Zak.F l0) := Lim.of fun k => Zak.mono l0 k
theorem Zak.L0_eq (x0 : List Int) (x4 : List Int) (x5 : Int) : Zak.L0 x0 x4 x5 = (if x5 < (x0.length : Int) then (if 0 ≤ x5 then (if x5 < (x4.length : Int) then ((some (x4.set (x5 : Int).toNat (wrap64 ((rd x4 x5) + 1)) : List Int)).bind fun y327 => (if 0 ≤ (rd x0 x5) then (if (rd x0 x5) < (x4.length : Int) then (Zak.L0 x0 (y327.set ((rd x0 x5) : Int).toNat (wrap64 ((rd y327 (rd x0 x5)) + 1))) (wrap64 (x5 + 1))) else (none)) else (none))) else (none)) else (none)) else (if 0 ≤ (x0.length : Int) then (if ((x0.length : Int) : Int).toNat ≤ 35184372088832 then (Zak.L1 x0 x4 (List.replicate ((x0.length : Int) : Int).toNat 0) 1) else (none)) else (none))) :=
 Lim.step (f := fun k => Zak.l0 (k + 1) x0 x4 x5) (Zak.L0_lim x0 x4 x5) (fun _ => rfl) (by
  simp only [Zak.l0]
  repeat' (first | (with_reducible first | exact Lim.const _ | exact Zak.L0_lim _ _ _ | exact Zak.L1_lim _ _ _ _ | refine Lim.ite ?_ ?_ | refine Lim.bind ?_ (fun _ => ?_))))
theorem Zak.L1_eq (x0 : List Int) (x4 : List Int) (x6 : List Int) (x7 : Int) : Zak.L1 x0 x4 x6 x7 = (if x7 < (x0.length : Int) then (if 0 ≤ x7 then (if x7 < (x4.length : Int) then (if (rd x4 x7) > 1 then (if 0 ≤ (rd x0 x7) then (if (rd x0 x7) < (x4.length : Int) then (if (rd x4 (rd x0 x7)) > 1 then (if x7 < (x6.length : Int) then ((some (x6.set (x7 : Int).toNat (wrap64 ((rd x6 x7) + 1)) : List Int)).bind fun y338 => (if (rd x0 x7) < (x6.length : Int) then (Zak.L1 x0 x4 (y338.set ((rd x0 x7) : Int).toNat (wrap64 ((rd y338 (rd x0 x7)) + 1))) (wrap64 (x7 + 1))) else (none))) else (none)) else (Zak.L1 x0 x4 x6 (wrap64 (x7 + 1)))) else (none)) else (none)) else (Zak.L1 x0 x4 x6 (wrap64 (x7 + 1)))) else (none)) else (none)) else ((Zba.F x6 0 2).bind fun t341 => (some (t341, true)))) :=
 Lim.step (f := fun k => Zak.l1 (k + 1) x0 x4 x6 x7) (Zak.L1_lim x0 x4 x6 x7) (fun _ => rfl) (by
  simp only [Zak.l1]
  repeat' (first | (with_reducible first | exact Lim.const _ | exact Zak.L1_lim _ _ _ _ | exact Zba.F_lim _ _ _ | refine Lim.ite ?_ ?_ | refine Lim.bind ?_ (fun _ => ?_))))
theorem Zak.F_eq (l0 : List Int) : Zak.F l0 = ((Zao.F l0).bind fun t322 => (if t322 = true then (if 0 ≤ (l0.length : Int) then (if ((l0.length : Int) : Int).toNat ≤ 35184372088832 then (Zak.L0 l0 (List.replicate ((l0.length : Int) : Int).toNat 0) 1) else (none)) else (none)) else (some (false, false)))) :=
 Lim.unique (Zak.F_lim l0) (by
  unfold Zak.f
  repeat' (first | (with_reducible first | exact Lim.const _ | exact Zak.L0_lim _ _ _ | exact Zao.F_lim _ | refine Lim.ite ?_ ?_ | refine Lim.bind ?_ (fun _ => ?_))))
def Zcz.f (l0 : List Int) (l1 : List Int) : Option (Bool) := if (l0.length : Int) > 1048576 then (some true) else (some (decide ((l1.length : Int) > (wrap64 (1048576 - (l0.length : Int))))))
theorem Zcz.calls (A0 : Option Addr) (c0 : Nat) (l0 : List Int) (A1 : Option Addr) (c1 : Nat) (l1 : List Int) (r : Bool) (w : World) (hr0 : Kd.C (Kd.int .u8) w A0 l0.length l0) (hc0 : l0.length ≤ c0) (hr1 : Kd.C (Kd.int .u8) w A1 l1.length l1) (hc1 : l1.length ≤ c1) (h : Zcz.f l0 l1 = some r) :
  Calls Try.prog 4 #[.slice A0 l0.length c0, .slice A1 l1.length c1] w fun e w' => e = .returned (.bool r) ∧ Drawn0 w w' := by
 have HR0 := Aside0.mk hr0
 have HC0 := Aside0.mk hc0
 clear hr0 hc0
 have HR1 := Aside0.mk hr1
 have HC1 := Aside0.mk hc1
 clear hr1 hc1
 have H := h
 unfold Zcz.f at H
 clear h
 by_cases c3 : (l0.length : Int) > 1048576
 rotate_left
 ·rw [if_neg c3] at H
  have c3b0 := decide_eq_false c3
  have c3b1 : decide (1048576 < l0.length) = false := decide_eq_false (by omega)
  clear c3
  obtain rfl := Option.some.inj H
  go_enter Try.func4, Try.ntmps4
  go_wp2
  go_ret
  exact ⟨by first | rfl | (simp; done) | (simp [*]; done), by repeat (first | exact Drawn0.refl _ | apply Drawn0.step)⟩
 rw [if_pos c3] at H
 have c3b0 := decide_eq_true c3
 have c3b1 : decide (1048576 < l0.length) = true := decide_eq_true (by omega)
 clear c3
 obtain rfl := Option.some.inj H
 go_enter Try.func4, Try.ntmps4
 go_wp2
 go_ret
 exact ⟨by first | rfl | (simp; done) | (simp [*]; done), by repeat (first | exact Drawn0.refl _ | apply Drawn0.step)⟩
def Zat.f (s0_0 : List Int) (s0_1 : Int) (s0_2 : Int) (a1 : Int) : Option (Bool × Int × Int) := (Zac.f s0_0 s0_1 s0_2 a1).bind fun bt266 => (some ((bt266.1 == 0), bt266.2.1, bt266.2.2))
theorem Zat.calls (g : Nat) (s0_0 : List Int) (s0_1 : Int) (s0_2 : Int) (a1 : Int) (r1 : Bool) (r2 : Int) (r3 : Int) (w0 w : World) (hI : IsS48 w0 w g s0_0 s0_1 s0_2) (hB : Below w0.heap.size w0 w) (h : Zat.f s0_0 s0_1 s0_2 a1 = some (r1, r2, r3)) :
  Calls Try.prog 47 #[.pointer (some ⟨g, 0, none⟩), .int .i64 a1] w fun e w' => e = .returned (.bool r1) ∧ IsS48 w0 w' g s0_0 r2 r3 ∧ Below w0.heap.size w0 w' ∧ KeepBut w w' g none := by
 have HI0 := Aside0.mk hI
 have HK := Aside0.mk (KeepBut.refl w g none)
 have HL := Aside0.mk hB.size
 clear hI
 have HW0 := Aside0.mk hB.size
 have HB := Aside0.mk hB
 clear hB
 have H := h
 unfold Zat.f at H
 clear h
 replace H := Option.bind_eq_some_iff.mp H
 obtain ⟨⟨t266, t267, t268⟩, A30, H⟩ := H
 replace H : (some ((t266 == 0), t267, t268)) = some (r1, r2, r3) := H
 have A3 := Aside0.mk A30
 clear A30
 simp only [Option.some.injEq, Prod.mk.injEq] at H
 obtain ⟨rfl, rfl, rfl⟩ := H
 go_enter Try.func47, Try.ntmps47
 go_wp2_with (first | ((with_reducible refine gate_callee (f := 42) rfl ?_); refine goesA (some 7) Try.func42 #[.pointer (some ⟨g, 0, none⟩), .int .i64 a1] ?_; (with_reducible refine (Zac.calls g s0_0 s0_1 s0_2 a1 t266 t267 t268 w0 _ ?side1 ?side2 A3.out).mono ?_); (case side1 => exact IsS48.at HI0); (case side2 => exact atB HB); rintro e w4 ⟨rfl, hi, hb, hk⟩; refine ⟨_, rfl, ?_⟩; replace HK := upK HK hk; replace HB := Aside0.mk (hb); replace HI0 := Aside0.mk (hi)))
 go_ret
 exact ⟨eqr, IsS48.at HI0, atB HB, atK HK⟩
def Zcf.f (l0 : List Int) : Option (List Int) := (some (([] : List Int) : List Int)).bind fun y380 => (if y380.length + l0.length < 17592186044416 then (some (y380 ++ l0)) else (none))
theorem Zcf.calls (A0 : Option Addr) (c0 : Nat) (l0 : List Int) (r : List Int) (w : World) (hr0 : Kd.C (Kd.int .i64) w A0 l0.length l0) (hc0 : l0.length ≤ c0) (h : Zcf.f l0 = some r) :
  Calls Try.prog 69 #[.slice A0 l0.length c0] w fun e w' => ∃ v0_ : Value, e = .returned (v0_) ∧ Kd.R (Kd.int .i64) 3 w' w.heap.size (fun _ => True) v0_ r ∧ Below w.heap.size w w' := by
 have HR0 := Aside0.mk hr0
 have HC0 := Aside0.mk hc0
 clear hr0 hc0
 have HB := Aside0.mk (Below.refl w.heap.size w)
 have H := h
 unfold Zcf.f at H
 clear h
 obtain ⟨y380, hy380⟩ : ∃ y_ : List Int, y_ = (([] : List Int)) := ⟨_, rfl⟩
 replace H : (if y380.length + l0.length < 17592186044416 then (some (y380 ++ l0)) else (none)) = some r := by first | (rw [hy380]; with_reducible exact H) | (have H2_ := (Option.bind_some _ _).symm.trans H; rw [hy380]; with_reducible exact H2_) | (have H2_ := (Option.bind_some _ _).symm.trans H; with_reducible exact H2_) | with_reducible exact H | (rw [hy380]; exact H) | exact H
 have Ny380 := Aside0.mk hy380
 clear hy380
 obtain ⟨c2, H⟩ := in0_ H
 have LMc2 := Aside0.mk c2
 clear c2
 obtain ⟨y383, hy383⟩ : ∃ y_ : List Int, y_ = (y380 ++ l0) := ⟨_, rfl⟩
 replace H : (some y383) = some r := by first | (rw [hy383]; with_reducible exact H) | (have H2_ := (Option.bind_some _ _).symm.trans H; rw [hy383]; with_reducible exact H2_) | (have H2_ := (Option.bind_some _ _).symm.trans H; with_reducible exact H2_) | with_reducible exact H | (rw [hy383]; exact H) | exact H
 have Ny383 := Aside0.mk hy383
 clear hy383
 obtain rfl := Option.some.inj H
 go_enter Try.func69, Try.ntmps69
 go_wp2_with (first | ((with_reducible refine gate_dst (N := 3) rfl ?_); refine Kd.R_lit (Kd.int .i64) _ 3 ?hg (N := 3) ?hd (xs := ([] : List Int)) (inner := []) (ok := fun _ => True) (okp := fun _ => True) ?hr ?hp (fun _ hk => hk) trivial (Below.refl _ _) (Nat.le_refl _) (by simp) ?_; (case hd => rfl); (case hg => rfl); (case hr => first | (go_simp; done) | (go_simp; rfl)); (case hp => exact (Reps.none _ _)); intro v381 w3 ho4 hb hg_ hnew_; clear hg_ hnew_; (first | rw [← Ny380.out] at ho4 | (simp only [Int.reduceToNat] at ho4; rw [← Ny380.out] at ho4)); have HO382 := lowR ho4 HB; replace HB := upB HB hb; clear hb ho4) | ((with_reducible refine gate_builtin (b := .append) (xs := #[.tmp 3, .tmp 4]) rfl ?_); at_builtin; refine Kd.R_append_rows (Kd.int .i64) (w0 := w) w.heap.size rfl (.tmp 3) (.tmp 4) 24 3 (.int .i64 0) 8 rfl Try.underlying24 info3 rfl (by decide) (by omega) v381 y380 l0 _ _ _ (fun _ => True) (fun _ => False) rfl rfl ?aO ?aR (fun _ _ h => h) (fun _ h => h.elim) ?aF ?aB ?aS ?aL ?_; (case aR => repeat (first | exact (Kd.C_below HR0.out HB.out) | (with_reducible refine Kd.C_alloc ?_ _) | (with_reducible refine Kd.C_drewN ?_ _) | (with_reducible refine Kd.C_drew ?_))); (case aB => exact (atB HB)); (case aF => exact (fun _ _ => trivial)); (case aO => exact (atR HO382)); (case aS => exact (szB HB)); (case aL => have := LMc2.out; omega); intro v384 w5 ho hb hg hat; rw [← Ny383.out] at ho; have HO385 := Aside0.mk (ho); replace HB := Aside0.mk (hb); clear HO382; clear ho hb hg hat))
 go_ret
 exact ⟨_, eqr, atR HO385, atB HB⟩
def IB (w : World) (g : Nat) (l : List Int) : Prop := w.heap[g]? = some (.cells (l.map (Value.int .i64)).toArray 3 (0, 0))
theorem IB.cell {w : World} {g : Nat} {l : List Int} (h : IB w g l) (j : Nat) (hj : j < l.length) : w.cell? ⟨g, j, none⟩ = some (.int .i64 (rd l j)) := by
 rw [blk_cell h j]
 simp [rd, hj]
theorem IB.cellI {w : World} {g : Nat} {l : List Int} (h : IB w g l) (j : Int) (h0 : 0 ≤ j) (hj : j < l.length) : w.cell? ⟨g, j.toNat, none⟩ = some (.int .i64 (rd l j)) := by
 have := h.cell j.toNat (by omega)
 rw [Int.toNat_of_nonneg h0] at this
 exact this
theorem IB.set {w W : World} {g : Nat} {l : List Int} (h : IB w g l) (j : Nat) (v : Int) (hw : W = w.setCell ⟨g, j, none⟩ (.int .i64 v)) : IB W g (l.set j v) := by
 subst hw
 refine blk_put h j _ ?_
 simp [List.map_set]
theorem IB.far {w W : World} {g g' : Nat} {l : List Int} (h : IB w g l) (hne : g ≠ g') (j : Nat) (v : Value) (hw : W = w.setCell ⟨g', j, none⟩ v) : IB W g l := by
 subst hw
 exact blk_far h (by simpa using hne) v
theorem add_block0 (g j : Nat) : (Addr.add ⟨g, 0, none⟩ j) = ⟨g, j, none⟩ := by
 unfold Addr.add
 split
 ·rename_i h
  rw [h]
 ·simp
theorem add_block (ad : Addr) (j : Nat) : (ad.add j).block = ad.block := by
 unfold Addr.add
 split <;> rfl
theorem IB.C {w : World} {g : Nat} {l : List Int} (h : IB w g l) (hl : l.length ≤ 1000) : Kd.C (Kd.int .i64) w (some ⟨g, 0, none⟩) l.length l := by
 refine Kd.C_of_reads (d := (0 : Int)) (h1 := fun _ => rfl) ⟨rfl, by omega, fun _ => ⟨_, rfl, fun j hj => ?_⟩⟩
 have := h.cell j hj
 simp only [rd, Int.toNat_natCast] at this
 rw [add_block0]
 exact this
section
variable {P : Program} {ops : Array Oper} {rest : List Oper} {o : Oper} {a : Act} {Q : Exit → Act → World → Prop} {W : World} {K : Act → World → Prop}
theorem made_zeros (n : Nat) : madeCells (Value.int .i64 0).cells (n * 1) = ((List.replicate n (0 : Int)).map (Value.int .i64)).toArray := by
 apply Array.ext'
 simp only [madeCells, Value.cells, Nat.mul_one]
 rw [List.map_replicate, List.eq_replicate_iff]
 simp [Nat.mod_one]
theorem run_zeros (W : World) (n : Nat) (hl : n ≤ 1000) : (Instr.makeSlice 24 (.int .i64 (n : Int)) (.int .i64 (n : Int))).run Try.prog W = .ok (.slice (some ⟨W.heap.size, 0, none⟩) n n) (W.alloc (.cells ((List.replicate n (0 : Int)).map (Value.int .i64)).toArray 3)) := by
 obtain ⟨i0, hi, hzz⟩ := Option.map_eq_some_iff.1 info3
 simp only [Prod.mk.injEq] at hzz
 obtain ⟨hz0, hz1, hz2⟩ := hzz
 have hr := run_make (P := Try.prog) W 24 3 i0 (.int .i64 0) Try.underlying24 hi hz0 .i64 .i64 (n : Int) (n : Int) (by omega) (by omega) (by rw [hz2]; omega) (by omega)
 simp only [Int.toNat_natCast] at hr
 rw [hz1, made_zeros] at hr
 exact hr
theorem IB_below {w w1 : World} {g : Nat} {l : List Int} (h : IB w g l) (hb : Below w.heap.size w w1) : IB w1 g l := blk_below h hb
theorem IB_make_event (hgd : o.guard = none) {N : Tmp} (_hd : o.dst = some N) {n : Nat} {x y : Operand} (ho : o.op = .makeSlice 24 x y) (hx : a.eval x = .int .i64 (n : Int)) (hy : a.eval y = .int .i64 (n : Int)) (hl : n ≤ 1000)
  (h : ∀ g, g = W.heap.size → ∀ w1, IB w1 g (List.replicate n 0) → Below W.heap.size W w1 → wpList Try.prog ops Q rest (a.put o.dst (.slice (some ⟨g, 0, none⟩) n n)) w1) : wpList Try.prog ops Q (o :: rest) a W :=
 Kd.event_run hgd (by simp [execOp, ho, hx, hy, run_zeros W n hl]) (h _ rfl _ (heap_alloc_new _ _) (below_alloc (Below.refl _ _) _))
end
def seAtFrom (hole : Int) : List Int → Nat → Nat
 | [], i => i
 | x :: l, i => if x = 0 ∧ (i : Int) ≠ hole then i else seAtFrom hole l (i + 1)
def seAt (hole : Int) (row : List Int) : Nat := seAtFrom hole row 0
theorem seAtFrom_is (hole : Int) : ∀ (l : List Int) (i a : Nat), a ≤ l.length → (∀ j : Nat, j < a → rd l j ≠ 0 ∨ ((i + j : Nat) : Int) = hole) → (a < l.length → rd l a = 0 ∧ ((i + a : Nat) : Int) ≠ hole) → seAtFrom hole l i = i + a
 | [], i, a, h, _, _ => by
  simp at h
  simp [seAtFrom, h]
 | x :: l, i, 0, _, _, h => by
  have := h (by simp)
  simp [rd] at this
  simp [seAtFrom, this]
 | x :: l, i, a + 1, h, h1, h2 => by
  have hx := h1 0 (by omega)
  simp [rd] at hx
  have hn : ¬ (x = 0 ∧ (i : Int) ≠ hole) := fun e => by
   rcases hx with hx | hx
   ·exact hx e.1
   ·exact e.2 hx
  have ih := seAtFrom_is hole l (i + 1) a (by simpa using h) (fun j hj => by
   have := h1 (j + 1) (by omega)
   rw [show i + (j + 1) = i + 1 + j by omega] at this
   simpa [rd] using this) (fun ha => by
   have := h2 (by simpa using ha)
   rw [show i + (a + 1) = i + 1 + a by omega] at this
   simpa [rd] using this)
  rw [seAtFrom, if_neg hn, ih]
  omega
theorem seAt_is {hole : Int} {l : List Int} {a : Nat} (h : a ≤ l.length) (h1 : ∀ j : Nat, j < a → rd l j ≠ 0 ∨ (j : Int) = hole) (h2 : a < l.length → rd l a = 0 ∧ (a : Int) ≠ hole) : seAt hole l = a := by
 have := seAtFrom_is hole l 0 a h (fun j hj => by simpa using h1 j hj) (fun ha => by simpa using h2 ha)
 simpa [seAt] using this
abbrev sePassed (hole : Int) (row : List Int) (used : Nat) (n t : Int) : Prop := used.testBit n.toNat = true ∨ (row.length : Int) ≤ t ∨ t = hole ∨ rd row t ≠ 0
abbrev SeSt := Nat × List (List Int)
def seLoop (rec : SeSt → List Int → Nat → Option SeSt) (hole shift : Int) (row : List Int) (used a : Nat) : Nat → Int → SeSt → Option SeSt
 | 0, _, s => some s
 | m + 1, n, s => if sePassed hole row used n ((a : Int) + n + shift) then seLoop rec hole shift row used a m (n + 1) s
  else (rec s ((row.set a n).set ((a : Int) + n + shift).toNat n) (used ||| 2 ^ n.toNat)).bind fun s' => seLoop rec hole shift row used a m (n + 1) s'
def seF (from_ to_ shift hole most : Int) : Nat → SeSt → List Int → Nat → Option SeSt
 | 0, _, _, _ => none
 | k + 1, s, row, used => if seAt hole row = row.length then (if s.1 < 1000000000000 ∧ s.2.length < 5864062014805 then some (s.1 + 1, if (s.2.length : Int) < most then s.2 ++ [row] else s.2) else none) else seLoop (seF from_ to_ shift hole most k) hole shift row used (seAt hole row) (to_ + 1 - from_).toNat from_ s
theorem seLoop_pass {rec : SeSt → List Int → Nat → Option SeSt} {hole shift n t : Int} {row : List Int} {used a q : Nat} {s : SeSt} (ht : (a : Int) + n + shift = t) (h : sePassed hole row used n t) : seLoop rec hole shift row used a (q + 1) n s = seLoop rec hole shift row used a q (n + 1) s := by
 subst ht
 exact if_pos h
theorem seLoop_put {rec : SeSt → List Int → Nat → Option SeSt} {hole shift n t : Int} {row : List Int} {used a q : Nat} {s : SeSt} (ht : (a : Int) + n + shift = t) (h : ¬ sePassed hole row used n t) : seLoop rec hole shift row used a (q + 1) n s = (rec s ((row.set a n).set t.toNat n) (used ||| 2 ^ n.toNat)).bind fun s' => seLoop rec hole shift row used a q (n + 1) s' := by
 subst ht
 exact if_neg h
theorem se_bit_int (u n : Nat) : ((u : Int) / 2 ^ n).tmod 2 = if u.testBit n = true then 1 else 0 := by
 have e : ((u : Int) / 2 ^ n) = ((u / 2 ^ n : Nat) : Int) := by simp
 have e2 : (2 : Int) = ((2 : Nat) : Int) := rfl
 rw [e, e2, ← Int.ofNat_tmod, Nat.testBit_eq_decide_div_mod_eq]
 have := Nat.mod_two_eq_zero_or_one (u / 2 ^ n)
 rcases this with h | h <;> simp [h]
theorem se_or_bit {u m : Nat} (hu : u < 2 ^ 60) (hm : m < 60) : bits BinOp.or IntKind.i64 (u : Int) (wrap64 (2 ^ m)) = ((u ||| 2 ^ m : Nat) : Int) := by
 have hp : 2 ^ m < 2 ^ 60 := Nat.pow_lt_pow_right (by decide) hm
 have e : wrap64 ((2 : Int) ^ m) = ((2 ^ m : Nat) : Int) := by
  have h2 : (2 : Int) ^ m = ((2 ^ m : Nat) : Int) := by simp
  rw [h2]
  generalize 2 ^ m = q at hp
  exact wrap_in (by omega) (by omega)
 rw [e]
 exact (bits_nat .i64 60 (by decide) (fun n h0 h1 => by rw [IntKind.wrap_i64]; omega) u (2 ^ m) hu hp).2
theorem nat_or_pow_clear (u m : Nat) (h : u.testBit m = false) (hu : u < 2 ^ 60) : ((BitVec.ofNat 64 (u ||| 2 ^ m)) &&& ~~~ (BitVec.ofNat 64 (2 ^ m))).toNat = u := by
 apply Nat.eq_of_testBit_eq
 intro i
 have h64 : ∀ i, 60 ≤ i → u.testBit i = false := fun i hi => Nat.testBit_lt_two_pow (Nat.lt_of_lt_of_le hu (Nat.pow_le_pow_right (by decide) hi))
 rw [BitVec.testBit_toNat]
 by_cases hi : i < 64
 ·simp only [BitVec.getLsbD_and, BitVec.getLsbD_not, BitVec.getLsbD_ofNat, hi, decide_true, Bool.true_and, Nat.testBit_or, Nat.testBit_two_pow]
  by_cases e : m = i
  ·subst e; simp [h]
  ·simp [e]
 ·rw [BitVec.getLsbD_of_ge _ _ (by omega), h64 i (by omega)]
theorem andNot_bit {u m : Nat} (hu : u < 2 ^ 60) (hm : m < 60) (h : u.testBit m = false) : bits BinOp.andNot IntKind.i64 ((u ||| 2 ^ m : Nat) : Int) (wrap64 (2 ^ m)) = (u : Int) := by
 have hp : 2 ^ m < 2 ^ 60 := Nat.pow_lt_pow_right (by decide) hm
 have e : wrap64 ((2 : Int) ^ m) = ((2 ^ m : Nat) : Int) := by
  have h2 : (2 : Int) ^ m = ((2 ^ m : Nat) : Int) := by simp
  rw [h2]
  generalize 2 ^ m = q at hp
  exact wrap_in (by omega) (by omega)
 rw [e]
 simp only [bits, BitVec.ofInt_natCast]
 have h1 := nat_or_pow_clear u m h hu
 rw [show IntKind.i64.bits = 64 from rfl, h1, i64_w]
 exact wrap_in (by omega) (by omega)
structure SeI (base gS gr : Nat) (from_ to_ shift hole most : Int) (row : List Int) (used : Nat) (s : SeSt) (w : World) : Prop where
 out : ∃ v, w.heap[gS]? = some (.cells #[.slice (some ⟨gr, 0, none⟩) row.length row.length, .int .i64 from_, .int .i64 to_, .int .i64 shift, .int .i64 hole, .int .i64 (used : Int), .int .i64 most, .int .i64 (s.1 : Int), v] 69 (0, 0)) ∧ Kd.S (Kd.slice 3 (Kd.int .i64)) 24 w base (fun k => k ≠ gS ∧ k ≠ gr) v s.2
 row : IB w gr row
section
variable {base gS gr : Nat} {from_ to_ shift hole most : Int} {row : List Int} {used : Nat} {s : SeSt} {w w' : World}
theorem SeI.putRow (h : SeI base gS gr from_ to_ shift hole most row used s w) (hne : gS ≠ gr) (j : Nat) (v : Int) (hw : w' = w.setCell ⟨gr, j, none⟩ (.int .i64 v)) : SeI base gS gr from_ to_ shift hole most (row.set j v) used s w' := by
 obtain ⟨⟨u, h1, h2⟩, h3⟩ := h
 refine ⟨⟨u, ?_, ?_⟩, h3.set j v hw⟩
 ·rw [List.length_set, hw]
  exact (Below.heap_setCell _ _ _ _ hne).trans h1
 ·refine Kd.S_step h2 (fun k ho hl => ?_)
  rw [hw]
  exact Below.heap_setCell _ _ _ _ ho.2
theorem SeI.putUsed (h : SeI base gS gr from_ to_ shift hole most row used s w) (hne : gS ≠ gr) (u' : Nat) (hw : w' = w.setCell ⟨gS, 5, none⟩ (.int .i64 (u' : Int))) : SeI base gS gr from_ to_ shift hole most row u' s w' := by
 obtain ⟨⟨u, h1, h2⟩, h3⟩ := h
 refine ⟨⟨u, ?_, ?_⟩, h3.far hne.symm 5 _ hw⟩
 ·rw [hw]
  exact blk_put h1 5 _ rfl
 ·refine Kd.S_step h2 (fun k ho hl => ?_)
  rw [hw]
  exact Below.heap_setCell _ _ _ _ ho.1
theorem SeI.putCount (h : SeI base gS gr from_ to_ shift hole most row used s w) (hne : gS ≠ gr) (hw : w' = w.setCell ⟨gS, 7, none⟩ (.int .i64 ((s.1 + 1 : Nat) : Int))) : SeI base gS gr from_ to_ shift hole most row used (s.1 + 1, s.2) w' := by
 obtain ⟨⟨u, h1, h2⟩, h3⟩ := h
 refine ⟨⟨u, ?_, ?_⟩, h3.far hne.symm 7 _ hw⟩
 ·rw [hw]
  exact blk_put h1 7 _ rfl
 ·refine Kd.S_step h2 (fun k ho hl => ?_)
  rw [hw]
  exact Below.heap_setCell _ _ _ _ ho.1
theorem SeI.same (h : SeI base gS gr from_ to_ shift hole most row used s w) (hw : w'.heap = w.heap) : SeI base gS gr from_ to_ shift hole most row used s w' := by
 obtain ⟨⟨u, h1, h2⟩, h3⟩ := h
 refine ⟨⟨u, by rw [hw]; exact h1, Kd.S_step h2 (fun k ho hl => by rw [hw])⟩, ?_⟩
 unfold IB
 rw [hw]
 exact h3
theorem SeI.cast {row' : List Int} (h : SeI base gS gr from_ to_ shift hole most row used s w) (e : row = row') : SeI base gS gr from_ to_ shift hole most row' used s w := by
 subst e
 exact h
end
theorem se_set_back {row : List Int} {a t : Nat} {n : Int} (ha : rd row a = 0) (ht : rd row t = 0) : (((row.set a n).set t n).set a 0).set t 0 = row := by
 apply List.ext_getElem?
 intro j
 simp only [List.getElem?_set, List.length_set]
 by_cases e1 : t = j
 rotate_left
 ·simp only [e1, if_false]
  by_cases e2 : a = j
  rotate_left
  ·simp [e2]
  subst e2
  by_cases hl : a < row.length
  ·have : row[a]? = some (rd row a) := by unfold rd; rw [Int.toNat_natCast, List.getD_eq_getElem?_getD, List.getElem?_eq_getElem hl]; rfl
   rw [this, ha]
   simp [hl]
  ·simp [hl, List.getElem?_eq_none (Nat.le_of_not_lt hl)]
 subst e1
 by_cases hl : t < row.length
 ·have : row[t]? = some (rd row t) := by unfold rd; rw [Int.toNat_natCast, List.getD_eq_getElem?_getD, List.getElem?_eq_getElem hl]; rfl
  rw [this, ht]
  simp [hl]
 ·simp [hl, List.getElem?_eq_none (Nat.le_of_not_lt hl)]
theorem look_call {base gS gr : Nat} {from_ to_ shift hole most : Int} (hfr : 1 ≤ from_ ∧ from_ ≤ 20) (hto : 0 ≤ to_ ∧ to_ ≤ 40) (hs : 0 ≤ shift ∧ shift ≤ 1) (hne : gS ≠ gr) (hbS : base ≤ gS) (hbr : base ≤ gr) :
  ∀ (k : Nat) (s s' : SeSt) (row : List Int) (used : Nat) (w : World), base ≤ w.heap.size → 0 < row.length → row.length ≤ 100 → used < 2 ^ 60 → SeI base gS gr from_ to_ shift hole most row used s w → seF from_ to_ shift hole most k s row used = some s' →
  Calls Try.prog 89 #[.pointer (some ⟨gS, 0, none⟩)] w fun e w' => e = .returned (.tuple #[]) ∧ SeI base gS gr from_ to_ shift hole most row used s' w' ∧ Below base w w' := by
 have HFR := Aside0.mk hfr
 have HTO := Aside0.mk hto
 have HS := Aside0.mk hs
 have HNE := Aside0.mk hne
 have HBS := Aside0.mk hbS
 have HBR := Aside0.mk hbr
 clear hfr hto hs hne hbS hbr
 intro k
 induction k with
 | zero =>
  intro s s' row used w _ _ _ _ _ h
  cases h
 | succ k ih =>
  intro s s' row used w hb hr0 hr1 hus hI h
  have IH := Aside0.mk ih
  have HB0 := Aside0.mk hb
  have HR0 := Aside0.mk hr0
  have HR1 := Aside0.mk hr1
  have HUS := Aside0.mk hus
  have HI := Aside0.mk hI
  have H := Aside0.mk h
  have HOWN := Aside0.mk (show Zcf.f row = some row from by
   unfold Zcf.f
   simp only [Option.bind_some]
   rw [if_pos (by simp; omega)]
   simp)
  clear ih hb hr0 hus hI h
  obtain ⟨v, ho, hS⟩ := HI.out.out
  obtain ⟨A8, c8, e8⟩ := Kd.S_slice hS
  subst e8
  have HO := Aside0.mk ho
  have HS8 := Aside0.mk hS
  have hs0 := blk_cell ho 0
  have hs4 := blk_cell ho 4
  have hs7 := blk_cell ho 7
  have hs8 := blk_cell ho 8
  have hs6 := blk_cell ho 6
  have hs1 := blk_cell ho 1
  simp only [List.getElem?_toArray, List.getElem?_cons_zero, List.getElem?_cons_succ] at hs0 hs1 hs4 hs6 hs7 hs8
  clear ho hS
  go_enter Try.func89, Try.ntmps89
  go_wp2
  go_loopw [2] (fun v2 wr => ∃ i : Nat, i ≤ row.length ∧ v2 = .int .i64 i ∧ wr = w ∧ Aside0 (∀ j : Nat, j < i → rd row j ≠ 0 ∨ (j : Int) = hole)) (fun v _ => row.length - (intOf v).toNat)
  case atStart => exact ⟨0, Nat.zero_le _, rfl, rfl, ⟨fun j hj => by omega⟩⟩
  case round =>
   obtain ⟨i, hi, rfl, hwr, HZ⟩ := hrel
   have hw2 : w = wr := hwr.symm
   subst hw2
   clear hwr
   by_cases hlt : i < row.length
   ·have hci := HI.out.row.cell i hlt
    obtain ⟨y, hy⟩ : ∃ y, rd row i = y := ⟨_, rfl⟩
    rw [hy] at hci
    have HY := Aside0.mk hy
    have HLI := Aside0.mk hlt
    clear hy
    by_cases hz : y = 0
    rotate_left
    ·have bz : (y != 0) = true := bne_iff_ne.mpr hz
     have HNZ := Aside0.mk hz
     clear hz
     go_wp2
     go_roundw
     case rel => exact ⟨i + 1, HLI.out, by go_num, by first | trivial | rfl, ⟨fun j hj => by
      by_cases e : j = i
      ·rw [e, HY.out]; exact .inl HNZ.out
      ·exact HZ.out j (by omega)⟩⟩
     case measure => simp [intOf]; have := HLI.out; omega
    have bz : (y != 0) = false := bne_eq_false_iff_eq.mpr hz
    by_cases hh : (i : Int) = hole
    ·have bh : ((i : Int) == hole) = true := beq_iff_eq.mpr hh
     have HH := Aside0.mk hh
     clear hz hh
     go_wp2
     go_roundw
     case rel => exact ⟨i + 1, HLI.out, by go_num, by first | trivial | rfl, ⟨fun j hj => by
      by_cases e : j = i
      ·rw [e]; exact .inr HH.out
      ·exact HZ.out j (by omega)⟩⟩
     case measure => simp [intOf]; have := HLI.out; omega
    have bh : ((i : Int) == hole) = false := beq_eq_false_iff_ne.mpr hh
    have be : ((i : Int) == (row.length : Int)) = false := beq_eq_false_iff_ne.mpr (by omega)
    have HA := Aside0.mk (seAt_is hi HZ.out (fun _ => ⟨by rw [HY.out]; exact hz, hh⟩))
    have HZ0 := Aside0.mk (show rd row i = 0 by rw [HY.out]; exact hz)
    clear hz hh
    go_wp2
    obtain ⟨M, hM⟩ : ∃ M, (to_ + 1 - from_).toNat = M := ⟨_, rfl⟩
    have h2 : seLoop (seF from_ to_ shift hole most k) hole shift row used i M from_ s = some s' := by
     have := H.out
     rw [seF, HA.out, if_neg (by have := HLI.out; omega), hM] at this
     exact this
    have H2 := Aside0.mk h2
    have HMM := Aside0.mk hM
    clear h2 H hs0 hs1 hs4 hs6 hs7 hs8 hci hM
    have hfr := HFR.out
    have hto := HTO.out
    have hs := HS.out
    go_loopw [3] (fun v3 wr => ∃ (m : Nat) (s1 : SeSt), m ≤ M ∧ v3 = .int .i64 (from_ + (m : Int)) ∧ Aside0 (SeI base gS gr from_ to_ shift hole most row used s1 wr) ∧ Aside0 (Below base w wr) ∧ Aside0 (seLoop (seF from_ to_ shift hole most k) hole shift row used i (M - m) (from_ + (m : Int)) s1 = some s')) (fun v _ => (from_ + (M : Int) - intOf v).toNat)
    case atStart => exact ⟨0, s, Nat.zero_le _, by simp, HI, ⟨Below.refl _ _⟩, ⟨by simpa using H2.out⟩⟩
    case round =>
     obtain ⟨m, s1, hm, rfl, HI2, HB2, HH⟩ := hrel
     obtain ⟨v2, ho2, hS2⟩ := HI2.out.out
     have hs0 := blk_cell ho2 0
     have hs2 := blk_cell ho2 2
     have hs3 := blk_cell ho2 3
     have hs4 := blk_cell ho2 4
     have hs5 := blk_cell ho2 5
     have hf5 := blk_frozen ho2 5
     simp only [List.getElem?_toArray, List.getElem?_cons_zero, List.getElem?_cons_succ] at hs0 hs2 hs3 hs4 hs5
     clear ho2 hS2
     by_cases hlt : m < M
     rotate_left
     ·obtain rfl : m = M := by omega
      have hx : s1 = s' := by
       have := HH.out
       rw [Nat.sub_self] at this
       exact Option.some.inj this
      subst hx
      have hMM := HMM.out
      have hb0 : decide (from_ + (m : Int) ≤ to_) = false := decide_eq_false (by omega)
      clear HH hlt hm hMM
      go_wp2
      first | go_end0 | ((try simp only [Exit.inBlock, Exit.then]); refine bodyPost_ret (results_none rfl _ _ _) rfl ?_)
      exact ⟨rfl, HI2.out, HB2.out⟩
     obtain ⟨q, hmq⟩ : ∃ q, M - m = q + 1 := ⟨M - m - 1, by omega⟩
     have hmq2 : M - (m + 1) = q := by omega
     have h3 := HH.out
     rw [hmq] at h3
     have hMM := HMM.out
     have hn1 : 1 ≤ from_ + (m : Int) ∧ from_ + (m : Int) ≤ 59 := by omega
     have hb0 : decide (from_ + (m : Int) ≤ to_) = true := decide_eq_true (by omega)
     have hnn : from_ + (m : Int) + 1 = from_ + ((m + 1 : Nat) : Int) := by omega
     obtain ⟨n, hn⟩ : ∃ n, from_ + (m : Int) = n := ⟨_, rfl⟩
     rw [hn] at h3 hb0 hn1 hnn
     have HH3 := Aside0.mk h3
     have HMQ2 := Aside0.mk hmq2
     have HLTM := Aside0.mk hlt
     have HNN := Aside0.mk hnn
     have HN := Aside0.mk hn
     have HN1 := Aside0.mk hn1
     rw [hn]
     clear HH h3 hmq hmq2 hlt hm hn hnn hMM
     obtain ⟨t, ht⟩ : ∃ t : Int, (i : Int) + n + shift = t := ⟨_, rfl⟩
     have HTT := Aside0.mk ht
     clear ht
     go_upto_region 11 with (fail)
     rw [HTT.out]
     go_cut [124] (fun v124 wc => ∃ x : Bool, v124 = .bool x ∧ wc = wr ∧ Aside0 (x = true ↔ sePassed hole row used n t))
     case first =>
      by_cases c1 : used.testBit n.toNat = true
      ·have b1 : (((used : Int) / 2 ^ n.toNat).tmod 2 == 1) = true := by rw [se_bit_int, if_pos c1]; rfl
       have HPS := Aside0.mk (show sePassed hole row used n t from .inl c1)
       clear c1
       go_wp2
       go_meet
       case rel => exact ⟨true, rfl, by first | trivial | rfl, ⟨⟨fun _ => HPS.out, fun _ => rfl⟩⟩⟩
      have b1 : (((used : Int) / 2 ^ n.toNat).tmod 2 == 1) = false := by rw [se_bit_int, if_neg c1]; rfl
      have C1 := Aside0.mk c1
      clear c1
      by_cases c2 : (row.length : Int) ≤ t
      ·have b2 := decide_eq_true c2
       have HPS := Aside0.mk (show sePassed hole row used n t from .inr (.inl c2))
       clear c2
       go_wp2
       go_meet
       case rel => exact ⟨true, rfl, by first | trivial | rfl, ⟨⟨fun _ => HPS.out, fun _ => rfl⟩⟩⟩
      have b2 := decide_eq_false c2
      have C2 := Aside0.mk c2
      by_cases c4 : t = hole
      ·have b4 : (t == hole) = true := beq_iff_eq.mpr c4
       have HPS := Aside0.mk (show sePassed hole row used n t from .inr (.inr (.inl c4)))
       clear c2 c4
       go_wp2
       go_meet
       case rel => exact ⟨true, rfl, by first | trivial | rfl, ⟨⟨fun _ => HPS.out, fun _ => rfl⟩⟩⟩
      have b4 : (t == hole) = false := beq_eq_false_iff_ne.mpr c4
      have C4 := Aside0.mk c4
      have ht0 : 0 ≤ t := by have := HTT.out; omega
      have HT0 := Aside0.mk ht0
      have hcr := HI2.out.row.cell t.toNat (by omega)
      rw [Int.toNat_of_nonneg ht0] at hcr
      have p1 : (0 ≤ t) = True := eq_true ht0
      have q1 : (t < (row.length : Int)) = True := eq_true (by omega)
      clear c2 c4 ht0
      obtain ⟨u, hu1⟩ : ∃ u, rd row t = u := ⟨_, rfl⟩
      rw [hu1] at hcr
      have HU := Aside0.mk hu1
      clear hu1
      by_cases c3 : u = 0
      rotate_left
      ·have b3 : (u != 0) = true := bne_iff_ne.mpr c3
       have HPS := Aside0.mk (show sePassed hole row used n t from .inr (.inr (.inr (by rw [HU.out]; exact c3))))
       clear c3
       go_wp2
       go_meet
       case rel => exact ⟨true, rfl, by first | trivial | rfl, ⟨⟨fun _ => HPS.out, fun _ => rfl⟩⟩⟩
      have b3 : (u != 0) = false := bne_eq_false_iff_eq.mpr c3
      have HPS := Aside0.mk (show ¬ sePassed hole row used n t from fun h => by
       rcases h with h | h | h | h
       ·exact C1.out h
       ·exact C2.out h
       ·exact C4.out h
       ·exact h (HU.out.trans c3))
      clear c3
      go_wp2
      go_meet
      case rel => exact ⟨false, rfl, by first | trivial | rfl, ⟨⟨fun h => by simp at h, fun h => absurd h HPS.out⟩⟩⟩
     case rest =>
      obtain ⟨x, rfl, hwc, HPX⟩ := hcut
      have hwc2 : wr = wc := hwc.symm
      subst hwc2
      clear hwc
      have HREL := Aside0.mk (show ∀ (x1 : SeSt) (w' : World), SeI base gS gr from_ to_ shift hole most row used x1 w' → Below base w w' → seLoop (seF from_ to_ shift hole most k) hole shift row used i q (n + 1) x1 = some s' → ∃ (m' : Nat) (s1 : SeSt), m' ≤ M ∧ Value.int .i64 (n + 1) = .int .i64 (from_ + (m' : Int)) ∧ Aside0 (SeI base gS gr from_ to_ shift hole most row used s1 w') ∧ Aside0 (Below base w w') ∧ Aside0 (seLoop (seF from_ to_ shift hole most k) hole shift row used i (M - m') (from_ + (m' : Int)) s1 = some s') from fun x1 w' h1 h2 h4 => ⟨m + 1, x1, HLTM.out, by rw [HNN.out], ⟨h1⟩, ⟨h2⟩, ⟨by rw [HMQ2.out, ← HNN.out]; exact h4⟩⟩)
      cases x with
      | true =>
       have h4 := (seLoop_pass (rec := seF from_ to_ shift hole most k) (s := s1) (q := q) HTT.out (HPX.out.1 rfl)).symm.trans HH3.out
       have HH4 := Aside0.mk h4
       clear h4
       go_wp2
       go_roundw
       case rel => exact HREL.out s1 wr HI2.out HB2.out HH4.out
       case measure => simp only [intOf]; have := HN.out; have := HLTM.out; omega
      | false =>
       have hnp : ¬ sePassed hole row used n t := fun h => by simpa using HPX.out.2 h
       have htl : t < (row.length : Int) := by
        rcases Int.lt_or_le t row.length with h | h
        ·exact h
        ·exact absurd (Or.inr (Or.inl h)) hnp
       have ht0 : 0 ≤ t := by have := HTT.out; omega
       have hrt : rd row t = 0 := Classical.byContradiction fun h => hnp (.inr (.inr (.inr h)))
       have hbit : used.testBit n.toNat = false := Bool.eq_false_iff.mpr fun h => hnp (.inl h)
       have h4 := (seLoop_put (rec := seF from_ to_ shift hole most k) (s := s1) (q := q) HTT.out hnp).symm.trans HH3.out
       obtain ⟨s2, hrec, h5⟩ := Option.bind_eq_some_iff.1 h4
       have HREC := Aside0.mk hrec
       have HH5 := Aside0.mk h5
       have HRT := Aside0.mk hrt
       have HBIT := Aside0.mk hbit
       have HTL := Aside0.mk htl
       have HT0 := Aside0.mk ht0
       have p1 : (0 ≤ t) = True := eq_true ht0
       have q1 : (t < (row.length : Int)) = True := eq_true htl
       have p2 : (0 ≤ (i : Int)) = True := eq_true (by omega)
       have q2 : ((i : Int) < (row.length : Int)) = True := eq_true (by have := HLI.out; omega)
       have HNT := Aside0.mk (show n.toNat < 60 by omega)
       clear hnp h4 hrec h5 hrt hbit htl ht0 hs0 hs2 hs3 hs4 hf5
       go_upto_region 12 with (fail)
       refine start_ (n := 10) (S := fun w' => w'.cell? ⟨gS, 5, none⟩ = some (.int .i64 (used : Int))) (ds := [9]) #[false, false, false, false, false, false, false, false, false, false] (by kernel_rfl) rfl rfl (show wr.drew.cell? ⟨gS, 5, none⟩ = _ from hs5) (fun hHeld => ?_)
       have HBD := Aside0.mk (below_drew1 (Below.refl base wr))
       have HID := Aside0.mk (HI2.out.same (show wr.drew.heap = wr.heap from rfl))
       obtain ⟨vd, hod, _⟩ := HID.out.out
       have hfd := blk_frozen hod 5
       clear hod
       generalize wr.drew = wd at HBD HID hfd hHeld ⊢
       refine pure_ (i := 0) (N := some 125) (v := ?_) (a' := ?_) #[true, false, false, false, false, false, false, false, false, false] rfl rfl (by kernel_rfl) (fun _ _ _ h => h) (Or.inl ⟨by rfl, ?_⟩) ?_ ?_
       rotate_left
       ·intro w'
        go_simp
        with_reducible rfl
       rotate_left
       ·simp only [Act.put, List.setIfInBounds_toArray, List.set_cons_zero, List.set_cons_succ, i64_w, i32_w]
        rfl
       refine pure_ (i := 1) (N := some 126) (v := ?_) (a' := ?_) #[true, true, false, false, false, false, false, false, false, false] rfl rfl (by kernel_rfl) (fun _ _ _ h => h) (Or.inl ⟨by rfl, ?_⟩) ?_ ?_
       rotate_left
       ·intro w'
        go_simp
        with_reducible rfl
       rotate_left
       ·simp only [Act.put, List.setIfInBounds_toArray, List.set_cons_zero, List.set_cons_succ, i64_w, i32_w]
        rfl
       refine pure_ (i := 2) (N := some 127) (v := ?_) (a' := ?_) #[true, true, true, false, false, false, false, false, false, false] rfl rfl (by kernel_rfl) (fun _ _ _ h => h) (Or.inl ⟨by rfl, ?_⟩) ?_ ?_
       rotate_left
       ·intro w'
        go_simp
        with_reducible rfl
       rotate_left
       ·simp only [Act.put, List.setIfInBounds_toArray, List.set_cons_zero, List.set_cons_succ, i64_w, i32_w]
        rfl
       refine take_ (i := 3) (N := some 128) (v := ?_) (a' := ?_) #[true, true, true, true, false, false, false, false, false, false] rfl rfl (by kernel_rfl) (fun _ _ _ h => h) (Or.inl ⟨by rfl, ?_⟩) hHeld ?_ ?_
       rotate_left
       ·rintro w' s0
        go_simp
        with_reducible rfl
       rotate_left
       ·simp only [Act.put, List.setIfInBounds_toArray, List.set_cons_zero, List.set_cons_succ, i64_w, i32_w]
        rfl
       refine pure_ (i := 4) (N := some 129) (v := ?_) (a' := ?_) #[true, true, true, true, true, false, false, false, false, false] rfl rfl (by kernel_rfl) (fun _ _ _ h => h) (Or.inl ⟨by rfl, ?_⟩) ?_ ?_
       rotate_left
       ·intro w'
        go_simp
        with_reducible rfl
       rotate_left
       ·simp only [Act.put, List.setIfInBounds_toArray, List.set_cons_zero, List.set_cons_succ, i64_w, i32_w]
        rfl
       refine pure_ (i := 5) (N := some 130) (v := ?_) (a' := ?_) #[true, true, true, true, true, true, false, false, false, false] rfl rfl (by kernel_rfl) (fun _ _ _ h => h) (Or.inl ⟨by rfl, ?_⟩) ?_ ?_
       rotate_left
       ·intro w'
        go_simp
        with_reducible rfl
       rotate_left
       ·simp only [Act.put, List.setIfInBounds_toArray, List.set_cons_zero, List.set_cons_succ, i64_w, i32_w]
        rfl
       refine pure_ (i := 6) (N := some 131) (v := ?_) (a' := ?_) #[true, true, true, true, true, true, true, false, false, false] rfl rfl (by kernel_rfl) (fun _ _ _ h => h) (Or.inl ⟨by rfl, ?_⟩) ?_ ?_
       rotate_left
       ·intro w'
        go_simp
        with_reducible rfl
       rotate_left
       ·simp only [Act.put, List.setIfInBounds_toArray, List.set_cons_zero, List.set_cons_succ, i64_w, i32_w]
        rfl
       refine pure_ (i := 7) (N := some 132) (v := ?_) (a' := ?_) #[true, true, true, true, true, true, true, true, false, false] rfl rfl (by kernel_rfl) (fun _ _ _ h => h) (Or.inl ⟨by rfl, ?_⟩) ?_ ?_
       rotate_left
       ·intro w'
        go_simp
        with_reducible rfl
       rotate_left
       ·simp only [Act.put, List.setIfInBounds_toArray, List.set_cons_zero, List.set_cons_succ, i64_w, i32_w]
        rfl
       refine pure_ (i := 8) (N := some 133) (v := ?_) (a' := ?_) #[true, true, true, true, true, true, true, true, true, false] rfl rfl (by kernel_rfl) (fun _ _ _ h => h) (Or.inl ⟨by rfl, ?_⟩) ?_ ?_
       rotate_left
       ·intro w'
        go_simp
        with_reducible rfl
       rotate_left
       ·simp only [Act.put, List.setIfInBounds_toArray, List.set_cons_zero, List.set_cons_succ, i64_w, i32_w]
        rfl
       rw [se_or_bit HUS.out HNT.out]
       have hcd := hHeld
       refine last_ (i := 9) (N := none) #[true, true, true, true, true, true, true, true, true, true] rfl rfl (by kernel_rfl) (by decide) (fun K hK => ?_)
       refine skip_ (w1 := wd.setCell ⟨gS, 5, none⟩ (.int .i64 ((used ||| 2 ^ n.toNat : Nat) : Int))) (by rfl) rfl ?_ ?_
       ·first | (go_simp; done) | (go_simp; rfl)
       refine hK.out _ _ ?_
       clear hK K
       refine done_ (by kernel_rfl) ?_
       have HI3 := Aside0.mk (HID.out.putUsed HNE.out (used ||| 2 ^ n.toNat) (w' := wd.setCell ⟨gS, 5, none⟩ (.int .i64 ((used ||| 2 ^ n.toNat : Nat) : Int))) rfl)
       have HB3 := Aside0.mk (HBD.out.setCell (show base ≤ (⟨gS, 5, none⟩ : Addr).block from HBS.out) (.int .i64 ((used ||| 2 ^ n.toNat : Nat) : Int)))
       clear hHeld hcd hfd hs5 HID HBD
       generalize wd.setCell ⟨gS, 5, none⟩ (.int .i64 ((used ||| 2 ^ n.toNat : Nat) : Int)) = w3 at HI3 HB3 ⊢
       have hcell : ∀ (w9 : World) (row9 : List Int) (u9 : Nat) (s9 : SeSt), row9.length = row.length → SeI base gS gr from_ to_ shift hole most row9 u9 s9 w9 → w9.cell? ⟨gS, 0, none⟩ = some (.slice (some ⟨gr, 0, none⟩) row.length row.length) := fun w9 row9 u9 s9 hl h9 => by
        obtain ⟨v9, ho9, _⟩ := h9.out
        have := blk_cell ho9 0
        rw [hl] at this
        exact this
       have HCELL := Aside0.mk hcell
       clear hcell
       have hs0 := HCELL.out w3 row _ s1 rfl HI3.out
       have hcx := HI3.out.row.cell i HLI.out
       have hfx := blk_frozen HI3.out.row i
       go_upto_region 18 with (first | ((with_reducible refine gate_store (t := 3) (p := 140) rfl ?_); refine store_event (t := 3) (p := 140) (v := ?vo140) (w1 := (w3.setCell ⟨gr, i, none⟩ (.int .i64 n))) ?hg ?ho ?hn ?hr ?_; (case ho => rfl); (case hg => rfl); (case hn => rfl); (case hr => first | (go_simp; done) | (go_simp; rfl)); intro w4 hw_; have HI4 := Aside0.mk (HI3.out.putRow HNE.out i n hw_); have HBw4 := Aside0.mk (show Below base w3 w4 by rw [hw_]; exact (Below.refl base w3).setCell (show base ≤ (⟨gr, i, none⟩ : Addr).block from HBR.out) _); clear hw_; clear hs0 hcx hfx; have hs0 := HCELL.out w4 _ _ s1 (List.length_set ..) HI4.out; have hcx := HI4.out.row.cellI t HT0.out (by rw [List.length_set]; exact HTL.out); have hfx := blk_frozen HI4.out.row t.toNat) | ((with_reducible refine gate_store (t := 3) (p := 147) rfl ?_); refine store_event (t := 3) (p := 147) (v := ?vo147) (w1 := (w4.setCell ⟨gr, t.toNat, none⟩ (.int .i64 n))) ?hg ?ho ?hn ?hr ?_; (case ho => rfl); (case hg => rfl); (case hn => rfl); (case hr => first | (go_simp; done) | (go_simp; rfl)); intro w5 hw_; have HI5 := Aside0.mk (HI4.out.putRow HNE.out t.toNat n hw_); have HBw5 := Aside0.mk (show Below base w4 w5 by rw [hw_]; exact (Below.refl base w4).setCell (show base ≤ (⟨gr, t.toNat, none⟩ : Addr).block from HBR.out) _); clear hw_; clear hs0 hcx hfx) | ((with_reducible refine gate_callee (f := 89) rfl ?_); have HCALL := Aside0.mk (IH.out s1 s2 ((row.set i n).set t.toNat n) (used ||| 2 ^ n.toNat) w5 (by have h1 := HB0.out; have h2 := HB2.out.size; have h3 := HB3.out.size; have h4 := HBw4.out.size; have h5 := HBw5.out.size; omega) (by rw [List.length_set, List.length_set]; exact HR0.out) (by rw [List.length_set, List.length_set]; exact HR1.out) (Nat.or_lt_two_pow HUS.out (Nat.pow_lt_pow_right (by decide) HNT.out)) HI5.out HREC.out); refine goesL_ (some 149) rfl rfl Try.func89 (by kernel_rfl) rfl #[.pointer (some ⟨gS, 0, none⟩)] rfl (by (try simp only [List.map_toArray, List.map_cons, List.map_nil]); first | done | rfl) ?_; refine HCALL.out.mono ?_; rintro e w6 ⟨rfl, hI6, hB6⟩; refine ⟨_, rfl, ?_⟩; have HI6 := Aside0.mk hI6; have HB6 := Aside0.mk hB6; clear hI6 hB6 HCALL; have hs0 := HCELL.out w6 _ _ s2 (by rw [List.length_set, List.length_set]) HI6.out; have hcx := HI6.out.row.cell i (by rw [List.length_set, List.length_set]; exact HLI.out); have hfx := blk_frozen HI6.out.row i) | ((with_reducible refine gate_store (t := 3) (p := 155) rfl ?_); refine store_event (t := 3) (p := 155) (v := ?vo155) (w1 := (w6.setCell ⟨gr, i, none⟩ (.int .i64 0))) ?hg ?ho ?hn ?hr ?_; (case ho => rfl); (case hg => rfl); (case hn => rfl); (case hr => first | (go_simp; done) | (go_simp; rfl)); intro w7 hw_; have HI7 := Aside0.mk (HI6.out.putRow HNE.out i 0 hw_); have HBw7 := Aside0.mk (show Below base w6 w7 by rw [hw_]; exact (Below.refl base w6).setCell (show base ≤ (⟨gr, i, none⟩ : Addr).block from HBR.out) _); clear hw_; clear hs0 hcx hfx; have hs0 := HCELL.out w7 _ _ s2 (by rw [List.length_set, List.length_set, List.length_set]) HI7.out; have hcx := HI7.out.row.cellI t HT0.out (by rw [List.length_set, List.length_set, List.length_set]; exact HTL.out); have hfx := blk_frozen HI7.out.row t.toNat) | ((with_reducible refine gate_store (t := 3) (p := 161) rfl ?_); refine store_event (t := 3) (p := 161) (v := ?vo161) (w1 := (w7.setCell ⟨gr, t.toNat, none⟩ (.int .i64 0))) ?hg ?ho ?hn ?hr ?_; (case ho => rfl); (case hg => rfl); (case hn => rfl); (case hr => first | (go_simp; done) | (go_simp; rfl)); intro w8 hw_; have HI8 := Aside0.mk (HI7.out.putRow HNE.out t.toNat 0 hw_); have HBw8 := Aside0.mk (show Below base w7 w8 by rw [hw_]; exact (Below.refl base w7).setCell (show base ≤ (⟨gr, t.toNat, none⟩ : Addr).block from HBR.out) _); clear hw_; clear hs0 hcx hfx))
       have HI8' := Aside0.mk (HI8.out.cast (se_set_back HZ0.out (show rd row ((t.toNat : Nat) : Int) = 0 by rw [Int.toNat_of_nonneg HT0.out]; exact HRT.out)))
       obtain ⟨v8, ho8, _⟩ := HI8'.out.out
       have hs5 := blk_cell ho8 5
       simp only [List.getElem?_toArray, List.getElem?_cons_zero, List.getElem?_cons_succ] at hs5
       clear ho8
       refine start_ (n := 10) (S := fun w' => w'.cell? ⟨gS, 5, none⟩ = some (.int .i64 ((used ||| 2 ^ n.toNat : Nat) : Int))) (ds := [9]) #[false, false, false, false, false, false, false, false, false, false] (by kernel_rfl) rfl rfl (show w8.drew.cell? ⟨gS, 5, none⟩ = _ from hs5) (fun hHeld => ?_)
       have HBD := Aside0.mk (below_drew1 (Below.refl base w8))
       have HID := Aside0.mk (HI8'.out.same (show w8.drew.heap = w8.heap from rfl))
       obtain ⟨vd, hod, _⟩ := HID.out.out
       have hfd := blk_frozen hod 5
       clear hod
       generalize w8.drew = wd at HBD HID hfd hHeld ⊢
       refine pure_ (i := 0) (N := some 162) (v := ?_) (a' := ?_) #[true, false, false, false, false, false, false, false, false, false] rfl rfl (by kernel_rfl) (fun _ _ _ h => h) (Or.inl ⟨by rfl, ?_⟩) ?_ ?_
       rotate_left
       ·intro w'
        go_simp
        with_reducible rfl
       rotate_left
       ·simp only [Act.put, List.setIfInBounds_toArray, List.set_cons_zero, List.set_cons_succ, i64_w, i32_w]
        rfl
       refine pure_ (i := 1) (N := some 163) (v := ?_) (a' := ?_) #[true, true, false, false, false, false, false, false, false, false] rfl rfl (by kernel_rfl) (fun _ _ _ h => h) (Or.inl ⟨by rfl, ?_⟩) ?_ ?_
       rotate_left
       ·intro w'
        go_simp
        with_reducible rfl
       rotate_left
       ·simp only [Act.put, List.setIfInBounds_toArray, List.set_cons_zero, List.set_cons_succ, i64_w, i32_w]
        rfl
       refine pure_ (i := 2) (N := some 164) (v := ?_) (a' := ?_) #[true, true, true, false, false, false, false, false, false, false] rfl rfl (by kernel_rfl) (fun _ _ _ h => h) (Or.inl ⟨by rfl, ?_⟩) ?_ ?_
       rotate_left
       ·intro w'
        go_simp
        with_reducible rfl
       rotate_left
       ·simp only [Act.put, List.setIfInBounds_toArray, List.set_cons_zero, List.set_cons_succ, i64_w, i32_w]
        rfl
       refine take_ (i := 3) (N := some 165) (v := ?_) (a' := ?_) #[true, true, true, true, false, false, false, false, false, false] rfl rfl (by kernel_rfl) (fun _ _ _ h => h) (Or.inl ⟨by rfl, ?_⟩) hHeld ?_ ?_
       rotate_left
       ·rintro w' s0
        go_simp
        with_reducible rfl
       rotate_left
       ·simp only [Act.put, List.setIfInBounds_toArray, List.set_cons_zero, List.set_cons_succ, i64_w, i32_w]
        rfl
       refine pure_ (i := 4) (N := some 166) (v := ?_) (a' := ?_) #[true, true, true, true, true, false, false, false, false, false] rfl rfl (by kernel_rfl) (fun _ _ _ h => h) (Or.inl ⟨by rfl, ?_⟩) ?_ ?_
       rotate_left
       ·intro w'
        go_simp
        with_reducible rfl
       rotate_left
       ·simp only [Act.put, List.setIfInBounds_toArray, List.set_cons_zero, List.set_cons_succ, i64_w, i32_w]
        rfl
       refine pure_ (i := 5) (N := some 167) (v := ?_) (a' := ?_) #[true, true, true, true, true, true, false, false, false, false] rfl rfl (by kernel_rfl) (fun _ _ _ h => h) (Or.inl ⟨by rfl, ?_⟩) ?_ ?_
       rotate_left
       ·intro w'
        go_simp
        with_reducible rfl
       rotate_left
       ·simp only [Act.put, List.setIfInBounds_toArray, List.set_cons_zero, List.set_cons_succ, i64_w, i32_w]
        rfl
       refine pure_ (i := 6) (N := some 168) (v := ?_) (a' := ?_) #[true, true, true, true, true, true, true, false, false, false] rfl rfl (by kernel_rfl) (fun _ _ _ h => h) (Or.inl ⟨by rfl, ?_⟩) ?_ ?_
       rotate_left
       ·intro w'
        go_simp
        with_reducible rfl
       rotate_left
       ·simp only [Act.put, List.setIfInBounds_toArray, List.set_cons_zero, List.set_cons_succ, i64_w, i32_w]
        rfl
       refine pure_ (i := 7) (N := some 169) (v := ?_) (a' := ?_) #[true, true, true, true, true, true, true, true, false, false] rfl rfl (by kernel_rfl) (fun _ _ _ h => h) (Or.inl ⟨by rfl, ?_⟩) ?_ ?_
       rotate_left
       ·intro w'
        go_simp
        with_reducible rfl
       rotate_left
       ·simp only [Act.put, List.setIfInBounds_toArray, List.set_cons_zero, List.set_cons_succ, i64_w, i32_w]
        rfl
       refine pure_ (i := 8) (N := some 170) (v := ?_) (a' := ?_) #[true, true, true, true, true, true, true, true, true, false] rfl rfl (by kernel_rfl) (fun _ _ _ h => h) (Or.inl ⟨by rfl, ?_⟩) ?_ ?_
       rotate_left
       ·intro w'
        go_simp
        with_reducible rfl
       rotate_left
       ·simp only [Act.put, List.setIfInBounds_toArray, List.set_cons_zero, List.set_cons_succ, i64_w, i32_w]
        rfl
       rw [andNot_bit HUS.out HNT.out HBIT.out]
       have hcd := hHeld
       refine last_ (i := 9) (N := none) #[true, true, true, true, true, true, true, true, true, true] rfl rfl (by kernel_rfl) (by decide) (fun K hK => ?_)
       refine skip_ (w1 := wd.setCell ⟨gS, 5, none⟩ (.int .i64 (used : Int))) (by rfl) rfl ?_ ?_
       ·first | (go_simp; done) | (go_simp; rfl)
       refine hK.out _ _ ?_
       clear hK K
       refine done_ (by kernel_rfl) ?_
       have HI9 := Aside0.mk (HID.out.putUsed HNE.out used (w' := wd.setCell ⟨gS, 5, none⟩ (.int .i64 (used : Int))) rfl)
       have HB9 := Aside0.mk (HBD.out.setCell (show base ≤ (⟨gS, 5, none⟩ : Addr).block from HBS.out) (.int .i64 (used : Int)))
       clear hHeld hcd hfd hs5 HID HBD
       generalize wd.setCell ⟨gS, 5, none⟩ (.int .i64 (used : Int)) = w9 at HI9 HB9 ⊢
       try go_wp2
       go_roundw
       case rel => exact HREL.out s2 w9 HI9.out (HB2.out.trans (HB3.out.trans (HBw4.out.trans (HBw5.out.trans (HB6.out.trans (HBw7.out.trans (HBw8.out.trans HB9.out))))))) HH5.out
       case measure => simp only [intOf]; have := HN.out; have := HLTM.out; omega
   ·obtain rfl : i = row.length := by omega
    have be : ((row.length : Int) == (row.length : Int)) = true := beq_self_eq_true _
    have hza := seAt_is (Nat.le_refl _) HZ.out (fun h => by omega)
    have hx := H.out
    rw [seF, if_pos hza] at hx
    split at hx
    case isFalse => cases hx
    rename_i hbd
    have hx := Option.some.inj hx
    generalize hxs : (if (s.2.length : Int) < most then s.2 ++ [row] else s.2) = xs2 at hx
    have HXS := Aside0.mk hxs
    subst hx
    clear hxs
    have HBD := Aside0.mk hbd
    have hw7 := wrap_in (n := (s.1 : Int) + 1) (by omega) (by omega)
    have hf7 := (by obtain ⟨v0, ho0, _⟩ := HI.out.out; exact blk_frozen ho0 7 : w.frozen? ⟨gS, 7, none⟩ = false)
    clear H hza hlt hbd
    go_upto_region 5 with (first | ((with_reducible refine gate_store (t := 3) (p := 45) rfl ?_); refine store_event (t := 3) (p := 45) (v := ?vo45) (w1 := (w.setCell ⟨gS, 7, none⟩ (.int .i64 (wrap64 ((s.1 : Int) + 1))))) ?hg ?ho ?hn ?hr ?_; (case ho => rfl); (case hg => rfl); (case hn => rfl); (case hr => first | (go_simp; done) | (go_simp; rfl)); intro w1 hw_; rw [hw7] at hw_; have HI1 := Aside0.mk (HI.out.putCount HNE.out hw_); have HB1 := Aside0.mk (show Below base w w1 by rw [hw_]; exact (Below.refl base w).setCell (show base ≤ (⟨gS, 7, none⟩ : Addr).block from HBS.out) _); clear hw_))
    clear hs0 hs1 hs4 hs6 hs7 hs8 hf7 hw7
    obtain ⟨v1, ho1, hS1⟩ := HI1.out.out
    obtain ⟨A1, c1, e1⟩ := Kd.S_slice hS1
    subst e1
    have hs6 := blk_cell ho1 6
    have hs8 := blk_cell ho1 8
    simp only [List.getElem?_toArray, List.getElem?_cons_zero, List.getElem?_cons_succ] at hs6 hs8
    clear ho1 hS1
    obtain ⟨lt, hlt⟩ : ∃ lt, decide ((s.2.length : Int) < most) = lt := ⟨_, rfl⟩
    go_cut [55] (fun v55 wc => v55 = .bool lt ∧ wc.heap = w1.heap ∧ Aside0 (Below base w1 wc))
    case first =>
     go_quiet (fail)
     try go_wp2
     go_meet
     case rel => exact ⟨rfl, rfl, ⟨pw_below_drewN (Below.refl _ _) _⟩⟩
    case rest =>
     obtain ⟨rfl, hwc, HBC⟩ := hcut
     have HIC := Aside0.mk (HI1.out.same hwc)
     clear hs6 hs8 hwc
     cases lt with
     | false =>
      have hnl : most ≤ (s.2.length : Int) := by have := of_decide_eq_false hlt; omega
      have HNL := Aside0.mk hnl
      clear hnl hlt
      go_wp2
      first | go_end0 | ((try simp only [Exit.inBlock, Exit.then]); refine bodyPost_ret (results_none rfl _ _ _) rfl ?_)
      exact ⟨rfl, by have e := HXS.out; rw [if_neg (Int.not_lt.mpr HNL.out)] at e; rw [← e]; exact HIC.out, HB1.out.trans HBC.out⟩
     | true =>
      have hnl : (s.2.length : Int) < most := of_decide_eq_true hlt
      have HNL := Aside0.mk hnl
      clear hnl hlt
      go_upto_region 6 with (fail)
      obtain ⟨v2, ho2, hS2⟩ := HIC.out.out
      obtain ⟨A2, c2, e2⟩ := Kd.S_slice hS2
      subst e2
      have HO2 := Aside0.mk ho2
      have HS2 := Aside0.mk hS2
      have HR2 := Aside0.mk HIC.out.row
      clear ho2 hS2
      refine start_ (n := 15) (S := fun w' => w'.cell? ⟨gS, 8, none⟩ = some (.slice A2 s.2.length c2) ∧ w'.cell? ⟨gS, 0, none⟩ = some (.slice (some ⟨gr, 0, none⟩) row.length row.length)) (ds := [14]) #[false, false, false, false, false, false, false, false, false, false, false, false, false, false, false] (by kernel_rfl) rfl rfl ⟨(blk_cell HO2.out 8).trans rfl, (blk_cell HO2.out 0).trans rfl⟩ (fun hHeld => ?_)
      have HO3 := Aside0.mk (blk_drew HO2.out)
      have HS3 := Aside0.mk (Kd.S_drew HS2.out)
      have HR3 := Aside0.mk (show IB wc.drew gr row from HR2.out)
      have HB3 := Aside0.mk (below_drew1 (Below.refl base wc))
      generalize wc.drew = w2 at HO3 HS3 HR3 HB3 hHeld ⊢
      refine pure_ (i := 0) (N := some 56) (v := ?_) (a' := ?_) #[true, false, false, false, false, false, false, false, false, false, false, false, false, false, false] rfl rfl (by kernel_rfl) (fun _ _ _ h => h) (Or.inl ⟨by rfl, ?_⟩) ?_ ?_
      rotate_left
      ·intro w'
       go_simp
       with_reducible rfl
      rotate_left
      ·simp only [Act.put, List.setIfInBounds_toArray, List.set_cons_zero, List.set_cons_succ, i64_w, i32_w]
       rfl
      refine pure_ (i := 1) (N := some 57) (v := ?_) (a' := ?_) #[true, true, false, false, false, false, false, false, false, false, false, false, false, false, false] rfl rfl (by kernel_rfl) (fun _ _ _ h => h) (Or.inl ⟨by rfl, ?_⟩) ?_ ?_
      rotate_left
      ·intro w'
       go_simp
       with_reducible rfl
      rotate_left
      ·simp only [Act.put, List.setIfInBounds_toArray, List.set_cons_zero, List.set_cons_succ, i64_w, i32_w]
       rfl
      refine pure_ (i := 2) (N := some 58) (v := ?_) (a' := ?_) #[true, true, true, false, false, false, false, false, false, false, false, false, false, false, false] rfl rfl (by kernel_rfl) (fun _ _ _ h => h) (Or.inl ⟨by rfl, ?_⟩) ?_ ?_
      rotate_left
      ·intro w'
       go_simp
       with_reducible rfl
      rotate_left
      ·simp only [Act.put, List.setIfInBounds_toArray, List.set_cons_zero, List.set_cons_succ, i64_w, i32_w]
       rfl
      refine pure_ (i := 3) (N := some 59) (v := ?_) (a' := ?_) #[true, true, true, true, false, false, false, false, false, false, false, false, false, false, false] rfl rfl (by kernel_rfl) (fun _ _ _ h => h) (Or.inl ⟨by rfl, ?_⟩) ?_ ?_
      rotate_left
      ·intro w'
       go_simp
       with_reducible rfl
      rotate_left
      ·simp only [Act.put, List.setIfInBounds_toArray, List.set_cons_zero, List.set_cons_succ, i64_w, i32_w]
       rfl
      refine take_ (i := 4) (N := some 60) (v := ?_) (a' := ?_) #[true, true, true, true, true, false, false, false, false, false, false, false, false, false, false] rfl rfl (by kernel_rfl) (fun _ _ _ h => h) (Or.inl ⟨by rfl, ?_⟩) hHeld ?_ ?_
      rotate_left
      ·rintro w' ⟨s0, s1⟩
       go_simp
       with_reducible rfl
      rotate_left
      ·simp only [Act.put, List.setIfInBounds_toArray, List.set_cons_zero, List.set_cons_succ, i64_w, i32_w]
       rfl
      refine pure_ (i := 5) (N := some 61) (v := ?_) (a' := ?_) #[true, true, true, true, true, true, false, false, false, false, false, false, false, false, false] rfl rfl (by kernel_rfl) (fun _ _ _ h => h) (Or.inl ⟨by rfl, ?_⟩) ?_ ?_
      rotate_left
      ·intro w'
       go_simp
       with_reducible rfl
      rotate_left
      ·simp only [Act.put, List.setIfInBounds_toArray, List.set_cons_zero, List.set_cons_succ, i64_w, i32_w]
       rfl
      refine pure_ (i := 6) (N := some 62) (v := ?_) (a' := ?_) #[true, true, true, true, true, true, true, false, false, false, false, false, false, false, false] rfl rfl (by kernel_rfl) (fun _ _ _ h => h) (Or.inl ⟨by rfl, ?_⟩) ?_ ?_
      rotate_left
      ·intro w'
       go_simp
       with_reducible rfl
      rotate_left
      ·simp only [Act.put, List.setIfInBounds_toArray, List.set_cons_zero, List.set_cons_succ, i64_w, i32_w]
       rfl
      refine pure_ (i := 7) (N := some 63) (v := ?_) (a' := ?_) #[true, true, true, true, true, true, true, true, false, false, false, false, false, false, false] rfl rfl (by kernel_rfl) (fun _ _ _ h => h) (Or.inl ⟨by rfl, ?_⟩) ?_ ?_
      rotate_left
      ·intro w'
       go_simp
       with_reducible rfl
      rotate_left
      ·simp only [Act.put, List.setIfInBounds_toArray, List.set_cons_zero, List.set_cons_succ, i64_w, i32_w]
       rfl
      refine take_ (i := 8) (N := some 64) (v := ?_) (a' := ?_) #[true, true, true, true, true, true, true, true, true, false, false, false, false, false, false] rfl rfl (by kernel_rfl) (fun _ _ _ h => h) (Or.inl ⟨by rfl, ?_⟩) hHeld ?_ ?_
      rotate_left
      ·rintro w' ⟨s0, s1⟩
       go_simp
       with_reducible rfl
      rotate_left
      ·simp only [Act.put, List.setIfInBounds_toArray, List.set_cons_zero, List.set_cons_succ, i64_w, i32_w]
       rfl
      refine one_ (i := 9) (N := some 65) #[true, true, true, true, true, true, true, true, true, true, false, false, false, false, false] rfl rfl (by kernel_rfl) (by decide) (fun K hK => ?_)
      refine goes_ Try.func69 (by kernel_rfl) rfl #[.slice (some ⟨gr, 0, none⟩) row.length row.length] (by rfl) rfl rfl (by (try simp only [List.map_toArray, List.map_cons, List.map_nil]); first | done | rfl) ?_
      refine (Zcf.calls (some ⟨gr, 0, none⟩) row.length row row w2 (HR3.out.C (by have := HR1.out; omega)) (Nat.le_refl _) HOWN.out).mono ?_
      rintro e w3 ⟨v3, rfl, hv3, hb3⟩
      refine ⟨_, rfl, ?_⟩
      have HV3 := Aside0.mk hv3
      have HB4 := Aside0.mk hb3
      have HO4 := Aside0.mk (blk_below HO3.out hb3)
      have HR4 := Aside0.mk (show IB w3 gr row from blk_below HR3.out hb3)
      have HS4 := Aside0.mk (Kd.S_below (Kd.S_bound HS3.out) hb3)
      clear hv3 hb3
      refine hK.out _ _ ⟨(blk_cell HO4.out 8).trans rfl, (blk_cell HO4.out 0).trans rfl⟩ (fun hHeld => ?_)
      clear hK K
      refine norm_ (a' := ?_) ?_ ?_
      rotate_left
      ·show Act.put _ (some 65) _ = _
       simp only [Act.put, List.setIfInBounds_toArray, List.set_cons_zero, List.set_cons_succ, i64_w, i32_w]
       rfl
      obtain ⟨A4, c4, e4⟩ := Kd.R_slice HV3.out
      subst e4
      refine one_ (i := 10) (N := some 66) #[true, true, true, true, true, true, true, true, true, true, true, false, false, false, false] rfl rfl (by kernel_rfl) (by decide) (fun K hK => ?_)
      refine value_ (v := .slice (some ⟨w3.heap.size, 0, none⟩) 1 1) (w1 := w3.alloc (.cells #[.slice A4 row.length c4] 24)) (by rfl) rfl ?_ ?_
      ·first | (go_simp; done) | (go_simp; rfl)
      refine hK.out _ _ ⟨(blk_cell (blk_alloc HO4.out _) 8).trans rfl, (blk_cell (blk_alloc HO4.out _) 0).trans rfl⟩ (fun hHeld => ?_)
      clear hK K
      refine norm_ (a' := ?_) ?_ ?_
      rotate_left
      ·show Act.put _ (some 66) _ = _
       simp only [Act.put, List.setIfInBounds_toArray, List.set_cons_zero, List.set_cons_succ, i64_w, i32_w]
       rfl
      refine one_ (i := 11) (N := some 67) #[true, true, true, true, true, true, true, true, true, true, true, true, false, false, false] rfl rfl (by kernel_rfl) (by decide) (fun K hK => ?_)
      have hsz := HB4.out.size
      have hgS := blk_lt HO3.out
      have hgr := blk_lt HR3.out
      have hb2 : base ≤ w2.heap.size := by have := HBS.out; omega
      refine Kd.S_append_step (Kd.slice 3 (Kd.int .i64)) (w0 := wc) (W := w3) base (by rfl) (.tmp 60) (.tmp 66) 67 24 (.slice none 0 0) 24 rfl Try.underlying67 info24 rfl (by decide) (by omega) (.slice A2 s.2.length c2) s.2 row [.slice A4 row.length c4] (fun k => k ≠ gS ∧ k ≠ gr) (fun k_ => some k_ = (.slice A4 row.length c4 : Value).ownBlock) rfl rfl ?aP ?aK ?aF ?aO ?aB ?aS ?aL ?_
      case aP => exact Kd.M_row (Kd.R_mono (Kd.R_tight rfl (Kd.R_lower HV3.out hb2)) (fun _ h_ => h_))
      case aK =>
       intro k hk
       have h1 := Kd.R_base HV3.out k hk.symm
       exact ⟨⟨by omega, by omega⟩, fun e => by have := Kd.S_lt HS3.out k e.symm; omega⟩
      case aF => exact fun k hk => ⟨by omega, by omega⟩
      case aO =>
       refine Kd.S_mono HS4.out (fun k hk => ⟨hk.1, fun e => ?_⟩)
       have h1 := Kd.R_base HV3.out k e.symm
       have := hk.2.2.1
       omega
      case aB => exact HB3.out.trans (HB4.out.mono hb2)
      case aS => omega
      case aL => have := HBD.out.2; omega
      intro v4 w4 hS4 hB4 hg4 hat4
      have HO5 := Aside0.mk (blk_grown HO4.out hg4 (Kd.S_ne HS4.out HO4.out (by decide)))
      have HR5 := Aside0.mk (show IB w4 gr row from blk_grown HR4.out hg4 (Kd.S_ne HS4.out HR4.out (by decide)))
      have HB5 := Aside0.mk hB4
      have HS5 := Aside0.mk hS4
      clear hsz hb2 hgS hgr hS4 hB4 hg4 hat4
      obtain ⟨A5, c5, e5⟩ := Kd.S_slice HS5.out
      subst e5
      refine hK.out _ _ ⟨(blk_cell HO5.out 8).trans rfl, (blk_cell HO5.out 0).trans rfl⟩ (fun hHeld => ?_)
      clear hK K
      refine norm_ (a' := ?_) ?_ ?_
      rotate_left
      ·show Act.put _ (some 67) _ = _
       simp only [Act.put, List.setIfInBounds_toArray, List.set_cons_zero, List.set_cons_succ, i64_w, i32_w]
       rfl
      refine pure_ (i := 12) (N := some 68) (v := ?_) (a' := ?_) #[true, true, true, true, true, true, true, true, true, true, true, true, true, false, false] rfl rfl (by kernel_rfl) (fun _ _ _ h => h) (Or.inl ⟨by rfl, ?_⟩) ?_ ?_
      rotate_left
      ·intro w'
       go_simp
       with_reducible rfl
      rotate_left
      ·simp only [Act.put, List.setIfInBounds_toArray, List.set_cons_zero, List.set_cons_succ, i64_w, i32_w]
       rfl
      refine pure_ (i := 13) (N := some 69) (v := ?_) (a' := ?_) #[true, true, true, true, true, true, true, true, true, true, true, true, true, true, false] rfl rfl (by kernel_rfl) (fun _ _ _ h => h) (Or.inl ⟨by rfl, ?_⟩) ?_ ?_
      rotate_left
      ·intro w'
       go_simp
       with_reducible rfl
      rotate_left
      ·simp only [Act.put, List.setIfInBounds_toArray, List.set_cons_zero, List.set_cons_succ, i64_w, i32_w]
       rfl
      have hc8 := hHeld.1
      have hf8 := blk_frozen HO5.out 8
      refine last_ (i := 14) (N := none) #[true, true, true, true, true, true, true, true, true, true, true, true, true, true, true] rfl rfl (by kernel_rfl) (by decide) (fun K hK => ?_)
      refine skip_ (w1 := w4.setCell ⟨gS, 8, none⟩ (.slice A5 (s.2 ++ [row]).length c5)) (by rfl) rfl ?_ ?_
      ·first | (go_simp; done) | (go_simp; rfl)
      refine hK.out _ _ ?_
      clear hK K
      refine done_ (by kernel_rfl) ?_
      have HI6 := Aside0.mk (show SeI base gS gr from_ to_ shift hole most row used (s.1 + 1, s.2 ++ [row]) (w4.setCell ⟨gS, 8, none⟩ (.slice A5 (s.2 ++ [row]).length c5)) from ⟨⟨_, blk_put HO5.out 8 _ rfl, Kd.S_step HS5.out (fun k ho hl => Below.heap_setCell _ _ _ _ ho.1)⟩, (show IB _ gr row from (Below.heap_setCell _ _ _ _ HNE.out.symm).trans HR5.out)⟩)
      have HB6 := Aside0.mk (HB5.out.setCell (show base ≤ (⟨gS, 8, none⟩ : Addr).block from HBS.out) (.slice A5 (s.2 ++ [row]).length c5))
      clear hHeld hc8 hf8
      generalize w4.setCell ⟨gS, 8, none⟩ (.slice A5 (s.2 ++ [row]).length c5) = w5 at HI6 HB6 ⊢
      try go_wp2
      first | go_end0 | ((try simp only [Exit.inBlock, Exit.then]); refine bodyPost_ret (results_none rfl _ _ _) rfl ?_)
      exact ⟨rfl, by have e := HXS.out; rw [if_pos HNL.out] at e; rw [← e]; exact HI6.out, HB1.out.trans (HBC.out.trans HB6.out)⟩
def Zbi.f (s0_0 : List Int) (s0_1 : Int) (s0_2 : Int) (l1 : List Int) : Option (Int × Int × Int) := (Zac.f s0_0 s0_1 s0_2 (l1.length : Int)).bind fun bt108 => (if 0 ≤ bt108.1 then (if bt108.1 < (l1.length : Int) then (some (rd l1 bt108.1, bt108.2.1, bt108.2.2)) else (none)) else (none))
theorem Zbi.calls (g : Nat) (s0_0 : List Int) (s0_1 : Int) (s0_2 : Int) (A1 : Option Addr) (c1 : Nat) (l1 : List Int) (r1 : Int) (r2 : Int) (r3 : Int) (w0 w : World) (hI : IsS48 w0 w g s0_0 s0_1 s0_2) (hB : Below w0.heap.size w0 w) (hr1 : Kd.C (Kd.int .i64) w A1 l1.length l1) (hc1 : l1.length ≤ c1) (hf1 : ∀ ad, A1 = some ad → 0 < l1.length → ad.block ≠ g) (h : Zbi.f s0_0 s0_1 s0_2 l1 = some (r1, r2, r3)) :
  Calls Try.prog 53 #[.pointer (some ⟨g, 0, none⟩), .slice A1 l1.length c1] w fun e w' => e = .returned (.int .i64 r1) ∧ IsS48 w0 w' g s0_0 r2 r3 ∧ Below w0.heap.size w0 w' ∧ KeepBut w w' g none := by
 have HR1 := Aside0.mk hr1
 have HC1 := Aside0.mk hc1
 clear hr1 hc1
 have HI0 := Aside0.mk hI
 have HK := Aside0.mk (KeepBut.refl w g none)
 have HL := Aside0.mk hB.size
 clear hI
 have HW0 := Aside0.mk hB.size
 have HB := Aside0.mk hB
 clear hB
 have H := h
 unfold Zbi.f at H
 clear h
 replace H := Option.bind_eq_some_iff.mp H
 obtain ⟨⟨t108, t109, t110⟩, A30, H⟩ := H
 replace H : (if 0 ≤ t108 then (if t108 < (l1.length : Int) then (some (rd l1 t108, t109, t110)) else (none)) else (none)) = some (r1, r2, r3) := H
 have A3 := Aside0.mk A30
 clear A30
 obtain ⟨c4b0, H⟩ := in_ H
 obtain ⟨c5b0, H⟩ := in_ H
 simp only [Option.some.injEq, Prod.mk.injEq] at H
 obtain ⟨rfl, rfl, rfl⟩ := H
 go_enter Try.func53, Try.ntmps53
 go_wp2_with (first | ((with_reducible refine gate_callee (f := 42) rfl ?_); refine goesA (some 9) Try.func42 #[.pointer (some ⟨g, 0, none⟩), .int .i64 (l1.length : Int)] ?_; (with_reducible refine (Zac.calls g s0_0 s0_1 s0_2 (l1.length : Int) t108 t109 t110 w0 _ ?side1 ?side2 A3.out).mono ?_); (case side1 => exact IsS48.at HI0); (case side2 => exact atB HB); rintro e w6 ⟨rfl, hi, hb, hk⟩; refine ⟨_, rfl, ?_⟩; replace HK := upK HK hk; replace HB := Aside0.mk (hb); replace HI0 := Aside0.mk (hi); have p111 : 0 ≤ (t108 : Int) := ofd; have q111 : t108 < (l1.length : Int) := ofd; obtain ⟨ad111, e111, hx111_0⟩ := Kd.at_int HR1.out t108 p111 q111; cases e111; replace hx111_0 := keep_cell HK.out hx111_0 (by first | (rw [add_block]; exact hf1 _ rfl (by omega)) | exact hf1 _ rfl (by omega) | exact hf1 ad111 rfl (by omega)); replace p111 := eq_true p111; replace q111 := eq_true q111))
 go_ret
 exact ⟨eqr, IsS48.at HI0, atB HB, atK HK⟩
mutual
def Zae.l0 : Nat → List Int → Int → List Int → Int → Int → Option (List Int × Int × Int)
 | 0, _, _, _, _, _ => none
 | k + 1, x3, x4, x1000, x1001, x1002 => if x4 > 0 then ((Zat.f x1000 x1001 x1002 3).bind fun bt275 => (if bt275.1 = true then (if x3.length < 17592186044416 then (Zae.l0 k (x3 ++ [wrap64 ((x3.length : Int) - 1)]) (wrap64 (x4 - 1)) x1000 bt275.2.1 bt275.2.2) else (none)) else ((Zac.f x1000 bt275.2.1 bt275.2.2 (x3.length : Int)).bind fun bt281 => (if x3.length < 17592186044416 then (Zae.l0 k (x3 ++ [bt281.1]) (wrap64 (x4 - 1)) x1000 bt281.2.1 bt281.2.2) else (none))))) else ((Zac.f x1000 x1001 x1002 14).bind fun bt287 => (if bt287.1 = 0 then ((Zac.f x1000 bt287.2.1 bt287.2.2 (x3.length : Int)).bind fun bt290 => ((Zbi.f x1000 bt290.2.1 bt290.2.2 (([(-1), (-2), 0, 5, 4611686018427387904] : List Int))).bind fun bt296 => (if 0 ≤ bt290.1 then (if bt290.1 < (x3.length : Int) then (some ((x3.set (bt290.1 : Int).toNat bt296.1), bt296.2.1, bt296.2.2)) else (none)) else (none)))) else (if bt287.1 = 1 then (some (([] : List Int), bt287.2.1, bt287.2.2)) else (if bt287.1 = 2 then (Zae.l1 k x3 x1000 bt287.2.1 bt287.2.2) else (some (x3, bt287.2.1, bt287.2.2))))))
def Zae.l1 : Nat → List Int → List Int → Int → Int → Option (List Int × Int × Int)
 | 0, _, _, _, _ => none
 | k + 1, x3, x1000, x1001, x1002 => (Zac.f x1000 x1001 x1002 2).bind fun bt300 => (if (x3.length : Int) < (wrap64 (9 + bt300.1)) then (if x3.length < 17592186044416 then (Zae.l1 k (x3 ++ [0]) x1000 bt300.2.1 bt300.2.2) else (none)) else (some (x3, bt300.2.1, bt300.2.2)))
end
def Zae.f (k : Nat) (s0_0 : List Int) (s0_1 : Int) (s0_2 : Int) : Option (List Int × Int × Int) := (Zac.f s0_0 s0_1 s0_2 7).bind fun bt272 => (Zae.l0 k (([(-1)] : List Int)) bt272.1 s0_0 bt272.2.1 bt272.2.2)
theorem Zae.mono_l : ∀ k, (∀ y0 y1 y2 y3 y4, LeO (Zae.l0 k y0 y1 y2 y3 y4) (Zae.l0 (k + 1) y0 y1 y2 y3 y4)) ∧ (∀ y0 y1 y2 y3, LeO (Zae.l1 k y0 y1 y2 y3) (Zae.l1 (k + 1) y0 y1 y2 y3))
 | 0 => ⟨fun _ _ _ _ _ r h => by simp [Zae.l0] at h, fun _ _ _ _ r h => by simp [Zae.l1] at h⟩
 | k + 1 => by
  obtain ⟨ih0, ih1⟩ := Zae.mono_l k
  refine ⟨?_, ?_⟩
  ·intro y0 y1 y2 y3 y4
   unfold Zae.l0
   repeat' (first | (with_reducible first | exact ih0 _ _ _ _ _ | exact ih1 _ _ _ _ | exact LeO.refl _ | exact LeO.none _ | refine LeO.ite ?_ ?_ | refine LeO.bind ?_ (fun _ => ?_)) | exact ih0 _ _ _ _ _ | exact ih1 _ _ _ _ | exact LeO.none _ | refine LeO.ite ?_ ?_ | refine LeO.bind ?_ (fun _ => ?_))
  ·intro y0 y1 y2 y3
   unfold Zae.l1
   repeat' (first | (with_reducible first | exact ih1 _ _ _ _ | exact LeO.refl _ | exact LeO.none _ | refine LeO.ite ?_ ?_ | refine LeO.bind ?_ (fun _ => ?_)) | exact ih1 _ _ _ _ | exact LeO.none _ | refine LeO.ite ?_ ?_ | refine LeO.bind ?_ (fun _ => ?_))
theorem Zae.mono : ∀ a0 a1 a2 k, LeO (Zae.f k a0 a1 a2) (Zae.f (k + 1) a0 a1 a2) := by
 intro a0 a1 a2 k
 obtain ⟨ih0, ih1⟩ := Zae.mono_l k
 unfold Zae.f
 repeat' (first | (with_reducible first | exact ih0 _ _ _ _ _ | exact LeO.refl _ | exact LeO.none _ | refine LeO.ite ?_ ?_ | refine LeO.bind ?_ (fun _ => ?_)) | exact ih0 _ _ _ _ _ | exact LeO.none _ | refine LeO.ite ?_ ?_ | refine LeO.bind ?_ (fun _ => ?_))
theorem Zae.calls (k : Nat) (g : Nat) (s0_0 : List Int) (s0_1 : Int) (s0_2 : Int) (r1 : List Int) (r2 : Int) (r3 : Int) (w0 w : World) (hI : IsS48 w0 w g s0_0 s0_1 s0_2) (hB : Below w0.heap.size w0 w) (h : Zae.f k s0_0 s0_1 s0_2 = some (r1, r2, r3)) :
  Calls Try.prog 48 #[.pointer (some ⟨g, 0, none⟩)] w fun e w' => ∃ v0_ : Value, e = .returned (v0_) ∧ Kd.R (Kd.int .i64) 3 w' w.heap.size (fun _ => True) v0_ r1 ∧ IsS48 w0 w' g s0_0 r2 r3 ∧ Below w0.heap.size w0 w' ∧ KeepBut w w' g none := by
 have HI0 := Aside0.mk hI
 have HK := Aside0.mk (KeepBut.refl w g none)
 have HL := Aside0.mk hB.size
 clear hI
 have HW0 := Aside0.mk hB.size
 have HB := Aside0.mk hB
 clear hB
 have H := h
 unfold Zae.f at H
 clear h
 obtain ⟨y269, hy269⟩ : ∃ y_ : List Int, y_ = (([(-1)] : List Int)) := ⟨_, rfl⟩
 replace H : ((Zac.f s0_0 s0_1 s0_2 7).bind fun bt272 => (Zae.l0 k y269 bt272.1 s0_0 bt272.2.1 bt272.2.2)) = some (r1, r2, r3) := by first | (rw [hy269]; with_reducible exact H) | (have H2_ := (Option.bind_some _ _).symm.trans H; rw [hy269]; with_reducible exact H2_) | (have H2_ := (Option.bind_some _ _).symm.trans H; with_reducible exact H2_) | with_reducible exact H | (rw [hy269]; exact H) | exact H
 have Ny269 := Aside0.mk hy269
 clear hy269
 replace H := Option.bind_eq_some_iff.mp H
 obtain ⟨⟨t272, t273, t274⟩, A20, H⟩ := H
 replace H : (Zae.l0 k y269 t272 s0_0 t273 t274) = some (r1, r2, r3) := H
 have A2 := Aside0.mk A20
 clear A20
 have H' := Aside0.mk H
 clear H
 go_enter Try.func48, Try.ntmps48
 go_wp2_with (first | ((with_reducible refine gate_dst (N := 5) rfl ?_); refine Kd.R_lit (Kd.int .i64) _ 3 ?hg (N := 5) ?hd (xs := ([(-1)] : List Int)) (inner := [.int .i64 (-1)]) (ok := fun _ => True) (okp := fun _ => True) ?hr ?hp (fun _ hk => hk) trivial (Below.refl _ _) (Nat.le_refl _) (by simp) ?_; (case hd => rfl); (case hg => rfl); (case hr => first | (go_simp; done) | (go_simp; rfl)); (case hp => exact repsI _); intro v270 w3 ho4 hb hg_ hnew_; clear hg_ hnew_; (first | rw [← Ny269.out] at ho4 | (simp only [Int.reduceToNat] at ho4; rw [← Ny269.out] at ho4)); have HO271 := lowKR ho4 HK; replace HI0 := IsS48.up HI0 hb; replace HK := upKB HK hb; replace HB := upB HB hb; clear hb ho4) | ((with_reducible refine gate_callee (f := 42) rfl ?_); refine goesA (some 7) Try.func42 #[.pointer (some ⟨g, 0, none⟩), .int .i64 7] ?_; (with_reducible refine (Zac.calls g s0_0 s0_1 s0_2 7 t272 t273 t274 w0 _ ?side1 ?side2 A2.out).mono ?_); (case side1 => exact IsS48.at HI0); (case side2 => exact atB HB); rintro e w5 ⟨rfl, hi, hb, hk⟩; refine ⟨_, rfl, ?_⟩; replace HO271 := IsS48.keepR HI0 HO271 hk; replace HK := upK HK hk; replace HB := Aside0.mk (hb); replace HI0 := Aside0.mk (hi)))
 go_loopg [3, 4] k (fun kq v3 v4 w' => ∃ (x3_1 : List Int) (x4_1 : Int) (x1001_1 : Int) (x1002_1 : Int), v4 = .int .i64 x4_1 ∧ Aside0 (Zae.l0 kq x3_1 x4_1 s0_0 x1001_1 x1002_1 = some (r1, r2, r3)) ∧ Aside0 (kq ≤ k) ∧ Aside0 (Kd.R (Kd.int .i64) 3 w' w.heap.size (fun _ => True) v3 x3_1) ∧ Aside0 (IsS48 w0 w' g s0_0 x1001_1 x1002_1) ∧ Aside0 (KeepBut w w' g none) ∧ Aside0 (Below w0.heap.size w0 w'))
 case atStart => exact ⟨(y269), (t272), (t273), (t274), eqd, H', ⟨Nat.le_refl _⟩, ⟨atR HO271⟩, ⟨IsS48.at HI0⟩, ⟨atK HK⟩, ⟨atB HB⟩⟩
 case round =>
  clear H'
  obtain ⟨x3_1, x4_1, x1001_1, x1002_1, rfl, HA, HK1, HO_3, HI0, HK, HB⟩ := hrel
  cases gk with
  | zero => exact absurd HA.out (by simp [Zae.l0])
  | succ k1 =>
   have H := HA.out
   clear HA
   simp only [Zae.l0] at H
   by_cases c6 : x4_1 > 0
   ·rw [if_pos c6] at H
    have c6b0 := decide_eq_true c6
    clear c6
    replace H := Option.bind_eq_some_iff.mp H
    obtain ⟨⟨t275, t276, t277⟩, A70, H⟩ := H
    replace H : (if t275 = true then (if x3_1.length < 17592186044416 then (Zae.l0 k1 (x3_1 ++ [wrap64 ((x3_1.length : Int) - 1)]) (wrap64 (x4_1 - 1)) s0_0 t276 t277) else (none)) else ((Zac.f s0_0 t276 t277 (x3_1.length : Int)).bind fun bt281 => (if x3_1.length < 17592186044416 then (Zae.l0 k1 (x3_1 ++ [bt281.1]) (wrap64 (x4_1 - 1)) s0_0 bt281.2.1 bt281.2.2) else (none)))) = some (r1, r2, r3) := H
    have A7 := Aside0.mk A70
    clear A70
    by_cases c8 : t275 = true
    ·subst c8
     replace H := it_ H
     obtain ⟨c9, H⟩ := in0_ H
     have LMc9 := Aside0.mk c9
     clear c9
     obtain ⟨y278, hy278⟩ : ∃ y_ : List Int, y_ = (x3_1 ++ [wrap64 ((x3_1.length : Int) - 1)]) := ⟨_, rfl⟩
     replace H : (Zae.l0 k1 y278 (wrap64 (x4_1 - 1)) s0_0 t276 t277) = some (r1, r2, r3) := by first | (rw [hy278]; with_reducible exact H) | (have H2_ := (Option.bind_some _ _).symm.trans H; rw [hy278]; with_reducible exact H2_) | (have H2_ := (Option.bind_some _ _).symm.trans H; with_reducible exact H2_) | with_reducible exact H | (rw [hy278]; exact H) | exact H
     have Ny278 := Aside0.mk hy278
     clear hy278
     have H' := Aside0.mk H
     clear H
     go_wp2_with (first | ((with_reducible refine gate_callee (f := 47) rfl ?_); refine goesA (some 13) Try.func47 #[.pointer (some ⟨g, 0, none⟩), .int .i64 3] ?_; (with_reducible refine (Zat.calls g s0_0 x1001_1 x1002_1 3 true t276 t277 w0 _ ?side1 ?side2 A7.out).mono ?_); (case side1 => exact IsS48.at HI0); (case side2 => exact atB HB); rintro e w10 ⟨rfl, hi, hb, hk⟩; refine ⟨_, rfl, ?_⟩; replace HO_3 := IsS48.keepR HI0 HO_3 hk; replace HK := upK HK hk; replace HB := Aside0.mk (hb); replace HI0 := Aside0.mk (hi); obtain ⟨Ao11, co11, eo11⟩ := Kd.R_slice HO_3.out; subst eo11) | ((with_reducible refine gate_builtin (b := .append) (xs := #[.tmp 14, .tmp 18]) rfl ?_); at_builtin; refine Kd.R_append (Kd.int .i64) w.heap.size rfl (.tmp 14) (.tmp 18) 24 3 (.int .i64 0) 8 rfl Try.underlying24 info3 rfl (by decide) (by omega) (.slice Ao11 x3_1.length co11) x3_1 (wrap64 ((x3_1.length : Int) - 1)) [.int .i64 (wrap64 ((x3_1.length : Int) - 1))] (fun _ => True) (fun _ => False) rfl rfl ?aP (fun _ hk => hk.elim) ?aF ?aO (Below.refl _ _) ?aS ?aL ?_; (case aP => exact rfl); (case aF => exact (fun _ _ => trivial)); (case aO => exact (atR HO_3)); (case aS => exact (szK HK)); (case aL => have := LMc9.out; omega); intro v279 w12 ho hb hg hat; rw [← Ny278.out] at ho; have HO280 := Aside0.mk (ho); replace HI0 := Aside0.mk (IsS48.grown (IsS48.at HI0) hg (IsS48.own_ne HI0.out HO_3.out (by decide))); replace HB := Aside0.mk (below_weaken (atB HB) HL.out hb); replace HK := Aside0.mk (KeepBut.trans (atK HK) (KeepBut.of_grown hg g) (Kd.R_base2 HO_3.out)); clear HO_3; clear ho hb hg hat))
     go_roundg k1
     case measure => have := HK1.out; omega
     case rel => exact ⟨(y278), (wrap64 (x4_1 - 1)), (t276), (t277), eqd, H', ⟨by have := HK1.out; omega⟩, ⟨atR HO280⟩, ⟨IsS48.at HI0⟩, ⟨atK HK⟩, ⟨atB HB⟩⟩
    ·replace c8 := Bool.eq_false_iff.mpr c8
     subst c8
     replace H := if_ H
     replace H := Option.bind_eq_some_iff.mp H
     obtain ⟨⟨t281, t282, t283⟩, A130, H⟩ := H
     replace H : (if x3_1.length < 17592186044416 then (Zae.l0 k1 (x3_1 ++ [t281]) (wrap64 (x4_1 - 1)) s0_0 t282 t283) else (none)) = some (r1, r2, r3) := H
     have A13 := Aside0.mk A130
     clear A130
     obtain ⟨c14, H⟩ := in0_ H
     have LMc14 := Aside0.mk c14
     clear c14
     obtain ⟨y284, hy284⟩ : ∃ y_ : List Int, y_ = (x3_1 ++ [t281]) := ⟨_, rfl⟩
     replace H : (Zae.l0 k1 y284 (wrap64 (x4_1 - 1)) s0_0 t282 t283) = some (r1, r2, r3) := by first | (rw [hy284]; with_reducible exact H) | (have H2_ := (Option.bind_some _ _).symm.trans H; rw [hy284]; with_reducible exact H2_) | (have H2_ := (Option.bind_some _ _).symm.trans H; with_reducible exact H2_) | with_reducible exact H | (rw [hy284]; exact H) | exact H
     have Ny284 := Aside0.mk hy284
     clear hy284
     have H' := Aside0.mk H
     clear H
     go_wp2_with (first | ((with_reducible refine gate_callee (f := 47) rfl ?_); refine goesA (some 13) Try.func47 #[.pointer (some ⟨g, 0, none⟩), .int .i64 3] ?_; (with_reducible refine (Zat.calls g s0_0 x1001_1 x1002_1 3 false t276 t277 w0 _ ?side1 ?side2 A7.out).mono ?_); (case side1 => exact IsS48.at HI0); (case side2 => exact atB HB); rintro e w15 ⟨rfl, hi, hb, hk⟩; refine ⟨_, rfl, ?_⟩; replace HO_3 := IsS48.keepR HI0 HO_3 hk; replace HK := upK HK hk; replace HB := Aside0.mk (hb); replace HI0 := Aside0.mk (hi); obtain ⟨Ao16, co16, eo16⟩ := Kd.R_slice HO_3.out; subst eo16) | ((with_reducible refine gate_callee (f := 42) rfl ?_); refine goesA (some 24) Try.func42 #[.pointer (some ⟨g, 0, none⟩), .int .i64 (x3_1.length : Int)] ?_; (with_reducible refine (Zac.calls g s0_0 t276 t277 (x3_1.length : Int) t281 t282 t283 w0 _ ?side1 ?side2 A13.out).mono ?_); (case side1 => exact IsS48.at HI0); (case side2 => exact atB HB); rintro e w17 ⟨rfl, hi, hb, hk⟩; refine ⟨_, rfl, ?_⟩; replace HO_3 := IsS48.keepR HI0 HO_3 hk; replace HK := upK HK hk; replace HB := Aside0.mk (hb); replace HI0 := Aside0.mk (hi)) | ((with_reducible refine gate_builtin (b := .append) (xs := #[.tmp 20, .tmp 25]) rfl ?_); at_builtin; refine Kd.R_append (Kd.int .i64) w.heap.size rfl (.tmp 20) (.tmp 25) 24 3 (.int .i64 0) 8 rfl Try.underlying24 info3 rfl (by decide) (by omega) (.slice Ao16 x3_1.length co16) x3_1 t281 [.int .i64 t281] (fun _ => True) (fun _ => False) rfl rfl ?aP (fun _ hk => hk.elim) ?aF ?aO (Below.refl _ _) ?aS ?aL ?_; (case aP => exact rfl); (case aF => exact (fun _ _ => trivial)); (case aO => exact (atR HO_3)); (case aS => exact (szK HK)); (case aL => have := LMc14.out; omega); intro v285 w18 ho hb hg hat; rw [← Ny284.out] at ho; have HO286 := Aside0.mk (ho); replace HI0 := Aside0.mk (IsS48.grown (IsS48.at HI0) hg (IsS48.own_ne HI0.out HO_3.out (by decide))); replace HB := Aside0.mk (below_weaken (atB HB) HL.out hb); replace HK := Aside0.mk (KeepBut.trans (atK HK) (KeepBut.of_grown hg g) (Kd.R_base2 HO_3.out)); clear HO_3; clear ho hb hg hat))
     go_roundg k1
     case measure => have := HK1.out; omega
     case rel => exact ⟨(y284), (wrap64 (x4_1 - 1)), (t282), (t283), eqd, H', ⟨by have := HK1.out; omega⟩, ⟨atR HO286⟩, ⟨IsS48.at HI0⟩, ⟨atK HK⟩, ⟨atB HB⟩⟩
   ·rw [if_neg c6] at H
    have c6b0 := decide_eq_false c6
    clear c6
    replace H := Option.bind_eq_some_iff.mp H
    obtain ⟨⟨t287, t288, t289⟩, A190, H⟩ := H
    replace H : (if t287 = 0 then ((Zac.f s0_0 t288 t289 (x3_1.length : Int)).bind fun bt290 => ((Zbi.f s0_0 bt290.2.1 bt290.2.2 (([(-1), (-2), 0, 5, 4611686018427387904] : List Int))).bind fun bt296 => (if 0 ≤ bt290.1 then (if bt290.1 < (x3_1.length : Int) then (some ((x3_1.set (bt290.1 : Int).toNat bt296.1), bt296.2.1, bt296.2.2)) else (none)) else (none)))) else (if t287 = 1 then (some (([] : List Int), t288, t289)) else (if t287 = 2 then (Zae.l1 k1 x3_1 s0_0 t288 t289) else (some (x3_1, t288, t289))))) = some (r1, r2, r3) := H
    have A19 := Aside0.mk A190
    clear A190
    by_cases c20 : t287 = 0
    ·rw [if_pos c20] at H
     have c20b0 : (t287 == 0) = true := beq_iff_eq.mpr c20
     have c20b1 : (t287 != 0) = false := bne_eq_false_iff_eq.mpr c20
     clear c20
     replace H := Option.bind_eq_some_iff.mp H
     obtain ⟨⟨t290, t291, t292⟩, A210, H⟩ := H
     replace H : ((Zbi.f s0_0 t291 t292 (([(-1), (-2), 0, 5, 4611686018427387904] : List Int))).bind fun bt296 => (if 0 ≤ t290 then (if t290 < (x3_1.length : Int) then (some ((x3_1.set (t290 : Int).toNat bt296.1), bt296.2.1, bt296.2.2)) else (none)) else (none))) = some (r1, r2, r3) := H
     have A21 := Aside0.mk A210
     clear A210
     obtain ⟨y293, hy293⟩ : ∃ y_ : List Int, y_ = (([(-1), (-2), 0, 5, 4611686018427387904] : List Int)) := ⟨_, rfl⟩
     replace H : ((Zbi.f s0_0 t291 t292 y293).bind fun bt296 => (if 0 ≤ t290 then (if t290 < (x3_1.length : Int) then (some ((x3_1.set (t290 : Int).toNat bt296.1), bt296.2.1, bt296.2.2)) else (none)) else (none))) = some (r1, r2, r3) := by first | (rw [hy293]; with_reducible exact H) | (have H2_ := (Option.bind_some _ _).symm.trans H; rw [hy293]; with_reducible exact H2_) | (have H2_ := (Option.bind_some _ _).symm.trans H; with_reducible exact H2_) | with_reducible exact H | (rw [hy293]; exact H) | exact H
     have Ny293 := Aside0.mk hy293
     clear hy293
     replace H := Option.bind_eq_some_iff.mp H
     obtain ⟨⟨t296, t297, t298⟩, A220, H⟩ := H
     replace H : (if 0 ≤ t290 then (if t290 < (x3_1.length : Int) then (some ((x3_1.set (t290 : Int).toNat t296), t297, t298)) else (none)) else (none)) = some (r1, r2, r3) := H
     have A22 := Aside0.mk A220
     clear A220
     obtain ⟨c23b0, H⟩ := in_ H
     obtain ⟨c24b0, H⟩ := in_ H
     obtain ⟨y299, hy299⟩ : ∃ y_ : List Int, y_ = (x3_1.set (t290 : Int).toNat t296) := ⟨_, rfl⟩
     replace H : (some (y299, t297, t298)) = some (r1, r2, r3) := by first | (rw [hy299]; with_reducible exact H) | (have H2_ := (Option.bind_some _ _).symm.trans H; rw [hy299]; with_reducible exact H2_) | (have H2_ := (Option.bind_some _ _).symm.trans H; with_reducible exact H2_) | with_reducible exact H | (rw [hy299]; exact H) | exact H
     have Ny299 := Aside0.mk hy299
     clear hy299
     simp only [Option.some.injEq, Prod.mk.injEq] at H
     obtain ⟨rfl, rfl, rfl⟩ := H
     go_wp2_with (first | ((with_reducible refine gate_callee (f := 42) rfl ?_); refine goesA (some 28) Try.func42 #[.pointer (some ⟨g, 0, none⟩), .int .i64 14] ?_; (with_reducible refine (Zac.calls g s0_0 x1001_1 x1002_1 14 t287 t288 t289 w0 _ ?side1 ?side2 A19.out).mono ?_); (case side1 => exact IsS48.at HI0); (case side2 => exact atB HB); rintro e w26 ⟨rfl, hi, hb, hk⟩; refine ⟨_, rfl, ?_⟩; replace HO_3 := IsS48.keepR HI0 HO_3 hk; replace HK := upK HK hk; replace HB := Aside0.mk (hb); replace HI0 := Aside0.mk (hi); obtain ⟨Ao27, co27, eo27⟩ := Kd.R_slice HO_3.out; subst eo27) | ((with_reducible refine gate_callee (f := 42) rfl ?_); refine goesA (some 35) Try.func42 #[.pointer (some ⟨g, 0, none⟩), .int .i64 (x3_1.length : Int)] ?_; (with_reducible refine (Zac.calls g s0_0 t288 t289 (x3_1.length : Int) t290 t291 t292 w0 _ ?side1 ?side2 A21.out).mono ?_); (case side1 => exact IsS48.at HI0); (case side2 => exact atB HB); rintro e w28 ⟨rfl, hi, hb, hk⟩; refine ⟨_, rfl, ?_⟩; replace HO_3 := IsS48.keepR HI0 HO_3 hk; replace HK := upK HK hk; replace HB := Aside0.mk (hb); replace HI0 := Aside0.mk (hi)) | ((with_reducible refine gate_dst (N := 37) rfl ?_); refine Kd.R_lit (Kd.int .i64) _ 3 ?hg (N := 37) ?hd (xs := ([(-1), (-2), 0, 5, 4611686018427387904] : List Int)) (inner := [.int .i64 (-1), .int .i64 (-2), .int .i64 0, .int .i64 5, .int .i64 4611686018427387904]) (ok := fun _ => True) (okp := fun _ => True) ?hr ?hp (fun _ hk => hk) trivial (Below.refl _ _) (Nat.le_refl _) (by simp) ?_; (case hd => rfl); (case hg => rfl); (case hr => first | (go_simp; done) | (go_simp; rfl)); (case hp => exact repsI _); intro v294 w29 ho30 hb hg_ hnew_; clear hg_ hnew_; (first | rw [← Ny293.out] at ho30 | (simp only [Int.reduceToNat] at ho30; rw [← Ny293.out] at ho30)); have HO295 := Aside0.mk (Kd.R_lower (Kd.R_new' ho30 (ltR HO_3)) (szK HK)); replace HO_3 := eldRR HO_3 ho30 hb; replace HI0 := IsS48.up HI0 hb; replace HK := upKB HK hb; replace HB := upB HB hb; clear hb ho30; obtain ⟨Ao31, co31, eo31⟩ := Kd.R_slice HO295.out; subst eo31) | ((with_reducible refine gate_callee (f := 53) rfl ?_); refine goesA (some 38) Try.func53 #[.pointer (some ⟨g, 0, none⟩), .slice Ao31 y293.length co31] ?_; (with_reducible refine (Zbi.calls g s0_0 t291 t292 _ _ y293 t296 t297 t298 w0 _ ?side1 ?side2 ?side3 ?side4 ?side5 A22.out).mono ?_); (case side1 => exact IsS48.at HI0); (case side2 => exact atB HB); (case side3 => exact atRC HO295); (case side4 => exact (Kd.R_reads' HO295.out).2.1); (case side5 => exact far_slice (IsS48.own_ne HI0.out HO295.out (by decide))); rintro e w32 ⟨rfl, hi, hb, hk⟩; refine ⟨_, rfl, ?_⟩; replace HO_3 := IsS48.keepR HI0 HO_3 hk; replace HO295 := IsS48.keepR HI0 HO295 hk; replace HK := upK HK hk; replace HB := Aside0.mk (hb); replace HI0 := Aside0.mk (hi); have p25 : 0 ≤ (t290 : Int) := ofd; have q25 : (t290 : Int) < ((x3_1.length : Int) : Int) := ofd; obtain ⟨go25, co25, eo25, gb25, gl25, cl25, HG25⟩ := Kd.R_form HO_3.out (by omega); (first | cases eo25 | (injection eo25 with ea_ en_ ec_; (first | subst ea_ | (injection ea_ with ea_; subst ea_)); subst ec_; clear en_)); have GB25 := Aside0.mk gb25; have GG25 := Aside0.mk HG25; clear gb25 gl25 HG25; obtain ⟨hx25_0, hf25_0⟩ := Kd.R_celln 0 HO_3.out (t290 : Int) p25 q25; replace p25 := eq_true p25; replace q25 := eq_true q25; have n_ := Aside0.mk (Kd.R_mono (ok' := (fun k_ => some k_ ≠ (.slice Ao31 y293.length co31 : Value).ownBlock)) HO_3.out (fun k_ hk => hk.2)); clear HO_3; have HO_3 := n_; clear n_; obtain ⟨hy33_, hz33_⟩ := Kd.R_celln 0 HO_3.out (t290 : Int) (of_decide_eq_true (by first | (with_reducible assumption) | assumption)) (of_decide_eq_true (by first | (with_reducible assumption) | assumption)); have HP33 := Kd.R_putg HO_3.out (t290 : Int) t296) | ((with_reducible refine gate_store (t := 3) (p := 39) rfl ?_); refine store_event (t := 3) (p := 39) (v := ?vo_w34) (w1 := (w32.setCell ⟨go25, (t290 : Int).toNat, none⟩ (.int .i64 t296))) ?hg ?ho ?hn ?hr ?_; (case ho => rfl); (case hg => rfl); (case hn => rfl); (case hr => first | (go_simp; done) | (go_simp; rfl)); intro w34 hw; have hg : w32.grownBy w34 (some go25) := (by rw [hw]; exact HP33.2); have hp_ : Kd.R (Kd.int .i64) 3 w34 w.heap.size (fun k_ => some k_ ≠ (.slice Ao31 y293.length co31 : Value).ownBlock) (.slice (some ⟨go25, 0, none⟩) x3_1.length co27) y299 := (by rw [hw, Ny299.out]; exact HP33.1); clear HP33; replace HI0 := Aside0.mk (IsS48.grown (IsS48.at HI0) hg (IsS48.own_ne HI0.out HO_3.out (by decide))); replace HO295 := Aside0.mk (Kd.R_after (v := (.slice (some ⟨go25, 0, none⟩) x3_1.length co27)) (v1 := (.slice (some ⟨go25, 0, none⟩) x3_1.length co27)) (ok := (fun _ => True)) (atR HO295) hg (.inl rfl)); replace HB := Aside0.mk ((by rw [hw]; exact below_set (HB.out) (Nat.le_trans HL.out GB25.out) : Below w0.heap.size w0 w34)); replace HK := Aside0.mk (KeepBut.trans (atK HK) (KeepBut.of_grown hg g) (Kd.R_base2 HO_3.out)); replace HO_3 := Aside0.mk (hp_); clear hg hw hp_))
     go_ret
     exact ⟨_, eqr, by (with_reducible repeat (first | apply Kd.R_alloc | apply Kd.R_drewN | apply Kd.R_drew)); exact Kd.R_mono HO_3.out (fun _ hk => trivial), IsS48.at HI0, atB HB, atK HK⟩
    ·rw [if_neg c20] at H
     have c20b0 : (t287 == 0) = false := beq_eq_false_iff_ne.mpr c20
     have c20b1 : (t287 != 0) = true := bne_iff_ne.mpr c20
     by_cases c35 : t287 = 1
     ·rw [if_pos c35] at H
      have c35b0 : (t287 == 1) = true := beq_iff_eq.mpr c35
      have c35b1 : (t287 != 1) = false := bne_eq_false_iff_eq.mpr c35
      clear c35
      simp only [Option.some.injEq, Prod.mk.injEq] at H
      obtain ⟨rfl, rfl, rfl⟩ := H
      go_wp2_with (first | ((with_reducible refine gate_callee (f := 42) rfl ?_); refine goesA (some 28) Try.func42 #[.pointer (some ⟨g, 0, none⟩), .int .i64 14] ?_; (with_reducible refine (Zac.calls g s0_0 x1001_1 x1002_1 14 t287 t288 t289 w0 _ ?side1 ?side2 A19.out).mono ?_); (case side1 => exact IsS48.at HI0); (case side2 => exact atB HB); rintro e w36 ⟨rfl, hi, hb, hk⟩; refine ⟨_, rfl, ?_⟩; replace HO_3 := IsS48.keepR HI0 HO_3 hk; replace HK := upK HK hk; replace HB := Aside0.mk (hb); replace HI0 := Aside0.mk (hi)))
      go_ret
      exact ⟨_, eqr, by first | exact Kd.R_nil _ _ _ _ _ | exact Kd.N_nil _ _ _ _ _ | exact Kd.V_nil _ _ _ _ _ | exact Kd.Q_nil _ _ _ _ _ | exact Kd.S_nil _ _ _ _ _, IsS48.at HI0, atB HB, atK HK⟩
     rw [if_neg c35] at H
     have c35b0 : (t287 == 1) = false := beq_eq_false_iff_ne.mpr c35
     have c35b1 : (t287 != 1) = true := bne_iff_ne.mpr c35
     by_cases c37 : t287 = 2
     rotate_left
     ·rw [if_neg c37] at H
      have c37b0 : (t287 == 2) = false := beq_eq_false_iff_ne.mpr c37
      have c37b1 : (t287 != 2) = true := bne_iff_ne.mpr c37
      simp only [Option.some.injEq, Prod.mk.injEq] at H
      obtain ⟨rfl, rfl, rfl⟩ := H
      go_wp2_with (first | ((with_reducible refine gate_callee (f := 42) rfl ?_); refine goesA (some 28) Try.func42 #[.pointer (some ⟨g, 0, none⟩), .int .i64 14] ?_; (with_reducible refine (Zac.calls g s0_0 x1001_1 x1002_1 14 t287 t288 t289 w0 _ ?side1 ?side2 A19.out).mono ?_); (case side1 => exact IsS48.at HI0); (case side2 => exact atB HB); rintro e w47 ⟨rfl, hi, hb, hk⟩; refine ⟨_, rfl, ?_⟩; replace HO_3 := IsS48.keepR HI0 HO_3 hk; replace HK := upK HK hk; replace HB := Aside0.mk (hb); replace HI0 := Aside0.mk (hi)))
      go_ret
      exact ⟨_, eqr, atR HO_3, IsS48.at HI0, atB HB, atK HK⟩
     rw [if_pos c37] at H
     have c37b0 : (t287 == 2) = true := beq_iff_eq.mpr c37
     have c37b1 : (t287 != 2) = false := bne_eq_false_iff_eq.mpr c37
     clear c37
     have H' := Aside0.mk H
     clear H
     go_wp2_with (first | ((with_reducible refine gate_callee (f := 42) rfl ?_); refine goesA (some 28) Try.func42 #[.pointer (some ⟨g, 0, none⟩), .int .i64 14] ?_; (with_reducible refine (Zac.calls g s0_0 x1001_1 x1002_1 14 t287 t288 t289 w0 _ ?side1 ?side2 A19.out).mono ?_); (case side1 => exact IsS48.at HI0); (case side2 => exact atB HB); rintro e w38 ⟨rfl, hi, hb, hk⟩; refine ⟨_, rfl, ?_⟩; replace HO_3 := IsS48.keepR HI0 HO_3 hk; replace HK := upK HK hk; replace HB := Aside0.mk (hb); replace HI0 := Aside0.mk (hi)))
     go_loopg [3] k1 (fun kq v3 w' => ∃ (x3_2 : List Int) (x1001_2 : Int) (x1002_2 : Int), Aside0 (Zae.l1 kq x3_2 s0_0 x1001_2 x1002_2 = some (r1, r2, r3)) ∧ Aside0 (kq ≤ k1) ∧ Aside0 (Kd.R (Kd.int .i64) 3 w' w.heap.size (fun _ => True) v3 x3_2) ∧ Aside0 (IsS48 w0 w' g s0_0 x1001_2 x1002_2) ∧ Aside0 (KeepBut w w' g none) ∧ Aside0 (Below w0.heap.size w0 w'))
     case atStart => exact ⟨(x3_1), (t288), (t289), H', ⟨Nat.le_refl _⟩, ⟨atR HO_3⟩, ⟨IsS48.at HI0⟩, ⟨atK HK⟩, ⟨atB HB⟩⟩
     case round =>
      clear H'
      try clear c6b0
      try clear c20
      try clear c20b0
      try clear c20b1
      try clear c35
      try clear c35b0
      try clear c35b1
      try clear c37b0
      try clear c37b1
      obtain ⟨x3_2, x1001_2, x1002_2, HA, HK2, HO_3, HI0, HK, HB⟩ := hrel
      cases gk with
      | zero => exact absurd HA.out (by simp [Zae.l1])
      | succ k2 =>
       have H := HA.out
       clear HA
       simp only [Zae.l1] at H
       replace H := Option.bind_eq_some_iff.mp H
       obtain ⟨⟨t300, t301, t302⟩, A390, H⟩ := H
       replace H : (if (x3_2.length : Int) < (wrap64 (9 + t300)) then (if x3_2.length < 17592186044416 then (Zae.l1 k2 (x3_2 ++ [0]) s0_0 t301 t302) else (none)) else (some (x3_2, t301, t302))) = some (r1, r2, r3) := H
       have A39 := Aside0.mk A390
       clear A390
       by_cases c40 : (x3_2.length : Int) < (wrap64 (9 + t300))
       rotate_left
       ·rw [if_neg c40] at H
        have c40b0 := decide_eq_false c40
        clear c40
        simp only [Option.some.injEq, Prod.mk.injEq] at H
        obtain ⟨rfl, rfl, rfl⟩ := H
        obtain ⟨Ao45, co45, eo45⟩ := Kd.R_slice HO_3.out
        subst eo45
        go_wp2_with (first | ((with_reducible refine gate_callee (f := 42) rfl ?_); refine goesA (some 47) Try.func42 #[.pointer (some ⟨g, 0, none⟩), .int .i64 2] ?_; (with_reducible refine (Zac.calls g s0_0 x1001_2 x1002_2 2 t300 t301 t302 w0 _ ?side1 ?side2 A39.out).mono ?_); (case side1 => exact IsS48.at HI0); (case side2 => exact atB HB); rintro e w46 ⟨rfl, hi, hb, hk⟩; refine ⟨_, rfl, ?_⟩; replace HO_3 := IsS48.keepR HI0 HO_3 hk; replace HK := upK HK hk; replace HB := Aside0.mk (hb); replace HI0 := Aside0.mk (hi)))
        go_ret
        exact ⟨_, eqr, atR HO_3, IsS48.at HI0, atB HB, atK HK⟩
       rw [if_pos c40] at H
       have c40b0 := decide_eq_true c40
       clear c40
       obtain ⟨c41, H⟩ := in0_ H
       have LMc41 := Aside0.mk c41
       clear c41
       obtain ⟨y303, hy303⟩ : ∃ y_ : List Int, y_ = (x3_2 ++ [0]) := ⟨_, rfl⟩
       replace H : (Zae.l1 k2 y303 s0_0 t301 t302) = some (r1, r2, r3) := by first | (rw [hy303]; with_reducible exact H) | (have H2_ := (Option.bind_some _ _).symm.trans H; rw [hy303]; with_reducible exact H2_) | (have H2_ := (Option.bind_some _ _).symm.trans H; with_reducible exact H2_) | with_reducible exact H | (rw [hy303]; exact H) | exact H
       have Ny303 := Aside0.mk hy303
       clear hy303
       have H' := Aside0.mk H
       clear H
       obtain ⟨Ao42, co42, eo42⟩ := Kd.R_slice HO_3.out
       subst eo42
       go_wp2_with (first | ((with_reducible refine gate_callee (f := 42) rfl ?_); refine goesA (some 47) Try.func42 #[.pointer (some ⟨g, 0, none⟩), .int .i64 2] ?_; (with_reducible refine (Zac.calls g s0_0 x1001_2 x1002_2 2 t300 t301 t302 w0 _ ?side1 ?side2 A39.out).mono ?_); (case side1 => exact IsS48.at HI0); (case side2 => exact atB HB); rintro e w43 ⟨rfl, hi, hb, hk⟩; refine ⟨_, rfl, ?_⟩; replace HO_3 := IsS48.keepR HI0 HO_3 hk; replace HK := upK HK hk; replace HB := Aside0.mk (hb); replace HI0 := Aside0.mk (hi)) | ((with_reducible refine gate_builtin (b := .append) (xs := #[.tmp 50, .tmp 51]) rfl ?_); at_builtin; refine Kd.R_append (Kd.int .i64) w.heap.size rfl (.tmp 50) (.tmp 51) 24 3 (.int .i64 0) 8 rfl Try.underlying24 info3 rfl (by decide) (by omega) (.slice Ao42 x3_2.length co42) x3_2 0 [.int .i64 0] (fun _ => True) (fun _ => False) rfl rfl ?aP (fun _ hk => hk.elim) ?aF ?aO (Below.refl _ _) ?aS ?aL ?_; (case aP => exact rfl); (case aF => exact (fun _ _ => trivial)); (case aO => exact (atR HO_3)); (case aS => exact (szK HK)); (case aL => have := LMc41.out; omega); intro v304 w44 ho hb hg hat; rw [← Ny303.out] at ho; have HO305 := Aside0.mk (ho); replace HI0 := Aside0.mk (IsS48.grown (IsS48.at HI0) hg (IsS48.own_ne HI0.out HO_3.out (by decide))); replace HB := Aside0.mk (below_weaken (atB HB) HL.out hb); replace HK := Aside0.mk (KeepBut.trans (atK HK) (KeepBut.of_grown hg g) (Kd.R_base2 HO_3.out)); clear HO_3; clear ho hb hg hat))
       go_roundg k2
       case measure => have := HK1.out; have := HK2.out; omega
       case rel => exact ⟨(y303), (t301), (t302), H', ⟨by have := HK1.out; have := HK2.out; omega⟩, ⟨atR HO305⟩, ⟨IsS48.at HI0⟩, ⟨atK HK⟩, ⟨atB HB⟩⟩
noncomputable def Zae.L0 (x3 : List Int) (x4 : Int) (x1000 : List Int) (x1001 : Int) (x1002 : Int) : Option (List Int × Int × Int) := lim fun k => Zae.l0 k x3 x4 x1000 x1001 x1002
theorem Zae.L0_lim (x3 : List Int) (x4 : Int) (x1000 : List Int) (x1001 : Int) (x1002 : Int) : Lim (fun k => Zae.l0 k x3 x4 x1000 x1001 x1002) (Zae.L0 x3 x4 x1000 x1001 x1002) := Lim.of fun k => (Zae.mono_l k).1 x3 x4 x1000 x1001 x1002
noncomputable def Zae.L1 (x3 : List Int) (x1000 : List Int) (x1001 : Int) (x1002 : Int) : Option (List Int × Int × Int) := lim fun k => Zae.l1 k x3 x1000 x1001 x1002
theorem Zae.L1_lim (x3 : List Int) (x1000 : List Int) (x1001 : Int) (x1002 : Int) : Lim (fun k => Zae.l1 k x3 x1000 x1001 x1002) (Zae.L1 x3 x1000 x1001 x1002) := Lim.of fun k => (Zae.mono_l k).2 x3 x1000 x1001 x1002
noncomputable def Zae.F (s0_0 : List Int) (s0_1 : Int) (s0_2 : Int) : Option (List Int × Int × Int) := lim fun k => Zae.f k s0_0 s0_1 s0_2
theorem Zae.F_lim (s0_0 : List Int) (s0_1 : Int) (s0_2 : Int) : Lim (fun k => Zae.f k s0_0 s0_1 s0_2) (Zae.F s0_0 s0_1 s0_2) := Lim.of fun k => Zae.mono s0_0 s0_1 s0_2 k
theorem Zae.L0_eq (x3 : List Int) (x4 : Int) (x1000 : List Int) (x1001 : Int) (x1002 : Int) : Zae.L0 x3 x4 x1000 x1001 x1002 = (if x4 > 0 then ((Zat.f x1000 x1001 x1002 3).bind fun bt275 => (if bt275.1 = true then (if x3.length < 17592186044416 then (Zae.L0 (x3 ++ [wrap64 ((x3.length : Int) - 1)]) (wrap64 (x4 - 1)) x1000 bt275.2.1 bt275.2.2) else (none)) else ((Zac.f x1000 bt275.2.1 bt275.2.2 (x3.length : Int)).bind fun bt281 => (if x3.length < 17592186044416 then (Zae.L0 (x3 ++ [bt281.1]) (wrap64 (x4 - 1)) x1000 bt281.2.1 bt281.2.2) else (none))))) else ((Zac.f x1000 x1001 x1002 14).bind fun bt287 => (if bt287.1 = 0 then ((Zac.f x1000 bt287.2.1 bt287.2.2 (x3.length : Int)).bind fun bt290 => ((Zbi.f x1000 bt290.2.1 bt290.2.2 (([(-1), (-2), 0, 5, 4611686018427387904] : List Int))).bind fun bt296 => (if 0 ≤ bt290.1 then (if bt290.1 < (x3.length : Int) then (some ((x3.set (bt290.1 : Int).toNat bt296.1), bt296.2.1, bt296.2.2)) else (none)) else (none)))) else (if bt287.1 = 1 then (some (([] : List Int), bt287.2.1, bt287.2.2)) else (if bt287.1 = 2 then (Zae.L1 x3 x1000 bt287.2.1 bt287.2.2) else (some (x3, bt287.2.1, bt287.2.2))))))) :=
 Lim.step (f := fun k => Zae.l0 (k + 1) x3 x4 x1000 x1001 x1002) (Zae.L0_lim x3 x4 x1000 x1001 x1002) (fun _ => rfl) (by
  simp only [Zae.l0]
  repeat' (first | (with_reducible first | exact Lim.const _ | exact Zae.L0_lim _ _ _ _ _ | exact Zae.L1_lim _ _ _ _ | refine Lim.ite ?_ ?_ | refine Lim.bind ?_ (fun _ => ?_))))
theorem Zae.L1_eq (x3 : List Int) (x1000 : List Int) (x1001 : Int) (x1002 : Int) : Zae.L1 x3 x1000 x1001 x1002 = ((Zac.f x1000 x1001 x1002 2).bind fun bt300 => (if (x3.length : Int) < (wrap64 (9 + bt300.1)) then (if x3.length < 17592186044416 then (Zae.L1 (x3 ++ [0]) x1000 bt300.2.1 bt300.2.2) else (none)) else (some (x3, bt300.2.1, bt300.2.2)))) :=
 Lim.step (f := fun k => Zae.l1 (k + 1) x3 x1000 x1001 x1002) (Zae.L1_lim x3 x1000 x1001 x1002) (fun _ => rfl) (by
  simp only [Zae.l1]
  repeat' (first | (with_reducible first | exact Lim.const _ | exact Zae.L1_lim _ _ _ _ | refine Lim.ite ?_ ?_ | refine Lim.bind ?_ (fun _ => ?_))))
theorem Zae.F_eq (s0_0 : List Int) (s0_1 : Int) (s0_2 : Int) : Zae.F s0_0 s0_1 s0_2 = ((Zac.f s0_0 s0_1 s0_2 7).bind fun bt272 => (Zae.L0 (([(-1)] : List Int)) bt272.1 s0_0 bt272.2.1 bt272.2.2)) :=
 Lim.unique (Zae.F_lim s0_0 s0_1 s0_2) (by
  unfold Zae.f
  repeat' (first | (with_reducible first | exact Lim.const _ | exact Zae.L0_lim _ _ _ _ _ | refine Lim.ite ?_ ?_ | refine Lim.bind ?_ (fun _ => ?_))))
def Zbx.f (k : Nat) (l0 : List Int) : Option (List Int) := (Zat.f l0 0 0 4).bind fun bt307 => (if bt307.1 = true then (some (([(-1), 0, 1, 0, 3, 0, 5] : List Int))) else ((Zae.f k l0 bt307.2.1 bt307.2.2).bind fun bt313 => (some bt313.1)))
theorem Zbx.mono : ∀ a0 k, LeO (Zbx.f k a0) (Zbx.f (k + 1) a0) := by
 intro a0 k
 unfold Zbx.f
 repeat' (first | (with_reducible first | exact Zae.mono _ _ _ _ | exact LeO.refl _ | exact LeO.none _ | refine LeO.ite ?_ ?_ | refine LeO.bind ?_ (fun _ => ?_)) | exact Zae.mono _ _ _ _ | exact LeO.none _ | refine LeO.ite ?_ ?_ | refine LeO.bind ?_ (fun _ => ?_))
theorem Zbx.calls (k : Nat) (A0 : Option Addr) (c0 : Nat) (l0 : List Int) (r : List Int) (w : World) (hr0 : Kd.C (Kd.int .u8) w A0 l0.length l0) (hc0 : l0.length ≤ c0) (h : Zbx.f k l0 = some r) :
  Calls Try.prog 21 #[.slice A0 l0.length c0] w fun e w' => ∃ v0_ : Value, e = .returned (v0_) ∧ Kd.R (Kd.int .i64) 3 w' w.heap.size (fun _ => True) v0_ r ∧ Below w.heap.size w w' := by
 have hu48 := Try.underlying48
 have HR0 := Aside0.mk hr0
 have HC0 := Aside0.mk hc0
 clear hr0 hc0
 have HB := Aside0.mk (Below.refl w.heap.size w)
 have H := h
 unfold Zbx.f at H
 clear h
 replace H := Option.bind_eq_some_iff.mp H
 obtain ⟨⟨t307, t308, t309⟩, A20, H⟩ := H
 replace H : (if t307 = true then (some (([(-1), 0, 1, 0, 3, 0, 5] : List Int))) else ((Zae.f k l0 t308 t309).bind fun bt313 => (some bt313.1))) = some r := H
 have A2 := Aside0.mk A20
 clear A20
 by_cases c3 : t307 = true
 ·subst c3
  replace H := it_ H
  obtain ⟨y310, hy310⟩ : ∃ y_ : List Int, y_ = (([(-1), 0, 1, 0, 3, 0, 5] : List Int)) := ⟨_, rfl⟩
  replace H : (some y310) = some r := by first | (rw [hy310]; with_reducible exact H) | (have H2_ := (Option.bind_some _ _).symm.trans H; rw [hy310]; with_reducible exact H2_) | (have H2_ := (Option.bind_some _ _).symm.trans H; with_reducible exact H2_) | with_reducible exact H | (rw [hy310]; exact H) | exact H
  have Ny310 := Aside0.mk hy310
  clear hy310
  obtain rfl := Option.some.inj H
  go_enter Try.func21, Try.ntmps21
  go_wp2_with (first | ((with_reducible refine gate_dst (N := 6) rfl ?_); refine box_event ?hg (N := 6) ?hd (cs := #[.slice A0 l0.length c0, .int .i64 0, .int .u64 0]) (t := 48) ?hr ?_; (case hd => rfl); (case hg => rfl); (case hr => first | (go_simp; done) | (go_simp; rfl)); intro gb306 hg w4 hbox hb; have HI306 := Aside0.mk ((⟨_, _, hbox, (by rw [hg]; exact (szB HB) : w.heap.size ≤ gb306), HR0.out⟩ : IsS48 w w4 gb306 l0 0 0)); replace HB := upB HB hb; clear hb hbox hg) | ((with_reducible refine gate_callee (f := 47) rfl ?_); refine goesA (some 8) Try.func47 #[.pointer (some ⟨gb306, 0, none⟩), .int .i64 4] ?_; (with_reducible refine (Zat.calls gb306 l0 0 0 4 true t308 t309 w _ ?side1 ?side2 A2.out).mono ?_); (case side1 => exact IsS48.at HI306); (case side2 => exact atB HB); rintro e w5 ⟨rfl, hi, hb, hk⟩; refine ⟨_, rfl, ?_⟩; replace HB := Aside0.mk (hb); replace HI306 := Aside0.mk (hi)) | ((with_reducible refine gate_dst (N := 9) rfl ?_); refine Kd.R_lit (Kd.int .i64) _ 3 ?hg (N := 9) ?hd (xs := ([(-1), 0, 1, 0, 3, 0, 5] : List Int)) (inner := [.int .i64 (-1), .int .i64 0, .int .i64 1, .int .i64 0, .int .i64 3, .int .i64 0, .int .i64 5]) (ok := fun _ => True) (okp := fun _ => True) ?hr ?hp (fun _ hk => hk) trivial (Below.refl _ _) (Nat.le_refl _) (by simp) ?_; (case hd => rfl); (case hg => rfl); (case hr => first | (go_simp; done) | (go_simp; rfl)); (case hp => exact repsI _); intro v311 w6 ho7 hb hg_ hnew_; clear hg_ hnew_; (first | rw [← Ny310.out] at ho7 | (simp only [Int.reduceToNat] at ho7; rw [← Ny310.out] at ho7)); have HO312 := lowR ho7 HB; replace HI306 := IsS48.up HI306 hb; replace HB := upB HB hb; clear hb ho7))
  go_ret
  exact ⟨_, eqr, atR HO312, atB HB⟩
 replace c3 := Bool.eq_false_iff.mpr c3
 subst c3
 replace H := if_ H
 replace H := Option.bind_eq_some_iff.mp H
 obtain ⟨⟨t313, t316, t317⟩, A80, H⟩ := H
 replace H : (some t313) = some r := H
 have A8 := Aside0.mk A80
 clear A80
 obtain rfl := Option.some.inj H
 go_enter Try.func21, Try.ntmps21
 go_wp2_with (first | ((with_reducible refine gate_dst (N := 6) rfl ?_); refine box_event ?hg (N := 6) ?hd (cs := #[.slice A0 l0.length c0, .int .i64 0, .int .u64 0]) (t := 48) ?hr ?_; (case hd => rfl); (case hg => rfl); (case hr => first | (go_simp; done) | (go_simp; rfl)); intro gb306 hg w9 hbox hb; have HI306 := Aside0.mk ((⟨_, _, hbox, (by rw [hg]; exact (szB HB) : w.heap.size ≤ gb306), HR0.out⟩ : IsS48 w w9 gb306 l0 0 0)); replace HB := upB HB hb; clear hb hbox hg) | ((with_reducible refine gate_callee (f := 47) rfl ?_); refine goesA (some 8) Try.func47 #[.pointer (some ⟨gb306, 0, none⟩), .int .i64 4] ?_; (with_reducible refine (Zat.calls gb306 l0 0 0 4 false t308 t309 w _ ?side1 ?side2 A2.out).mono ?_); (case side1 => exact IsS48.at HI306); (case side2 => exact atB HB); rintro e w10 ⟨rfl, hi, hb, hk⟩; refine ⟨_, rfl, ?_⟩; replace HB := Aside0.mk (hb); replace HI306 := Aside0.mk (hi)) | ((with_reducible refine gate_callee (f := 48) rfl ?_); refine goesA (some 11) Try.func48 #[.pointer (some ⟨gb306, 0, none⟩)] ?_; (with_reducible refine (Zae.calls k gb306 l0 t308 t309 t313 t316 t317 w _ ?side1 ?side2 A8.out).mono ?_); (case side1 => exact IsS48.at HI306); (case side2 => exact atB HB); rintro e w11 ⟨v314, rfl, ho0, hi, hb, hk⟩; refine ⟨_, rfl, ?_⟩; have HO315 := lowR ho0 HB; replace HB := Aside0.mk (hb); replace HI306 := Aside0.mk (hi)))
 go_ret
 exact ⟨_, eqr, atR HO315, atB HB⟩
noncomputable def Zbx.F (l0 : List Int) : Option (List Int) := lim fun k => Zbx.f k l0
theorem Zbx.F_lim (l0 : List Int) : Lim (fun k => Zbx.f k l0) (Zbx.F l0) := Lim.of fun k => Zbx.mono l0 k
theorem Zbx.F_eq (l0 : List Int) : Zbx.F l0 = ((Zat.f l0 0 0 4).bind fun bt307 => (if bt307.1 = true then (some (([(-1), 0, 1, 0, 3, 0, 5] : List Int))) else ((Zae.F l0 bt307.2.1 bt307.2.2).bind fun bt313 => (some bt313.1)))) :=
 Lim.unique (Zbx.F_lim l0) (by
  unfold Zbx.f
  repeat' (first | (with_reducible first | exact Lim.const _ | exact Zae.F_lim _ _ _ | refine Lim.ite ?_ ?_ | refine Lim.bind ?_ (fun _ => ?_))))
def Zar.l0 : Nat → List Int → List Int → Int → Option (List Int)
 | 0, _, _, _ => none
 | k + 1, x0, x3, x4 => if x4 ≥ 0 then (if 0 ≤ x4 then (if x4 < (x0.length : Int) then (if x3.length < 17592186044416 then (Zar.l0 k x0 (x3 ++ [rd x0 x4]) (wrap64 (x4 - 1))) else (none)) else (none)) else (none)) else (some x3)
def Zar.f (k : Nat) (l0 : List Int) : Option (List Int) := Zar.l0 k l0 ([] : List Int) (wrap64 ((l0.length : Int) - 1))
theorem Zar.mono_l : ∀ k, (∀ y0 y1 y2, LeO (Zar.l0 k y0 y1 y2) (Zar.l0 (k + 1) y0 y1 y2))
 | 0 => fun _ _ _ r h => by simp [Zar.l0] at h
 | k + 1 => by
  have ih0 := Zar.mono_l k
  ·intro y0 y1 y2
   unfold Zar.l0
   repeat' (first | (with_reducible first | exact ih0 _ _ _ | exact LeO.refl _ | exact LeO.none _ | refine LeO.ite ?_ ?_ | refine LeO.bind ?_ (fun _ => ?_)) | exact ih0 _ _ _ | exact LeO.none _ | refine LeO.ite ?_ ?_ | refine LeO.bind ?_ (fun _ => ?_))
theorem Zar.mono : ∀ a0 k, LeO (Zar.f k a0) (Zar.f (k + 1) a0) := by
 intro a0 k
 have ih0 := Zar.mono_l k
 unfold Zar.f
 repeat' (first | (with_reducible first | exact ih0 _ _ _ | exact LeO.refl _ | exact LeO.none _ | refine LeO.ite ?_ ?_ | refine LeO.bind ?_ (fun _ => ?_)) | exact ih0 _ _ _ | exact LeO.none _ | refine LeO.ite ?_ ?_ | refine LeO.bind ?_ (fun _ => ?_))
theorem Zar.calls (k : Nat) (A0 : Option Addr) (c0 : Nat) (l0 : List Int) (r : List Int) (w : World) (hr0 : Kd.C (Kd.int .i64) w A0 l0.length l0) (hc0 : l0.length ≤ c0) (h : Zar.f k l0 = some r) :
  Calls Try.prog 82 #[.slice A0 l0.length c0] w fun e w' => ∃ v0_ : Value, e = .returned (v0_) ∧ Kd.R (Kd.int .i64) 3 w' w.heap.size (fun _ => True) v0_ r ∧ Below w.heap.size w w' := by
 have HR0 := Aside0.mk hr0
 have HC0 := Aside0.mk hc0
 clear hr0 hc0
 have HB := Aside0.mk (Below.refl w.heap.size w)
 have H := h
 unfold Zar.f at H
 clear h
 have H' := Aside0.mk H
 clear H
 go_enter Try.func82, Try.ntmps82
 go_wp2
 go_loopg [3, 4] k (fun kq v3 v4 w' => ∃ (x3_1 : List Int) (x4_1 : Int), v4 = .int .i64 x4_1 ∧ Aside0 (Zar.l0 kq l0 x3_1 x4_1 = some r) ∧ Aside0 (kq ≤ k) ∧ Aside0 (Kd.R (Kd.int .i64) 3 w' w.heap.size (fun _ => True) v3 x3_1) ∧ Aside0 (Below w.heap.size w w'))
 case atStart => exact ⟨(([] : List Int)), (wrap64 ((l0.length : Int) - 1)), eqd, H', ⟨Nat.le_refl _⟩, ⟨by first | exact Kd.R_nil _ _ _ _ _ | exact Kd.N_nil _ _ _ _ _ | exact Kd.V_nil _ _ _ _ _ | exact Kd.Q_nil _ _ _ _ _ | exact Kd.S_nil _ _ _ _ _⟩, ⟨atB HB⟩⟩
 case round =>
  clear H'
  obtain ⟨x3_1, x4_1, rfl, HA, HK1, HO_3, HB⟩ := hrel
  cases gk with
  | zero => exact absurd HA.out (by simp [Zar.l0])
  | succ k1 =>
   have H := HA.out
   clear HA
   simp only [Zar.l0] at H
   by_cases c2 : x4_1 ≥ 0
   rotate_left
   ·rw [if_neg c2] at H
    have c2b0 := decide_eq_false c2
    clear c2
    obtain rfl := Option.some.inj H
    go_wp2
    go_ret
    exact ⟨_, eqr, atR HO_3, atB HB⟩
   rw [if_pos c2] at H
   have c2b0 := decide_eq_true c2
   clear c2
   obtain ⟨c3b0, H⟩ := in_ H
   obtain ⟨c4b0, H⟩ := in_ H
   obtain ⟨c5, H⟩ := in0_ H
   have LMc5 := Aside0.mk c5
   clear c5
   obtain ⟨y428, hy428⟩ : ∃ y_ : List Int, y_ = (x3_1 ++ [rd l0 x4_1]) := ⟨_, rfl⟩
   replace H : (Zar.l0 k1 l0 y428 (wrap64 (x4_1 - 1))) = some r := by first | (rw [hy428]; with_reducible exact H) | (have H2_ := (Option.bind_some _ _).symm.trans H; rw [hy428]; with_reducible exact H2_) | (have H2_ := (Option.bind_some _ _).symm.trans H; with_reducible exact H2_) | with_reducible exact H | (rw [hy428]; exact H) | exact H
   have Ny428 := Aside0.mk hy428
   clear hy428
   have H' := Aside0.mk H
   clear H
   have p427 : 0 ≤ (x4_1 : Int) := ofd
   have q427 : x4_1 < (l0.length : Int) := ofd
   obtain ⟨ad427, e427, hx427_0⟩ := Kd.at_int HR0.out x4_1 p427 q427
   cases e427
   (try replace hx427_0 := (HB.out.cell (World.block_lt_of_cell? w _ hx427_0)).trans hx427_0)
   replace p427 := eq_true p427
   replace q427 := eq_true q427
   go_wp2_with (first | ((with_reducible refine gate_builtin (b := .append) (xs := #[.tmp 12, .tmp 17]) rfl ?_); at_builtin; refine Kd.R_append (Kd.int .i64) (w0 := w) w.heap.size rfl (.tmp 12) (.tmp 17) 24 3 (.int .i64 0) 8 rfl Try.underlying24 info3 rfl (by decide) (by omega) u3 x3_1 (rd l0 x4_1) [.int .i64 (rd l0 x4_1)] (fun _ => True) (fun _ => False) rfl rfl ?aP (fun _ hk => hk.elim) ?aF ?aO ?aB ?aS ?aL ?_; (case aP => exact rfl); (case aB => exact (atB HB)); (case aF => exact (fun _ _ => trivial)); (case aO => exact (atR HO_3)); (case aS => exact (szB HB)); (case aL => have := LMc5.out; omega); intro v429 w6 ho hb hg hat; rw [← Ny428.out] at ho; have HO430 := Aside0.mk (ho); replace HB := Aside0.mk (hb); clear HO_3; clear ho hb hg hat))
   go_roundg k1
   case measure => have := HK1.out; omega
   case rel => exact ⟨(y428), (wrap64 (x4_1 - 1)), eqd, H', ⟨by have := HK1.out; omega⟩, ⟨atR HO430⟩, ⟨atB HB⟩⟩
noncomputable def Zar.L0 (x0 : List Int) (x3 : List Int) (x4 : Int) : Option (List Int) := lim fun k => Zar.l0 k x0 x3 x4
theorem Zar.L0_lim (x0 : List Int) (x3 : List Int) (x4 : Int) : Lim (fun k => Zar.l0 k x0 x3 x4) (Zar.L0 x0 x3 x4) := Lim.of fun k => (Zar.mono_l k) x0 x3 x4
noncomputable def Zar.F (l0 : List Int) : Option (List Int) := lim fun k => Zar.f k l0
theorem Zar.F_lim (l0 : List Int) : Lim (fun k => Zar.f k l0) (Zar.F l0) := Lim.of fun k => Zar.mono l0 k
theorem Zar.L0_eq (x0 : List Int) (x3 : List Int) (x4 : Int) : Zar.L0 x0 x3 x4 = (if x4 ≥ 0 then (if 0 ≤ x4 then (if x4 < (x0.length : Int) then (if x3.length < 17592186044416 then (Zar.L0 x0 (x3 ++ [rd x0 x4]) (wrap64 (x4 - 1))) else (none)) else (none)) else (none)) else (some x3)) :=
 Lim.step (f := fun k => Zar.l0 (k + 1) x0 x3 x4) (Zar.L0_lim x0 x3 x4) (fun _ => rfl) (by
  simp only [Zar.l0]
  repeat' (first | (with_reducible first | exact Lim.const _ | exact Zar.L0_lim _ _ _ | refine Lim.ite ?_ ?_ | refine Lim.bind ?_ (fun _ => ?_))))
theorem Zar.F_eq (l0 : List Int) : Zar.F l0 = (Zar.L0 l0 ([] : List Int) (wrap64 ((l0.length : Int) - 1))) :=
 Lim.unique (Zar.F_lim l0) (by
  unfold Zar.f
  repeat' (first | (with_reducible first | exact Lim.const _ | exact Zar.L0_lim _ _ _ | refine Lim.ite ?_ ?_ | refine Lim.bind ?_ (fun _ => ?_))))
def Zaz.l0 : Nat → Int → List Int → Int → Int → Option (Bool)
 | 0, _, _, _, _ => none
 | k + 1, x1, x7, x8, x9 => if x9 < x8 then (if 0 ≤ x9 then (if x9 < (x7.length : Int) then (if (rd x7 x9) = x1 then (some true) else (Zaz.l0 k x1 x7 x8 (wrap64 (x9 + 1)))) else (none)) else (none)) else (some false)
def Zaz.f (k : Nat) (l0 : List Int) (a1 : Int) : Option (Bool) := Zaz.l0 k a1 l0 (l0.length : Int) 0
theorem Zaz.mono_l : ∀ k, (∀ y0 y1 y2 y3, LeO (Zaz.l0 k y0 y1 y2 y3) (Zaz.l0 (k + 1) y0 y1 y2 y3))
 | 0 => fun _ _ _ _ r h => by simp [Zaz.l0] at h
 | k + 1 => by
  have ih0 := Zaz.mono_l k
  ·intro y0 y1 y2 y3
   unfold Zaz.l0
   repeat' (first | (with_reducible first | exact ih0 _ _ _ _ | exact LeO.refl _ | exact LeO.none _ | refine LeO.ite ?_ ?_ | refine LeO.bind ?_ (fun _ => ?_)) | exact ih0 _ _ _ _ | exact LeO.none _ | refine LeO.ite ?_ ?_ | refine LeO.bind ?_ (fun _ => ?_))
theorem Zaz.mono : ∀ a0 a1 k, LeO (Zaz.f k a0 a1) (Zaz.f (k + 1) a0 a1) := by
 intro a0 a1 k
 have ih0 := Zaz.mono_l k
 unfold Zaz.f
 repeat' (first | (with_reducible first | exact ih0 _ _ _ _ | exact LeO.refl _ | exact LeO.none _ | refine LeO.ite ?_ ?_ | refine LeO.bind ?_ (fun _ => ?_)) | exact ih0 _ _ _ _ | exact LeO.none _ | refine LeO.ite ?_ ?_ | refine LeO.bind ?_ (fun _ => ?_))
theorem Zaz.calls (k : Nat) (A0 : Option Addr) (c0 : Nat) (l0 : List Int) (a1 : Int) (r : Bool) (w : World) (hr0 : Kd.C (Kd.int .i64) w A0 l0.length l0) (hc0 : l0.length ≤ c0) (h : Zaz.f k l0 a1 = some r) :
  Calls Try.prog 68 #[.slice A0 l0.length c0, .int .i64 a1] w fun e w' => e = .returned (.bool r) ∧ Drawn0 w w' := by
 have HR0 := Aside0.mk hr0
 have HC0 := Aside0.mk hc0
 clear hr0 hc0
 have H := h
 unfold Zaz.f at H
 clear h
 have H' := Aside0.mk H
 clear H
 go_enter Try.func68, Try.ntmps68
 go_wp2
 go_loopg [9] k (fun kq v9 w' => ∃ (x9_1 : Int), v9 = .int .i64 x9_1 ∧ Aside0 (Zaz.l0 kq a1 l0 (l0.length : Int) x9_1 = some r) ∧ Aside0 (kq ≤ k) ∧ Drawn0 w w')
 case atStart => exact ⟨(0), eqd, H', ⟨Nat.le_refl _⟩, by repeat (first | exact Drawn0.refl _ | apply Drawn0.step)⟩
 case round =>
  clear H'
  obtain ⟨x9_1, rfl, HA, HK1, ⟨m1, rfl⟩⟩ := hrel
  cases gk with
  | zero => exact absurd HA.out (by simp [Zaz.l0])
  | succ k1 =>
   have H := HA.out
   clear HA
   simp only [Zaz.l0] at H
   by_cases c3 : x9_1 < (l0.length : Int)
   rotate_left
   ·rw [if_neg c3] at H
    have c3b0 := decide_eq_false c3
    clear c3
    obtain rfl := Option.some.inj H
    go_wp2
    go_ret
    exact ⟨by first | rfl | (simp; done) | (simp [*]; done), by repeat (first | exact Drawn0.refl _ | apply Drawn0.step)⟩
   rw [if_pos c3] at H
   have c3b0 := decide_eq_true c3
   clear c3
   obtain ⟨c4b0, H⟩ := in_ H
   obtain ⟨c5b0, H⟩ := in_ H
   by_cases c6 : (rd l0 x9_1) = a1
   ·rw [if_pos c6] at H
    have c6b0 : ((rd l0 x9_1) == a1) = true := beq_iff_eq.mpr c6
    have c6b1 : ((rd l0 x9_1) != a1) = false := bne_eq_false_iff_eq.mpr c6
    clear c6
    obtain rfl := Option.some.inj H
    have p379 : 0 ≤ (x9_1 : Int) := ofd
    have q379 : x9_1 < (l0.length : Int) := ofd
    obtain ⟨ad379, e379, hx379_0⟩ := Kd.at_int HR0.out x9_1 p379 q379
    cases e379
    replace p379 := eq_true p379
    replace q379 := eq_true q379
    go_wp2
    go_ret
    exact ⟨by first | rfl | (simp; done) | (simp [*]; done), by repeat (first | exact Drawn0.refl _ | apply Drawn0.step)⟩
   ·rw [if_neg c6] at H
    have c6b0 : ((rd l0 x9_1) == a1) = false := beq_eq_false_iff_ne.mpr c6
    have c6b1 : ((rd l0 x9_1) != a1) = true := bne_iff_ne.mpr c6
    have H' := Aside0.mk H
    clear H
    have p379 : 0 ≤ (x9_1 : Int) := ofd
    have q379 : x9_1 < (l0.length : Int) := ofd
    obtain ⟨ad379, e379, hx379_0⟩ := Kd.at_int HR0.out x9_1 p379 q379
    cases e379
    replace p379 := eq_true p379
    replace q379 := eq_true q379
    go_wp2
    go_roundg k1
    case measure => have := HK1.out; omega
    case rel => exact ⟨(wrap64 (x9_1 + 1)), eqd, H', ⟨by have := HK1.out; omega⟩, by repeat (first | exact Drawn0.refl _ | apply Drawn0.step)⟩
noncomputable def Zaz.L0 (x1 : Int) (x7 : List Int) (x8 : Int) (x9 : Int) : Option (Bool) := lim fun k => Zaz.l0 k x1 x7 x8 x9
theorem Zaz.L0_lim (x1 : Int) (x7 : List Int) (x8 : Int) (x9 : Int) : Lim (fun k => Zaz.l0 k x1 x7 x8 x9) (Zaz.L0 x1 x7 x8 x9) := Lim.of fun k => (Zaz.mono_l k) x1 x7 x8 x9
noncomputable def Zaz.F (l0 : List Int) (a1 : Int) : Option (Bool) := lim fun k => Zaz.f k l0 a1
theorem Zaz.F_lim (l0 : List Int) (a1 : Int) : Lim (fun k => Zaz.f k l0 a1) (Zaz.F l0 a1) := Lim.of fun k => Zaz.mono l0 a1 k
theorem Zaz.L0_eq (x1 : Int) (x7 : List Int) (x8 : Int) (x9 : Int) : Zaz.L0 x1 x7 x8 x9 = (if x9 < x8 then (if 0 ≤ x9 then (if x9 < (x7.length : Int) then (if (rd x7 x9) = x1 then (some true) else (Zaz.L0 x1 x7 x8 (wrap64 (x9 + 1)))) else (none)) else (none)) else (some false)) :=
 Lim.step (f := fun k => Zaz.l0 (k + 1) x1 x7 x8 x9) (Zaz.L0_lim x1 x7 x8 x9) (fun _ => rfl) (by
  simp only [Zaz.l0]
  repeat' (first | (with_reducible first | exact Lim.const _ | exact Zaz.L0_lim _ _ _ _ | refine Lim.ite ?_ ?_ | refine Lim.bind ?_ (fun _ => ?_))))
theorem Zaz.F_eq (l0 : List Int) (a1 : Int) : Zaz.F l0 a1 = (Zaz.L0 a1 l0 (l0.length : Int) 0) :=
 Lim.unique (Zaz.F_lim l0 a1) (by
  unfold Zaz.f
  repeat' (first | (with_reducible first | exact Lim.const _ | exact Zaz.L0_lim _ _ _ _ | refine Lim.ite ?_ ?_ | refine Lim.bind ?_ (fun _ => ?_))))
end Go.Proofs.Ytapffhnkfgkboaa.Fn
