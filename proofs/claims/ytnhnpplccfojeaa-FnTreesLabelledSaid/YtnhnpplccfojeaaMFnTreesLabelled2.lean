/- The machine's side and plain lemmas for FnTreesLabelled: texts of this session, merged by its program (part 2). -/
import Derived.Test.YtnhnpplccfojeaaMFnTreesLabelled0
import Derived.Test.YtnhnpplccfojeaaMFnTreesLabelled1
set_option maxHeartbeats 80000000
set_option maxRecDepth 100000
namespace Go.Proofs.Ytnhnpplccfojeaa.Fn
open Go.RowKit Go.Proofs.YtnhnpplccfojeaaW.PrintWords Go.Proofs.YtnhnpplccfojeaaW.PrintLast Go.Proofs.YtnhnpplccfojeaaW.PrintMore
attribute [local go_sem] max2_int min2_int max_two min_two max_three min_three max_four min_four
set_option linter.unusedVariables false
set_option linter.unusedSimpArgs false
def Zao.l0 : Nat → List Int → List (List Int) → Int → Option ((List (List Int)) × Bool)
 | 0, _, _, _ => none
 | k + 1, x0, x4, x5 => if x5 < (x0.length : Int) then (if 0 ≤ x5 then (if x4.length < 5864062014805 then (Zao.l0 k x0 (x4 ++ [(([rd x0 x5, x5] : List Int))]) (wrap64 (x5 + 1))) else (none)) else (none)) else (some (x4, true))
def Zao.f (k : Nat) (l0 : List Int) : Option ((List (List Int)) × Bool) := (Zah.f k l0).bind fun t292 => (if t292 = true then (Zao.l0 k l0 ([] : List (List Int)) 1) else (some (([] : List (List Int)), false)))
theorem Zao.mono_l : ∀ k, (∀ y0 y1 y2, LeO (Zao.l0 k y0 y1 y2) (Zao.l0 (k + 1) y0 y1 y2))
 | 0 => fun _ _ _ r h => by simp [Zao.l0] at h
 | k + 1 => by
  have ih0 := Zao.mono_l k
  ·intro y0 y1 y2
   unfold Zao.l0
   repeat' (first | (with_reducible first | exact ih0 _ _ _ | exact LeO.refl _ | exact LeO.none _ | refine LeO.ite ?_ ?_ | refine LeO.bind ?_ (fun _ => ?_)) | exact ih0 _ _ _ | exact LeO.none _ | refine LeO.ite ?_ ?_ | refine LeO.bind ?_ (fun _ => ?_))
theorem Zao.mono : ∀ a0 k, LeO (Zao.f k a0) (Zao.f (k + 1) a0) := by
 intro a0 k
 have ih0 := Zao.mono_l k
 unfold Zao.f
 repeat' (first | (with_reducible first | exact ih0 _ _ _ | exact Zah.mono _ _ | exact LeO.refl _ | exact LeO.none _ | refine LeO.ite ?_ ?_ | refine LeO.bind ?_ (fun _ => ?_)) | exact ih0 _ _ _ | exact Zah.mono _ _ | exact LeO.none _ | refine LeO.ite ?_ ?_ | refine LeO.bind ?_ (fun _ => ?_))
theorem Zao.calls (k : Nat) (A0 : Option Addr) (c0 : Nat) (l0 : List Int) (r1 : List (List Int)) (r2 : Bool) (w : World) (hr0 : Kd.C (Kd.int .i64) w A0 l0.length l0) (hc0 : l0.length ≤ c0) (h : Zao.f k l0 = some (r1, r2)) :
  Calls Try.prog 17 #[.slice A0 l0.length c0] w fun e w' => ∃ v0_ : Value, e = .returned (.tuple #[v0_, .bool r2]) ∧ Kd.S (Kd.slice 3 (Kd.int .i64)) 24 w' w.heap.size (fun _ => True) v0_ r1 ∧ Below w.heap.size w w' := by
 have HR0 := Aside0.mk hr0
 have HC0 := Aside0.mk hc0
 clear hr0 hc0
 have HB := Aside0.mk (Below.refl w.heap.size w)
 have H := h
 unfold Zao.f at H
 clear h
 replace H := bs_ H
 obtain ⟨t292, A2, H⟩ := H
 (try dsimp only at H)
 by_cases c3 : t292 = true
 rotate_left
 ·replace c3 := Bool.eq_false_iff.mpr c3
  subst c3
  replace H := if_ H
  simp only [Option.some.injEq, Prod.mk.injEq] at H
  obtain ⟨rfl, rfl⟩ := H
  go_enter Try.func17, Try.ntmps17
  go_wp2_with (first | ((with_reducible refine gate_callee (f := 88) rfl ?_); refine goesA (some 7) Try.func88 #[.slice A0 l0.length c0] ?_; (with_reducible refine (Zah.calls k _ _ l0 false _ ?side1 ?side2 A2.out).mono ?_); (case side1 => repeat (first | exact HR0.out | (with_reducible refine Kd.C_alloc ?_ _) | (with_reducible refine Kd.C_drewN ?_ _) | (with_reducible refine Kd.C_drew ?_))); (case side2 => exact HC0.out); rintro e w' ⟨rfl, ⟨nd, rfl⟩⟩; refine ⟨_, rfl, ?_⟩))
  go_ret2
  exact ⟨_, eqr, by first | exact Kd.S_nil _ _ _ _ _ | exact Kd.N_nil _ _ _ _ _ | exact Kd.V_nil _ _ _ _ _ | exact Kd.Q_nil _ _ _ _ _ | exact Kd.R_nil _ _ _ _ _, atB HB⟩
 subst c3
 replace H := it_ H
 have H' := Aside0.mk H
 clear H
 go_enter Try.func17, Try.ntmps17
 go_wp2_with (first | ((with_reducible refine gate_callee (f := 88) rfl ?_); refine goesA (some 7) Try.func88 #[.slice A0 l0.length c0] ?_; (with_reducible refine (Zah.calls k _ _ l0 true _ ?side1 ?side2 A2.out).mono ?_); (case side1 => repeat (first | exact HR0.out | (with_reducible refine Kd.C_alloc ?_ _) | (with_reducible refine Kd.C_drewN ?_ _) | (with_reducible refine Kd.C_drew ?_))); (case side2 => exact HC0.out); rintro e w' ⟨rfl, ⟨nd, rfl⟩⟩; refine ⟨_, rfl, ?_⟩))
 go_loopg [4, 5] k (fun kq v4 v5 w' => ∃ (x4_1 : List (List Int)) (x5_1 : Int), v5 = .int .i64 x5_1 ∧ Aside0 (Zao.l0 kq l0 x4_1 x5_1 = some (r1, r2)) ∧ Aside0 (kq ≤ k) ∧ Aside0 (Kd.S (Kd.slice 3 (Kd.int .i64)) 24 w' w.heap.size (fun _ => True) v4 x4_1) ∧ Aside0 (Below w.heap.size w w'))
 case atStart => exact ⟨(([] : List (List Int))), (1), eqd, H', ⟨Nat.le_refl _⟩, ⟨by first | exact Kd.S_nil _ _ _ _ _ | exact Kd.N_nil _ _ _ _ _ | exact Kd.V_nil _ _ _ _ _ | exact Kd.Q_nil _ _ _ _ _ | exact Kd.R_nil _ _ _ _ _⟩, ⟨atB HB⟩⟩
 case round =>
  clear H'
  try clear c3
  obtain ⟨x4_1, x5_1, rfl, HA, HK1, HO_4, HB⟩ := hrel
  cases gk with
  | zero => exact absurd HA.out (by simp [Zao.l0])
  | succ k1 =>
   have H := HA.out
   clear HA
   simp only [Zao.l0] at H
   by_cases c4 : x5_1 < (l0.length : Int)
   rotate_left
   ·rw [if_neg c4] at H
    have c4b0 := decide_eq_false c4
    clear c4
    simp only [Option.some.injEq, Prod.mk.injEq] at H
    obtain ⟨rfl, rfl⟩ := H
    go_wp2
    go_ret2
    exact ⟨_, eqr, atS HO_4, atB HB⟩
   rw [if_pos c4] at H
   have c4b0 := decide_eq_true c4
   clear c4
   obtain ⟨c5b0, H⟩ := in_ H
   obtain ⟨y294, hy294⟩ : ∃ y_ : List Int, y_ = (([rd l0 x5_1, x5_1] : List Int)) := ⟨_, rfl⟩
   replace H : (if x4_1.length < 5864062014805 then (Zao.l0 k1 l0 (x4_1 ++ [y294]) (wrap64 (x5_1 + 1))) else (none)) = some (r1, r2) := by first | (rw [hy294]; with_reducible exact H) | (have H2_ := (Option.bind_some _ _).symm.trans H; rw [hy294]; with_reducible exact H2_) | (have H2_ := (Option.bind_some _ _).symm.trans H; with_reducible exact H2_) | with_reducible exact H | (rw [hy294]; exact H) | exact H
   have Ny294 := Aside0.mk hy294
   clear hy294
   obtain ⟨c6, H⟩ := in0_ H
   have LMc6 := Aside0.mk c6
   clear c6
   obtain ⟨y297, hy297⟩ : ∃ y_ : List (List Int), y_ = (x4_1 ++ [y294]) := ⟨_, rfl⟩
   replace H : (Zao.l0 k1 l0 y297 (wrap64 (x5_1 + 1))) = some (r1, r2) := by first | (rw [hy297]; with_reducible exact H) | (have H2_ := (Option.bind_some _ _).symm.trans H; rw [hy297]; with_reducible exact H2_) | (have H2_ := (Option.bind_some _ _).symm.trans H; with_reducible exact H2_) | with_reducible exact H | (rw [hy297]; exact H) | exact H
   have Ny297 := Aside0.mk hy297
   clear hy297
   have H' := Aside0.mk H
   clear H
   have p293 : 0 ≤ (x5_1 : Int) := ofd
   have q293 : x5_1 < (l0.length : Int) := ofd
   obtain ⟨ad293, e293, hx293_0⟩ := Kd.at_int HR0.out x5_1 p293 q293
   cases e293
   (try replace hx293_0 := (HB.out.cell (World.block_lt_of_cell? w _ hx293_0)).trans hx293_0)
   replace p293 := eq_true p293
   replace q293 := eq_true q293
   go_wp2_with (first | ((with_reducible refine gate_dst (N := 21) rfl ?_); refine Kd.R_lit (Kd.int .i64) _ 3 ?hg (N := 21) ?hd (xs := ([rd l0 x5_1, x5_1] : List Int)) (inner := [.int .i64 (rd l0 x5_1), .int .i64 x5_1]) (ok := fun _ => True) (okp := fun _ => True) ?hr ?hp (fun _ hk => hk) trivial (Below.refl _ _) (Nat.le_refl _) (by simp) ?_; (case hd => rfl); (case hg => rfl); (case hr => first | (go_simp; done) | (go_simp; rfl)); (case hp => exact repsI _); intro v295 w7 ho8 hb hg_ hnew_; clear hg_ hnew_; (first | rw [← Ny294.out] at ho8 | (simp only [Int.reduceToNat] at ho8; rw [← Ny294.out] at ho8)); have HO296 := lowR ho8 HB; replace HO_4 := eldSR HO_4 ho8 hb; replace HB := upB HB hb; clear hb ho8; obtain ⟨Ao10, co10, eo10⟩ := Kd.R_slice HO296.out; subst eo10) | ((with_reducible refine gate_builtin (b := .append) (xs := #[.tmp 15, .tmp 22]) rfl ?_); at_builtin; refine Kd.S_append (Kd.slice 3 (Kd.int .i64)) (w0 := w) w.heap.size rfl (.tmp 15) (.tmp 22) 33 24 (.slice none 0 0) 24 rfl Try.underlying33 info24 rfl (by decide) (by omega) u4 x4_1 y294 [.slice Ao10 y294.length co10] (fun _ => True) (fun k_ => some k_ = (.slice Ao10 y294.length co10 : Value).ownBlock) rfl rfl ?aP (fun k_ hk_ => ((Kd.R_mono (ok' := fun k_ => ((fun _ => True)) k_ ∧ some k_ ≠ (u4 : Value).ownBlock) (Kd.R_apart' (HO296.out) (Kd.S_typed HO_4.out) (by decide)) (fun k_ hk => ⟨trivial, hk.2⟩))).1 k_ hk_.symm) ?aF ?aO ?aB ?aS ?aL ?_; (case aP => exact Kd.M_row (Kd.R_mono (Kd.R_tight rfl (Kd.R_mono (ok' := fun k_ => ((fun _ => True)) k_ ∧ some k_ ≠ (u4 : Value).ownBlock) (Kd.R_apart' (HO296.out) (Kd.S_typed HO_4.out) (by decide)) (fun k_ hk => ⟨trivial, hk.2⟩))) (fun _ h_ => h_))); (case aB => exact (atB HB)); (case aF => exact (fun _ _ => trivial)); (case aO => exact (by (with_reducible repeat (first | apply Kd.S_alloc | apply Kd.S_drewN | apply Kd.S_drew)); exact Kd.S_mono HO_4.out (fun k_ hk => ⟨trivial, fun e_ => hk.2 e_⟩))); (case aS => exact (szB HB)); (case aL => have := LMc6.out; omega); intro v298 w9 ho hb hg hat; rw [← Ny297.out] at ho; have HO299 := Aside0.mk (ho); replace HB := Aside0.mk (hb); clear HO_4 HO296; clear ho hb hg hat))
   go_roundg k1
   case measure => have := HK1.out; omega
   case rel => exact ⟨(y297), (wrap64 (x5_1 + 1)), eqd, H', ⟨by have := HK1.out; omega⟩, ⟨atS HO299⟩, ⟨atB HB⟩⟩
noncomputable def Zao.L0 (x0 : List Int) (x4 : List (List Int)) (x5 : Int) : Option ((List (List Int)) × Bool) := lim fun k => Zao.l0 k x0 x4 x5
theorem Zao.L0_lim (x0 : List Int) (x4 : List (List Int)) (x5 : Int) : Lim (fun k => Zao.l0 k x0 x4 x5) (Zao.L0 x0 x4 x5) := Lim.of fun k => (Zao.mono_l k) x0 x4 x5
noncomputable def Zao.F (l0 : List Int) : Option ((List (List Int)) × Bool) := lim fun k => Zao.f k l0
theorem Zao.F_lim (l0 : List Int) : Lim (fun k => Zao.f k l0) (Zao.F l0) := Lim.of fun k => Zao.mono l0 k
theorem Zao.L0_eq (x0 : List Int) (x4 : List (List Int)) (x5 : Int) : Zao.L0 x0 x4 x5 = (if x5 < (x0.length : Int) then (if 0 ≤ x5 then (if x4.length < 5864062014805 then (Zao.L0 x0 (x4 ++ [(([rd x0 x5, x5] : List Int))]) (wrap64 (x5 + 1))) else (none)) else (none)) else (some (x4, true))) :=
 Lim.step (f := fun k => Zao.l0 (k + 1) x0 x4 x5) (Zao.L0_lim x0 x4 x5) (fun _ => rfl) (by
  simp only [Zao.l0]
  repeat' (first | (with_reducible first | exact Lim.const _ | exact Zao.L0_lim _ _ _ | refine Lim.ite ?_ ?_ | refine Lim.bind ?_ (fun _ => ?_))))
theorem Zao.F_eq (l0 : List Int) : Zao.F l0 = ((Zah.F l0).bind fun t292 => (if t292 = true then (Zao.L0 l0 ([] : List (List Int)) 1) else (some (([] : List (List Int)), false)))) :=
 Lim.unique (Zao.F_lim l0) (by
  unfold Zao.f
  repeat' (first | (with_reducible first | exact Lim.const _ | exact Zao.L0_lim _ _ _ | exact Zah.F_lim _ | refine Lim.ite ?_ ?_ | refine Lim.bind ?_ (fun _ => ?_))))
mutual
def Zad.j0 : Nat → List Int → List Int → Bool → Option (Int × Bool)
 | 0, _, _, _ => none
 | k + 1, x0, x1, x29 => if x29 = true then (some (0, false)) else (Zad.l0 k x0 x1 (x0.length : Int) 0)
def Zad.l0 : Nat → List Int → List Int → Int → Int → Option (Int × Bool)
 | 0, _, _, _, _ => none
 | k + 1, x0, x1, x31, x32 => if x32 < x31 then (Zad.l1 k x0 x1 x32 true 1 x31 x32) else (some (0, false))
def Zad.l1 : Nat → List Int → List Int → Int → Bool → Int → Int → Int → Option (Int × Bool)
 | 0, _, _, _, _, _, _, _ => none
 | k + 1, x0, x1, x8, x9, x10, x31, x32 => if x10 < (x0.length : Int) then (if 0 ≤ x10 then (if x10 < (x1.length : Int) then (if 0 ≤ (rd x0 x10) then (if (rd x0 x10) < (x1.length : Int) then (if x9 = true then (if (mn (rd x1 x10) (rd x1 (rd x0 x10))) ≤ x8 then (Zad.l1 k x0 x1 x8 (decide ((mx (rd x1 x10) (rd x1 (rd x0 x10))) > x8)) (wrap64 (x10 + 1)) x31 x32) else (Zad.l1 k x0 x1 x8 false (wrap64 (x10 + 1)) x31 x32)) else (Zad.l1 k x0 x1 x8 false (wrap64 (x10 + 1)) x31 x32)) else (none)) else (none)) else (none)) else (none)) else (if x9 = true then (some (x8, true)) else (Zad.l0 k x0 x1 x31 (wrap64 (x32 + 1))))
end
def Zad.f (k : Nat) (l0 : List Int) (l1 : List Int) : Option (Int × Bool) := (Zat.f k l0 l1).bind fun bt274 => (if bt274.2 = true then (if bt274.1 = true then (Zad.j0 k l0 l1 (decide ((l0.length : Int) < 2))) else (Zad.j0 k l0 l1 true)) else (Zad.j0 k l0 l1 true))
theorem Zad.mono_l : ∀ k, (∀ y0 y1 y2, LeO (Zad.j0 k y0 y1 y2) (Zad.j0 (k + 1) y0 y1 y2)) ∧ (∀ y0 y1 y2 y3, LeO (Zad.l0 k y0 y1 y2 y3) (Zad.l0 (k + 1) y0 y1 y2 y3)) ∧ (∀ y0 y1 y2 y3 y4 y5 y6, LeO (Zad.l1 k y0 y1 y2 y3 y4 y5 y6) (Zad.l1 (k + 1) y0 y1 y2 y3 y4 y5 y6))
 | 0 => ⟨fun _ _ _ r h => by simp [Zad.j0] at h, fun _ _ _ _ r h => by simp [Zad.l0] at h, fun _ _ _ _ _ _ _ r h => by simp [Zad.l1] at h⟩
 | k + 1 => by
  obtain ⟨ih0, ih1, ih2⟩ := Zad.mono_l k
  refine ⟨?_, ?_, ?_⟩
  ·intro y0 y1 y2
   unfold Zad.j0
   repeat' (first | (with_reducible first | exact ih1 _ _ _ _ | exact LeO.refl _ | exact LeO.none _ | refine LeO.ite ?_ ?_ | refine LeO.bind ?_ (fun _ => ?_)) | exact ih1 _ _ _ _ | exact LeO.none _ | refine LeO.ite ?_ ?_ | refine LeO.bind ?_ (fun _ => ?_))
  ·intro y0 y1 y2 y3
   unfold Zad.l0
   repeat' (first | (with_reducible first | exact ih2 _ _ _ _ _ _ _ | exact LeO.refl _ | exact LeO.none _ | refine LeO.ite ?_ ?_ | refine LeO.bind ?_ (fun _ => ?_)) | exact ih2 _ _ _ _ _ _ _ | exact LeO.none _ | refine LeO.ite ?_ ?_ | refine LeO.bind ?_ (fun _ => ?_))
  ·intro y0 y1 y2 y3 y4 y5 y6
   unfold Zad.l1
   repeat' (first | (with_reducible first | exact ih1 _ _ _ _ | exact ih2 _ _ _ _ _ _ _ | exact LeO.refl _ | exact LeO.none _ | refine LeO.ite ?_ ?_ | refine LeO.bind ?_ (fun _ => ?_)) | exact ih1 _ _ _ _ | exact ih2 _ _ _ _ _ _ _ | exact LeO.none _ | refine LeO.ite ?_ ?_ | refine LeO.bind ?_ (fun _ => ?_))
theorem Zad.mono : ∀ a0 a1 k, LeO (Zad.f k a0 a1) (Zad.f (k + 1) a0 a1) := by
 intro a0 a1 k
 obtain ⟨ih0, ih1, ih2⟩ := Zad.mono_l k
 unfold Zad.f
 repeat' (first | (with_reducible first | exact ih0 _ _ _ | exact Zat.mono _ _ _ | exact LeO.refl _ | exact LeO.none _ | refine LeO.ite ?_ ?_ | refine LeO.bind ?_ (fun _ => ?_)) | exact ih0 _ _ _ | exact Zat.mono _ _ _ | exact LeO.none _ | refine LeO.ite ?_ ?_ | refine LeO.bind ?_ (fun _ => ?_))
theorem Zad.calls (k : Nat) (A0 : Option Addr) (c0 : Nat) (l0 : List Int) (A1 : Option Addr) (c1 : Nat) (l1 : List Int) (r1 : Int) (r2 : Bool) (w : World) (hr0 : Kd.C (Kd.int .i64) w A0 l0.length l0) (hc0 : l0.length ≤ c0) (hr1 : Kd.C (Kd.int .i64) w A1 l1.length l1) (hc1 : l1.length ≤ c1) (h : Zad.f k l0 l1 = some (r1, r2)) :
  Calls Try.prog 14 #[.slice A0 l0.length c0, .slice A1 l1.length c1] w fun e w' => e = .returned (.tuple #[.int .i64 r1, .bool r2]) ∧ Below w.heap.size w w' := by
 have HR0 := Aside0.mk hr0
 have HC0 := Aside0.mk hc0
 clear hr0 hc0
 have HR1 := Aside0.mk hr1
 have HC1 := Aside0.mk hc1
 clear hr1 hc1
 have HB := Aside0.mk (Below.refl w.heap.size w)
 have H := h
 unfold Zad.f at H
 clear h
 replace H := Option.bind_eq_some_iff.mp H
 obtain ⟨⟨t274, t275⟩, A30, H⟩ := H
 replace H : (if t275 = true then (if t274 = true then (Zad.j0 k l0 l1 (decide ((l0.length : Int) < 2))) else (Zad.j0 k l0 l1 true)) else (Zad.j0 k l0 l1 true)) = some (r1, r2) := H
 have A3 := Aside0.mk A30
 clear A30
 have HC4 := Aside0.mk H
 clear H
 go_enter Try.func14, Try.ntmps14
 go_upto_region 2 with (first | (go_at_call 8; (with_reducible refine (Zat.calls k _ _ l0 _ _ l1 t274 t275 _ ?side1 ?side2 ?side3 ?side4 A3.out).mono ?_); (case side1 => repeat (first | exact HR0.out | (with_reducible refine Kd.C_alloc ?_ _) | (with_reducible refine Kd.C_drewN ?_ _) | (with_reducible refine Kd.C_drew ?_))); (case side2 => exact HC0.out); (case side3 => repeat (first | exact HR1.out | (with_reducible refine Kd.C_alloc ?_ _) | (with_reducible refine Kd.C_drewN ?_ _) | (with_reducible refine Kd.C_drew ?_))); (case side4 => exact HC1.out); rintro e w5 ⟨rfl, hb⟩; replace HB := upB HB hb))
 repeat (go_quiet (first | (go_at_call 8; (with_reducible refine (Zat.calls k _ _ l0 _ _ l1 t274 t275 _ ?side1 ?side2 ?side3 ?side4 A3.out).mono ?_); (case side1 => repeat (first | exact HR0.out | (with_reducible refine Kd.C_alloc ?_ _) | (with_reducible refine Kd.C_drewN ?_ _) | (with_reducible refine Kd.C_drew ?_))); (case side2 => exact HC0.out); (case side3 => repeat (first | exact HR1.out | (with_reducible refine Kd.C_alloc ?_ _) | (with_reducible refine Kd.C_drewN ?_ _) | (with_reducible refine Kd.C_drew ?_))); (case side4 => exact HC1.out); rintro e w5 ⟨rfl, hb⟩; replace HB := upB HB hb)); go_upto_region 2 with (first | (go_at_call 8; (with_reducible refine (Zat.calls k _ _ l0 _ _ l1 t274 t275 _ ?side1 ?side2 ?side3 ?side4 A3.out).mono ?_); (case side1 => repeat (first | exact HR0.out | (with_reducible refine Kd.C_alloc ?_ _) | (with_reducible refine Kd.C_drewN ?_ _) | (with_reducible refine Kd.C_drew ?_))); (case side2 => exact HC0.out); (case side3 => repeat (first | exact HR1.out | (with_reducible refine Kd.C_alloc ?_ _) | (with_reducible refine Kd.C_drewN ?_ _) | (with_reducible refine Kd.C_drew ?_))); (case side4 => exact HC1.out); rintro e w5 ⟨rfl, hb⟩; replace HB := upB HB hb)))
 (try simp only [Act.put, List.setIfInBounds_toArray, List.set_cons_zero, List.set_cons_succ])
 go_cut [29] (fun v29 wc => ∃ (kq : Nat) (x29_3 : Bool), v29 = .bool x29_3 ∧ Aside0 (Zad.j0 kq l0 l1 x29_3 = some (r1, r2)) ∧ Aside0 (kq ≤ k) ∧ Aside0 (Below w.heap.size w wc))
 case first =>
  have H := HC4.out
  clear HC4
  by_cases c6 : t275 = true
  rotate_left
  ·replace c6 := Bool.eq_false_iff.mpr c6
   subst c6
   replace H := if_ H
   have H' := Aside0.mk H
   clear H
   go_wp2
   repeat (go_quiet (fail); try go_wp2)
   go_meet
   case rel => exact ⟨_, (true), eqd, H', ⟨leD⟩, ⟨atB HB⟩⟩
  subst c6
  replace H := it_ H
  by_cases c7 : t274 = true
  rotate_left
  ·replace c7 := Bool.eq_false_iff.mpr c7
   subst c7
   replace H := if_ H
   have H' := Aside0.mk H
   clear H
   go_wp2
   repeat (go_quiet (fail); try go_wp2)
   go_meet
   case rel => exact ⟨_, (true), eqd, H', ⟨leD⟩, ⟨atB HB⟩⟩
  subst c7
  replace H := it_ H
  have H' := Aside0.mk H
  clear H
  go_wp2
  repeat (go_quiet (fail); try go_wp2)
  go_meet
  case rel => exact ⟨_, (decide ((l0.length : Int) < 2)), eqd, H', ⟨leD⟩, ⟨atB HB⟩⟩
 case rest =>
  clear HC4
  try clear c1
  obtain ⟨kq, x29_3, rfl, HA, HJ3, HB⟩ := hcut
  cases kq with
  | zero => exact absurd HA.out (by simp [Zad.j0])
  | succ kj3 =>
   have H := HA.out
   clear HA
   simp only [Zad.j0] at H
   by_cases c8 : x29_3 = true
   ·subst c8
    replace H := it_ H
    simp only [Option.some.injEq, Prod.mk.injEq] at H
    obtain ⟨rfl, rfl⟩ := H
    go_wp2
    repeat (go_quiet (fail); try go_wp2)
    go_ret2
    exact ⟨eqr, atB HB⟩
   replace c8 := Bool.eq_false_iff.mpr c8
   subst c8
   replace H := if_ H
   have H' := Aside0.mk H
   clear H
   go_wp2
   repeat (go_quiet (fail); try go_wp2)
   go_loopg [32] kj3 (fun kq v32 w' => ∃ (x32_2 : Int), v32 = .int .i64 x32_2 ∧ Aside0 (Zad.l0 kq l0 l1 (l0.length : Int) x32_2 = some (r1, r2)) ∧ Aside0 (kq ≤ kj3) ∧ Aside0 (Below w.heap.size w w'))
   case atStart => exact ⟨(0), eqd, H', ⟨Nat.le_refl _⟩, ⟨atB HB⟩⟩
   case round =>
    clear H'
    try clear c8
    obtain ⟨x32_2, rfl, HA, HK2, HB⟩ := hrel
    cases gk with
    | zero => exact absurd HA.out (by simp [Zad.l0])
    | succ k2 =>
     have H := HA.out
     clear HA
     simp only [Zad.l0] at H
     by_cases c9 : x32_2 < (l0.length : Int)
     rotate_left
     ·rw [if_neg c9] at H
      have c9b0 := decide_eq_false c9
      clear c9
      simp only [Option.some.injEq, Prod.mk.injEq] at H
      obtain ⟨rfl, rfl⟩ := H
      go_wp2
      repeat (go_quiet (fail); try go_wp2)
      go_ret2
      exact ⟨eqr, atB HB⟩
     rw [if_pos c9] at H
     have c9b0 := decide_eq_true c9
     clear c9
     have H' := Aside0.mk H
     clear H
     go_wp2
     repeat (go_quiet (fail); try go_wp2)
     go_loopg [9, 10] k2 (fun kq v9 v10 w' => ∃ (x9_3 : Bool) (x10_3 : Int), v9 = .bool x9_3 ∧ v10 = .int .i64 x10_3 ∧ Aside0 (Zad.l1 kq l0 l1 x32_2 x9_3 x10_3 (l0.length : Int) x32_2 = some (r1, r2)) ∧ Aside0 (kq ≤ k2) ∧ Aside0 (Below w.heap.size w w'))
     case atStart => exact ⟨(true), (1), eqd, eqd, H', ⟨Nat.le_refl _⟩, ⟨atB HB⟩⟩
     case round =>
      clear H'
      try clear c9b0
      obtain ⟨x9_3, x10_3, rfl, rfl, HA, HK3, HB⟩ := hrel
      cases gk with
      | zero => exact absurd HA.out (by simp [Zad.l1])
      | succ k3 =>
       have H := HA.out
       clear HA
       simp only [Zad.l1] at H
       by_cases c10 : x10_3 < (l0.length : Int)
       ·rw [if_pos c10] at H
        have c10b0 := decide_eq_true c10
        clear c10
        obtain ⟨c11b0, H⟩ := in_ H
        obtain ⟨c12b0, H⟩ := in_ H
        obtain ⟨c13b0, H⟩ := in_ H
        obtain ⟨c14b0, H⟩ := in_ H
        by_cases c15 : x9_3 = true
        ·subst c15
         replace H := it_ H
         obtain ⟨ji16, hji16⟩ : ∃ j_ : Int, (mn (rd l1 x10_3) (rd l1 (rd l0 x10_3))) = j_ := ⟨_, rfl⟩
         replace H : (if (ji16) ≤ x32_2 then (Zad.l1 k3 l0 l1 x32_2 (decide ((mx (rd l1 x10_3) (rd l1 (rd l0 x10_3))) > x32_2)) (wrap64 (x10_3 + 1)) (l0.length : Int) x32_2) else (Zad.l1 k3 l0 l1 x32_2 false (wrap64 (x10_3 + 1)) (l0.length : Int) x32_2)) = some (r1, r2) := by first | (rw [hji16] at H; exact H) | (simp only [hji16] at H ⊢; exact H)
         have hji16_ : (if (rd l1 (rd l0 x10_3)) < (rd l1 x10_3) then (rd l1 (rd l0 x10_3)) else (rd l1 x10_3)) = ji16 := hji16
         by_cases c17 : (ji16) ≤ x32_2
         ·rw [if_pos c17] at H
          have c17b0 := decide_eq_true c17
          clear c17
          obtain ⟨ji18, hji18⟩ : ∃ j_ : Int, (mx (rd l1 x10_3) (rd l1 (rd l0 x10_3))) = j_ := ⟨_, rfl⟩
          replace H : (Zad.l1 k3 l0 l1 x32_2 (decide ((ji18) > x32_2)) (wrap64 (x10_3 + 1)) (l0.length : Int) x32_2) = some (r1, r2) := by first | (rw [hji18] at H; exact H) | (simp only [hji18] at H ⊢; exact H)
          have hji18_ : (if (rd l1 x10_3) < (rd l1 (rd l0 x10_3)) then (rd l1 (rd l0 x10_3)) else (rd l1 x10_3)) = ji18 := hji18
          have H' := Aside0.mk H
          clear H
          have p276 : 0 ≤ (x10_3 : Int) := ofd
          have q276 : x10_3 < (l1.length : Int) := ofd
          obtain ⟨ad276, e276, hx276_0⟩ := Kd.at_int HR1.out x10_3 p276 q276
          cases e276
          (try replace hx276_0 := (HB.out.cell (World.block_lt_of_cell? w _ hx276_0)).trans hx276_0)
          replace p276 := eq_true p276
          replace q276 := eq_true q276
          have p277 : 0 ≤ (x10_3 : Int) := ofd
          have q277 : x10_3 < (l0.length : Int) := ofd
          obtain ⟨ad277, e277, hx277_0⟩ := Kd.at_int HR0.out x10_3 p277 q277
          cases e277
          (try replace hx277_0 := (HB.out.cell (World.block_lt_of_cell? w _ hx277_0)).trans hx277_0)
          replace p277 := eq_true p277
          replace q277 := eq_true q277
          have p278 : 0 ≤ ((rd l0 x10_3) : Int) := ofd
          have q278 : (rd l0 x10_3) < (l1.length : Int) := ofd
          obtain ⟨ad278, e278, hx278_0⟩ := Kd.at_int HR1.out (rd l0 x10_3) p278 q278
          obtain rfl : ad276 = ad278 := (by injection e278)
          (try replace hx278_0 := (HB.out.cell (World.block_lt_of_cell? w _ hx278_0)).trans hx278_0)
          replace p278 := eq_true p278
          replace q278 := eq_true q278
          go_wp2
          repeat (go_quiet (fail); try go_wp2)
          first | go_roundg k3 | ((try subst hji18); (try subst hji16); go_roundg k3)
          case measure => have := HJ3.out; have := HK2.out; have := HK3.out; omega
          case rel => exact ⟨(decide ((ji18) > x32_2)), (wrap64 (x10_3 + 1)), (by first | rfl | (simp; done) | (simp only [← hji18] <;> (first | rfl | simp)) | (simp [*]; done)), eqd, H', ⟨by have := HJ3.out; have := HK2.out; have := HK3.out; omega⟩, ⟨atB HB⟩⟩
         ·rw [if_neg c17] at H
          have c17b0 := decide_eq_false c17
          clear c17
          have H' := Aside0.mk H
          clear H
          have p276 : 0 ≤ (x10_3 : Int) := ofd
          have q276 : x10_3 < (l1.length : Int) := ofd
          obtain ⟨ad276, e276, hx276_0⟩ := Kd.at_int HR1.out x10_3 p276 q276
          cases e276
          (try replace hx276_0 := (HB.out.cell (World.block_lt_of_cell? w _ hx276_0)).trans hx276_0)
          replace p276 := eq_true p276
          replace q276 := eq_true q276
          have p277 : 0 ≤ (x10_3 : Int) := ofd
          have q277 : x10_3 < (l0.length : Int) := ofd
          obtain ⟨ad277, e277, hx277_0⟩ := Kd.at_int HR0.out x10_3 p277 q277
          cases e277
          (try replace hx277_0 := (HB.out.cell (World.block_lt_of_cell? w _ hx277_0)).trans hx277_0)
          replace p277 := eq_true p277
          replace q277 := eq_true q277
          have p278 : 0 ≤ ((rd l0 x10_3) : Int) := ofd
          have q278 : (rd l0 x10_3) < (l1.length : Int) := ofd
          obtain ⟨ad278, e278, hx278_0⟩ := Kd.at_int HR1.out (rd l0 x10_3) p278 q278
          obtain rfl : ad276 = ad278 := (by injection e278)
          (try replace hx278_0 := (HB.out.cell (World.block_lt_of_cell? w _ hx278_0)).trans hx278_0)
          replace p278 := eq_true p278
          replace q278 := eq_true q278
          go_wp2
          repeat (go_quiet (fail); try go_wp2)
          first | go_roundg k3 | ((try subst hji16); go_roundg k3)
          case measure => have := HJ3.out; have := HK2.out; have := HK3.out; omega
          case rel => exact ⟨(false), (wrap64 (x10_3 + 1)), eqd, eqd, H', ⟨by have := HJ3.out; have := HK2.out; have := HK3.out; omega⟩, ⟨atB HB⟩⟩
        ·replace c15 := Bool.eq_false_iff.mpr c15
         subst c15
         replace H := if_ H
         have H' := Aside0.mk H
         clear H
         have p276 : 0 ≤ (x10_3 : Int) := ofd
         have q276 : x10_3 < (l1.length : Int) := ofd
         obtain ⟨ad276, e276, hx276_0⟩ := Kd.at_int HR1.out x10_3 p276 q276
         cases e276
         (try replace hx276_0 := (HB.out.cell (World.block_lt_of_cell? w _ hx276_0)).trans hx276_0)
         replace p276 := eq_true p276
         replace q276 := eq_true q276
         have p277 : 0 ≤ (x10_3 : Int) := ofd
         have q277 : x10_3 < (l0.length : Int) := ofd
         obtain ⟨ad277, e277, hx277_0⟩ := Kd.at_int HR0.out x10_3 p277 q277
         cases e277
         (try replace hx277_0 := (HB.out.cell (World.block_lt_of_cell? w _ hx277_0)).trans hx277_0)
         replace p277 := eq_true p277
         replace q277 := eq_true q277
         have p278 : 0 ≤ ((rd l0 x10_3) : Int) := ofd
         have q278 : (rd l0 x10_3) < (l1.length : Int) := ofd
         obtain ⟨ad278, e278, hx278_0⟩ := Kd.at_int HR1.out (rd l0 x10_3) p278 q278
         obtain rfl : ad276 = ad278 := (by injection e278)
         (try replace hx278_0 := (HB.out.cell (World.block_lt_of_cell? w _ hx278_0)).trans hx278_0)
         replace p278 := eq_true p278
         replace q278 := eq_true q278
         go_wp2
         repeat (go_quiet (fail); try go_wp2)
         go_roundg k3
         case measure => have := HJ3.out; have := HK2.out; have := HK3.out; omega
         case rel => exact ⟨(false), (wrap64 (x10_3 + 1)), eqd, eqd, H', ⟨by have := HJ3.out; have := HK2.out; have := HK3.out; omega⟩, ⟨atB HB⟩⟩
       ·rw [if_neg c10] at H
        have c10b0 := decide_eq_false c10
        clear c10
        by_cases c19 : x9_3 = true
        rotate_left
        ·replace c19 := Bool.eq_false_iff.mpr c19
         subst c19
         replace H := if_ H
         have H' := Aside0.mk H
         clear H
         go_wp2
         repeat (go_quiet (fail); try go_wp2)
         go_roundg k3
         case measure => have := HJ3.out; have := HK2.out; have := HK3.out; omega
         case rel => exact ⟨(wrap64 (x32_2 + 1)), eqd, H', ⟨by have := HJ3.out; have := HK2.out; have := HK3.out; omega⟩, ⟨atB HB⟩⟩
        subst c19
        replace H := it_ H
        simp only [Option.some.injEq, Prod.mk.injEq] at H
        obtain ⟨rfl, rfl⟩ := H
        go_wp2
        repeat (go_quiet (fail); try go_wp2)
        go_ret2
        exact ⟨eqr, atB HB⟩
noncomputable def Zad.J0 (x0 : List Int) (x1 : List Int) (x29 : Bool) : Option (Int × Bool) := lim fun k => Zad.j0 k x0 x1 x29
theorem Zad.J0_lim (x0 : List Int) (x1 : List Int) (x29 : Bool) : Lim (fun k => Zad.j0 k x0 x1 x29) (Zad.J0 x0 x1 x29) := Lim.of fun k => (Zad.mono_l k).1 x0 x1 x29
noncomputable def Zad.L0 (x0 : List Int) (x1 : List Int) (x31 : Int) (x32 : Int) : Option (Int × Bool) := lim fun k => Zad.l0 k x0 x1 x31 x32
theorem Zad.L0_lim (x0 : List Int) (x1 : List Int) (x31 : Int) (x32 : Int) : Lim (fun k => Zad.l0 k x0 x1 x31 x32) (Zad.L0 x0 x1 x31 x32) := Lim.of fun k => (Zad.mono_l k).2.1 x0 x1 x31 x32
noncomputable def Zad.L1 (x0 : List Int) (x1 : List Int) (x8 : Int) (x9 : Bool) (x10 : Int) (x31 : Int) (x32 : Int) : Option (Int × Bool) := lim fun k => Zad.l1 k x0 x1 x8 x9 x10 x31 x32
theorem Zad.L1_lim (x0 : List Int) (x1 : List Int) (x8 : Int) (x9 : Bool) (x10 : Int) (x31 : Int) (x32 : Int) : Lim (fun k => Zad.l1 k x0 x1 x8 x9 x10 x31 x32) (Zad.L1 x0 x1 x8 x9 x10 x31 x32) := Lim.of fun k => (Zad.mono_l k).2.2 x0 x1 x8 x9 x10 x31 x32
noncomputable def Zad.F (l0 : List Int) (l1 : List Int) : Option (Int × Bool) := lim fun k => Zad.f k l0 l1
theorem Zad.F_lim (l0 : List Int) (l1 : List Int) : Lim (fun k => Zad.f k l0 l1) (Zad.F l0 l1) := Lim.of fun k => Zad.mono l0 l1 k
theorem Zad.J0_eq (x0 : List Int) (x1 : List Int) (x29 : Bool) : Zad.J0 x0 x1 x29 = (if x29 = true then (some (0, false)) else (Zad.L0 x0 x1 (x0.length : Int) 0)) :=
 Lim.step (f := fun k => Zad.j0 (k + 1) x0 x1 x29) (Zad.J0_lim x0 x1 x29) (fun _ => rfl) (by
  simp only [Zad.j0]
  repeat' (first | (with_reducible first | exact Lim.const _ | exact Zad.L0_lim _ _ _ _ | refine Lim.ite ?_ ?_ | refine Lim.bind ?_ (fun _ => ?_))))
theorem Zad.L0_eq (x0 : List Int) (x1 : List Int) (x31 : Int) (x32 : Int) : Zad.L0 x0 x1 x31 x32 = (if x32 < x31 then (Zad.L1 x0 x1 x32 true 1 x31 x32) else (some (0, false))) :=
 Lim.step (f := fun k => Zad.l0 (k + 1) x0 x1 x31 x32) (Zad.L0_lim x0 x1 x31 x32) (fun _ => rfl) (by
  simp only [Zad.l0]
  repeat' (first | (with_reducible first | exact Lim.const _ | exact Zad.L1_lim _ _ _ _ _ _ _ | refine Lim.ite ?_ ?_ | refine Lim.bind ?_ (fun _ => ?_))))
theorem Zad.L1_eq (x0 : List Int) (x1 : List Int) (x8 : Int) (x9 : Bool) (x10 : Int) (x31 : Int) (x32 : Int) : Zad.L1 x0 x1 x8 x9 x10 x31 x32 = (if x10 < (x0.length : Int) then (if 0 ≤ x10 then (if x10 < (x1.length : Int) then (if 0 ≤ (rd x0 x10) then (if (rd x0 x10) < (x1.length : Int) then (if x9 = true then (if (mn (rd x1 x10) (rd x1 (rd x0 x10))) ≤ x8 then (Zad.L1 x0 x1 x8 (decide ((mx (rd x1 x10) (rd x1 (rd x0 x10))) > x8)) (wrap64 (x10 + 1)) x31 x32) else (Zad.L1 x0 x1 x8 false (wrap64 (x10 + 1)) x31 x32)) else (Zad.L1 x0 x1 x8 false (wrap64 (x10 + 1)) x31 x32)) else (none)) else (none)) else (none)) else (none)) else (if x9 = true then (some (x8, true)) else (Zad.L0 x0 x1 x31 (wrap64 (x32 + 1))))) :=
 Lim.step (f := fun k => Zad.l1 (k + 1) x0 x1 x8 x9 x10 x31 x32) (Zad.L1_lim x0 x1 x8 x9 x10 x31 x32) (fun _ => rfl) (by
  simp only [Zad.l1]
  repeat' (first | (with_reducible first | exact Lim.const _ | exact Zad.L0_lim _ _ _ _ | exact Zad.L1_lim _ _ _ _ _ _ _ | refine Lim.ite ?_ ?_ | refine Lim.bind ?_ (fun _ => ?_))))
theorem Zad.F_eq (l0 : List Int) (l1 : List Int) : Zad.F l0 l1 = ((Zat.F l0 l1).bind fun bt274 => (if bt274.2 = true then (if bt274.1 = true then (Zad.J0 l0 l1 (decide ((l0.length : Int) < 2))) else (Zad.J0 l0 l1 true)) else (Zad.J0 l0 l1 true))) :=
 Lim.unique (Zad.F_lim l0 l1) (by
  unfold Zad.f
  repeat' (first | (with_reducible first | exact Lim.const _ | exact Zat.F_lim _ _ | exact Zad.J0_lim _ _ _ | refine Lim.ite ?_ ?_ | refine Lim.bind ?_ (fun _ => ?_))))
mutual
def Zaf.j0 : Nat → List Int → List Int → Bool → Option (Int × Bool)
 | 0, _, _, _ => none
 | k + 1, x0, x1, x23 => if x23 = true then (some (0, false)) else (Zaf.l0 k x0 x1 0)
def Zaf.l0 : Nat → List Int → List Int → Int → Option (Int × Bool)
 | 0, _, _, _ => none
 | k + 1, x0, x1, x6 => if x6 < (x0.length : Int) then (Zaf.l1 k x0 x1 x6 true 1) else (some (0, false))
def Zaf.l1 : Nat → List Int → List Int → Int → Bool → Int → Option (Int × Bool)
 | 0, _, _, _, _, _ => none
 | k + 1, x0, x1, x6, x7, x8 => if x8 < (x0.length : Int) then (if x7 = true then (if 0 ≤ x8 then (if x8 < (x1.length : Int) then (if 0 ≤ (rd x0 x8) then (if (rd x0 x8) < (x1.length : Int) then (Zaf.l1 k x0 x1 x6 ((decide ((rd x1 x8) ≤ x6)) != (decide ((rd x1 (rd x0 x8)) ≤ x6))) (wrap64 (x8 + 1))) else (none)) else (none)) else (none)) else (none)) else (Zaf.l1 k x0 x1 x6 false (wrap64 (x8 + 1)))) else (if x7 = true then (some (x6, true)) else (Zaf.l0 k x0 x1 (wrap64 (x6 + 1))))
end
def Zaf.f (k : Nat) (l0 : List Int) (l1 : List Int) : Option (Int × Bool) := (Zaz.f k l0 l1).bind fun t279 => (if t279 = true then ((Zal.f k l0 l1).bind fun t280 => (if t280 = true then (Zaf.j0 k l0 l1 (decide ((l0.length : Int) < 2))) else (Zaf.j0 k l0 l1 true))) else (Zaf.j0 k l0 l1 true))
theorem Zaf.mono_l : ∀ k, (∀ y0 y1 y2, LeO (Zaf.j0 k y0 y1 y2) (Zaf.j0 (k + 1) y0 y1 y2)) ∧ (∀ y0 y1 y2, LeO (Zaf.l0 k y0 y1 y2) (Zaf.l0 (k + 1) y0 y1 y2)) ∧ (∀ y0 y1 y2 y3 y4, LeO (Zaf.l1 k y0 y1 y2 y3 y4) (Zaf.l1 (k + 1) y0 y1 y2 y3 y4))
 | 0 => ⟨fun _ _ _ r h => by simp [Zaf.j0] at h, fun _ _ _ r h => by simp [Zaf.l0] at h, fun _ _ _ _ _ r h => by simp [Zaf.l1] at h⟩
 | k + 1 => by
  obtain ⟨ih0, ih1, ih2⟩ := Zaf.mono_l k
  refine ⟨?_, ?_, ?_⟩
  ·intro y0 y1 y2
   unfold Zaf.j0
   repeat' (first | (with_reducible first | exact ih1 _ _ _ | exact LeO.refl _ | exact LeO.none _ | refine LeO.ite ?_ ?_ | refine LeO.bind ?_ (fun _ => ?_)) | exact ih1 _ _ _ | exact LeO.none _ | refine LeO.ite ?_ ?_ | refine LeO.bind ?_ (fun _ => ?_))
  ·intro y0 y1 y2
   unfold Zaf.l0
   repeat' (first | (with_reducible first | exact ih2 _ _ _ _ _ | exact LeO.refl _ | exact LeO.none _ | refine LeO.ite ?_ ?_ | refine LeO.bind ?_ (fun _ => ?_)) | exact ih2 _ _ _ _ _ | exact LeO.none _ | refine LeO.ite ?_ ?_ | refine LeO.bind ?_ (fun _ => ?_))
  ·intro y0 y1 y2 y3 y4
   unfold Zaf.l1
   repeat' (first | (with_reducible first | exact ih1 _ _ _ | exact ih2 _ _ _ _ _ | exact LeO.refl _ | exact LeO.none _ | refine LeO.ite ?_ ?_ | refine LeO.bind ?_ (fun _ => ?_)) | exact ih1 _ _ _ | exact ih2 _ _ _ _ _ | exact LeO.none _ | refine LeO.ite ?_ ?_ | refine LeO.bind ?_ (fun _ => ?_))
theorem Zaf.mono : ∀ a0 a1 k, LeO (Zaf.f k a0 a1) (Zaf.f (k + 1) a0 a1) := by
 intro a0 a1 k
 obtain ⟨ih0, ih1, ih2⟩ := Zaf.mono_l k
 unfold Zaf.f
 repeat' (first | (with_reducible first | exact ih0 _ _ _ | exact Zaz.mono _ _ _ | exact Zal.mono _ _ _ | exact LeO.refl _ | exact LeO.none _ | refine LeO.ite ?_ ?_ | refine LeO.bind ?_ (fun _ => ?_)) | exact ih0 _ _ _ | exact Zaz.mono _ _ _ | exact Zal.mono _ _ _ | exact LeO.none _ | refine LeO.ite ?_ ?_ | refine LeO.bind ?_ (fun _ => ?_))
theorem Zaf.calls (k : Nat) (A0 : Option Addr) (c0 : Nat) (l0 : List Int) (A1 : Option Addr) (c1 : Nat) (l1 : List Int) (r1 : Int) (r2 : Bool) (w : World) (hr0 : Kd.C (Kd.int .i64) w A0 l0.length l0) (hc0 : l0.length ≤ c0) (hr1 : Kd.C (Kd.int .i64) w A1 l1.length l1) (hc1 : l1.length ≤ c1) (h : Zaf.f k l0 l1 = some (r1, r2)) :
  Calls Try.prog 15 #[.slice A0 l0.length c0, .slice A1 l1.length c1] w fun e w' => e = .returned (.tuple #[.int .i64 r1, .bool r2]) ∧ Below w.heap.size w w' := by
 have HR0 := Aside0.mk hr0
 have HC0 := Aside0.mk hc0
 clear hr0 hc0
 have HR1 := Aside0.mk hr1
 have HC1 := Aside0.mk hc1
 clear hr1 hc1
 have HB := Aside0.mk (Below.refl w.heap.size w)
 have H := h
 unfold Zaf.f at H
 clear h
 have HC3 := Aside0.mk H
 clear H
 go_enter Try.func15, Try.ntmps15
 go_upto_region 1 with (fail)
 repeat (go_quiet (fail); go_upto_region 1 with (fail))
 go_cut [23] (fun v23 wc => ∃ (kq : Nat) (x23_2 : Bool), v23 = .bool x23_2 ∧ Aside0 (Zaf.j0 kq l0 l1 x23_2 = some (r1, r2)) ∧ Aside0 (kq ≤ k) ∧ Aside0 (Below w.heap.size w wc))
 case first =>
  have H := HC3.out
  clear HC3
  replace H := bs_ H
  obtain ⟨t279, A4, H⟩ := H
  (try dsimp only at H)
  by_cases c5 : t279 = true
  rotate_left
  ·replace c5 := Bool.eq_false_iff.mpr c5
   subst c5
   replace H := if_ H
   have H' := Aside0.mk H
   clear H
   go_wp2_with (first | (go_at_call 83; (with_reducible refine (Zaz.calls k _ _ l0 _ _ l1 false _ ?side1 ?side2 ?side3 ?side4 A4.out).mono ?_); (case side1 => repeat (first | exact (Kd.C_below HR0.out HB.out) | (with_reducible refine Kd.C_alloc ?_ _) | (with_reducible refine Kd.C_drewN ?_ _) | (with_reducible refine Kd.C_drew ?_))); (case side2 => exact HC0.out); (case side3 => repeat (first | exact (Kd.C_below HR1.out HB.out) | (with_reducible refine Kd.C_alloc ?_ _) | (with_reducible refine Kd.C_drewN ?_ _) | (with_reducible refine Kd.C_drew ?_))); (case side4 => exact HC1.out); rintro e w' ⟨rfl, ⟨nd, rfl⟩⟩; (try first | exact ⟨rfl, _, World.drewN_drewN _ _ _⟩ | exact ⟨rfl, _, Eq.trans (World.drewN_drewN _ _ _) (congrArg (World.drewN _) (Nat.add_assoc _ _ _))⟩)))
   repeat (go_quiet (first | (go_at_call 83; (with_reducible refine (Zaz.calls k _ _ l0 _ _ l1 false _ ?side1 ?side2 ?side3 ?side4 A4.out).mono ?_); (case side1 => repeat (first | exact (Kd.C_below HR0.out HB.out) | (with_reducible refine Kd.C_alloc ?_ _) | (with_reducible refine Kd.C_drewN ?_ _) | (with_reducible refine Kd.C_drew ?_))); (case side2 => exact HC0.out); (case side3 => repeat (first | exact (Kd.C_below HR1.out HB.out) | (with_reducible refine Kd.C_alloc ?_ _) | (with_reducible refine Kd.C_drewN ?_ _) | (with_reducible refine Kd.C_drew ?_))); (case side4 => exact HC1.out); rintro e w' ⟨rfl, ⟨nd, rfl⟩⟩; (try first | exact ⟨rfl, _, World.drewN_drewN _ _ _⟩ | exact ⟨rfl, _, Eq.trans (World.drewN_drewN _ _ _) (congrArg (World.drewN _) (Nat.add_assoc _ _ _))⟩))); try go_wp2_with (first | (go_at_call 83; (with_reducible refine (Zaz.calls k _ _ l0 _ _ l1 false _ ?side1 ?side2 ?side3 ?side4 A4.out).mono ?_); (case side1 => repeat (first | exact (Kd.C_below HR0.out HB.out) | (with_reducible refine Kd.C_alloc ?_ _) | (with_reducible refine Kd.C_drewN ?_ _) | (with_reducible refine Kd.C_drew ?_))); (case side2 => exact HC0.out); (case side3 => repeat (first | exact (Kd.C_below HR1.out HB.out) | (with_reducible refine Kd.C_alloc ?_ _) | (with_reducible refine Kd.C_drewN ?_ _) | (with_reducible refine Kd.C_drew ?_))); (case side4 => exact HC1.out); rintro e w' ⟨rfl, ⟨nd, rfl⟩⟩; (try first | exact ⟨rfl, _, World.drewN_drewN _ _ _⟩ | exact ⟨rfl, _, Eq.trans (World.drewN_drewN _ _ _) (congrArg (World.drewN _) (Nat.add_assoc _ _ _))⟩))))
   go_meet
   case rel => exact ⟨_, (true), eqd, H', ⟨leD⟩, ⟨atB HB⟩⟩
  subst c5
  replace H := it_ H
  replace H := bs_ H
  obtain ⟨t280, A6, H⟩ := H
  (try dsimp only at H)
  by_cases c7 : t280 = true
  rotate_left
  ·replace c7 := Bool.eq_false_iff.mpr c7
   subst c7
   replace H := if_ H
   have H' := Aside0.mk H
   clear H
   go_wp2_with (first | (go_at_call 83; (with_reducible refine (Zaz.calls k _ _ l0 _ _ l1 true _ ?side1 ?side2 ?side3 ?side4 A4.out).mono ?_); (case side1 => repeat (first | exact (Kd.C_below HR0.out HB.out) | (with_reducible refine Kd.C_alloc ?_ _) | (with_reducible refine Kd.C_drewN ?_ _) | (with_reducible refine Kd.C_drew ?_))); (case side2 => exact HC0.out); (case side3 => repeat (first | exact (Kd.C_below HR1.out HB.out) | (with_reducible refine Kd.C_alloc ?_ _) | (with_reducible refine Kd.C_drewN ?_ _) | (with_reducible refine Kd.C_drew ?_))); (case side4 => exact HC1.out); rintro e w' ⟨rfl, ⟨nd, rfl⟩⟩; (try first | exact ⟨rfl, _, World.drewN_drewN _ _ _⟩ | exact ⟨rfl, _, Eq.trans (World.drewN_drewN _ _ _) (congrArg (World.drewN _) (Nat.add_assoc _ _ _))⟩)) | (go_at_call 84; (with_reducible refine (Zal.calls k _ _ l0 _ _ l1 false _ ?side1 ?side2 ?side3 ?side4 A6.out).mono ?_); (case side1 => repeat (first | exact (Kd.C_below HR0.out (atB HB)) | (with_reducible refine Kd.C_alloc ?_ _) | (with_reducible refine Kd.C_drewN ?_ _) | (with_reducible refine Kd.C_drew ?_))); (case side2 => exact HC0.out); (case side3 => repeat (first | exact (Kd.C_below HR1.out (atB HB)) | (with_reducible refine Kd.C_alloc ?_ _) | (with_reducible refine Kd.C_drewN ?_ _) | (with_reducible refine Kd.C_drew ?_))); (case side4 => exact HC1.out); rintro e w9 ⟨rfl, hb⟩; replace HB := upB HB hb))
   repeat (go_quiet (first | (go_at_call 83; (with_reducible refine (Zaz.calls k _ _ l0 _ _ l1 true _ ?side1 ?side2 ?side3 ?side4 A4.out).mono ?_); (case side1 => repeat (first | exact (Kd.C_below HR0.out HB.out) | (with_reducible refine Kd.C_alloc ?_ _) | (with_reducible refine Kd.C_drewN ?_ _) | (with_reducible refine Kd.C_drew ?_))); (case side2 => exact HC0.out); (case side3 => repeat (first | exact (Kd.C_below HR1.out HB.out) | (with_reducible refine Kd.C_alloc ?_ _) | (with_reducible refine Kd.C_drewN ?_ _) | (with_reducible refine Kd.C_drew ?_))); (case side4 => exact HC1.out); rintro e w' ⟨rfl, ⟨nd, rfl⟩⟩; (try first | exact ⟨rfl, _, World.drewN_drewN _ _ _⟩ | exact ⟨rfl, _, Eq.trans (World.drewN_drewN _ _ _) (congrArg (World.drewN _) (Nat.add_assoc _ _ _))⟩)) | (go_at_call 84; (with_reducible refine (Zal.calls k _ _ l0 _ _ l1 false _ ?side1 ?side2 ?side3 ?side4 A6.out).mono ?_); (case side1 => repeat (first | exact (Kd.C_below HR0.out (atB HB)) | (with_reducible refine Kd.C_alloc ?_ _) | (with_reducible refine Kd.C_drewN ?_ _) | (with_reducible refine Kd.C_drew ?_))); (case side2 => exact HC0.out); (case side3 => repeat (first | exact (Kd.C_below HR1.out (atB HB)) | (with_reducible refine Kd.C_alloc ?_ _) | (with_reducible refine Kd.C_drewN ?_ _) | (with_reducible refine Kd.C_drew ?_))); (case side4 => exact HC1.out); rintro e w9 ⟨rfl, hb⟩; replace HB := upB HB hb)); try go_wp2_with (first | (go_at_call 83; (with_reducible refine (Zaz.calls k _ _ l0 _ _ l1 true _ ?side1 ?side2 ?side3 ?side4 A4.out).mono ?_); (case side1 => repeat (first | exact (Kd.C_below HR0.out HB.out) | (with_reducible refine Kd.C_alloc ?_ _) | (with_reducible refine Kd.C_drewN ?_ _) | (with_reducible refine Kd.C_drew ?_))); (case side2 => exact HC0.out); (case side3 => repeat (first | exact (Kd.C_below HR1.out HB.out) | (with_reducible refine Kd.C_alloc ?_ _) | (with_reducible refine Kd.C_drewN ?_ _) | (with_reducible refine Kd.C_drew ?_))); (case side4 => exact HC1.out); rintro e w' ⟨rfl, ⟨nd, rfl⟩⟩; (try first | exact ⟨rfl, _, World.drewN_drewN _ _ _⟩ | exact ⟨rfl, _, Eq.trans (World.drewN_drewN _ _ _) (congrArg (World.drewN _) (Nat.add_assoc _ _ _))⟩)) | (go_at_call 84; (with_reducible refine (Zal.calls k _ _ l0 _ _ l1 false _ ?side1 ?side2 ?side3 ?side4 A6.out).mono ?_); (case side1 => repeat (first | exact (Kd.C_below HR0.out (atB HB)) | (with_reducible refine Kd.C_alloc ?_ _) | (with_reducible refine Kd.C_drewN ?_ _) | (with_reducible refine Kd.C_drew ?_))); (case side2 => exact HC0.out); (case side3 => repeat (first | exact (Kd.C_below HR1.out (atB HB)) | (with_reducible refine Kd.C_alloc ?_ _) | (with_reducible refine Kd.C_drewN ?_ _) | (with_reducible refine Kd.C_drew ?_))); (case side4 => exact HC1.out); rintro e w9 ⟨rfl, hb⟩; replace HB := upB HB hb)))
   go_meet
   case rel => exact ⟨_, (true), eqd, H', ⟨leD⟩, ⟨atB HB⟩⟩
  subst c7
  replace H := it_ H
  have H' := Aside0.mk H
  clear H
  go_wp2_with (first | (go_at_call 83; (with_reducible refine (Zaz.calls k _ _ l0 _ _ l1 true _ ?side1 ?side2 ?side3 ?side4 A4.out).mono ?_); (case side1 => repeat (first | exact (Kd.C_below HR0.out HB.out) | (with_reducible refine Kd.C_alloc ?_ _) | (with_reducible refine Kd.C_drewN ?_ _) | (with_reducible refine Kd.C_drew ?_))); (case side2 => exact HC0.out); (case side3 => repeat (first | exact (Kd.C_below HR1.out HB.out) | (with_reducible refine Kd.C_alloc ?_ _) | (with_reducible refine Kd.C_drewN ?_ _) | (with_reducible refine Kd.C_drew ?_))); (case side4 => exact HC1.out); rintro e w' ⟨rfl, ⟨nd, rfl⟩⟩; (try first | exact ⟨rfl, _, World.drewN_drewN _ _ _⟩ | exact ⟨rfl, _, Eq.trans (World.drewN_drewN _ _ _) (congrArg (World.drewN _) (Nat.add_assoc _ _ _))⟩)) | (go_at_call 84; (with_reducible refine (Zal.calls k _ _ l0 _ _ l1 true _ ?side1 ?side2 ?side3 ?side4 A6.out).mono ?_); (case side1 => repeat (first | exact (Kd.C_below HR0.out (atB HB)) | (with_reducible refine Kd.C_alloc ?_ _) | (with_reducible refine Kd.C_drewN ?_ _) | (with_reducible refine Kd.C_drew ?_))); (case side2 => exact HC0.out); (case side3 => repeat (first | exact (Kd.C_below HR1.out (atB HB)) | (with_reducible refine Kd.C_alloc ?_ _) | (with_reducible refine Kd.C_drewN ?_ _) | (with_reducible refine Kd.C_drew ?_))); (case side4 => exact HC1.out); rintro e w8 ⟨rfl, hb⟩; replace HB := upB HB hb))
  repeat (go_quiet (first | (go_at_call 83; (with_reducible refine (Zaz.calls k _ _ l0 _ _ l1 true _ ?side1 ?side2 ?side3 ?side4 A4.out).mono ?_); (case side1 => repeat (first | exact (Kd.C_below HR0.out HB.out) | (with_reducible refine Kd.C_alloc ?_ _) | (with_reducible refine Kd.C_drewN ?_ _) | (with_reducible refine Kd.C_drew ?_))); (case side2 => exact HC0.out); (case side3 => repeat (first | exact (Kd.C_below HR1.out HB.out) | (with_reducible refine Kd.C_alloc ?_ _) | (with_reducible refine Kd.C_drewN ?_ _) | (with_reducible refine Kd.C_drew ?_))); (case side4 => exact HC1.out); rintro e w' ⟨rfl, ⟨nd, rfl⟩⟩; (try first | exact ⟨rfl, _, World.drewN_drewN _ _ _⟩ | exact ⟨rfl, _, Eq.trans (World.drewN_drewN _ _ _) (congrArg (World.drewN _) (Nat.add_assoc _ _ _))⟩)) | (go_at_call 84; (with_reducible refine (Zal.calls k _ _ l0 _ _ l1 true _ ?side1 ?side2 ?side3 ?side4 A6.out).mono ?_); (case side1 => repeat (first | exact (Kd.C_below HR0.out (atB HB)) | (with_reducible refine Kd.C_alloc ?_ _) | (with_reducible refine Kd.C_drewN ?_ _) | (with_reducible refine Kd.C_drew ?_))); (case side2 => exact HC0.out); (case side3 => repeat (first | exact (Kd.C_below HR1.out (atB HB)) | (with_reducible refine Kd.C_alloc ?_ _) | (with_reducible refine Kd.C_drewN ?_ _) | (with_reducible refine Kd.C_drew ?_))); (case side4 => exact HC1.out); rintro e w8 ⟨rfl, hb⟩; replace HB := upB HB hb)); try go_wp2_with (first | (go_at_call 83; (with_reducible refine (Zaz.calls k _ _ l0 _ _ l1 true _ ?side1 ?side2 ?side3 ?side4 A4.out).mono ?_); (case side1 => repeat (first | exact (Kd.C_below HR0.out HB.out) | (with_reducible refine Kd.C_alloc ?_ _) | (with_reducible refine Kd.C_drewN ?_ _) | (with_reducible refine Kd.C_drew ?_))); (case side2 => exact HC0.out); (case side3 => repeat (first | exact (Kd.C_below HR1.out HB.out) | (with_reducible refine Kd.C_alloc ?_ _) | (with_reducible refine Kd.C_drewN ?_ _) | (with_reducible refine Kd.C_drew ?_))); (case side4 => exact HC1.out); rintro e w' ⟨rfl, ⟨nd, rfl⟩⟩; (try first | exact ⟨rfl, _, World.drewN_drewN _ _ _⟩ | exact ⟨rfl, _, Eq.trans (World.drewN_drewN _ _ _) (congrArg (World.drewN _) (Nat.add_assoc _ _ _))⟩)) | (go_at_call 84; (with_reducible refine (Zal.calls k _ _ l0 _ _ l1 true _ ?side1 ?side2 ?side3 ?side4 A6.out).mono ?_); (case side1 => repeat (first | exact (Kd.C_below HR0.out (atB HB)) | (with_reducible refine Kd.C_alloc ?_ _) | (with_reducible refine Kd.C_drewN ?_ _) | (with_reducible refine Kd.C_drew ?_))); (case side2 => exact HC0.out); (case side3 => repeat (first | exact (Kd.C_below HR1.out (atB HB)) | (with_reducible refine Kd.C_alloc ?_ _) | (with_reducible refine Kd.C_drewN ?_ _) | (with_reducible refine Kd.C_drew ?_))); (case side4 => exact HC1.out); rintro e w8 ⟨rfl, hb⟩; replace HB := upB HB hb)))
  go_meet
  case rel => exact ⟨_, (decide ((l0.length : Int) < 2)), eqd, H', ⟨leD⟩, ⟨atB HB⟩⟩
 case rest =>
  clear HC3
  try clear c1
  obtain ⟨kq, x23_2, rfl, HA, HJ2, HB⟩ := hcut
  cases kq with
  | zero => exact absurd HA.out (by simp [Zaf.j0])
  | succ kj2 =>
   have H := HA.out
   clear HA
   simp only [Zaf.j0] at H
   by_cases c10 : x23_2 = true
   ·subst c10
    replace H := it_ H
    simp only [Option.some.injEq, Prod.mk.injEq] at H
    obtain ⟨rfl, rfl⟩ := H
    go_wp2
    repeat (go_quiet (fail); try go_wp2)
    go_ret2
    exact ⟨eqr, atB HB⟩
   replace c10 := Bool.eq_false_iff.mpr c10
   subst c10
   replace H := if_ H
   have H' := Aside0.mk H
   clear H
   go_wp2
   repeat (go_quiet (fail); try go_wp2)
   go_loopg [6] kj2 (fun kq v6 w' => ∃ (x6_2 : Int), v6 = .int .i64 x6_2 ∧ Aside0 (Zaf.l0 kq l0 l1 x6_2 = some (r1, r2)) ∧ Aside0 (kq ≤ kj2) ∧ Aside0 (Below w.heap.size w w'))
   case atStart => exact ⟨(0), eqd, H', ⟨Nat.le_refl _⟩, ⟨atB HB⟩⟩
   case round =>
    clear H'
    try clear c10
    obtain ⟨x6_2, rfl, HA, HK2, HB⟩ := hrel
    cases gk with
    | zero => exact absurd HA.out (by simp [Zaf.l0])
    | succ k2 =>
     have H := HA.out
     clear HA
     simp only [Zaf.l0] at H
     by_cases c11 : x6_2 < (l0.length : Int)
     rotate_left
     ·rw [if_neg c11] at H
      have c11b0 := decide_eq_false c11
      clear c11
      simp only [Option.some.injEq, Prod.mk.injEq] at H
      obtain ⟨rfl, rfl⟩ := H
      go_wp2
      repeat (go_quiet (fail); try go_wp2)
      go_ret2
      exact ⟨eqr, atB HB⟩
     rw [if_pos c11] at H
     have c11b0 := decide_eq_true c11
     clear c11
     have H' := Aside0.mk H
     clear H
     go_wp2
     repeat (go_quiet (fail); try go_wp2)
     go_loopg [7, 8] k2 (fun kq v7 v8 w' => ∃ (x7_3 : Bool) (x8_3 : Int), v7 = .bool x7_3 ∧ v8 = .int .i64 x8_3 ∧ Aside0 (Zaf.l1 kq l0 l1 x6_2 x7_3 x8_3 = some (r1, r2)) ∧ Aside0 (kq ≤ k2) ∧ Aside0 (Below w.heap.size w w'))
     case atStart => exact ⟨(true), (1), eqd, eqd, H', ⟨Nat.le_refl _⟩, ⟨atB HB⟩⟩
     case round =>
      clear H'
      try clear c11b0
      obtain ⟨x7_3, x8_3, rfl, rfl, HA, HK3, HB⟩ := hrel
      cases gk with
      | zero => exact absurd HA.out (by simp [Zaf.l1])
      | succ k3 =>
       have H := HA.out
       clear HA
       simp only [Zaf.l1] at H
       by_cases c12 : x8_3 < (l0.length : Int)
       ·rw [if_pos c12] at H
        have c12b0 := decide_eq_true c12
        clear c12
        by_cases c13 : x7_3 = true
        rotate_left
        ·replace c13 := Bool.eq_false_iff.mpr c13
         subst c13
         replace H := if_ H
         have H' := Aside0.mk H
         clear H
         go_wp2
         repeat (go_quiet (fail); try go_wp2)
         go_roundg k3
         case measure => have := HJ2.out; have := HK2.out; have := HK3.out; omega
         case rel => exact ⟨(false), (wrap64 (x8_3 + 1)), eqd, eqd, H', ⟨by have := HJ2.out; have := HK2.out; have := HK3.out; omega⟩, ⟨atB HB⟩⟩
        subst c13
        replace H := it_ H
        obtain ⟨c14b0, H⟩ := in_ H
        obtain ⟨c15b0, H⟩ := in_ H
        obtain ⟨c16b0, H⟩ := in_ H
        obtain ⟨c17b0, H⟩ := in_ H
        have H' := Aside0.mk H
        clear H
        have p281 : 0 ≤ (x8_3 : Int) := ofd
        have q281 : x8_3 < (l1.length : Int) := ofd
        obtain ⟨ad281, e281, hx281_0⟩ := Kd.at_int HR1.out x8_3 p281 q281
        cases e281
        (try replace hx281_0 := (HB.out.cell (World.block_lt_of_cell? w _ hx281_0)).trans hx281_0)
        replace p281 := eq_true p281
        replace q281 := eq_true q281
        have p282 : 0 ≤ (x8_3 : Int) := ofd
        have q282 : x8_3 < (l0.length : Int) := ofd
        obtain ⟨ad282, e282, hx282_0⟩ := Kd.at_int HR0.out x8_3 p282 q282
        cases e282
        (try replace hx282_0 := (HB.out.cell (World.block_lt_of_cell? w _ hx282_0)).trans hx282_0)
        replace p282 := eq_true p282
        replace q282 := eq_true q282
        have p283 : 0 ≤ ((rd l0 x8_3) : Int) := ofd
        have q283 : (rd l0 x8_3) < (l1.length : Int) := ofd
        obtain ⟨ad283, e283, hx283_0⟩ := Kd.at_int HR1.out (rd l0 x8_3) p283 q283
        obtain rfl : ad281 = ad283 := (by injection e283)
        (try replace hx283_0 := (HB.out.cell (World.block_lt_of_cell? w _ hx283_0)).trans hx283_0)
        replace p283 := eq_true p283
        replace q283 := eq_true q283
        go_wp2
        repeat (go_quiet (fail); try go_wp2)
        go_roundg k3
        case measure => have := HJ2.out; have := HK2.out; have := HK3.out; omega
        case rel => exact ⟨(((decide ((rd l1 x8_3) ≤ x6_2)) != (decide ((rd l1 (rd l0 x8_3)) ≤ x6_2)))), (wrap64 (x8_3 + 1)), eqd, eqd, H', ⟨by have := HJ2.out; have := HK2.out; have := HK3.out; omega⟩, ⟨atB HB⟩⟩
       ·rw [if_neg c12] at H
        have c12b0 := decide_eq_false c12
        clear c12
        by_cases c18 : x7_3 = true
        rotate_left
        ·replace c18 := Bool.eq_false_iff.mpr c18
         subst c18
         replace H := if_ H
         have H' := Aside0.mk H
         clear H
         go_wp2
         repeat (go_quiet (fail); try go_wp2)
         go_roundg k3
         case measure => have := HJ2.out; have := HK2.out; have := HK3.out; omega
         case rel => exact ⟨(wrap64 (x6_2 + 1)), eqd, H', ⟨by have := HJ2.out; have := HK2.out; have := HK3.out; omega⟩, ⟨atB HB⟩⟩
        subst c18
        replace H := it_ H
        simp only [Option.some.injEq, Prod.mk.injEq] at H
        obtain ⟨rfl, rfl⟩ := H
        go_wp2
        repeat (go_quiet (fail); try go_wp2)
        go_ret2
        exact ⟨eqr, atB HB⟩
noncomputable def Zaf.J0 (x0 : List Int) (x1 : List Int) (x23 : Bool) : Option (Int × Bool) := lim fun k => Zaf.j0 k x0 x1 x23
theorem Zaf.J0_lim (x0 : List Int) (x1 : List Int) (x23 : Bool) : Lim (fun k => Zaf.j0 k x0 x1 x23) (Zaf.J0 x0 x1 x23) := Lim.of fun k => (Zaf.mono_l k).1 x0 x1 x23
noncomputable def Zaf.L0 (x0 : List Int) (x1 : List Int) (x6 : Int) : Option (Int × Bool) := lim fun k => Zaf.l0 k x0 x1 x6
theorem Zaf.L0_lim (x0 : List Int) (x1 : List Int) (x6 : Int) : Lim (fun k => Zaf.l0 k x0 x1 x6) (Zaf.L0 x0 x1 x6) := Lim.of fun k => (Zaf.mono_l k).2.1 x0 x1 x6
noncomputable def Zaf.L1 (x0 : List Int) (x1 : List Int) (x6 : Int) (x7 : Bool) (x8 : Int) : Option (Int × Bool) := lim fun k => Zaf.l1 k x0 x1 x6 x7 x8
theorem Zaf.L1_lim (x0 : List Int) (x1 : List Int) (x6 : Int) (x7 : Bool) (x8 : Int) : Lim (fun k => Zaf.l1 k x0 x1 x6 x7 x8) (Zaf.L1 x0 x1 x6 x7 x8) := Lim.of fun k => (Zaf.mono_l k).2.2 x0 x1 x6 x7 x8
noncomputable def Zaf.F (l0 : List Int) (l1 : List Int) : Option (Int × Bool) := lim fun k => Zaf.f k l0 l1
theorem Zaf.F_lim (l0 : List Int) (l1 : List Int) : Lim (fun k => Zaf.f k l0 l1) (Zaf.F l0 l1) := Lim.of fun k => Zaf.mono l0 l1 k
theorem Zaf.J0_eq (x0 : List Int) (x1 : List Int) (x23 : Bool) : Zaf.J0 x0 x1 x23 = (if x23 = true then (some (0, false)) else (Zaf.L0 x0 x1 0)) :=
 Lim.step (f := fun k => Zaf.j0 (k + 1) x0 x1 x23) (Zaf.J0_lim x0 x1 x23) (fun _ => rfl) (by
  simp only [Zaf.j0]
  repeat' (first | (with_reducible first | exact Lim.const _ | exact Zaf.L0_lim _ _ _ | refine Lim.ite ?_ ?_ | refine Lim.bind ?_ (fun _ => ?_))))
theorem Zaf.L0_eq (x0 : List Int) (x1 : List Int) (x6 : Int) : Zaf.L0 x0 x1 x6 = (if x6 < (x0.length : Int) then (Zaf.L1 x0 x1 x6 true 1) else (some (0, false))) :=
 Lim.step (f := fun k => Zaf.l0 (k + 1) x0 x1 x6) (Zaf.L0_lim x0 x1 x6) (fun _ => rfl) (by
  simp only [Zaf.l0]
  repeat' (first | (with_reducible first | exact Lim.const _ | exact Zaf.L1_lim _ _ _ _ _ | refine Lim.ite ?_ ?_ | refine Lim.bind ?_ (fun _ => ?_))))
theorem Zaf.L1_eq (x0 : List Int) (x1 : List Int) (x6 : Int) (x7 : Bool) (x8 : Int) : Zaf.L1 x0 x1 x6 x7 x8 = (if x8 < (x0.length : Int) then (if x7 = true then (if 0 ≤ x8 then (if x8 < (x1.length : Int) then (if 0 ≤ (rd x0 x8) then (if (rd x0 x8) < (x1.length : Int) then (Zaf.L1 x0 x1 x6 ((decide ((rd x1 x8) ≤ x6)) != (decide ((rd x1 (rd x0 x8)) ≤ x6))) (wrap64 (x8 + 1))) else (none)) else (none)) else (none)) else (none)) else (Zaf.L1 x0 x1 x6 false (wrap64 (x8 + 1)))) else (if x7 = true then (some (x6, true)) else (Zaf.L0 x0 x1 (wrap64 (x6 + 1))))) :=
 Lim.step (f := fun k => Zaf.l1 (k + 1) x0 x1 x6 x7 x8) (Zaf.L1_lim x0 x1 x6 x7 x8) (fun _ => rfl) (by
  simp only [Zaf.l1]
  repeat' (first | (with_reducible first | exact Lim.const _ | exact Zaf.L0_lim _ _ _ | exact Zaf.L1_lim _ _ _ _ _ | refine Lim.ite ?_ ?_ | refine Lim.bind ?_ (fun _ => ?_))))
theorem Zaf.F_eq (l0 : List Int) (l1 : List Int) : Zaf.F l0 l1 = ((Zaz.F l0 l1).bind fun t279 => (if t279 = true then ((Zal.F l0 l1).bind fun t280 => (if t280 = true then (Zaf.J0 l0 l1 (decide ((l0.length : Int) < 2))) else (Zaf.J0 l0 l1 true))) else (Zaf.J0 l0 l1 true))) :=
 Lim.unique (Zaf.F_lim l0 l1) (by
  unfold Zaf.f
  repeat' (first | (with_reducible first | exact Lim.const _ | exact Zaf.J0_lim _ _ _ | exact Zaz.F_lim _ _ | exact Zal.F_lim _ _ | refine Lim.ite ?_ ?_ | refine Lim.bind ?_ (fun _ => ?_))))
def Zaq.l0 : Nat → List Int → List Int → Int → Int → Option (Bool)
 | 0, _, _, _, _ => none
 | k + 1, x0, x1, x12, x13 => if x13 < x12 then (if 0 ≤ x13 then (if x13 < (x0.length : Int) then (if x13 < (x1.length : Int) then (if (rd x0 x13) = (rd x1 x13) then (Zaq.l0 k x0 x1 x12 (wrap64 (x13 + 1))) else (some false)) else (none)) else (none)) else (none)) else (some true)
def Zaq.f (k : Nat) (l0 : List Int) (l1 : List Int) : Option (Bool) := if (l0.length : Int) = (l1.length : Int) then (Zaq.l0 k l0 l1 (l0.length : Int) 0) else (some false)
theorem Zaq.mono_l : ∀ k, (∀ y0 y1 y2 y3, LeO (Zaq.l0 k y0 y1 y2 y3) (Zaq.l0 (k + 1) y0 y1 y2 y3))
 | 0 => fun _ _ _ _ r h => by simp [Zaq.l0] at h
 | k + 1 => by
  have ih0 := Zaq.mono_l k
  ·intro y0 y1 y2 y3
   unfold Zaq.l0
   repeat' (first | (with_reducible first | exact ih0 _ _ _ _ | exact LeO.refl _ | exact LeO.none _ | refine LeO.ite ?_ ?_ | refine LeO.bind ?_ (fun _ => ?_)) | exact ih0 _ _ _ _ | exact LeO.none _ | refine LeO.ite ?_ ?_ | refine LeO.bind ?_ (fun _ => ?_))
theorem Zaq.mono : ∀ a0 a1 k, LeO (Zaq.f k a0 a1) (Zaq.f (k + 1) a0 a1) := by
 intro a0 a1 k
 have ih0 := Zaq.mono_l k
 unfold Zaq.f
 repeat' (first | (with_reducible first | exact ih0 _ _ _ _ | exact LeO.refl _ | exact LeO.none _ | refine LeO.ite ?_ ?_ | refine LeO.bind ?_ (fun _ => ?_)) | exact ih0 _ _ _ _ | exact LeO.none _ | refine LeO.ite ?_ ?_ | refine LeO.bind ?_ (fun _ => ?_))
theorem Zaq.calls (k : Nat) (A0 : Option Addr) (c0 : Nat) (l0 : List Int) (A1 : Option Addr) (c1 : Nat) (l1 : List Int) (r : Bool) (w : World) (hr0 : Kd.C (Kd.int .i64) w A0 l0.length l0) (hc0 : l0.length ≤ c0) (hr1 : Kd.C (Kd.int .i64) w A1 l1.length l1) (hc1 : l1.length ≤ c1) (h : Zaq.f k l0 l1 = some r) :
  Calls Try.prog 18 #[.slice A0 l0.length c0, .slice A1 l1.length c1] w fun e w' => e = .returned (.bool r) ∧ Drawn0 w w' := by
 have HR0 := Aside0.mk hr0
 have HC0 := Aside0.mk hc0
 clear hr0 hc0
 have HR1 := Aside0.mk hr1
 have HC1 := Aside0.mk hc1
 clear hr1 hc1
 have H := h
 unfold Zaq.f at H
 clear h
 by_cases c3 : (l0.length : Int) = (l1.length : Int)
 rotate_left
 ·rw [if_neg c3] at H
  have c3b0 : ((l0.length : Int) == (l1.length : Int)) = false := beq_eq_false_iff_ne.mpr c3
  have c3b1 : ((l0.length : Int) != (l1.length : Int)) = true := bne_iff_ne.mpr c3
  have c3b2 : (l0.length == l1.length) = false := by first | simpa using c3 | (simp at c3 ⊢; omega)
  obtain rfl := Option.some.inj H
  go_enter Try.func18, Try.ntmps18
  go_wp2
  repeat (go_quiet (fail); try go_wp2)
  go_ret
  exact ⟨by first | rfl | (simp; done) | (simp [*]; done), by repeat (first | exact Drawn0.refl _ | apply Drawn0.step)⟩
 rw [if_pos c3] at H
 have c3b0 : ((l0.length : Int) == (l1.length : Int)) = true := beq_iff_eq.mpr c3
 have c3b1 : ((l0.length : Int) != (l1.length : Int)) = false := bne_eq_false_iff_eq.mpr c3
 have c3b2 : (l0.length == l1.length) = true := by first | simpa using c3 | (simp at c3 ⊢; omega)
 clear c3
 have H' := Aside0.mk H
 clear H
 go_enter Try.func18, Try.ntmps18
 go_wp2
 repeat (go_quiet (fail); try go_wp2)
 go_loopg [13] k (fun kq v13 w' => ∃ (x13_1 : Int), v13 = .int .i64 x13_1 ∧ Aside0 (Zaq.l0 kq l0 l1 (l0.length : Int) x13_1 = some r) ∧ Aside0 (kq ≤ k) ∧ Drawn0 w w')
 case atStart => exact ⟨(0), eqd, H', ⟨Nat.le_refl _⟩, by repeat (first | exact Drawn0.refl _ | apply Drawn0.step)⟩
 case round =>
  clear H'
  try clear c1
  try clear c3b0
  try clear c3b1
  try clear c3b2
  obtain ⟨x13_1, rfl, HA, HK1, ⟨m1, rfl⟩⟩ := hrel
  cases gk with
  | zero => exact absurd HA.out (by simp [Zaq.l0])
  | succ k1 =>
   have H := HA.out
   clear HA
   simp only [Zaq.l0] at H
   by_cases c4 : x13_1 < (l0.length : Int)
   rotate_left
   ·rw [if_neg c4] at H
    have c4b0 := decide_eq_false c4
    clear c4
    obtain rfl := Option.some.inj H
    go_wp2
    repeat (go_quiet (fail); try go_wp2)
    go_ret
    exact ⟨by first | rfl | (simp; done) | (simp [*]; done), by repeat (first | exact Drawn0.refl _ | apply Drawn0.step)⟩
   rw [if_pos c4] at H
   have c4b0 := decide_eq_true c4
   clear c4
   obtain ⟨c5b0, H⟩ := in_ H
   obtain ⟨c6b0, H⟩ := in_ H
   obtain ⟨c7b0, H⟩ := in_ H
   by_cases c8 : (rd l0 x13_1) = (rd l1 x13_1)
   ·rw [if_pos c8] at H
    have c8b0 : ((rd l0 x13_1) == (rd l1 x13_1)) = true := beq_iff_eq.mpr c8
    have c8b1 : ((rd l0 x13_1) != (rd l1 x13_1)) = false := bne_eq_false_iff_eq.mpr c8
    clear c8
    have H' := Aside0.mk H
    clear H
    have p300 : 0 ≤ (x13_1 : Int) := ofd
    have q300 : x13_1 < (l0.length : Int) := ofd
    obtain ⟨ad300, e300, hx300_0⟩ := Kd.at_int HR0.out x13_1 p300 q300
    cases e300
    replace p300 := eq_true p300
    replace q300 := eq_true q300
    have p301 : 0 ≤ (x13_1 : Int) := ofd
    have q301 : x13_1 < (l1.length : Int) := ofd
    obtain ⟨ad301, e301, hx301_0⟩ := Kd.at_int HR1.out x13_1 p301 q301
    cases e301
    replace p301 := eq_true p301
    replace q301 := eq_true q301
    go_wp2
    repeat (go_quiet (fail); try go_wp2)
    go_roundg k1
    case measure => have := HK1.out; omega
    case rel => exact ⟨(wrap64 (x13_1 + 1)), eqd, H', ⟨by have := HK1.out; omega⟩, by repeat (first | exact Drawn0.refl _ | apply Drawn0.step)⟩
   ·rw [if_neg c8] at H
    have c8b0 : ((rd l0 x13_1) == (rd l1 x13_1)) = false := beq_eq_false_iff_ne.mpr c8
    have c8b1 : ((rd l0 x13_1) != (rd l1 x13_1)) = true := bne_iff_ne.mpr c8
    obtain rfl := Option.some.inj H
    have p300 : 0 ≤ (x13_1 : Int) := ofd
    have q300 : x13_1 < (l0.length : Int) := ofd
    obtain ⟨ad300, e300, hx300_0⟩ := Kd.at_int HR0.out x13_1 p300 q300
    cases e300
    replace p300 := eq_true p300
    replace q300 := eq_true q300
    have p301 : 0 ≤ (x13_1 : Int) := ofd
    have q301 : x13_1 < (l1.length : Int) := ofd
    obtain ⟨ad301, e301, hx301_0⟩ := Kd.at_int HR1.out x13_1 p301 q301
    cases e301
    replace p301 := eq_true p301
    replace q301 := eq_true q301
    go_wp2
    repeat (go_quiet (fail); try go_wp2)
    go_ret
    exact ⟨by first | rfl | (simp; done) | (simp [*]; done), by repeat (first | exact Drawn0.refl _ | apply Drawn0.step)⟩
noncomputable def Zaq.L0 (x0 : List Int) (x1 : List Int) (x12 : Int) (x13 : Int) : Option (Bool) := lim fun k => Zaq.l0 k x0 x1 x12 x13
theorem Zaq.L0_lim (x0 : List Int) (x1 : List Int) (x12 : Int) (x13 : Int) : Lim (fun k => Zaq.l0 k x0 x1 x12 x13) (Zaq.L0 x0 x1 x12 x13) := Lim.of fun k => (Zaq.mono_l k) x0 x1 x12 x13
noncomputable def Zaq.F (l0 : List Int) (l1 : List Int) : Option (Bool) := lim fun k => Zaq.f k l0 l1
theorem Zaq.F_lim (l0 : List Int) (l1 : List Int) : Lim (fun k => Zaq.f k l0 l1) (Zaq.F l0 l1) := Lim.of fun k => Zaq.mono l0 l1 k
theorem Zaq.L0_eq (x0 : List Int) (x1 : List Int) (x12 : Int) (x13 : Int) : Zaq.L0 x0 x1 x12 x13 = (if x13 < x12 then (if 0 ≤ x13 then (if x13 < (x0.length : Int) then (if x13 < (x1.length : Int) then (if (rd x0 x13) = (rd x1 x13) then (Zaq.L0 x0 x1 x12 (wrap64 (x13 + 1))) else (some false)) else (none)) else (none)) else (none)) else (some true)) :=
 Lim.step (f := fun k => Zaq.l0 (k + 1) x0 x1 x12 x13) (Zaq.L0_lim x0 x1 x12 x13) (fun _ => rfl) (by
  simp only [Zaq.l0]
  repeat' (first | (with_reducible first | exact Lim.const _ | exact Zaq.L0_lim _ _ _ _ | refine Lim.ite ?_ ?_ | refine Lim.bind ?_ (fun _ => ?_))))
theorem Zaq.F_eq (l0 : List Int) (l1 : List Int) : Zaq.F l0 l1 = (if (l0.length : Int) = (l1.length : Int) then (Zaq.L0 l0 l1 (l0.length : Int) 0) else (some false)) :=
 Lim.unique (Zaq.F_lim l0 l1) (by
  unfold Zaq.f
  repeat' (first | (with_reducible first | exact Lim.const _ | exact Zaq.L0_lim _ _ _ _ | refine Lim.ite ?_ ?_ | refine Lim.bind ?_ (fun _ => ?_))))
def Zaw.l0 : Nat → List (List Int) → List (List Int) → Int → Int → Option (Bool)
 | 0, _, _, _, _ => none
 | k + 1, x0, x1, x12, x13 => if x13 < x12 then (if 0 ≤ x13 then (if x13 < (x0.length : Int) then (if x13 < (x1.length : Int) then ((Zaq.f k (rd_L2 x0 x13) (rd_L2 x1 x13)).bind fun t304 => (if t304 = true then (Zaw.l0 k x0 x1 x12 (wrap64 (x13 + 1))) else (some false))) else (none)) else (none)) else (none)) else (some true)
def Zaw.f (k : Nat) (l0 : List (List Int)) (l1 : List (List Int)) : Option (Bool) := if (l0.length : Int) = (l1.length : Int) then (Zaw.l0 k l0 l1 (l0.length : Int) 0) else (some false)
theorem Zaw.mono_l : ∀ k, (∀ y0 y1 y2 y3, LeO (Zaw.l0 k y0 y1 y2 y3) (Zaw.l0 (k + 1) y0 y1 y2 y3))
 | 0 => fun _ _ _ _ r h => by simp [Zaw.l0] at h
 | k + 1 => by
  have ih0 := Zaw.mono_l k
  ·intro y0 y1 y2 y3
   unfold Zaw.l0
   repeat' (first | (with_reducible first | exact ih0 _ _ _ _ | exact Zaq.mono _ _ _ | exact LeO.refl _ | exact LeO.none _ | refine LeO.ite ?_ ?_ | refine LeO.bind ?_ (fun _ => ?_)) | exact ih0 _ _ _ _ | exact Zaq.mono _ _ _ | exact LeO.none _ | refine LeO.ite ?_ ?_ | refine LeO.bind ?_ (fun _ => ?_))
theorem Zaw.mono : ∀ a0 a1 k, LeO (Zaw.f k a0 a1) (Zaw.f (k + 1) a0 a1) := by
 intro a0 a1 k
 have ih0 := Zaw.mono_l k
 unfold Zaw.f
 repeat' (first | (with_reducible first | exact ih0 _ _ _ _ | exact LeO.refl _ | exact LeO.none _ | refine LeO.ite ?_ ?_ | refine LeO.bind ?_ (fun _ => ?_)) | exact ih0 _ _ _ _ | exact LeO.none _ | refine LeO.ite ?_ ?_ | refine LeO.bind ?_ (fun _ => ?_))
theorem Zaw.calls (k : Nat) (A0 : Option Addr) (c0 : Nat) (l0 : List (List Int)) (A1 : Option Addr) (c1 : Nat) (l1 : List (List Int)) (r : Bool) (w : World) (hr0 : Kd.C (Kd.slice 3 (Kd.int .i64)) w A0 l0.length l0) (hc0 : l0.length ≤ c0) (hr1 : Kd.C (Kd.slice 3 (Kd.int .i64)) w A1 l1.length l1) (hc1 : l1.length ≤ c1) (h : Zaw.f k l0 l1 = some r) :
  Calls Try.prog 19 #[.slice A0 l0.length c0, .slice A1 l1.length c1] w fun e w' => e = .returned (.bool r) ∧ Drawn0 w w' := by
 have HR0 := Aside0.mk hr0
 have HC0 := Aside0.mk hc0
 clear hr0 hc0
 have HR1 := Aside0.mk hr1
 have HC1 := Aside0.mk hc1
 clear hr1 hc1
 have H := h
 unfold Zaw.f at H
 clear h
 by_cases c3 : (l0.length : Int) = (l1.length : Int)
 rotate_left
 ·rw [if_neg c3] at H
  have c3b0 : ((l0.length : Int) == (l1.length : Int)) = false := beq_eq_false_iff_ne.mpr c3
  have c3b1 : ((l0.length : Int) != (l1.length : Int)) = true := bne_iff_ne.mpr c3
  have c3b2 : (l0.length == l1.length) = false := by first | simpa using c3 | (simp at c3 ⊢; omega)
  obtain rfl := Option.some.inj H
  go_enter Try.func19, Try.ntmps19
  go_wp2
  repeat (go_quiet (fail); try go_wp2)
  go_ret
  exact ⟨by first | rfl | (simp; done) | (simp [*]; done), by repeat (first | exact Drawn0.refl _ | apply Drawn0.step)⟩
 rw [if_pos c3] at H
 have c3b0 : ((l0.length : Int) == (l1.length : Int)) = true := beq_iff_eq.mpr c3
 have c3b1 : ((l0.length : Int) != (l1.length : Int)) = false := bne_eq_false_iff_eq.mpr c3
 have c3b2 : (l0.length == l1.length) = true := by first | simpa using c3 | (simp at c3 ⊢; omega)
 clear c3
 have H' := Aside0.mk H
 clear H
 go_enter Try.func19, Try.ntmps19
 go_wp2
 repeat (go_quiet (fail); try go_wp2)
 go_loopg [13] k (fun kq v13 w' => ∃ (x13_1 : Int), v13 = .int .i64 x13_1 ∧ Aside0 (Zaw.l0 kq l0 l1 (l0.length : Int) x13_1 = some r) ∧ Aside0 (kq ≤ k) ∧ Drawn0 w w')
 case atStart => exact ⟨(0), eqd, H', ⟨Nat.le_refl _⟩, by repeat (first | exact Drawn0.refl _ | apply Drawn0.step)⟩
 case round =>
  clear H'
  try clear c1
  try clear c3b0
  try clear c3b1
  try clear c3b2
  obtain ⟨x13_1, rfl, HA, HK1, ⟨m1, rfl⟩⟩ := hrel
  cases gk with
  | zero => exact absurd HA.out (by simp [Zaw.l0])
  | succ k1 =>
   have H := HA.out
   clear HA
   simp only [Zaw.l0] at H
   by_cases c4 : x13_1 < (l0.length : Int)
   rotate_left
   ·rw [if_neg c4] at H
    have c4b0 := decide_eq_false c4
    clear c4
    obtain rfl := Option.some.inj H
    go_wp2
    repeat (go_quiet (fail); try go_wp2)
    go_ret
    exact ⟨by first | rfl | (simp; done) | (simp [*]; done), by repeat (first | exact Drawn0.refl _ | apply Drawn0.step)⟩
   rw [if_pos c4] at H
   have c4b0 := decide_eq_true c4
   clear c4
   obtain ⟨c5b0, H⟩ := in_ H
   obtain ⟨c6b0, H⟩ := in_ H
   obtain ⟨c7b0, H⟩ := in_ H
   replace H := bs_ H
   obtain ⟨t304, A8, H⟩ := H
   (try dsimp only at H)
   by_cases c9 : t304 = true
   ·subst c9
    replace H := it_ H
    have H' := Aside0.mk H
    clear H
    have p302 : 0 ≤ (x13_1 : Int) := ofd
    have q302 : x13_1 < (l0.length : Int) := ofd
    obtain ⟨ad302, A302_0, c302_0, e302, hx302_0, hl302_0, hi302_0⟩ := at_L2 HR0.out x13_1 p302 q302
    cases e302
    have HR302_0 := Aside0.mk hi302_0
    have HC302_0 := Aside0.mk hl302_0
    clear hi302_0 hl302_0
    replace p302 := eq_true p302
    replace q302 := eq_true q302
    have p303 : 0 ≤ (x13_1 : Int) := ofd
    have q303 : x13_1 < (l1.length : Int) := ofd
    obtain ⟨ad303, A303_0, c303_0, e303, hx303_0, hl303_0, hi303_0⟩ := at_L2 HR1.out x13_1 p303 q303
    cases e303
    have HR303_0 := Aside0.mk hi303_0
    have HC303_0 := Aside0.mk hl303_0
    clear hi303_0 hl303_0
    replace p303 := eq_true p303
    replace q303 := eq_true q303
    go_wp2_with (first | (go_at_call 18; (with_reducible refine (Zaq.calls k1 _ _ (rd_L2 l0 x13_1) _ _ (rd_L2 l1 x13_1) true _ ?side1 ?side2 ?side3 ?side4 A8.out).mono ?_); (case side1 => repeat (first | exact HR302_0.out | (with_reducible refine Kd.C_alloc ?_ _) | (with_reducible refine Kd.C_drewN ?_ _) | (with_reducible refine Kd.C_drew ?_))); (case side2 => exact HC302_0.out); (case side3 => repeat (first | exact HR303_0.out | (with_reducible refine Kd.C_alloc ?_ _) | (with_reducible refine Kd.C_drewN ?_ _) | (with_reducible refine Kd.C_drew ?_))); (case side4 => exact HC303_0.out); rintro e w' ⟨rfl, ⟨nd, rfl⟩⟩; (try first | exact ⟨rfl, _, World.drewN_drewN _ _ _⟩ | exact ⟨rfl, _, Eq.trans (World.drewN_drewN _ _ _) (congrArg (World.drewN _) (Nat.add_assoc _ _ _))⟩)))
    repeat (go_quiet (first | (go_at_call 18; (with_reducible refine (Zaq.calls k1 _ _ (rd_L2 l0 x13_1) _ _ (rd_L2 l1 x13_1) true _ ?side1 ?side2 ?side3 ?side4 A8.out).mono ?_); (case side1 => repeat (first | exact HR302_0.out | (with_reducible refine Kd.C_alloc ?_ _) | (with_reducible refine Kd.C_drewN ?_ _) | (with_reducible refine Kd.C_drew ?_))); (case side2 => exact HC302_0.out); (case side3 => repeat (first | exact HR303_0.out | (with_reducible refine Kd.C_alloc ?_ _) | (with_reducible refine Kd.C_drewN ?_ _) | (with_reducible refine Kd.C_drew ?_))); (case side4 => exact HC303_0.out); rintro e w' ⟨rfl, ⟨nd, rfl⟩⟩; (try first | exact ⟨rfl, _, World.drewN_drewN _ _ _⟩ | exact ⟨rfl, _, Eq.trans (World.drewN_drewN _ _ _) (congrArg (World.drewN _) (Nat.add_assoc _ _ _))⟩))); try go_wp2_with (first | (go_at_call 18; (with_reducible refine (Zaq.calls k1 _ _ (rd_L2 l0 x13_1) _ _ (rd_L2 l1 x13_1) true _ ?side1 ?side2 ?side3 ?side4 A8.out).mono ?_); (case side1 => repeat (first | exact HR302_0.out | (with_reducible refine Kd.C_alloc ?_ _) | (with_reducible refine Kd.C_drewN ?_ _) | (with_reducible refine Kd.C_drew ?_))); (case side2 => exact HC302_0.out); (case side3 => repeat (first | exact HR303_0.out | (with_reducible refine Kd.C_alloc ?_ _) | (with_reducible refine Kd.C_drewN ?_ _) | (with_reducible refine Kd.C_drew ?_))); (case side4 => exact HC303_0.out); rintro e w' ⟨rfl, ⟨nd, rfl⟩⟩; (try first | exact ⟨rfl, _, World.drewN_drewN _ _ _⟩ | exact ⟨rfl, _, Eq.trans (World.drewN_drewN _ _ _) (congrArg (World.drewN _) (Nat.add_assoc _ _ _))⟩))))
    go_roundg k1
    case measure => have := HK1.out; omega
    case rel => exact ⟨(wrap64 (x13_1 + 1)), eqd, H', ⟨by have := HK1.out; omega⟩, by repeat (first | exact Drawn0.refl _ | apply Drawn0.step)⟩
   ·replace c9 := Bool.eq_false_iff.mpr c9
    subst c9
    replace H := if_ H
    obtain rfl := Option.some.inj H
    have p302 : 0 ≤ (x13_1 : Int) := ofd
    have q302 : x13_1 < (l0.length : Int) := ofd
    obtain ⟨ad302, A302_0, c302_0, e302, hx302_0, hl302_0, hi302_0⟩ := at_L2 HR0.out x13_1 p302 q302
    cases e302
    have HR302_0 := Aside0.mk hi302_0
    have HC302_0 := Aside0.mk hl302_0
    clear hi302_0 hl302_0
    replace p302 := eq_true p302
    replace q302 := eq_true q302
    have p303 : 0 ≤ (x13_1 : Int) := ofd
    have q303 : x13_1 < (l1.length : Int) := ofd
    obtain ⟨ad303, A303_0, c303_0, e303, hx303_0, hl303_0, hi303_0⟩ := at_L2 HR1.out x13_1 p303 q303
    cases e303
    have HR303_0 := Aside0.mk hi303_0
    have HC303_0 := Aside0.mk hl303_0
    clear hi303_0 hl303_0
    replace p303 := eq_true p303
    replace q303 := eq_true q303
    go_wp2_with (first | (go_at_call 18; (with_reducible refine (Zaq.calls k1 _ _ (rd_L2 l0 x13_1) _ _ (rd_L2 l1 x13_1) false _ ?side1 ?side2 ?side3 ?side4 A8.out).mono ?_); (case side1 => repeat (first | exact HR302_0.out | (with_reducible refine Kd.C_alloc ?_ _) | (with_reducible refine Kd.C_drewN ?_ _) | (with_reducible refine Kd.C_drew ?_))); (case side2 => exact HC302_0.out); (case side3 => repeat (first | exact HR303_0.out | (with_reducible refine Kd.C_alloc ?_ _) | (with_reducible refine Kd.C_drewN ?_ _) | (with_reducible refine Kd.C_drew ?_))); (case side4 => exact HC303_0.out); rintro e w' ⟨rfl, ⟨nd, rfl⟩⟩; (try first | exact ⟨rfl, _, World.drewN_drewN _ _ _⟩ | exact ⟨rfl, _, Eq.trans (World.drewN_drewN _ _ _) (congrArg (World.drewN _) (Nat.add_assoc _ _ _))⟩)))
    repeat (go_quiet (first | (go_at_call 18; (with_reducible refine (Zaq.calls k1 _ _ (rd_L2 l0 x13_1) _ _ (rd_L2 l1 x13_1) false _ ?side1 ?side2 ?side3 ?side4 A8.out).mono ?_); (case side1 => repeat (first | exact HR302_0.out | (with_reducible refine Kd.C_alloc ?_ _) | (with_reducible refine Kd.C_drewN ?_ _) | (with_reducible refine Kd.C_drew ?_))); (case side2 => exact HC302_0.out); (case side3 => repeat (first | exact HR303_0.out | (with_reducible refine Kd.C_alloc ?_ _) | (with_reducible refine Kd.C_drewN ?_ _) | (with_reducible refine Kd.C_drew ?_))); (case side4 => exact HC303_0.out); rintro e w' ⟨rfl, ⟨nd, rfl⟩⟩; (try first | exact ⟨rfl, _, World.drewN_drewN _ _ _⟩ | exact ⟨rfl, _, Eq.trans (World.drewN_drewN _ _ _) (congrArg (World.drewN _) (Nat.add_assoc _ _ _))⟩))); try go_wp2_with (first | (go_at_call 18; (with_reducible refine (Zaq.calls k1 _ _ (rd_L2 l0 x13_1) _ _ (rd_L2 l1 x13_1) false _ ?side1 ?side2 ?side3 ?side4 A8.out).mono ?_); (case side1 => repeat (first | exact HR302_0.out | (with_reducible refine Kd.C_alloc ?_ _) | (with_reducible refine Kd.C_drewN ?_ _) | (with_reducible refine Kd.C_drew ?_))); (case side2 => exact HC302_0.out); (case side3 => repeat (first | exact HR303_0.out | (with_reducible refine Kd.C_alloc ?_ _) | (with_reducible refine Kd.C_drewN ?_ _) | (with_reducible refine Kd.C_drew ?_))); (case side4 => exact HC303_0.out); rintro e w' ⟨rfl, ⟨nd, rfl⟩⟩; (try first | exact ⟨rfl, _, World.drewN_drewN _ _ _⟩ | exact ⟨rfl, _, Eq.trans (World.drewN_drewN _ _ _) (congrArg (World.drewN _) (Nat.add_assoc _ _ _))⟩))))
    go_ret
    exact ⟨by first | rfl | (simp; done) | (simp [*]; done), by repeat (first | exact Drawn0.refl _ | apply Drawn0.step)⟩
noncomputable def Zaw.L0 (x0 : List (List Int)) (x1 : List (List Int)) (x12 : Int) (x13 : Int) : Option (Bool) := lim fun k => Zaw.l0 k x0 x1 x12 x13
theorem Zaw.L0_lim (x0 : List (List Int)) (x1 : List (List Int)) (x12 : Int) (x13 : Int) : Lim (fun k => Zaw.l0 k x0 x1 x12 x13) (Zaw.L0 x0 x1 x12 x13) := Lim.of fun k => (Zaw.mono_l k) x0 x1 x12 x13
noncomputable def Zaw.F (l0 : List (List Int)) (l1 : List (List Int)) : Option (Bool) := lim fun k => Zaw.f k l0 l1
theorem Zaw.F_lim (l0 : List (List Int)) (l1 : List (List Int)) : Lim (fun k => Zaw.f k l0 l1) (Zaw.F l0 l1) := Lim.of fun k => Zaw.mono l0 l1 k
theorem Zaw.L0_eq (x0 : List (List Int)) (x1 : List (List Int)) (x12 : Int) (x13 : Int) : Zaw.L0 x0 x1 x12 x13 = (if x13 < x12 then (if 0 ≤ x13 then (if x13 < (x0.length : Int) then (if x13 < (x1.length : Int) then ((Zaq.F (rd_L2 x0 x13) (rd_L2 x1 x13)).bind fun t304 => (if t304 = true then (Zaw.L0 x0 x1 x12 (wrap64 (x13 + 1))) else (some false))) else (none)) else (none)) else (none)) else (some true)) :=
 Lim.step (f := fun k => Zaw.l0 (k + 1) x0 x1 x12 x13) (Zaw.L0_lim x0 x1 x12 x13) (fun _ => rfl) (by
  simp only [Zaw.l0]
  repeat' (first | (with_reducible first | exact Lim.const _ | exact Zaw.L0_lim _ _ _ _ | exact Zaq.F_lim _ _ | refine Lim.ite ?_ ?_ | refine Lim.bind ?_ (fun _ => ?_))))
theorem Zaw.F_eq (l0 : List (List Int)) (l1 : List (List Int)) : Zaw.F l0 l1 = (if (l0.length : Int) = (l1.length : Int) then (Zaw.L0 l0 l1 (l0.length : Int) 0) else (some false)) :=
 Lim.unique (Zaw.F_lim l0 l1) (by
  unfold Zaw.f
  repeat' (first | (with_reducible first | exact Lim.const _ | exact Zaw.L0_lim _ _ _ _ | refine Lim.ite ?_ ?_ | refine Lim.bind ?_ (fun _ => ?_))))
def Zbq.f (k : Nat) (l0 : List Int) : Option (Bool) := (Zah.f k l0).bind fun t305 => (some t305)
theorem Zbq.mono : ∀ a0 k, LeO (Zbq.f k a0) (Zbq.f (k + 1) a0) := by
 intro a0 k
 unfold Zbq.f
 repeat' (first | (with_reducible first | exact Zah.mono _ _ | exact LeO.refl _ | exact LeO.none _ | refine LeO.ite ?_ ?_ | refine LeO.bind ?_ (fun _ => ?_)) | exact Zah.mono _ _ | exact LeO.none _ | refine LeO.ite ?_ ?_ | refine LeO.bind ?_ (fun _ => ?_))
theorem Zbq.calls (k : Nat) (A0 : Option Addr) (c0 : Nat) (l0 : List Int) (r : Bool) (w : World) (hr0 : Kd.C (Kd.int .i64) w A0 l0.length l0) (hc0 : l0.length ≤ c0) (h : Zbq.f k l0 = some r) :
  Calls Try.prog 21 #[.slice A0 l0.length c0] w fun e w' => e = .returned (.bool r) ∧ Drawn0 w w' := by
 have HR0 := Aside0.mk hr0
 have HC0 := Aside0.mk hc0
 clear hr0 hc0
 have H := h
 unfold Zbq.f at H
 clear h
 replace H := bs_ H
 obtain ⟨t305, A2, H⟩ := H
 (try dsimp only at H)
 obtain rfl := Option.some.inj H
 go_enter Try.func21, Try.ntmps21
 go_wp2_with (first | ((with_reducible refine gate_callee (f := 88) rfl ?_); refine goesA (some 4) Try.func88 #[.slice A0 l0.length c0] ?_; (with_reducible refine (Zah.calls k _ _ l0 t305 _ ?side1 ?side2 A2.out).mono ?_); (case side1 => repeat (first | exact HR0.out | (with_reducible refine Kd.C_alloc ?_ _) | (with_reducible refine Kd.C_drewN ?_ _) | (with_reducible refine Kd.C_drew ?_))); (case side2 => exact HC0.out); rintro e w' ⟨rfl, ⟨nd, rfl⟩⟩; refine ⟨_, rfl, ?_⟩))
 go_ret
 exact ⟨by first | rfl | (simp; done) | (simp [*]; done), by repeat (first | exact Drawn0.refl _ | apply Drawn0.step)⟩
noncomputable def Zbq.F (l0 : List Int) : Option (Bool) := lim fun k => Zbq.f k l0
theorem Zbq.F_lim (l0 : List Int) : Lim (fun k => Zbq.f k l0) (Zbq.F l0) := Lim.of fun k => Zbq.mono l0 k
theorem Zbq.F_eq (l0 : List Int) : Zbq.F l0 = ((Zah.F l0).bind fun t305 => (some t305)) :=
 Lim.unique (Zbq.F_lim l0) (by
  unfold Zbq.f
  repeat' (first | (with_reducible first | exact Lim.const _ | exact Zah.F_lim _ | refine Lim.ite ?_ ?_ | refine Lim.bind ?_ (fun _ => ?_))))
def Zbb.l0 : Nat → Int → List Int → Int → Int → Option (Bool)
 | 0, _, _, _, _ => none
 | k + 1, x1, x7, x8, x9 => if x9 < x8 then (if 0 ≤ x9 then (if x9 < (x7.length : Int) then (if (rd x7 x9) = x1 then (some true) else (Zbb.l0 k x1 x7 x8 (wrap64 (x9 + 1)))) else (none)) else (none)) else (some false)
def Zbb.f (k : Nat) (l0 : List Int) (a1 : Int) : Option (Bool) := Zbb.l0 k a1 l0 (l0.length : Int) 0
theorem Zbb.mono_l : ∀ k, (∀ y0 y1 y2 y3, LeO (Zbb.l0 k y0 y1 y2 y3) (Zbb.l0 (k + 1) y0 y1 y2 y3))
 | 0 => fun _ _ _ _ r h => by simp [Zbb.l0] at h
 | k + 1 => by
  have ih0 := Zbb.mono_l k
  ·intro y0 y1 y2 y3
   unfold Zbb.l0
   repeat' (first | (with_reducible first | exact ih0 _ _ _ _ | exact LeO.refl _ | exact LeO.none _ | refine LeO.ite ?_ ?_ | refine LeO.bind ?_ (fun _ => ?_)) | exact ih0 _ _ _ _ | exact LeO.none _ | refine LeO.ite ?_ ?_ | refine LeO.bind ?_ (fun _ => ?_))
theorem Zbb.mono : ∀ a0 a1 k, LeO (Zbb.f k a0 a1) (Zbb.f (k + 1) a0 a1) := by
 intro a0 a1 k
 have ih0 := Zbb.mono_l k
 unfold Zbb.f
 repeat' (first | (with_reducible first | exact ih0 _ _ _ _ | exact LeO.refl _ | exact LeO.none _ | refine LeO.ite ?_ ?_ | refine LeO.bind ?_ (fun _ => ?_)) | exact ih0 _ _ _ _ | exact LeO.none _ | refine LeO.ite ?_ ?_ | refine LeO.bind ?_ (fun _ => ?_))
theorem Zbb.calls (k : Nat) (A0 : Option Addr) (c0 : Nat) (l0 : List Int) (a1 : Int) (r : Bool) (w : World) (hr0 : Kd.C (Kd.int .i64) w A0 l0.length l0) (hc0 : l0.length ≤ c0) (h : Zbb.f k l0 a1 = some r) :
  Calls Try.prog 23 #[.slice A0 l0.length c0, .int .i64 a1] w fun e w' => e = .returned (.bool r) ∧ Drawn0 w w' := by
 have HR0 := Aside0.mk hr0
 have HC0 := Aside0.mk hc0
 clear hr0 hc0
 have H := h
 unfold Zbb.f at H
 clear h
 have H' := Aside0.mk H
 clear H
 go_enter Try.func23, Try.ntmps23
 go_wp2
 go_loopg [9] k (fun kq v9 w' => ∃ (x9_1 : Int), v9 = .int .i64 x9_1 ∧ Aside0 (Zbb.l0 kq a1 l0 (l0.length : Int) x9_1 = some r) ∧ Aside0 (kq ≤ k) ∧ Drawn0 w w')
 case atStart => exact ⟨(0), eqd, H', ⟨Nat.le_refl _⟩, by repeat (first | exact Drawn0.refl _ | apply Drawn0.step)⟩
 case round =>
  clear H'
  obtain ⟨x9_1, rfl, HA, HK1, ⟨m1, rfl⟩⟩ := hrel
  cases gk with
  | zero => exact absurd HA.out (by simp [Zbb.l0])
  | succ k1 =>
   have H := HA.out
   clear HA
   simp only [Zbb.l0] at H
   by_cases c3 : x9_1 < (l0.length : Int)
   rotate_left
   ·rw [if_neg c3] at H
    have c3b0 := decide_eq_false c3
    clear c3
    obtain rfl := Option.some.inj H
    go_wp2
    go_ret
    exact ⟨by first | rfl | (simp; done) | (simp [*]; done), by repeat (first | exact Drawn0.refl _ | apply Drawn0.step)⟩
   rw [if_pos c3] at H
   have c3b0 := decide_eq_true c3
   clear c3
   obtain ⟨c4b0, H⟩ := in_ H
   obtain ⟨c5b0, H⟩ := in_ H
   by_cases c6 : (rd l0 x9_1) = a1
   ·rw [if_pos c6] at H
    have c6b0 : ((rd l0 x9_1) == a1) = true := beq_iff_eq.mpr c6
    have c6b1 : ((rd l0 x9_1) != a1) = false := bne_eq_false_iff_eq.mpr c6
    clear c6
    obtain rfl := Option.some.inj H
    have p312 : 0 ≤ (x9_1 : Int) := ofd
    have q312 : x9_1 < (l0.length : Int) := ofd
    obtain ⟨ad312, e312, hx312_0⟩ := Kd.at_int HR0.out x9_1 p312 q312
    cases e312
    replace p312 := eq_true p312
    replace q312 := eq_true q312
    go_wp2
    go_ret
    exact ⟨by first | rfl | (simp; done) | (simp [*]; done), by repeat (first | exact Drawn0.refl _ | apply Drawn0.step)⟩
   ·rw [if_neg c6] at H
    have c6b0 : ((rd l0 x9_1) == a1) = false := beq_eq_false_iff_ne.mpr c6
    have c6b1 : ((rd l0 x9_1) != a1) = true := bne_iff_ne.mpr c6
    have H' := Aside0.mk H
    clear H
    have p312 : 0 ≤ (x9_1 : Int) := ofd
    have q312 : x9_1 < (l0.length : Int) := ofd
    obtain ⟨ad312, e312, hx312_0⟩ := Kd.at_int HR0.out x9_1 p312 q312
    cases e312
    replace p312 := eq_true p312
    replace q312 := eq_true q312
    go_wp2
    go_roundg k1
    case measure => have := HK1.out; omega
    case rel => exact ⟨(wrap64 (x9_1 + 1)), eqd, H', ⟨by have := HK1.out; omega⟩, by repeat (first | exact Drawn0.refl _ | apply Drawn0.step)⟩
noncomputable def Zbb.L0 (x1 : Int) (x7 : List Int) (x8 : Int) (x9 : Int) : Option (Bool) := lim fun k => Zbb.l0 k x1 x7 x8 x9
theorem Zbb.L0_lim (x1 : Int) (x7 : List Int) (x8 : Int) (x9 : Int) : Lim (fun k => Zbb.l0 k x1 x7 x8 x9) (Zbb.L0 x1 x7 x8 x9) := Lim.of fun k => (Zbb.mono_l k) x1 x7 x8 x9
noncomputable def Zbb.F (l0 : List Int) (a1 : Int) : Option (Bool) := lim fun k => Zbb.f k l0 a1
theorem Zbb.F_lim (l0 : List Int) (a1 : Int) : Lim (fun k => Zbb.f k l0 a1) (Zbb.F l0 a1) := Lim.of fun k => Zbb.mono l0 a1 k
theorem Zbb.L0_eq (x1 : Int) (x7 : List Int) (x8 : Int) (x9 : Int) : Zbb.L0 x1 x7 x8 x9 = (if x9 < x8 then (if 0 ≤ x9 then (if x9 < (x7.length : Int) then (if (rd x7 x9) = x1 then (some true) else (Zbb.L0 x1 x7 x8 (wrap64 (x9 + 1)))) else (none)) else (none)) else (some false)) :=
 Lim.step (f := fun k => Zbb.l0 (k + 1) x1 x7 x8 x9) (Zbb.L0_lim x1 x7 x8 x9) (fun _ => rfl) (by
  simp only [Zbb.l0]
  repeat' (first | (with_reducible first | exact Lim.const _ | exact Zbb.L0_lim _ _ _ _ | refine Lim.ite ?_ ?_ | refine Lim.bind ?_ (fun _ => ?_))))
theorem Zbb.F_eq (l0 : List Int) (a1 : Int) : Zbb.F l0 a1 = (Zbb.L0 a1 l0 (l0.length : Int) 0) :=
 Lim.unique (Zbb.F_lim l0 a1) (by
  unfold Zbb.f
  repeat' (first | (with_reducible first | exact Lim.const _ | exact Zbb.L0_lim _ _ _ _ | refine Lim.ite ?_ ?_ | refine Lim.bind ?_ (fun _ => ?_))))
def Zca.f (a0 : Int) : Option (Int) := if a0 < 0 then (some (wrap64 (-a0))) else (some a0)
theorem Zca.calls (a0 : Int) (r : Int) (w : World) (h : Zca.f a0 = some r) :
  Calls Try.prog 24 #[.int .i64 a0] w fun e w' => e = .returned (.int .i64 r) ∧ Drawn0 w w' := by
 have H := h
 unfold Zca.f at H
 clear h
 by_cases c2 : a0 < 0
 rotate_left
 ·rw [if_neg c2] at H
  have c2b0 := decide_eq_false c2
  clear c2
  obtain rfl := Option.some.inj H
  go_enter Try.func24, Try.ntmps24
  go_wp2
  go_ret
  exact ⟨by first | rfl | (simp; done) | (simp [*]; done), by repeat (first | exact Drawn0.refl _ | apply Drawn0.step)⟩
 rw [if_pos c2] at H
 have c2b0 := decide_eq_true c2
 clear c2
 obtain rfl := Option.some.inj H
 go_enter Try.func24, Try.ntmps24
 go_wp2
 go_ret
 exact ⟨by first | rfl | (simp; done) | (simp [*]; done), by repeat (first | exact Drawn0.refl _ | apply Drawn0.step)⟩
def Zbg.f (k : Nat) (l0 : List Int) : Option (List Int × Bool) := (Zah.f k l0).bind fun t325 => (if t325 = true then ((Zbr.f l0).bind fun bt326 => (if bt326.1 = 0 then (some (([] : List Int), false)) else (some (bt326.2, true)))) else (some (([] : List Int), false)))
theorem Zbg.mono : ∀ a0 k, LeO (Zbg.f k a0) (Zbg.f (k + 1) a0) := by
 intro a0 k
 unfold Zbg.f
 repeat' (first | (with_reducible first | exact Zah.mono _ _ | exact LeO.refl _ | exact LeO.none _ | refine LeO.ite ?_ ?_ | refine LeO.bind ?_ (fun _ => ?_)) | exact Zah.mono _ _ | exact LeO.none _ | refine LeO.ite ?_ ?_ | refine LeO.bind ?_ (fun _ => ?_))
theorem Zbg.calls (k : Nat) (A0 : Option Addr) (c0 : Nat) (l0 : List Int) (r1 : List Int) (r2 : Bool) (w : World) (hr0 : Kd.C (Kd.int .i64) w A0 l0.length l0) (hc0 : l0.length ≤ c0) (h : Zbg.f k l0 = some (r1, r2)) :
  Calls Try.prog 27 #[.slice A0 l0.length c0] w fun e w' => ∃ v0_ : Value, e = .returned (.tuple #[v0_, .bool r2]) ∧ Kd.R (Kd.int .i64) 3 w' w.heap.size (fun _ => True) v0_ r1 ∧ Below w.heap.size w w' := by
 have HR0 := Aside0.mk hr0
 have HC0 := Aside0.mk hc0
 clear hr0 hc0
 have HB := Aside0.mk (Below.refl w.heap.size w)
 have H := h
 unfold Zbg.f at H
 clear h
 replace H := bs_ H
 obtain ⟨t325, A2, H⟩ := H
 (try dsimp only at H)
 by_cases c3 : t325 = true
 rotate_left
 ·replace c3 := Bool.eq_false_iff.mpr c3
  subst c3
  replace H := if_ H
  simp only [Option.some.injEq, Prod.mk.injEq] at H
  obtain ⟨rfl, rfl⟩ := H
  go_enter Try.func27, Try.ntmps27
  go_wp2_with (first | ((with_reducible refine gate_callee (f := 88) rfl ?_); refine goesA (some 7) Try.func88 #[.slice A0 l0.length c0] ?_; (with_reducible refine (Zah.calls k _ _ l0 false _ ?side1 ?side2 A2.out).mono ?_); (case side1 => repeat (first | exact HR0.out | (with_reducible refine Kd.C_alloc ?_ _) | (with_reducible refine Kd.C_drewN ?_ _) | (with_reducible refine Kd.C_drew ?_))); (case side2 => exact HC0.out); rintro e w' ⟨rfl, ⟨nd, rfl⟩⟩; refine ⟨_, rfl, ?_⟩))
  go_ret2
  exact ⟨_, eqr, by first | exact Kd.R_nil _ _ _ _ _ | exact Kd.N_nil _ _ _ _ _ | exact Kd.V_nil _ _ _ _ _ | exact Kd.Q_nil _ _ _ _ _ | exact Kd.S_nil _ _ _ _ _, atB HB⟩
 subst c3
 replace H := it_ H
 replace H := Option.bind_eq_some_iff.mp H
 obtain ⟨⟨t326, t327⟩, A40, H⟩ := H
 replace H : (if t326 = 0 then (some (([] : List Int), false)) else (some (t327, true))) = some (r1, r2) := H
 have A4 := Aside0.mk A40
 clear A40
 by_cases c5 : t326 = 0
 rotate_left
 ·rw [if_neg c5] at H
  have c5b0 : (t326 == 0) = false := beq_eq_false_iff_ne.mpr c5
  have c5b1 : (t326 != 0) = true := bne_iff_ne.mpr c5
  simp only [Option.some.injEq, Prod.mk.injEq] at H
  obtain ⟨rfl, rfl⟩ := H
  go_enter Try.func27, Try.ntmps27
  go_wp2_with (first | ((with_reducible refine gate_callee (f := 88) rfl ?_); refine goesA (some 7) Try.func88 #[.slice A0 l0.length c0] ?_; (with_reducible refine (Zah.calls k _ _ l0 true _ ?side1 ?side2 A2.out).mono ?_); (case side1 => repeat (first | exact HR0.out | (with_reducible refine Kd.C_alloc ?_ _) | (with_reducible refine Kd.C_drewN ?_ _) | (with_reducible refine Kd.C_drew ?_))); (case side2 => exact HC0.out); rintro e w' ⟨rfl, ⟨nd, rfl⟩⟩; refine ⟨_, rfl, ?_⟩) | ((with_reducible refine gate_callee (f := 95) rfl ?_); refine goesA (some 11) Try.func95 #[.slice A0 l0.length c0] ?_; (with_reducible refine (Zbr.calls _ _ l0 t326 t327 _ ?side1 ?side2 A4.out).mono ?_); (case side1 => repeat (first | exact HR0.out | (with_reducible refine Kd.C_alloc ?_ _) | (with_reducible refine Kd.C_drewN ?_ _) | (with_reducible refine Kd.C_drew ?_))); (case side2 => exact HC0.out); rintro e w7 ⟨v328, rfl, ho0, hb⟩; refine ⟨_, rfl, ?_⟩; have HO329 := lowR ho0 HB; replace HB := upB HB hb))
  go_ret2
  exact ⟨_, eqr, atR HO329, atB HB⟩
 rw [if_pos c5] at H
 have c5b0 : (t326 == 0) = true := beq_iff_eq.mpr c5
 have c5b1 : (t326 != 0) = false := bne_eq_false_iff_eq.mpr c5
 clear c5
 simp only [Option.some.injEq, Prod.mk.injEq] at H
 obtain ⟨rfl, rfl⟩ := H
 go_enter Try.func27, Try.ntmps27
 go_wp2_with (first | ((with_reducible refine gate_callee (f := 88) rfl ?_); refine goesA (some 7) Try.func88 #[.slice A0 l0.length c0] ?_; (with_reducible refine (Zah.calls k _ _ l0 true _ ?side1 ?side2 A2.out).mono ?_); (case side1 => repeat (first | exact HR0.out | (with_reducible refine Kd.C_alloc ?_ _) | (with_reducible refine Kd.C_drewN ?_ _) | (with_reducible refine Kd.C_drew ?_))); (case side2 => exact HC0.out); rintro e w' ⟨rfl, ⟨nd, rfl⟩⟩; refine ⟨_, rfl, ?_⟩) | ((with_reducible refine gate_callee (f := 95) rfl ?_); refine goesA (some 11) Try.func95 #[.slice A0 l0.length c0] ?_; (with_reducible refine (Zbr.calls _ _ l0 t326 t327 _ ?side1 ?side2 A4.out).mono ?_); (case side1 => repeat (first | exact HR0.out | (with_reducible refine Kd.C_alloc ?_ _) | (with_reducible refine Kd.C_drewN ?_ _) | (with_reducible refine Kd.C_drew ?_))); (case side2 => exact HC0.out); rintro e w6 ⟨v328, rfl, ho0, hb⟩; refine ⟨_, rfl, ?_⟩; have HO329 := lowR ho0 HB; replace HB := upB HB hb))
 go_ret2
 exact ⟨_, eqr, by first | exact Kd.R_nil _ _ _ _ _ | exact Kd.N_nil _ _ _ _ _ | exact Kd.V_nil _ _ _ _ _ | exact Kd.Q_nil _ _ _ _ _ | exact Kd.S_nil _ _ _ _ _, atB HB⟩
noncomputable def Zbg.F (l0 : List Int) : Option (List Int × Bool) := lim fun k => Zbg.f k l0
theorem Zbg.F_lim (l0 : List Int) : Lim (fun k => Zbg.f k l0) (Zbg.F l0) := Lim.of fun k => Zbg.mono l0 k
theorem Zbg.F_eq (l0 : List Int) : Zbg.F l0 = ((Zah.F l0).bind fun t325 => (if t325 = true then ((Zbr.f l0).bind fun bt326 => (if bt326.1 = 0 then (some (([] : List Int), false)) else (some (bt326.2, true)))) else (some (([] : List Int), false)))) :=
 Lim.unique (Zbg.F_lim l0) (by
  unfold Zbg.f
  repeat' (first | (with_reducible first | exact Lim.const _ | exact Zah.F_lim _ | refine Lim.ite ?_ ?_ | refine Lim.bind ?_ (fun _ => ?_))))
def Zbf.f (k : Nat) (l0 : List Int) : Option (Int × Bool) := (Zah.f k l0).bind fun t330 => (if t330 = true then ((Zbr.f l0).bind fun bt331 => (some (bt331.1, true))) else (some (0, false)))
theorem Zbf.mono : ∀ a0 k, LeO (Zbf.f k a0) (Zbf.f (k + 1) a0) := by
 intro a0 k
 unfold Zbf.f
 repeat' (first | (with_reducible first | exact Zah.mono _ _ | exact LeO.refl _ | exact LeO.none _ | refine LeO.ite ?_ ?_ | refine LeO.bind ?_ (fun _ => ?_)) | exact Zah.mono _ _ | exact LeO.none _ | refine LeO.ite ?_ ?_ | refine LeO.bind ?_ (fun _ => ?_))
theorem Zbf.calls (k : Nat) (A0 : Option Addr) (c0 : Nat) (l0 : List Int) (r1 : Int) (r2 : Bool) (w : World) (hr0 : Kd.C (Kd.int .i64) w A0 l0.length l0) (hc0 : l0.length ≤ c0) (h : Zbf.f k l0 = some (r1, r2)) :
  Calls Try.prog 29 #[.slice A0 l0.length c0] w fun e w' => e = .returned (.tuple #[.int .i64 r1, .bool r2]) ∧ Below w.heap.size w w' := by
 have HR0 := Aside0.mk hr0
 have HC0 := Aside0.mk hc0
 clear hr0 hc0
 have HB := Aside0.mk (Below.refl w.heap.size w)
 have H := h
 unfold Zbf.f at H
 clear h
 replace H := bs_ H
 obtain ⟨t330, A2, H⟩ := H
 (try dsimp only at H)
 by_cases c3 : t330 = true
 rotate_left
 ·replace c3 := Bool.eq_false_iff.mpr c3
  subst c3
  replace H := if_ H
  simp only [Option.some.injEq, Prod.mk.injEq] at H
  obtain ⟨rfl, rfl⟩ := H
  go_enter Try.func29, Try.ntmps29
  go_wp2_with (first | ((with_reducible refine gate_callee (f := 88) rfl ?_); refine goesA (some 7) Try.func88 #[.slice A0 l0.length c0] ?_; (with_reducible refine (Zah.calls k _ _ l0 false _ ?side1 ?side2 A2.out).mono ?_); (case side1 => repeat (first | exact HR0.out | (with_reducible refine Kd.C_alloc ?_ _) | (with_reducible refine Kd.C_drewN ?_ _) | (with_reducible refine Kd.C_drew ?_))); (case side2 => exact HC0.out); rintro e w' ⟨rfl, ⟨nd, rfl⟩⟩; refine ⟨_, rfl, ?_⟩))
  go_ret2
  exact ⟨eqr, atB HB⟩
 subst c3
 replace H := it_ H
 replace H := Option.bind_eq_some_iff.mp H
 obtain ⟨⟨t331, t332⟩, A40, H⟩ := H
 replace H : (some (t331, true)) = some (r1, r2) := H
 have A4 := Aside0.mk A40
 clear A40
 simp only [Option.some.injEq, Prod.mk.injEq] at H
 obtain ⟨rfl, rfl⟩ := H
 go_enter Try.func29, Try.ntmps29
 go_wp2_with (first | ((with_reducible refine gate_callee (f := 88) rfl ?_); refine goesA (some 7) Try.func88 #[.slice A0 l0.length c0] ?_; (with_reducible refine (Zah.calls k _ _ l0 true _ ?side1 ?side2 A2.out).mono ?_); (case side1 => repeat (first | exact HR0.out | (with_reducible refine Kd.C_alloc ?_ _) | (with_reducible refine Kd.C_drewN ?_ _) | (with_reducible refine Kd.C_drew ?_))); (case side2 => exact HC0.out); rintro e w' ⟨rfl, ⟨nd, rfl⟩⟩; refine ⟨_, rfl, ?_⟩) | ((with_reducible refine gate_callee (f := 95) rfl ?_); refine goesA (some 11) Try.func95 #[.slice A0 l0.length c0] ?_; (with_reducible refine (Zbr.calls _ _ l0 t331 t332 _ ?side1 ?side2 A4.out).mono ?_); (case side1 => repeat (first | exact HR0.out | (with_reducible refine Kd.C_alloc ?_ _) | (with_reducible refine Kd.C_drewN ?_ _) | (with_reducible refine Kd.C_drew ?_))); (case side2 => exact HC0.out); rintro e w5 ⟨v333, rfl, ho0, hb⟩; refine ⟨_, rfl, ?_⟩; have HO334 := lowR ho0 HB; replace HB := upB HB hb))
 go_ret2
 exact ⟨eqr, atB HB⟩
noncomputable def Zbf.F (l0 : List Int) : Option (Int × Bool) := lim fun k => Zbf.f k l0
theorem Zbf.F_lim (l0 : List Int) : Lim (fun k => Zbf.f k l0) (Zbf.F l0) := Lim.of fun k => Zbf.mono l0 k
theorem Zbf.F_eq (l0 : List Int) : Zbf.F l0 = ((Zah.F l0).bind fun t330 => (if t330 = true then ((Zbr.f l0).bind fun bt331 => (some (bt331.1, true))) else (some (0, false)))) :=
 Lim.unique (Zbf.F_lim l0) (by
  unfold Zbf.f
  repeat' (first | (with_reducible first | exact Lim.const _ | exact Zah.F_lim _ | refine Lim.ite ?_ ?_ | refine Lim.bind ?_ (fun _ => ?_))))
mutual
def Zas.l0 : Nat → List Int → List Int → Int → Option (Bool)
 | 0, _, _, _ => none
 | k + 1, x0, x1, x5 => if x5 < (x0.length : Int) then (Zas.j1 k x0 x1 x5 (decide (x5 < (x1.length : Int)))) else (Zas.j1 k x0 x1 x5 false)
def Zas.j1 : Nat → List Int → List Int → Int → Bool → Option (Bool)
 | 0, _, _, _, _ => none
 | k + 1, x0, x1, x5, x15 => if x15 = true then (if 0 ≤ x5 then (if x5 < (x0.length : Int) then (if x5 < (x1.length : Int) then (if (rd x0 x5) = (rd x1 x5) then (Zas.l0 k x0 x1 (wrap64 (x5 + 1))) else (some (decide ((rd x0 x5) < (rd x1 x5))))) else (none)) else (none)) else (none)) else (some (decide ((x0.length : Int) < (x1.length : Int))))
end
def Zas.f (k : Nat) (l0 : List Int) (l1 : List Int) : Option (Bool) := Zas.l0 k l0 l1 0
theorem Zas.mono_l : ∀ k, (∀ y0 y1 y2, LeO (Zas.l0 k y0 y1 y2) (Zas.l0 (k + 1) y0 y1 y2)) ∧ (∀ y0 y1 y2 y3, LeO (Zas.j1 k y0 y1 y2 y3) (Zas.j1 (k + 1) y0 y1 y2 y3))
 | 0 => ⟨fun _ _ _ r h => by simp [Zas.l0] at h, fun _ _ _ _ r h => by simp [Zas.j1] at h⟩
 | k + 1 => by
  obtain ⟨ih0, ih1⟩ := Zas.mono_l k
  refine ⟨?_, ?_⟩
  ·intro y0 y1 y2
   unfold Zas.l0
   repeat' (first | (with_reducible first | exact ih1 _ _ _ _ | exact LeO.refl _ | exact LeO.none _ | refine LeO.ite ?_ ?_ | refine LeO.bind ?_ (fun _ => ?_)) | exact ih1 _ _ _ _ | exact LeO.none _ | refine LeO.ite ?_ ?_ | refine LeO.bind ?_ (fun _ => ?_))
  ·intro y0 y1 y2 y3
   unfold Zas.j1
   repeat' (first | (with_reducible first | exact ih0 _ _ _ | exact LeO.refl _ | exact LeO.none _ | refine LeO.ite ?_ ?_ | refine LeO.bind ?_ (fun _ => ?_)) | exact ih0 _ _ _ | exact LeO.none _ | refine LeO.ite ?_ ?_ | refine LeO.bind ?_ (fun _ => ?_))
theorem Zas.mono : ∀ a0 a1 k, LeO (Zas.f k a0 a1) (Zas.f (k + 1) a0 a1) := by
 intro a0 a1 k
 obtain ⟨ih0, ih1⟩ := Zas.mono_l k
 unfold Zas.f
 repeat' (first | (with_reducible first | exact ih0 _ _ _ | exact LeO.refl _ | exact LeO.none _ | refine LeO.ite ?_ ?_ | refine LeO.bind ?_ (fun _ => ?_)) | exact ih0 _ _ _ | exact LeO.none _ | refine LeO.ite ?_ ?_ | refine LeO.bind ?_ (fun _ => ?_))
theorem Zas.calls (k : Nat) (A0 : Option Addr) (c0 : Nat) (l0 : List Int) (A1 : Option Addr) (c1 : Nat) (l1 : List Int) (r : Bool) (w : World) (hr0 : Kd.C (Kd.int .i64) w A0 l0.length l0) (hc0 : l0.length ≤ c0) (hr1 : Kd.C (Kd.int .i64) w A1 l1.length l1) (hc1 : l1.length ≤ c1) (h : Zas.f k l0 l1 = some r) :
  Calls Try.prog 30 #[.slice A0 l0.length c0, .slice A1 l1.length c1] w fun e w' => e = .returned (.bool r) ∧ Drawn0 w w' := by
 have HR0 := Aside0.mk hr0
 have HC0 := Aside0.mk hc0
 clear hr0 hc0
 have HR1 := Aside0.mk hr1
 have HC1 := Aside0.mk hc1
 clear hr1 hc1
 have H := h
 unfold Zas.f at H
 clear h
 have H' := Aside0.mk H
 clear H
 go_enter Try.func30, Try.ntmps30
 go_wp2
 repeat (go_quiet (fail); try go_wp2)
 go_loopg [5] k (fun kq v5 w' => ∃ (x5_1 : Int), v5 = .int .i64 x5_1 ∧ Aside0 (Zas.l0 kq l0 l1 x5_1 = some r) ∧ Aside0 (kq ≤ k) ∧ Drawn0 w w')
 case atStart => exact ⟨(0), eqd, H', ⟨Nat.le_refl _⟩, by repeat (first | exact Drawn0.refl _ | apply Drawn0.step)⟩
 case round =>
  clear H'
  try clear c1
  obtain ⟨x5_1, rfl, HA, HK1, ⟨m1, rfl⟩⟩ := hrel
  cases gk with
  | zero => exact absurd HA.out (by simp [Zas.l0])
  | succ k1 =>
   have H := HA.out
   clear HA
   simp only [Zas.l0] at H
   have HC3 := Aside0.mk H
   clear H
   go_upto_region 2 with (fail)
   repeat (go_quiet (fail); go_upto_region 2 with (fail))
   go_cut [15] (fun v15 wc => ∃ (kq : Nat) (x15_2 : Bool), v15 = .bool x15_2 ∧ Aside0 (Zas.j1 kq l0 l1 x5_1 x15_2 = some r) ∧ Aside0 (kq ≤ k1) ∧ Drawn0 w wc)
   case first =>
    have H := HC3.out
    clear HC3
    by_cases c4 : x5_1 < (l0.length : Int)
    rotate_left
    ·rw [if_neg c4] at H
     have c4b0 := decide_eq_false c4
     clear c4
     (first | rw [c4b0] | (simp only [i64_w, i32_w]; rw [c4b0]) | skip)
     have H' := Aside0.mk H
     clear H
     go_wp2
     repeat (go_quiet (fail); try go_wp2)
     go_meet
     case rel => exact ⟨_, (false), eqd, H', ⟨by have := HK1.out; first | omega | exact Nat.le_refl _⟩, by repeat (first | exact Drawn0.refl _ | apply Drawn0.step)⟩
    rw [if_pos c4] at H
    have c4b0 := decide_eq_true c4
    clear c4
    (first | rw [c4b0] | (simp only [i64_w, i32_w]; rw [c4b0]) | skip)
    have H' := Aside0.mk H
    clear H
    go_wp2
    repeat (go_quiet (fail); try go_wp2)
    go_meet
    case rel => exact ⟨_, (decide (x5_1 < (l1.length : Int))), eqd, H', ⟨by have := HK1.out; first | omega | exact Nat.le_refl _⟩, by repeat (first | exact Drawn0.refl _ | apply Drawn0.step)⟩
   case rest =>
    clear HC3
    obtain ⟨kq, x15_2, rfl, HA, HJ2, ⟨mc2, rfl⟩⟩ := hcut
    cases kq with
    | zero => exact absurd HA.out (by simp [Zas.j1])
    | succ kj2 =>
     have H := HA.out
     clear HA
     simp only [Zas.j1] at H
     by_cases c5 : x15_2 = true
     rotate_left
     ·replace c5 := Bool.eq_false_iff.mpr c5
      subst c5
      replace H := if_ H
      obtain rfl := Option.some.inj H
      go_wp2
      repeat (go_quiet (fail); try go_wp2)
      go_ret
      exact ⟨by first | rfl | (simp; done) | (simp [*]; done), by repeat (first | exact Drawn0.refl _ | apply Drawn0.step)⟩
     subst c5
     replace H := it_ H
     obtain ⟨c6b0, H⟩ := in_ H
     obtain ⟨c7b0, H⟩ := in_ H
     obtain ⟨c8b0, H⟩ := in_ H
     by_cases c9 : (rd l0 x5_1) = (rd l1 x5_1)
     ·rw [if_pos c9] at H
      have c9b0 : ((rd l0 x5_1) == (rd l1 x5_1)) = true := beq_iff_eq.mpr c9
      have c9b1 : ((rd l0 x5_1) != (rd l1 x5_1)) = false := bne_eq_false_iff_eq.mpr c9
      clear c9
      have H' := Aside0.mk H
      clear H
      have p335 : 0 ≤ (x5_1 : Int) := ofd
      have q335 : x5_1 < (l0.length : Int) := ofd
      obtain ⟨ad335, e335, hx335_0⟩ := Kd.at_int HR0.out x5_1 p335 q335
      cases e335
      replace p335 := eq_true p335
      replace q335 := eq_true q335
      have p336 : 0 ≤ (x5_1 : Int) := ofd
      have q336 : x5_1 < (l1.length : Int) := ofd
      obtain ⟨ad336, e336, hx336_0⟩ := Kd.at_int HR1.out x5_1 p336 q336
      cases e336
      replace p336 := eq_true p336
      replace q336 := eq_true q336
      go_wp2
      repeat (go_quiet (fail); try go_wp2)
      go_roundg kj2
      case measure => have := HK1.out; have := HJ2.out; omega
      case rel => exact ⟨(wrap64 (x5_1 + 1)), eqd, H', ⟨by have := HK1.out; have := HJ2.out; omega⟩, by repeat (first | exact Drawn0.refl _ | apply Drawn0.step)⟩
     ·rw [if_neg c9] at H
      have c9b0 : ((rd l0 x5_1) == (rd l1 x5_1)) = false := beq_eq_false_iff_ne.mpr c9
      have c9b1 : ((rd l0 x5_1) != (rd l1 x5_1)) = true := bne_iff_ne.mpr c9
      obtain rfl := Option.some.inj H
      have p335 : 0 ≤ (x5_1 : Int) := ofd
      have q335 : x5_1 < (l0.length : Int) := ofd
      obtain ⟨ad335, e335, hx335_0⟩ := Kd.at_int HR0.out x5_1 p335 q335
      cases e335
      replace p335 := eq_true p335
      replace q335 := eq_true q335
      have p336 : 0 ≤ (x5_1 : Int) := ofd
      have q336 : x5_1 < (l1.length : Int) := ofd
      obtain ⟨ad336, e336, hx336_0⟩ := Kd.at_int HR1.out x5_1 p336 q336
      cases e336
      replace p336 := eq_true p336
      replace q336 := eq_true q336
      have p337 : 0 ≤ (x5_1 : Int) := ofd
      have q337 : x5_1 < (l0.length : Int) := ofd
      obtain ⟨ad337, e337, hx337_0⟩ := Kd.at_int HR0.out x5_1 p337 q337
      obtain rfl : ad335 = ad337 := (by injection e337)
      replace p337 := eq_true p337
      replace q337 := eq_true q337
      have p338 : 0 ≤ (x5_1 : Int) := ofd
      have q338 : x5_1 < (l1.length : Int) := ofd
      obtain ⟨ad338, e338, hx338_0⟩ := Kd.at_int HR1.out x5_1 p338 q338
      obtain rfl : ad336 = ad338 := (by injection e338)
      replace p338 := eq_true p338
      replace q338 := eq_true q338
      go_wp2
      repeat (go_quiet (fail); try go_wp2)
      go_ret
      exact ⟨by first | rfl | (simp; done) | (simp [*]; done), by repeat (first | exact Drawn0.refl _ | apply Drawn0.step)⟩
noncomputable def Zas.L0 (x0 : List Int) (x1 : List Int) (x5 : Int) : Option (Bool) := lim fun k => Zas.l0 k x0 x1 x5
theorem Zas.L0_lim (x0 : List Int) (x1 : List Int) (x5 : Int) : Lim (fun k => Zas.l0 k x0 x1 x5) (Zas.L0 x0 x1 x5) := Lim.of fun k => (Zas.mono_l k).1 x0 x1 x5
noncomputable def Zas.J1 (x0 : List Int) (x1 : List Int) (x5 : Int) (x15 : Bool) : Option (Bool) := lim fun k => Zas.j1 k x0 x1 x5 x15
theorem Zas.J1_lim (x0 : List Int) (x1 : List Int) (x5 : Int) (x15 : Bool) : Lim (fun k => Zas.j1 k x0 x1 x5 x15) (Zas.J1 x0 x1 x5 x15) := Lim.of fun k => (Zas.mono_l k).2 x0 x1 x5 x15
noncomputable def Zas.F (l0 : List Int) (l1 : List Int) : Option (Bool) := lim fun k => Zas.f k l0 l1
theorem Zas.F_lim (l0 : List Int) (l1 : List Int) : Lim (fun k => Zas.f k l0 l1) (Zas.F l0 l1) := Lim.of fun k => Zas.mono l0 l1 k
theorem Zas.L0_eq (x0 : List Int) (x1 : List Int) (x5 : Int) : Zas.L0 x0 x1 x5 = (if x5 < (x0.length : Int) then (Zas.J1 x0 x1 x5 (decide (x5 < (x1.length : Int)))) else (Zas.J1 x0 x1 x5 false)) :=
 Lim.step (f := fun k => Zas.l0 (k + 1) x0 x1 x5) (Zas.L0_lim x0 x1 x5) (fun _ => rfl) (by
  simp only [Zas.l0]
  repeat' (first | (with_reducible first | exact Lim.const _ | exact Zas.J1_lim _ _ _ _ | refine Lim.ite ?_ ?_ | refine Lim.bind ?_ (fun _ => ?_))))
theorem Zas.J1_eq (x0 : List Int) (x1 : List Int) (x5 : Int) (x15 : Bool) : Zas.J1 x0 x1 x5 x15 = (if x15 = true then (if 0 ≤ x5 then (if x5 < (x0.length : Int) then (if x5 < (x1.length : Int) then (if (rd x0 x5) = (rd x1 x5) then (Zas.L0 x0 x1 (wrap64 (x5 + 1))) else (some (decide ((rd x0 x5) < (rd x1 x5))))) else (none)) else (none)) else (none)) else (some (decide ((x0.length : Int) < (x1.length : Int))))) :=
 Lim.step (f := fun k => Zas.j1 (k + 1) x0 x1 x5 x15) (Zas.J1_lim x0 x1 x5 x15) (fun _ => rfl) (by
  simp only [Zas.j1]
  repeat' (first | (with_reducible first | exact Lim.const _ | exact Zas.L0_lim _ _ _ | refine Lim.ite ?_ ?_ | refine Lim.bind ?_ (fun _ => ?_))))
theorem Zas.F_eq (l0 : List Int) (l1 : List Int) : Zas.F l0 l1 = (Zas.L0 l0 l1 0) :=
 Lim.unique (Zas.F_lim l0 l1) (by
  unfold Zas.f
  repeat' (first | (with_reducible first | exact Lim.const _ | exact Zas.L0_lim _ _ _ | refine Lim.ite ?_ ?_ | refine Lim.bind ?_ (fun _ => ?_))))
mutual
def Zaa.j0 : Nat → List Int → List Int → List Int → Bool → Bool → List Int → Int → Bool → List (List Int) → Bool → Bool → Option (Bool)
 | 0, _, _, _, _, _, _, _, _, _, _, _ => none
 | k + 1, x1, x5, x6, x7, x8, x11, x19, x20, x23, x24, x209 => if x209 = true then (some false) else (if x24 = true then (if (x23.length : Int) = (wrap64 ((x5.length : Int) - 1)) then (Zaa.l0 k x1 x5 x6 x7 x8 x11 x19 x20 x23 x23 (x23.length : Int) 0) else (some false)) else (Zaa.j2 k x1 x5 x6 x7 x8 x11 x19 x20 x23))
def Zaa.j2 : Nat → List Int → List Int → List Int → Bool → Bool → List Int → Int → Bool → List (List Int) → Option (Bool)
 | 0, _, _, _, _, _, _, _, _, _ => none
 | k + 1, x1, x5, x6, x7, x8, x11, x19, x20, x23 => if x8 = true then ((Zab.f k x6).bind fun bt385 => ((Zat.f k x5 bt385.1).bind fun bt389 => ((Zab.f k bt385.1).bind fun bt391 => (if (x11.length : Int) = (wrap64 ((x6.length : Int) - 1)) then (if bt385.2 = true then (if bt389.2 = true then (if (bt389.1 != x7) = true then (some false) else (if bt391.2 = true then ((Zaq.f k bt391.1 x6).bind fun t395 => (if t395 = true then (Zaa.l1 k x1 x6 x7 x11 x19 x20 x23 (x6.length : Int) true 1) else (some false))) else (some false))) else (some false)) else (some false)) else (some false))))) else (Zaa.j5 k x1)
def Zaa.j5 : Nat → List Int → Option (Bool)
 | 0, _ => none
 | k + 1, x1 => (Zba.f k x1).bind fun t408 => ((Zbk.f k t408).bind fun bt411 => ((Zbg.f k t408).bind fun bt415 => ((Zbl.f k t408).bind fun bt419 => ((Zbf.f k t408).bind fun bt421 => (if (bt411.2 != bt415.2) = true then (Zaa.j6 k t408 bt411.1 bt411.2 bt419.1 bt419.2 true) else ((Zaq.f k bt411.1 bt415.1).bind fun t423 => (if t423 = true then (if (bt419.2 != bt421.2) = true then (Zaa.j6 k t408 bt411.1 bt411.2 bt419.1 bt419.2 true) else (if bt419.1 = bt421.1 then (if bt419.2 = true then (if (bt411.2 != (decide (bt419.1 > 0))) = true then (Zaa.j6 k t408 bt411.1 bt411.2 bt419.1 bt419.2 true) else ((Zae.f k t408).bind fun t424 => (Zaa.j6 k t408 bt411.1 bt411.2 bt419.1 bt419.2 (bt419.2 != t424)))) else (if (bt411.2 != false) = true then (Zaa.j6 k t408 bt411.1 bt411.2 bt419.1 bt419.2 true) else ((Zae.f k t408).bind fun t425 => (Zaa.j6 k t408 bt411.1 bt411.2 bt419.1 bt419.2 (bt419.2 != t425))))) else (Zaa.j6 k t408 bt411.1 bt411.2 bt419.1 bt419.2 true))) else (Zaa.j6 k t408 bt411.1 bt411.2 bt419.1 bt419.2 true))))))))
def Zaa.j6 : Nat → List Int → List Int → Bool → Int → Bool → Bool → Option (Bool)
 | 0, _, _, _, _, _, _ => none
 | k + 1, x40, x41, x42, x45, x46, x421 => if x421 = true then (some false) else (if x42 = true then ((Zat.f k x40 x41).bind fun bt426 => ((Zab.f k x41).bind fun bt428 => (if bt426.2 = true then (if bt426.1 = true then (if bt428.2 = true then ((Zas.f k bt428.1 x41).bind fun t432 => (if t432 = true then (some false) else (if (x40.length : Int) > 1 then (if (Int.tmod x45 2) = 0 then (if x46 = true then (some (decide (x45 > 0))) else (some true)) else (some false)) else (if x46 = true then (some (decide (x45 > 0))) else (some true))))) else (some false)) else (some false)) else (some false)))) else (if x46 = true then (some (decide (x45 > 0))) else (some true)))
def Zaa.l1 : Nat → List Int → List Int → Bool → List Int → Int → Bool → List (List Int) → Int → Bool → Int → Option (Bool)
 | 0, _, _, _, _, _, _, _, _, _, _ => none
 | k + 1, x1, x6, x7, x11, x19, x20, x23, x29, x36, x37 => if x37 < x29 then (if x36 = true then ((Zbb.f k x11 x37).bind fun t396 => (Zaa.l1 k x1 x6 x7 x11 x19 x20 x23 x29 t396 (wrap64 (x37 + 1)))) else (Zaa.l1 k x1 x6 x7 x11 x19 x20 x23 x29 false (wrap64 (x37 + 1)))) else (if (x36 != x7) = true then (some false) else (Zaa.l2 k x1 x6 x11 x19 x20 x23 (x23.length : Int) 0))
def Zaa.l2 : Nat → List Int → List Int → List Int → Int → Bool → List (List Int) → Int → Int → Option (Bool)
 | 0, _, _, _, _, _, _, _, _ => none
 | k + 1, x1, x6, x11, x19, x20, x317, x318, x319 => if x319 < x318 then (if 0 ≤ x319 then (if x319 < (x317.length : Int) then (if x319 < (x11.length : Int) then (if 0 < ((rd_L2 x317 x319).length : Int) then (if 0 ≤ (rd (rd_L2 x317 x319) 0) then (if (rd (rd_L2 x317 x319) 0) < (x6.length : Int) then (if 1 < ((rd_L2 x317 x319).length : Int) then (if 0 ≤ (rd (rd_L2 x317 x319) 1) then (if (rd (rd_L2 x317 x319) 1) < (x6.length : Int) then ((Zca.f (wrap64 ((rd x6 (rd (rd_L2 x317 x319) 0)) - (rd x6 (rd (rd_L2 x317 x319) 1))))).bind fun t403 => (if (rd x11 x319) = t403 then (if x20 = true then (if ((decide ((rd x6 (rd (rd_L2 x317 x319) 0)) ≤ x19)) == (decide ((rd x6 (rd (rd_L2 x317 x319) 1)) ≤ x19))) = true then (some false) else (Zaa.l2 k x1 x6 x11 x19 x20 x317 x318 (wrap64 (x319 + 1)))) else (Zaa.l2 k x1 x6 x11 x19 x20 x317 x318 (wrap64 (x319 + 1)))) else (some false))) else (none)) else (none)) else (none)) else (none)) else (none)) else (none)) else (none)) else (none)) else (none)) else (Zaa.j5 k x1)
def Zaa.l0 : Nat → List Int → List Int → List Int → Bool → Bool → List Int → Int → Bool → List (List Int) → List (List Int) → Int → Int → Option (Bool)
 | 0, _, _, _, _, _, _, _, _, _, _, _, _ => none
 | k + 1, x1, x5, x6, x7, x8, x11, x19, x20, x23, x217, x218, x219 => if x219 < x218 then (if 0 ≤ x219 then (if x219 < (x217.length : Int) then (if ((rd_L2 x217 x219).length : Int) = 2 then (if 1 < ((rd_L2 x217 x219).length : Int) then (if (rd (rd_L2 x217 x219) 1) = (wrap64 (x219 + 1)) then (if 0 < ((rd_L2 x217 x219).length : Int) then (if 0 ≤ (wrap64 (x219 + 1)) then (if (wrap64 (x219 + 1)) < (x5.length : Int) then (if (rd (rd_L2 x217 x219) 0) = (rd x5 (wrap64 (x219 + 1))) then (if (rd (rd_L2 x217 x219) 0) ≥ (rd (rd_L2 x217 x219) 1) then (some false) else (Zaa.l0 k x1 x5 x6 x7 x8 x11 x19 x20 x23 x217 x218 (wrap64 (x219 + 1)))) else (some false)) else (none)) else (none)) else (none)) else (some false)) else (none)) else (some false)) else (none)) else (none)) else (Zaa.j2 k x1 x5 x6 x7 x8 x11 x19 x20 x23)
end
def Zaa.f (k : Nat) (l0 : List Int) (l1 : List Int) : Option (Bool) := (Zby.f l0 l1).bind fun t339 => (if t339 = true then (some true) else ((Zbe.f k l0).bind fun bt340 => ((Zat.f k bt340.1 bt340.2).bind fun bt346 => ((Zbj.f k bt340.1 bt340.2).bind fun bt348 => ((Zbc.f k bt340.1 bt340.2).bind fun bt350 => ((Zbi.f k bt340.1 bt340.2).bind fun bt354 => ((Zbn.f k bt340.1 bt340.2).bind fun bt358 => ((Zbm.f k bt340.1 bt340.2).bind fun bt360 => ((Zad.f k bt340.1 bt340.2).bind fun bt362 => ((Zaf.f k bt340.1 bt340.2).bind fun bt364 => ((Zap.f k bt340.1).bind fun bt366 => ((Zao.f k bt340.1).bind fun bt370 => (if (bt346.2 != bt348.2) = true then (Zaa.j0 k l1 bt340.1 bt340.2 bt346.1 bt346.2 bt350.1 bt362.1 bt362.2 bt366.1 bt366.2 true) else (if (bt346.1 != bt348.1) = true then (Zaa.j0 k l1 bt340.1 bt340.2 bt346.1 bt346.2 bt350.1 bt362.1 bt362.2 bt366.1 bt366.2 true) else (if (bt350.2 != bt354.2) = true then (Zaa.j0 k l1 bt340.1 bt340.2 bt346.1 bt346.2 bt350.1 bt362.1 bt362.2 bt366.1 bt366.2 true) else ((Zaq.f k bt350.1 bt354.1).bind fun t374 => (if t374 = true then (if (bt358.2 != bt360.2) = true then (Zaa.j0 k l1 bt340.1 bt340.2 bt346.1 bt346.2 bt350.1 bt362.1 bt362.2 bt366.1 bt366.2 true) else (if (bt358.1 != bt360.1) = true then (Zaa.j0 k l1 bt340.1 bt340.2 bt346.1 bt346.2 bt350.1 bt362.1 bt362.2 bt366.1 bt366.2 true) else (if (bt362.2 != bt364.2) = true then (Zaa.j0 k l1 bt340.1 bt340.2 bt346.1 bt346.2 bt350.1 bt362.1 bt362.2 bt366.1 bt366.2 true) else (if bt362.1 = bt364.1 then (if (bt366.2 != bt370.2) = true then (Zaa.j0 k l1 bt340.1 bt340.2 bt346.1 bt346.2 bt350.1 bt362.1 bt362.2 bt366.1 bt366.2 true) else ((Zaw.f k bt366.1 bt370.1).bind fun t375 => (if t375 = true then ((Zae.f k bt340.1).bind fun t376 => (if (bt358.2 != t376) = true then (Zaa.j0 k l1 bt340.1 bt340.2 bt346.1 bt346.2 bt350.1 bt362.1 bt362.2 bt366.1 bt366.2 true) else ((Zae.f k bt340.1).bind fun t377 => ((Zbq.f k bt340.1).bind fun t378 => (if (t377 != t378) = true then (Zaa.j0 k l1 bt340.1 bt340.2 bt346.1 bt346.2 bt350.1 bt362.1 bt362.2 bt366.1 bt366.2 true) else (if bt358.2 = true then (if (bt346.2 != bt358.1) = true then (Zaa.j0 k l1 bt340.1 bt340.2 bt346.1 bt346.2 bt350.1 bt362.1 bt362.2 bt366.1 bt366.2 true) else (if (bt350.2 != bt346.2) = true then (Zaa.j0 k l1 bt340.1 bt340.2 bt346.1 bt346.2 bt350.1 bt362.1 bt362.2 bt366.1 bt366.2 true) else (if (bt366.2 != bt358.2) = true then (Zaa.j0 k l1 bt340.1 bt340.2 bt346.1 bt346.2 bt350.1 bt362.1 bt362.2 bt366.1 bt366.2 true) else (if bt362.2 = true then (if bt346.2 = true then (Zaa.j0 k l1 bt340.1 bt340.2 bt346.1 bt346.2 bt350.1 bt362.1 bt362.2 bt366.1 bt366.2 (!bt346.1)) else (Zaa.j0 k l1 bt340.1 bt340.2 bt346.1 bt346.2 bt350.1 bt362.1 bt362.2 bt366.1 bt366.2 (!false))) else (Zaa.j0 k l1 bt340.1 bt340.2 bt346.1 bt346.2 bt350.1 bt362.1 bt362.2 bt366.1 bt366.2 false))))) else (if (bt346.2 != false) = true then (Zaa.j0 k l1 bt340.1 bt340.2 bt346.1 bt346.2 bt350.1 bt362.1 bt362.2 bt366.1 bt366.2 true) else (if (bt350.2 != bt346.2) = true then (Zaa.j0 k l1 bt340.1 bt340.2 bt346.1 bt346.2 bt350.1 bt362.1 bt362.2 bt366.1 bt366.2 true) else (if (bt366.2 != bt358.2) = true then (Zaa.j0 k l1 bt340.1 bt340.2 bt346.1 bt346.2 bt350.1 bt362.1 bt362.2 bt366.1 bt366.2 true) else (if bt362.2 = true then (if bt346.2 = true then (Zaa.j0 k l1 bt340.1 bt340.2 bt346.1 bt346.2 bt350.1 bt362.1 bt362.2 bt366.1 bt366.2 (!bt346.1)) else (Zaa.j0 k l1 bt340.1 bt340.2 bt346.1 bt346.2 bt350.1 bt362.1 bt362.2 bt366.1 bt366.2 (!false))) else (Zaa.j0 k l1 bt340.1 bt340.2 bt346.1 bt346.2 bt350.1 bt362.1 bt362.2 bt366.1 bt366.2 false))))))))))) else (Zaa.j0 k l1 bt340.1 bt340.2 bt346.1 bt346.2 bt350.1 bt362.1 bt362.2 bt366.1 bt366.2 true)))) else (Zaa.j0 k l1 bt340.1 bt340.2 bt346.1 bt346.2 bt350.1 bt362.1 bt362.2 bt366.1 bt366.2 true))))) else (Zaa.j0 k l1 bt340.1 bt340.2 bt346.1 bt346.2 bt350.1 bt362.1 bt362.2 bt366.1 bt366.2 true))))))))))))))))))
theorem Zaa.mono_l : ∀ k, (∀ y0 y1 y2 y3 y4 y5 y6 y7 y8 y9 y10, LeO (Zaa.j0 k y0 y1 y2 y3 y4 y5 y6 y7 y8 y9 y10) (Zaa.j0 (k + 1) y0 y1 y2 y3 y4 y5 y6 y7 y8 y9 y10)) ∧ (∀ y0 y1 y2 y3 y4 y5 y6 y7 y8, LeO (Zaa.j2 k y0 y1 y2 y3 y4 y5 y6 y7 y8) (Zaa.j2 (k + 1) y0 y1 y2 y3 y4 y5 y6 y7 y8)) ∧ (∀ y0, LeO (Zaa.j5 k y0) (Zaa.j5 (k + 1) y0)) ∧ (∀ y0 y1 y2 y3 y4 y5, LeO (Zaa.j6 k y0 y1 y2 y3 y4 y5) (Zaa.j6 (k + 1) y0 y1 y2 y3 y4 y5)) ∧ (∀ y0 y1 y2 y3 y4 y5 y6 y7 y8 y9, LeO (Zaa.l1 k y0 y1 y2 y3 y4 y5 y6 y7 y8 y9) (Zaa.l1 (k + 1) y0 y1 y2 y3 y4 y5 y6 y7 y8 y9)) ∧ (∀ y0 y1 y2 y3 y4 y5 y6 y7, LeO (Zaa.l2 k y0 y1 y2 y3 y4 y5 y6 y7) (Zaa.l2 (k + 1) y0 y1 y2 y3 y4 y5 y6 y7)) ∧ (∀ y0 y1 y2 y3 y4 y5 y6 y7 y8 y9 y10 y11, LeO (Zaa.l0 k y0 y1 y2 y3 y4 y5 y6 y7 y8 y9 y10 y11) (Zaa.l0 (k + 1) y0 y1 y2 y3 y4 y5 y6 y7 y8 y9 y10 y11))
 | 0 => ⟨fun _ _ _ _ _ _ _ _ _ _ _ r h => by simp [Zaa.j0] at h, fun _ _ _ _ _ _ _ _ _ r h => by simp [Zaa.j2] at h, fun _ r h => by simp [Zaa.j5] at h, fun _ _ _ _ _ _ r h => by simp [Zaa.j6] at h, fun _ _ _ _ _ _ _ _ _ _ r h => by simp [Zaa.l1] at h, fun _ _ _ _ _ _ _ _ r h => by simp [Zaa.l2] at h, fun _ _ _ _ _ _ _ _ _ _ _ _ r h => by simp [Zaa.l0] at h⟩
 | k + 1 => by
  obtain ⟨ih0, ih1, ih2, ih3, ih4, ih5, ih6⟩ := Zaa.mono_l k
  refine ⟨?_, ?_, ?_, ?_, ?_, ?_, ?_⟩
  ·intro y0 y1 y2 y3 y4 y5 y6 y7 y8 y9 y10
   unfold Zaa.j0
   repeat' (first | (with_reducible first | exact ih1 _ _ _ _ _ _ _ _ _ | exact ih6 _ _ _ _ _ _ _ _ _ _ _ _ | exact LeO.refl _ | exact LeO.none _ | refine LeO.ite ?_ ?_ | refine LeO.bind ?_ (fun _ => ?_)) | exact ih1 _ _ _ _ _ _ _ _ _ | exact ih6 _ _ _ _ _ _ _ _ _ _ _ _ | exact LeO.none _ | refine LeO.ite ?_ ?_ | refine LeO.bind ?_ (fun _ => ?_))
  ·intro y0 y1 y2 y3 y4 y5 y6 y7 y8
   unfold Zaa.j2
   repeat' (first | (with_reducible first | exact ih2 _ | exact ih4 _ _ _ _ _ _ _ _ _ _ | exact Zab.mono _ _ | exact Zat.mono _ _ _ | exact Zaq.mono _ _ _ | exact LeO.refl _ | exact LeO.none _ | refine LeO.ite ?_ ?_ | refine LeO.bind ?_ (fun _ => ?_)) | exact ih2 _ | exact ih4 _ _ _ _ _ _ _ _ _ _ | exact Zab.mono _ _ | exact Zat.mono _ _ _ | exact Zaq.mono _ _ _ | exact LeO.none _ | refine LeO.ite ?_ ?_ | refine LeO.bind ?_ (fun _ => ?_))
  ·intro y0
   unfold Zaa.j5
   repeat' (first | (with_reducible first | exact ih3 _ _ _ _ _ _ | exact Zbl.mono _ _ | exact Zbk.mono _ _ | exact Zae.mono _ _ | exact Zaq.mono _ _ _ | exact Zbf.mono _ _ | exact Zba.mono _ _ | exact Zbg.mono _ _ | exact LeO.refl _ | exact LeO.none _ | refine LeO.ite ?_ ?_ | refine LeO.bind ?_ (fun _ => ?_)) | exact ih3 _ _ _ _ _ _ | exact Zbl.mono _ _ | exact Zbk.mono _ _ | exact Zae.mono _ _ | exact Zaq.mono _ _ _ | exact Zbf.mono _ _ | exact Zba.mono _ _ | exact Zbg.mono _ _ | exact LeO.none _ | refine LeO.ite ?_ ?_ | refine LeO.bind ?_ (fun _ => ?_))
  ·intro y0 y1 y2 y3 y4 y5
   unfold Zaa.j6
   repeat' (first | (with_reducible first | exact Zab.mono _ _ | exact Zat.mono _ _ _ | exact Zas.mono _ _ _ | exact LeO.refl _ | exact LeO.none _ | refine LeO.ite ?_ ?_ | refine LeO.bind ?_ (fun _ => ?_)) | exact Zab.mono _ _ | exact Zat.mono _ _ _ | exact Zas.mono _ _ _ | exact LeO.none _ | refine LeO.ite ?_ ?_ | refine LeO.bind ?_ (fun _ => ?_))
  ·intro y0 y1 y2 y3 y4 y5 y6 y7 y8 y9
   unfold Zaa.l1
   repeat' (first | (with_reducible first | exact ih4 _ _ _ _ _ _ _ _ _ _ | exact ih5 _ _ _ _ _ _ _ _ | exact Zbb.mono _ _ _ | exact LeO.refl _ | exact LeO.none _ | refine LeO.ite ?_ ?_ | refine LeO.bind ?_ (fun _ => ?_)) | exact ih4 _ _ _ _ _ _ _ _ _ _ | exact ih5 _ _ _ _ _ _ _ _ | exact Zbb.mono _ _ _ | exact LeO.none _ | refine LeO.ite ?_ ?_ | refine LeO.bind ?_ (fun _ => ?_))
  ·intro y0 y1 y2 y3 y4 y5 y6 y7
   unfold Zaa.l2
   repeat' (first | (with_reducible first | exact ih2 _ | exact ih5 _ _ _ _ _ _ _ _ | exact LeO.refl _ | exact LeO.none _ | refine LeO.ite ?_ ?_ | refine LeO.bind ?_ (fun _ => ?_)) | exact ih2 _ | exact ih5 _ _ _ _ _ _ _ _ | exact LeO.none _ | refine LeO.ite ?_ ?_ | refine LeO.bind ?_ (fun _ => ?_))
  ·intro y0 y1 y2 y3 y4 y5 y6 y7 y8 y9 y10 y11
   unfold Zaa.l0
   repeat' (first | (with_reducible first | exact ih1 _ _ _ _ _ _ _ _ _ | exact ih6 _ _ _ _ _ _ _ _ _ _ _ _ | exact LeO.refl _ | exact LeO.none _ | refine LeO.ite ?_ ?_ | refine LeO.bind ?_ (fun _ => ?_)) | exact ih1 _ _ _ _ _ _ _ _ _ | exact ih6 _ _ _ _ _ _ _ _ _ _ _ _ | exact LeO.none _ | refine LeO.ite ?_ ?_ | refine LeO.bind ?_ (fun _ => ?_))
theorem Zaa.mono : ∀ a0 a1 k, LeO (Zaa.f k a0 a1) (Zaa.f (k + 1) a0 a1) := by
 intro a0 a1 k
 obtain ⟨ih0, ih1, ih2, ih3, ih4, ih5, ih6⟩ := Zaa.mono_l k
 unfold Zaa.f
 repeat' (first | (with_reducible first | exact ih0 _ _ _ _ _ _ _ _ _ _ _ | exact Zbc.mono _ _ _ | exact Zap.mono _ _ | exact Zat.mono _ _ _ | exact Zad.mono _ _ _ | exact Zbn.mono _ _ _ | exact Zae.mono _ _ | exact Zaw.mono _ _ _ | exact Zaq.mono _ _ _ | exact Zbe.mono _ _ | exact Zbi.mono _ _ _ | exact Zao.mono _ _ | exact Zbj.mono _ _ _ | exact Zaf.mono _ _ _ | exact Zbm.mono _ _ _ | exact Zbq.mono _ _ | exact LeO.refl _ | exact LeO.none _ | refine LeO.ite ?_ ?_ | refine LeO.bind ?_ (fun _ => ?_)) | exact ih0 _ _ _ _ _ _ _ _ _ _ _ | exact Zbc.mono _ _ _ | exact Zap.mono _ _ | exact Zat.mono _ _ _ | exact Zad.mono _ _ _ | exact Zbn.mono _ _ _ | exact Zae.mono _ _ | exact Zaw.mono _ _ _ | exact Zaq.mono _ _ _ | exact Zbe.mono _ _ | exact Zbi.mono _ _ _ | exact Zao.mono _ _ | exact Zbj.mono _ _ _ | exact Zaf.mono _ _ _ | exact Zbm.mono _ _ _ | exact Zbq.mono _ _ | exact LeO.none _ | refine LeO.ite ?_ ?_ | refine LeO.bind ?_ (fun _ => ?_))
theorem Zaa.j0_no : ∀ k y0 y1 y2 y3 y4 y5 y6 y7 y8 y9, Zaa.j0 k y0 y1 y2 y3 y4 y5 y6 y7 y8 y9 true ≠ some true := by
 intro k
 cases k <;> intros <;> simp [Zaa.j0]
theorem Zaa.j6_no : ∀ k y0 y1 y2 y3 y4, Zaa.j6 k y0 y1 y2 y3 y4 true ≠ some true := by
 intro k
 cases k <;> intros <;> simp [Zaa.j6]
def Zaa.T22 : Bool × List (List Nat × List Nat) := (true, [([], []), ([0], [0]), ([1], [1]), ([2], [2]), ([3], [3]), ([4, 3], [3, 4]), ([5, 3], [3, 5]), ([3], [3]), ([7, 3], [3, 7]), ([6, 8, 3], [3, 6, 8]), ([3, 9], [3, 9]), ([10, 3], [10]), ([11], [11]), ([12, 11], [11, 12]), ([13, 11], [11, 13]), ([11], [11]), ([11], [11]), ([16, 11], [11, 16]), ([15, 17, 11], [11, 15, 17]), ([18, 11], [11, 18]), ([14, 19, 11], [11, 14, 19]), ([11, 20], [11, 20]), ([21, 11], [21]), ([22], [22]), ([23, 22], [22, 23]), ([24, 22], [22, 24]), ([22], [22]), ([26, 22], [22, 26]), ([27, 22], [22, 27]), ([25, 28, 22], [22, 25, 28]), ([22, 29], [22, 29])])
def Zaa.B22 : List Nat := [0, 1, 3, 7, 15, 31, 63, 15, 143, 511, 1023, 2047, 4095, 8191, 16383, 4095, 4095, 69631, 233471, 495615, 1048575, 2097151, 4194303, 8388607, 16777215, 33554431, 8388607, 75497471, 209715199, 536870911, 1073741823]
theorem Zaa.tab22 : rtab .any (opsOf Try.f3 22) = Zaa.T22 := by kernel_rfl
theorem Zaa.bits22 : waitsOk Zaa.T22.2 Zaa.B22 = true := by kernel_rfl
def Zaa.T42 : Bool × List (List Nat × List Nat) := (true, [([], []), ([], []), ([0, 1], [0, 1]), ([2], [2]), ([], []), ([], []), ([5], [5]), ([6], [6]), ([4, 7], [4, 7]), ([8], [8]), ([], []), ([], []), ([11], [11]), ([12], [12]), ([10, 13], [10, 13]), ([14], [14]), ([9, 15], [9, 15]), ([16], [16]), ([3, 17], [3, 17]), ([18, 17], [18]), ([19], [19]), ([20, 19, 19], [19, 20]), ([21], [21]), ([21], [21]), ([23, 21], [21, 23]), ([24, 21], [21, 24]), ([22, 25, 21], [21, 22, 25]), ([26, 21], [21, 26]), ([21], [21]), ([27, 28, 21], [21, 27, 28]), ([21], [21]), ([21], [21]), ([31, 21], [21, 31]), ([32, 21], [21, 32]), ([30, 33, 21], [21, 30, 33]), ([34, 21], [21, 34]), ([21], [21]), ([35, 36, 21], [21, 35, 36]), ([29, 37, 21], [21, 29, 37]), ([21, 38, 19], [19, 21, 38]), ([19, 39], [19, 39])])
def Zaa.B42 : List Nat := [0, 0, 3, 7, 0, 0, 32, 96, 240, 496, 0, 0, 2048, 6144, 15360, 31744, 65520, 131056, 262143, 524287, 1048575, 2097151, 4194303, 4194303, 12582911, 29360127, 67108863, 134217727, 4194303, 536870911, 4194303, 4194303, 2151677951, 6446645247, 16110321663, 33290190847, 4194303, 136369405951, 274877906943, 549755813887, 1099511627775]
theorem Zaa.tab42 : rtab .any (opsOf Try.f3 42) = Zaa.T42 := by kernel_rfl
theorem Zaa.bits42 : waitsOk Zaa.T42.2 Zaa.B42 = true := by kernel_rfl
def Zaa.Pure : Prop := ∀ (l0 : List Int) (l1 : List Int), l0.length ≤ maxLen → l0.length * 1 ≤ 140737488351232 → (∀ x ∈ l0, (Lit.int .u8 x).wf = true) → l1.length ≤ maxLen → l1.length * 1 ≤ 140737488351232 → (∀ x ∈ l1, (Lit.int .u8 x).wf = true) → ∃ k, Zaa.f k l0 l1 = some true
noncomputable def Zaa.J0 (x1 : List Int) (x5 : List Int) (x6 : List Int) (x7 : Bool) (x8 : Bool) (x11 : List Int) (x19 : Int) (x20 : Bool) (x23 : List (List Int)) (x24 : Bool) (x209 : Bool) : Option (Bool) := lim fun k => Zaa.j0 k x1 x5 x6 x7 x8 x11 x19 x20 x23 x24 x209
theorem Zaa.J0_lim (x1 : List Int) (x5 : List Int) (x6 : List Int) (x7 : Bool) (x8 : Bool) (x11 : List Int) (x19 : Int) (x20 : Bool) (x23 : List (List Int)) (x24 : Bool) (x209 : Bool) : Lim (fun k => Zaa.j0 k x1 x5 x6 x7 x8 x11 x19 x20 x23 x24 x209) (Zaa.J0 x1 x5 x6 x7 x8 x11 x19 x20 x23 x24 x209) := Lim.of fun k => (Zaa.mono_l k).1 x1 x5 x6 x7 x8 x11 x19 x20 x23 x24 x209
noncomputable def Zaa.J2 (x1 : List Int) (x5 : List Int) (x6 : List Int) (x7 : Bool) (x8 : Bool) (x11 : List Int) (x19 : Int) (x20 : Bool) (x23 : List (List Int)) : Option (Bool) := lim fun k => Zaa.j2 k x1 x5 x6 x7 x8 x11 x19 x20 x23
theorem Zaa.J2_lim (x1 : List Int) (x5 : List Int) (x6 : List Int) (x7 : Bool) (x8 : Bool) (x11 : List Int) (x19 : Int) (x20 : Bool) (x23 : List (List Int)) : Lim (fun k => Zaa.j2 k x1 x5 x6 x7 x8 x11 x19 x20 x23) (Zaa.J2 x1 x5 x6 x7 x8 x11 x19 x20 x23) := Lim.of fun k => (Zaa.mono_l k).2.1 x1 x5 x6 x7 x8 x11 x19 x20 x23
noncomputable def Zaa.J5 (x1 : List Int) : Option (Bool) := lim fun k => Zaa.j5 k x1
theorem Zaa.J5_lim (x1 : List Int) : Lim (fun k => Zaa.j5 k x1) (Zaa.J5 x1) := Lim.of fun k => (Zaa.mono_l k).2.2.1 x1
noncomputable def Zaa.J6 (x40 : List Int) (x41 : List Int) (x42 : Bool) (x45 : Int) (x46 : Bool) (x421 : Bool) : Option (Bool) := lim fun k => Zaa.j6 k x40 x41 x42 x45 x46 x421
theorem Zaa.J6_lim (x40 : List Int) (x41 : List Int) (x42 : Bool) (x45 : Int) (x46 : Bool) (x421 : Bool) : Lim (fun k => Zaa.j6 k x40 x41 x42 x45 x46 x421) (Zaa.J6 x40 x41 x42 x45 x46 x421) := Lim.of fun k => (Zaa.mono_l k).2.2.2.1 x40 x41 x42 x45 x46 x421
noncomputable def Zaa.L1 (x1 : List Int) (x6 : List Int) (x7 : Bool) (x11 : List Int) (x19 : Int) (x20 : Bool) (x23 : List (List Int)) (x29 : Int) (x36 : Bool) (x37 : Int) : Option (Bool) := lim fun k => Zaa.l1 k x1 x6 x7 x11 x19 x20 x23 x29 x36 x37
theorem Zaa.L1_lim (x1 : List Int) (x6 : List Int) (x7 : Bool) (x11 : List Int) (x19 : Int) (x20 : Bool) (x23 : List (List Int)) (x29 : Int) (x36 : Bool) (x37 : Int) : Lim (fun k => Zaa.l1 k x1 x6 x7 x11 x19 x20 x23 x29 x36 x37) (Zaa.L1 x1 x6 x7 x11 x19 x20 x23 x29 x36 x37) := Lim.of fun k => (Zaa.mono_l k).2.2.2.2.1 x1 x6 x7 x11 x19 x20 x23 x29 x36 x37
noncomputable def Zaa.L2 (x1 : List Int) (x6 : List Int) (x11 : List Int) (x19 : Int) (x20 : Bool) (x317 : List (List Int)) (x318 : Int) (x319 : Int) : Option (Bool) := lim fun k => Zaa.l2 k x1 x6 x11 x19 x20 x317 x318 x319
theorem Zaa.L2_lim (x1 : List Int) (x6 : List Int) (x11 : List Int) (x19 : Int) (x20 : Bool) (x317 : List (List Int)) (x318 : Int) (x319 : Int) : Lim (fun k => Zaa.l2 k x1 x6 x11 x19 x20 x317 x318 x319) (Zaa.L2 x1 x6 x11 x19 x20 x317 x318 x319) := Lim.of fun k => (Zaa.mono_l k).2.2.2.2.2.1 x1 x6 x11 x19 x20 x317 x318 x319
noncomputable def Zaa.L0 (x1 : List Int) (x5 : List Int) (x6 : List Int) (x7 : Bool) (x8 : Bool) (x11 : List Int) (x19 : Int) (x20 : Bool) (x23 : List (List Int)) (x217 : List (List Int)) (x218 : Int) (x219 : Int) : Option (Bool) := lim fun k => Zaa.l0 k x1 x5 x6 x7 x8 x11 x19 x20 x23 x217 x218 x219
theorem Zaa.L0_lim (x1 : List Int) (x5 : List Int) (x6 : List Int) (x7 : Bool) (x8 : Bool) (x11 : List Int) (x19 : Int) (x20 : Bool) (x23 : List (List Int)) (x217 : List (List Int)) (x218 : Int) (x219 : Int) : Lim (fun k => Zaa.l0 k x1 x5 x6 x7 x8 x11 x19 x20 x23 x217 x218 x219) (Zaa.L0 x1 x5 x6 x7 x8 x11 x19 x20 x23 x217 x218 x219) := Lim.of fun k => (Zaa.mono_l k).2.2.2.2.2.2 x1 x5 x6 x7 x8 x11 x19 x20 x23 x217 x218 x219
noncomputable def Zaa.F (l0 : List Int) (l1 : List Int) : Option (Bool) := lim fun k => Zaa.f k l0 l1
theorem Zaa.F_lim (l0 : List Int) (l1 : List Int) : Lim (fun k => Zaa.f k l0 l1) (Zaa.F l0 l1) := Lim.of fun k => Zaa.mono l0 l1 k
theorem Zaa.J0_eq (x1 : List Int) (x5 : List Int) (x6 : List Int) (x7 : Bool) (x8 : Bool) (x11 : List Int) (x19 : Int) (x20 : Bool) (x23 : List (List Int)) (x24 : Bool) (x209 : Bool) : Zaa.J0 x1 x5 x6 x7 x8 x11 x19 x20 x23 x24 x209 = (if x209 = true then (some false) else (if x24 = true then (if (x23.length : Int) = (wrap64 ((x5.length : Int) - 1)) then (Zaa.L0 x1 x5 x6 x7 x8 x11 x19 x20 x23 x23 (x23.length : Int) 0) else (some false)) else (Zaa.J2 x1 x5 x6 x7 x8 x11 x19 x20 x23))) :=
 Lim.step (f := fun k => Zaa.j0 (k + 1) x1 x5 x6 x7 x8 x11 x19 x20 x23 x24 x209) (Zaa.J0_lim x1 x5 x6 x7 x8 x11 x19 x20 x23 x24 x209) (fun _ => rfl) (by
  simp only [Zaa.j0]
  repeat' (first | (with_reducible first | exact Lim.const _ | exact Zaa.J2_lim _ _ _ _ _ _ _ _ _ | exact Zaa.L0_lim _ _ _ _ _ _ _ _ _ _ _ _ | refine Lim.ite ?_ ?_ | refine Lim.bind ?_ (fun _ => ?_))))
theorem Zaa.J2_eq (x1 : List Int) (x5 : List Int) (x6 : List Int) (x7 : Bool) (x8 : Bool) (x11 : List Int) (x19 : Int) (x20 : Bool) (x23 : List (List Int)) : Zaa.J2 x1 x5 x6 x7 x8 x11 x19 x20 x23 = (if x8 = true then ((Zab.F x6).bind fun bt385 => ((Zat.F x5 bt385.1).bind fun bt389 => ((Zab.F bt385.1).bind fun bt391 => (if (x11.length : Int) = (wrap64 ((x6.length : Int) - 1)) then (if bt385.2 = true then (if bt389.2 = true then (if (bt389.1 != x7) = true then (some false) else (if bt391.2 = true then ((Zaq.F bt391.1 x6).bind fun t395 => (if t395 = true then (Zaa.L1 x1 x6 x7 x11 x19 x20 x23 (x6.length : Int) true 1) else (some false))) else (some false))) else (some false)) else (some false)) else (some false))))) else (Zaa.J5 x1)) :=
 Lim.step (f := fun k => Zaa.j2 (k + 1) x1 x5 x6 x7 x8 x11 x19 x20 x23) (Zaa.J2_lim x1 x5 x6 x7 x8 x11 x19 x20 x23) (fun _ => rfl) (by
  simp only [Zaa.j2]
  repeat' (first | (with_reducible first | exact Lim.const _ | exact Zab.F_lim _ | exact Zat.F_lim _ _ | exact Zaa.J5_lim _ | exact Zaa.L1_lim _ _ _ _ _ _ _ _ _ _ | exact Zaq.F_lim _ _ | refine Lim.ite ?_ ?_ | refine Lim.bind ?_ (fun _ => ?_))))
theorem Zaa.J5_eq (x1 : List Int) : Zaa.J5 x1 = ((Zba.F x1).bind fun t408 => ((Zbk.F t408).bind fun bt411 => ((Zbg.F t408).bind fun bt415 => ((Zbl.F t408).bind fun bt419 => ((Zbf.F t408).bind fun bt421 => (if (bt411.2 != bt415.2) = true then (Zaa.J6 t408 bt411.1 bt411.2 bt419.1 bt419.2 true) else ((Zaq.F bt411.1 bt415.1).bind fun t423 => (if t423 = true then (if (bt419.2 != bt421.2) = true then (Zaa.J6 t408 bt411.1 bt411.2 bt419.1 bt419.2 true) else (if bt419.1 = bt421.1 then (if bt419.2 = true then (if (bt411.2 != (decide (bt419.1 > 0))) = true then (Zaa.J6 t408 bt411.1 bt411.2 bt419.1 bt419.2 true) else ((Zae.F t408).bind fun t424 => (Zaa.J6 t408 bt411.1 bt411.2 bt419.1 bt419.2 (bt419.2 != t424)))) else (if (bt411.2 != false) = true then (Zaa.J6 t408 bt411.1 bt411.2 bt419.1 bt419.2 true) else ((Zae.F t408).bind fun t425 => (Zaa.J6 t408 bt411.1 bt411.2 bt419.1 bt419.2 (bt419.2 != t425))))) else (Zaa.J6 t408 bt411.1 bt411.2 bt419.1 bt419.2 true))) else (Zaa.J6 t408 bt411.1 bt411.2 bt419.1 bt419.2 true))))))))) :=
 Lim.step (f := fun k => Zaa.j5 (k + 1) x1) (Zaa.J5_lim x1) (fun _ => rfl) (by
  simp only [Zaa.j5]
  repeat' (first | (with_reducible first | exact Lim.const _ | exact Zbl.F_lim | exact Zbk.F_lim | exact Zae.F_lim _ | exact Zaa.J6_lim _ _ _ _ _ _ | exact Zaq.F_lim _ _ | exact Zbf.F_lim _ | exact Zba.F_lim _ | exact Zbg.F_lim _ | refine Lim.ite ?_ ?_ | refine Lim.bind ?_ (fun _ => ?_))))
theorem Zaa.J6_eq (x40 : List Int) (x41 : List Int) (x42 : Bool) (x45 : Int) (x46 : Bool) (x421 : Bool) : Zaa.J6 x40 x41 x42 x45 x46 x421 = (if x421 = true then (some false) else (if x42 = true then ((Zat.F x40 x41).bind fun bt426 => ((Zab.F x41).bind fun bt428 => (if bt426.2 = true then (if bt426.1 = true then (if bt428.2 = true then ((Zas.F bt428.1 x41).bind fun t432 => (if t432 = true then (some false) else (if (x40.length : Int) > 1 then (if (Int.tmod x45 2) = 0 then (if x46 = true then (some (decide (x45 > 0))) else (some true)) else (some false)) else (if x46 = true then (some (decide (x45 > 0))) else (some true))))) else (some false)) else (some false)) else (some false)))) else (if x46 = true then (some (decide (x45 > 0))) else (some true)))) :=
 Lim.step (f := fun k => Zaa.j6 (k + 1) x40 x41 x42 x45 x46 x421) (Zaa.J6_lim x40 x41 x42 x45 x46 x421) (fun _ => rfl) (by
  simp only [Zaa.j6]
  repeat' (first | (with_reducible first | exact Lim.const _ | exact Zab.F_lim _ | exact Zat.F_lim _ _ | exact Zas.F_lim _ _ | refine Lim.ite ?_ ?_ | refine Lim.bind ?_ (fun _ => ?_))))
theorem Zaa.L1_eq (x1 : List Int) (x6 : List Int) (x7 : Bool) (x11 : List Int) (x19 : Int) (x20 : Bool) (x23 : List (List Int)) (x29 : Int) (x36 : Bool) (x37 : Int) : Zaa.L1 x1 x6 x7 x11 x19 x20 x23 x29 x36 x37 = (if x37 < x29 then (if x36 = true then ((Zbb.F x11 x37).bind fun t396 => (Zaa.L1 x1 x6 x7 x11 x19 x20 x23 x29 t396 (wrap64 (x37 + 1)))) else (Zaa.L1 x1 x6 x7 x11 x19 x20 x23 x29 false (wrap64 (x37 + 1)))) else (if (x36 != x7) = true then (some false) else (Zaa.L2 x1 x6 x11 x19 x20 x23 (x23.length : Int) 0))) :=
 Lim.step (f := fun k => Zaa.l1 (k + 1) x1 x6 x7 x11 x19 x20 x23 x29 x36 x37) (Zaa.L1_lim x1 x6 x7 x11 x19 x20 x23 x29 x36 x37) (fun _ => rfl) (by
  simp only [Zaa.l1]
  repeat' (first | (with_reducible first | exact Lim.const _ | exact Zaa.L1_lim _ _ _ _ _ _ _ _ _ _ | exact Zaa.L2_lim _ _ _ _ _ _ _ _ | exact Zbb.F_lim _ _ | refine Lim.ite ?_ ?_ | refine Lim.bind ?_ (fun _ => ?_))))
theorem Zaa.L2_eq (x1 : List Int) (x6 : List Int) (x11 : List Int) (x19 : Int) (x20 : Bool) (x317 : List (List Int)) (x318 : Int) (x319 : Int) : Zaa.L2 x1 x6 x11 x19 x20 x317 x318 x319 = (if x319 < x318 then (if 0 ≤ x319 then (if x319 < (x317.length : Int) then (if x319 < (x11.length : Int) then (if 0 < ((rd_L2 x317 x319).length : Int) then (if 0 ≤ (rd (rd_L2 x317 x319) 0) then (if (rd (rd_L2 x317 x319) 0) < (x6.length : Int) then (if 1 < ((rd_L2 x317 x319).length : Int) then (if 0 ≤ (rd (rd_L2 x317 x319) 1) then (if (rd (rd_L2 x317 x319) 1) < (x6.length : Int) then ((Zca.f (wrap64 ((rd x6 (rd (rd_L2 x317 x319) 0)) - (rd x6 (rd (rd_L2 x317 x319) 1))))).bind fun t403 => (if (rd x11 x319) = t403 then (if x20 = true then (if ((decide ((rd x6 (rd (rd_L2 x317 x319) 0)) ≤ x19)) == (decide ((rd x6 (rd (rd_L2 x317 x319) 1)) ≤ x19))) = true then (some false) else (Zaa.L2 x1 x6 x11 x19 x20 x317 x318 (wrap64 (x319 + 1)))) else (Zaa.L2 x1 x6 x11 x19 x20 x317 x318 (wrap64 (x319 + 1)))) else (some false))) else (none)) else (none)) else (none)) else (none)) else (none)) else (none)) else (none)) else (none)) else (none)) else (Zaa.J5 x1)) :=
 Lim.step (f := fun k => Zaa.l2 (k + 1) x1 x6 x11 x19 x20 x317 x318 x319) (Zaa.L2_lim x1 x6 x11 x19 x20 x317 x318 x319) (fun _ => rfl) (by
  simp only [Zaa.l2]
  repeat' (first | (with_reducible first | exact Lim.const _ | exact Zaa.J5_lim _ | exact Zaa.L2_lim _ _ _ _ _ _ _ _ | refine Lim.ite ?_ ?_ | refine Lim.bind ?_ (fun _ => ?_))))
theorem Zaa.L0_eq (x1 : List Int) (x5 : List Int) (x6 : List Int) (x7 : Bool) (x8 : Bool) (x11 : List Int) (x19 : Int) (x20 : Bool) (x23 : List (List Int)) (x217 : List (List Int)) (x218 : Int) (x219 : Int) : Zaa.L0 x1 x5 x6 x7 x8 x11 x19 x20 x23 x217 x218 x219 = (if x219 < x218 then (if 0 ≤ x219 then (if x219 < (x217.length : Int) then (if ((rd_L2 x217 x219).length : Int) = 2 then (if 1 < ((rd_L2 x217 x219).length : Int) then (if (rd (rd_L2 x217 x219) 1) = (wrap64 (x219 + 1)) then (if 0 < ((rd_L2 x217 x219).length : Int) then (if 0 ≤ (wrap64 (x219 + 1)) then (if (wrap64 (x219 + 1)) < (x5.length : Int) then (if (rd (rd_L2 x217 x219) 0) = (rd x5 (wrap64 (x219 + 1))) then (if (rd (rd_L2 x217 x219) 0) ≥ (rd (rd_L2 x217 x219) 1) then (some false) else (Zaa.L0 x1 x5 x6 x7 x8 x11 x19 x20 x23 x217 x218 (wrap64 (x219 + 1)))) else (some false)) else (none)) else (none)) else (none)) else (some false)) else (none)) else (some false)) else (none)) else (none)) else (Zaa.J2 x1 x5 x6 x7 x8 x11 x19 x20 x23)) :=
 Lim.step (f := fun k => Zaa.l0 (k + 1) x1 x5 x6 x7 x8 x11 x19 x20 x23 x217 x218 x219) (Zaa.L0_lim x1 x5 x6 x7 x8 x11 x19 x20 x23 x217 x218 x219) (fun _ => rfl) (by
  simp only [Zaa.l0]
  repeat' (first | (with_reducible first | exact Lim.const _ | exact Zaa.J2_lim _ _ _ _ _ _ _ _ _ | exact Zaa.L0_lim _ _ _ _ _ _ _ _ _ _ _ _ | refine Lim.ite ?_ ?_ | refine Lim.bind ?_ (fun _ => ?_))))
theorem Zaa.F_eq (l0 : List Int) (l1 : List Int) : Zaa.F l0 l1 = ((Zby.f l0 l1).bind fun t339 => (if t339 = true then (some true) else ((Zbe.F l0).bind fun bt340 => ((Zat.F bt340.1 bt340.2).bind fun bt346 => ((Zbj.F bt340.1 bt340.2).bind fun bt348 => ((Zbc.F bt340.1 bt340.2).bind fun bt350 => ((Zbi.F bt340.1 bt340.2).bind fun bt354 => ((Zbn.F bt340.1 bt340.2).bind fun bt358 => ((Zbm.F bt340.1 bt340.2).bind fun bt360 => ((Zad.F bt340.1 bt340.2).bind fun bt362 => ((Zaf.F bt340.1 bt340.2).bind fun bt364 => ((Zap.F bt340.1).bind fun bt366 => ((Zao.F bt340.1).bind fun bt370 => (if (bt346.2 != bt348.2) = true then (Zaa.J0 l1 bt340.1 bt340.2 bt346.1 bt346.2 bt350.1 bt362.1 bt362.2 bt366.1 bt366.2 true) else (if (bt346.1 != bt348.1) = true then (Zaa.J0 l1 bt340.1 bt340.2 bt346.1 bt346.2 bt350.1 bt362.1 bt362.2 bt366.1 bt366.2 true) else (if (bt350.2 != bt354.2) = true then (Zaa.J0 l1 bt340.1 bt340.2 bt346.1 bt346.2 bt350.1 bt362.1 bt362.2 bt366.1 bt366.2 true) else ((Zaq.F bt350.1 bt354.1).bind fun t374 => (if t374 = true then (if (bt358.2 != bt360.2) = true then (Zaa.J0 l1 bt340.1 bt340.2 bt346.1 bt346.2 bt350.1 bt362.1 bt362.2 bt366.1 bt366.2 true) else (if (bt358.1 != bt360.1) = true then (Zaa.J0 l1 bt340.1 bt340.2 bt346.1 bt346.2 bt350.1 bt362.1 bt362.2 bt366.1 bt366.2 true) else (if (bt362.2 != bt364.2) = true then (Zaa.J0 l1 bt340.1 bt340.2 bt346.1 bt346.2 bt350.1 bt362.1 bt362.2 bt366.1 bt366.2 true) else (if bt362.1 = bt364.1 then (if (bt366.2 != bt370.2) = true then (Zaa.J0 l1 bt340.1 bt340.2 bt346.1 bt346.2 bt350.1 bt362.1 bt362.2 bt366.1 bt366.2 true) else ((Zaw.F bt366.1 bt370.1).bind fun t375 => (if t375 = true then ((Zae.F bt340.1).bind fun t376 => (if (bt358.2 != t376) = true then (Zaa.J0 l1 bt340.1 bt340.2 bt346.1 bt346.2 bt350.1 bt362.1 bt362.2 bt366.1 bt366.2 true) else ((Zae.F bt340.1).bind fun t377 => ((Zbq.F bt340.1).bind fun t378 => (if (t377 != t378) = true then (Zaa.J0 l1 bt340.1 bt340.2 bt346.1 bt346.2 bt350.1 bt362.1 bt362.2 bt366.1 bt366.2 true) else (if bt358.2 = true then (if (bt346.2 != bt358.1) = true then (Zaa.J0 l1 bt340.1 bt340.2 bt346.1 bt346.2 bt350.1 bt362.1 bt362.2 bt366.1 bt366.2 true) else (if (bt350.2 != bt346.2) = true then (Zaa.J0 l1 bt340.1 bt340.2 bt346.1 bt346.2 bt350.1 bt362.1 bt362.2 bt366.1 bt366.2 true) else (if (bt366.2 != bt358.2) = true then (Zaa.J0 l1 bt340.1 bt340.2 bt346.1 bt346.2 bt350.1 bt362.1 bt362.2 bt366.1 bt366.2 true) else (if bt362.2 = true then (if bt346.2 = true then (Zaa.J0 l1 bt340.1 bt340.2 bt346.1 bt346.2 bt350.1 bt362.1 bt362.2 bt366.1 bt366.2 (!bt346.1)) else (Zaa.J0 l1 bt340.1 bt340.2 bt346.1 bt346.2 bt350.1 bt362.1 bt362.2 bt366.1 bt366.2 (!false))) else (Zaa.J0 l1 bt340.1 bt340.2 bt346.1 bt346.2 bt350.1 bt362.1 bt362.2 bt366.1 bt366.2 false))))) else (if (bt346.2 != false) = true then (Zaa.J0 l1 bt340.1 bt340.2 bt346.1 bt346.2 bt350.1 bt362.1 bt362.2 bt366.1 bt366.2 true) else (if (bt350.2 != bt346.2) = true then (Zaa.J0 l1 bt340.1 bt340.2 bt346.1 bt346.2 bt350.1 bt362.1 bt362.2 bt366.1 bt366.2 true) else (if (bt366.2 != bt358.2) = true then (Zaa.J0 l1 bt340.1 bt340.2 bt346.1 bt346.2 bt350.1 bt362.1 bt362.2 bt366.1 bt366.2 true) else (if bt362.2 = true then (if bt346.2 = true then (Zaa.J0 l1 bt340.1 bt340.2 bt346.1 bt346.2 bt350.1 bt362.1 bt362.2 bt366.1 bt366.2 (!bt346.1)) else (Zaa.J0 l1 bt340.1 bt340.2 bt346.1 bt346.2 bt350.1 bt362.1 bt362.2 bt366.1 bt366.2 (!false))) else (Zaa.J0 l1 bt340.1 bt340.2 bt346.1 bt346.2 bt350.1 bt362.1 bt362.2 bt366.1 bt366.2 false))))))))))) else (Zaa.J0 l1 bt340.1 bt340.2 bt346.1 bt346.2 bt350.1 bt362.1 bt362.2 bt366.1 bt366.2 true)))) else (Zaa.J0 l1 bt340.1 bt340.2 bt346.1 bt346.2 bt350.1 bt362.1 bt362.2 bt366.1 bt366.2 true))))) else (Zaa.J0 l1 bt340.1 bt340.2 bt346.1 bt346.2 bt350.1 bt362.1 bt362.2 bt366.1 bt366.2 true))))))))))))))))))) :=
 Lim.unique (Zaa.F_lim l0 l1) (by
  unfold Zaa.f
  repeat' (first | (with_reducible first | exact Lim.const _ | exact Zbc.F_lim _ _ | exact Zap.F_lim _ | exact Zat.F_lim _ _ | exact Zad.F_lim _ _ | exact Zbn.F_lim _ _ | exact Zae.F_lim _ | exact Zaa.J0_lim _ _ _ _ _ _ _ _ _ _ _ | exact Zaw.F_lim _ _ | exact Zaq.F_lim _ _ | exact Zbe.F_lim _ | exact Zbi.F_lim _ _ | exact Zao.F_lim _ | exact Zbj.F_lim _ _ | exact Zaf.F_lim _ _ | exact Zbm.F_lim _ _ | exact Zbq.F_lim _ | refine Lim.ite ?_ ?_ | refine Lim.bind ?_ (fun _ => ?_))))
end Go.Proofs.Ytnhnpplccfojeaa.Fn
