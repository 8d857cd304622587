/- The machine's side and plain lemmas for FnExactSpreadRow: texts of this session, merged by its program (part 1). -/
import Derived.Lib.SliceRun
import Derived.Test.YtmhcgihkijiecaaMFnExactSpreadRow0
namespace Go.Proofs.Ytmhcgihkijiecaa.Fn
open Go.RowKit Go.Proofs.YtmhcgihkijiecaaW.PrintWords Go.Proofs.YtmhcgihkijiecaaW.PrintLast Go.Proofs.YtmhcgihkijiecaaW.PrintMore
attribute [local go_sem] max2_int min2_int max_two min_two max_three min_three max_four min_four   -- for this text's walks alone
set_option linter.unusedVariables false
set_option linter.unusedSimpArgs false

/-! ### impl_SpreadRow: function 35 -/
mutual
def impl_SpreadRow.j0 : Nat → List Int → Int → Bool → Option (List Int × Bool)
  | 0, _, _, _ => none
  | k + 1, x0, x1, x19 => if x19 = true then (some (([] : List Int), false)) else (impl_SpreadRow.l0 k x1 ([] : List Int) x0 (x0.length : Int) 0)
def impl_SpreadRow.l0 : Nat → Int → List Int → List Int → Int → Int → Option (List Int × Bool)
  | 0, _, _, _, _, _ => none
  | k + 1, x1, x6, x20, x21, x22 => if x22 < x21 then (if 0 ≤ x22 then (if x22 < (x20.length : Int) then (if x22 > 0 then (if 0 ≤ (wrap64 (x1 - 1)) then (if x6.length + (wrap64 (x1 - 1) : Int).toNat < 17592186044416 then ((some (x6 ++ List.replicate (wrap64 (x1 - 1) : Int).toNat 0 : List Int)).bind fun y314 => (if y314.length < 17592186044416 then (impl_SpreadRow.l0 k x1 (y314 ++ [wrap64 ((rd x20 x22) * x1)]) x20 x21 (wrap64 (x22 + 1))) else (none))) else (none)) else (none)) else (if x6.length < 17592186044416 then (impl_SpreadRow.l0 k x1 (x6 ++ [wrap64 ((rd x20 x22) * x1)]) x20 x21 (wrap64 (x22 + 1))) else (none))) else (none)) else (none)) else ((impl_madeRow.f k x6).bind fun bt323 => (some (bt323.1, bt323.2)))
end
def impl_SpreadRow.f (k : Nat) (l0 : List Int) (a1 : Int) : Option (List Int × Bool) := (impl_fits.f k l0 0).bind fun t312 => (if t312 = true then (if a1 < 1 then (impl_SpreadRow.j0 k l0 a1 true) else (impl_SpreadRow.j0 k l0 a1 (decide (a1 > 10)))) else (impl_SpreadRow.j0 k l0 a1 true))
theorem impl_SpreadRow.mono_l : ∀ k, (∀ y0 y1 y2, LeO (impl_SpreadRow.j0 k y0 y1 y2) (impl_SpreadRow.j0 (k + 1) y0 y1 y2)) ∧ (∀ y0 y1 y2 y3 y4, LeO (impl_SpreadRow.l0 k y0 y1 y2 y3 y4) (impl_SpreadRow.l0 (k + 1) y0 y1 y2 y3 y4))
  | 0 => ⟨fun _ _ _ r h => by simp [impl_SpreadRow.j0] at h, fun _ _ _ _ _ r h => by simp [impl_SpreadRow.l0] at h⟩
  | k + 1 => by
    obtain ⟨ih0, ih1⟩ := impl_SpreadRow.mono_l k
    refine ⟨?_, ?_⟩
    · intro y0 y1 y2
      unfold impl_SpreadRow.j0
      repeat' first
      | (with_reducible exact ih0 _ _ _)
      | (with_reducible exact ih1 _ _ _ _ _)
      | (with_reducible exact impl_fits.mono _ _ _)
      | (with_reducible exact impl_madeRow.mono _ _)
      | (with_reducible exact LeO.refl _)
      | (with_reducible exact LeO.none _)
      | (with_reducible refine LeO.ite ?_ ?_)
      | (with_reducible refine LeO.bind ?_ (fun _ => ?_))
      | exact ih0 _ _ _
      | exact ih1 _ _ _ _ _
      | exact impl_fits.mono _ _ _
      | exact impl_madeRow.mono _ _
      | exact LeO.none _
      | refine LeO.ite ?_ ?_
      | refine LeO.bind ?_ (fun _ => ?_)
    · intro y0 y1 y2 y3 y4
      unfold impl_SpreadRow.l0
      repeat' first
      | (with_reducible exact ih0 _ _ _)
      | (with_reducible exact ih1 _ _ _ _ _)
      | (with_reducible exact impl_fits.mono _ _ _)
      | (with_reducible exact impl_madeRow.mono _ _)
      | (with_reducible exact LeO.refl _)
      | (with_reducible exact LeO.none _)
      | (with_reducible refine LeO.ite ?_ ?_)
      | (with_reducible refine LeO.bind ?_ (fun _ => ?_))
      | exact ih0 _ _ _
      | exact ih1 _ _ _ _ _
      | exact impl_fits.mono _ _ _
      | exact impl_madeRow.mono _ _
      | exact LeO.none _
      | refine LeO.ite ?_ ?_
      | refine LeO.bind ?_ (fun _ => ?_)
theorem impl_SpreadRow.mono : ∀ a0 a1 k, LeO (impl_SpreadRow.f k a0 a1) (impl_SpreadRow.f (k + 1) a0 a1) := by
  intro a0 a1 k
  obtain ⟨ih0, ih1⟩ := impl_SpreadRow.mono_l k
  unfold impl_SpreadRow.f
  repeat' first
      | (with_reducible exact ih0 _ _ _)
      | (with_reducible exact ih1 _ _ _ _ _)
      | (with_reducible exact impl_fits.mono _ _ _)
      | (with_reducible exact impl_madeRow.mono _ _)
      | (with_reducible exact LeO.refl _)
      | (with_reducible exact LeO.none _)
      | (with_reducible refine LeO.ite ?_ ?_)
      | (with_reducible refine LeO.bind ?_ (fun _ => ?_))
      | exact ih0 _ _ _
      | exact ih1 _ _ _ _ _
      | exact impl_fits.mono _ _ _
      | exact impl_madeRow.mono _ _
      | exact LeO.none _
      | refine LeO.ite ?_ ?_
      | refine LeO.bind ?_ (fun _ => ?_)
set_option maxHeartbeats 8000000 in
set_option maxRecDepth 100000 in
theorem impl_SpreadRow.calls (k : Nat) (A0 : Option Addr) (c0 : Nat) (l0 : List Int) (a1 : Int) (r1 : List Int) (r2 : Bool) (w : World) (hr0 : Kd.C (Kd.int .i64) w A0 l0.length l0) (hc0 : l0.length ≤ c0) (h : impl_SpreadRow.f k l0 a1 = some (r1, r2)) :
    Calls Try.prog 35 #[.slice A0 l0.length c0, .int .i64 a1] w fun e w' => ∃ v0_ : Value, e = .returned (.tuple #[v0_, .bool r2]) ∧ Kd.R (Kd.int .i64) 3 w' w.heap.size (fun _ => True) v0_ r1 ∧ Below w.heap.size w w' := by
  have HR0 := Aside0.mk hr0
  have HC0 := Aside0.mk hc0
  clear hr0 hc0
  have HB := Aside0.mk (Below.refl w.heap.size w)
  have H : ((impl_fits.f k l0 0).bind fun t312 => (if t312 = true then (if a1 < 1 then (impl_SpreadRow.j0 k l0 a1 true) else (impl_SpreadRow.j0 k l0 a1 (decide (a1 > 10)))) else (impl_SpreadRow.j0 k l0 a1 true))) = some (r1, r2) := h
  clear h
  have HC3 := Aside0.mk H
  clear H
  go_enter Try.func35, Try.ntmps35
  go_upto_region 1 with (fail)
  go_cut [19] (fun v19 wc => ∃ (kq : Nat) (x19_2 : Bool), v19 = .bool x19_2 ∧ Aside0 (impl_SpreadRow.j0 kq l0 a1 x19_2 = some (r1, r2)) ∧ Aside0 (kq ≤ k) ∧ Aside0 (Below w.heap.size w wc))
  case first =>
    have H := HC3.out
    clear HC3
    replace H := Option.bind_eq_some_iff.mp H
    obtain ⟨t312, A40, H⟩ := H
    replace H : (if t312 = true then (if a1 < 1 then (impl_SpreadRow.j0 k l0 a1 true) else (impl_SpreadRow.j0 k l0 a1 (decide (a1 > 10)))) else (impl_SpreadRow.j0 k l0 a1 true)) = some (r1, r2) := H
    have A4 := Aside0.mk A40
    clear A40
    by_cases c5 : t312 = true
    · subst c5
      have H1 : (if a1 < 1 then (impl_SpreadRow.j0 k l0 a1 true) else (impl_SpreadRow.j0 k l0 a1 (decide (a1 > 10)))) = some (r1, r2) := by rw [if_pos rfl] at H; exact H
      clear H
      have H := H1
      clear H1
      by_cases c6 : a1 < 1
      · rw [if_pos c6] at H
        have c6b0 : decide (a1 < 1) = true := decide_eq_true c6
        clear c6
        (first | rw [c6b0] | (simp only [i64_w, i32_w]; rw [c6b0]) | skip)
        have H' := Aside0.mk H
        clear H
        go_wp2_with (first | ((with_reducible refine gate_callee (f := 63) rfl ?_); refine goesL_ (some 10) rfl rfl Try.func63 (by kernel_rfl) rfl #[.slice A0 l0.length c0, .int .i64 0] rfl (by (try simp only [List.map_toArray, List.map_cons, List.map_nil]); first | done | rfl | (simp only [List.length_drop, List.length_take]; rfl)) ?_; (with_reducible refine (impl_fits.calls k _ _ l0 0 true _ ?side1 ?side2 A4.out).mono ?_); (case side1 => repeat (first | exact (Kd.C_below HR0.out HB.out) | (with_reducible refine Kd.C_alloc ?_ _) | (with_reducible refine Kd.C_drewN ?_ _) | (with_reducible refine Kd.C_drew ?_))); (case side2 => exact HC0.out); rintro e w7 ⟨rfl, hb⟩; refine ⟨_, rfl, ?_⟩; have n0_ := Aside0.mk (below_step (by repeat (first | (with_reducible first | exact HB.out | apply below_alloc | apply pw_below_drewN | apply below_drew1) | exact HB.out)) hb); clear HB; have HB := n0_; clear n0_; (try clear hb); (try clear hb2); (try clear hk); (try clear hi)))
        go_meet
        case rel => exact ⟨_, (true), (by first | rfl | (simp; done) | (simp [*]; done)), H', ⟨by first | omega | exact Nat.le_refl _⟩, ⟨by repeat (first | (with_reducible first | exact HB.out | apply below_alloc | apply pw_below_drewN | apply below_drew1) | exact HB.out)⟩⟩
      · rw [if_neg c6] at H
        have c6b0 : decide (a1 < 1) = false := decide_eq_false c6
        clear c6
        (first | rw [c6b0] | (simp only [i64_w, i32_w]; rw [c6b0]) | skip)
        have H' := Aside0.mk H
        clear H
        go_wp2_with (first | ((with_reducible refine gate_callee (f := 63) rfl ?_); refine goesL_ (some 10) rfl rfl Try.func63 (by kernel_rfl) rfl #[.slice A0 l0.length c0, .int .i64 0] rfl (by (try simp only [List.map_toArray, List.map_cons, List.map_nil]); first | done | rfl | (simp only [List.length_drop, List.length_take]; rfl)) ?_; (with_reducible refine (impl_fits.calls k _ _ l0 0 true _ ?side1 ?side2 A4.out).mono ?_); (case side1 => repeat (first | exact (Kd.C_below HR0.out HB.out) | (with_reducible refine Kd.C_alloc ?_ _) | (with_reducible refine Kd.C_drewN ?_ _) | (with_reducible refine Kd.C_drew ?_))); (case side2 => exact HC0.out); rintro e w8 ⟨rfl, hb⟩; refine ⟨_, rfl, ?_⟩; have n0_ := Aside0.mk (below_step (by repeat (first | (with_reducible first | exact HB.out | apply below_alloc | apply pw_below_drewN | apply below_drew1) | exact HB.out)) hb); clear HB; have HB := n0_; clear n0_; (try clear hb); (try clear hb2); (try clear hk); (try clear hi)))
        go_meet
        case rel => exact ⟨_, (decide (a1 > 10)), (by first | rfl | (simp; done) | (simp [*]; done)), H', ⟨by first | omega | exact Nat.le_refl _⟩, ⟨by repeat (first | (with_reducible first | exact HB.out | apply below_alloc | apply pw_below_drewN | apply below_drew1) | exact HB.out)⟩⟩
    · replace c5 := Bool.eq_false_iff.mpr c5
      subst c5
      have H1 : (impl_SpreadRow.j0 k l0 a1 true) = some (r1, r2) := by rw [if_neg (show ¬ (false = true) by decide)] at H; exact H
      clear H
      have H := H1
      clear H1
      have H' := Aside0.mk H
      clear H
      go_wp2_with (first | ((with_reducible refine gate_callee (f := 63) rfl ?_); refine goesL_ (some 10) rfl rfl Try.func63 (by kernel_rfl) rfl #[.slice A0 l0.length c0, .int .i64 0] rfl (by (try simp only [List.map_toArray, List.map_cons, List.map_nil]); first | done | rfl | (simp only [List.length_drop, List.length_take]; rfl)) ?_; (with_reducible refine (impl_fits.calls k _ _ l0 0 false _ ?side1 ?side2 A4.out).mono ?_); (case side1 => repeat (first | exact (Kd.C_below HR0.out HB.out) | (with_reducible refine Kd.C_alloc ?_ _) | (with_reducible refine Kd.C_drewN ?_ _) | (with_reducible refine Kd.C_drew ?_))); (case side2 => exact HC0.out); rintro e w9 ⟨rfl, hb⟩; refine ⟨_, rfl, ?_⟩; have n0_ := Aside0.mk (below_step (by repeat (first | (with_reducible first | exact HB.out | apply below_alloc | apply pw_below_drewN | apply below_drew1) | exact HB.out)) hb); clear HB; have HB := n0_; clear n0_; (try clear hb); (try clear hb2); (try clear hk); (try clear hi)))
      go_meet
      case rel => exact ⟨_, (true), (by first | rfl | (simp; done) | (simp [*]; done)), H', ⟨by first | omega | exact Nat.le_refl _⟩, ⟨by repeat (first | (with_reducible first | exact HB.out | apply below_alloc | apply pw_below_drewN | apply below_drew1) | exact HB.out)⟩⟩
  case rest =>
    clear HC3
    try clear p2
    try clear c3
    try clear c5
    try clear c6
    try clear c6b0
    obtain ⟨kq, x19_2, rfl, HA, HJ2, HB⟩ := hcut
    cases kq with
    | zero => exact absurd HA.out (by simp [impl_SpreadRow.j0])
    | succ kj2 =>
      have H := HA.out
      clear HA
      simp only [impl_SpreadRow.j0] at H
      by_cases c10 : x19_2 = true
      · subst c10
        have H1 : (some (([] : List Int), false)) = some (r1, r2) := by rw [if_pos rfl] at H; exact H
        clear H
        have H := H1
        clear H1
        simp only [Option.some.injEq, Prod.mk.injEq] at H
        obtain ⟨rfl, rfl⟩ := H
        go_wp2
        go_ret2
        exact ⟨_, by first | rfl | (simp [errW_none, errW_some] <;> rfl) | (simp [*, errW_none, errW_some] <;> rfl), by first | exact Kd.R_nil _ _ _ _ _ | exact Kd.N_nil _ _ _ _ _ | exact Kd.V_nil _ _ _ _ _ | exact Kd.Q_nil _ _ _ _ _ | exact Kd.S_nil _ _ _ _ _, by repeat (first | (with_reducible first | exact HB.out | apply below_alloc | apply pw_below_drewN | apply below_drew1) | exact HB.out)⟩
      · replace c10 := Bool.eq_false_iff.mpr c10
        subst c10
        have H1 : (impl_SpreadRow.l0 kj2 a1 ([] : List Int) l0 (l0.length : Int) 0) = some (r1, r2) := by rw [if_neg (show ¬ (false = true) by decide)] at H; exact H
        clear H
        have H := H1
        clear H1
        have H' := Aside0.mk H
        clear H
        go_wp2
        go_loopg [6, 22] kj2 (fun kq v6 v22 w' => ∃ (x6_2 : List Int) (x22_2 : Int), v22 = .int .i64 x22_2 ∧ Aside0 (impl_SpreadRow.l0 kq a1 x6_2 l0 (l0.length : Int) x22_2 = some (r1, r2)) ∧ Aside0 (kq ≤ kj2) ∧ Aside0 (Kd.R (Kd.int .i64) 3 w' w.heap.size (fun _ => True) v6 x6_2) ∧ Aside0 (Below w.heap.size w w'))
        case atStart => exact ⟨(([] : List Int)), (0), (by first | rfl | (simp; done) | (simp [*]; done)), H', ⟨Nat.le_refl _⟩, ⟨by first | exact Kd.R_nil _ _ _ _ _ | exact Kd.N_nil _ _ _ _ _ | exact Kd.V_nil _ _ _ _ _ | exact Kd.Q_nil _ _ _ _ _ | exact Kd.S_nil _ _ _ _ _⟩, ⟨by repeat (first | (with_reducible first | exact HB.out | apply below_alloc | apply pw_below_drewN | apply below_drew1) | exact HB.out)⟩⟩
        case round =>
          clear H'
          try clear c1
          try clear p2
          try clear c3
          try clear c5
          try clear c6
          try clear c6b0
          try clear c10
          try clear p2
          obtain ⟨x6_2, x22_2, rfl, HA, HK2, HO_6, HB⟩ := hrel
          cases gk with
          | zero => exact absurd HA.out (by simp [impl_SpreadRow.l0])
          | succ k2 =>
            have H := HA.out
            clear HA
            simp only [impl_SpreadRow.l0] at H
            by_cases c11 : x22_2 < (l0.length : Int)
            · rw [if_pos c11] at H
              have c11b0 : decide (x22_2 < (l0.length : Int)) = true := decide_eq_true c11
              clear c11
              by_cases c12 : 0 ≤ x22_2
              · rw [if_pos c12] at H
                have c12b0 : decide (0 ≤ x22_2) = true := decide_eq_true c12
                clear c12
                by_cases c13 : x22_2 < (l0.length : Int)
                · rw [if_pos c13] at H
                  have c13b0 : decide (x22_2 < (l0.length : Int)) = true := decide_eq_true c13
                  clear c13
                  by_cases c14 : x22_2 > 0
                  · rw [if_pos c14] at H
                    have c14b0 : decide (0 < x22_2) = true := decide_eq_true c14
                    clear c14
                    obtain ⟨ji15, hji15⟩ : ∃ j_ : Int, (wrap64 (a1 - 1)) = j_ := ⟨_, rfl⟩
                    replace H : (if 0 ≤ (ji15) then (if x6_2.length + (ji15 : Int).toNat < 17592186044416 then ((some (x6_2 ++ List.replicate (ji15 : Int).toNat 0 : List Int)).bind fun y314 => (if y314.length < 17592186044416 then (impl_SpreadRow.l0 k2 a1 (y314 ++ [wrap64 ((rd l0 x22_2) * a1)]) l0 (l0.length : Int) (wrap64 (x22_2 + 1))) else (none))) else (none)) else (none)) = some (r1, r2) := by first | (rw [hji15] at H; exact H) | (simp only [hji15] at H ⊢; exact H)
                    have hji15w : (IntKind.i64.wrap (a1 - 1)) = ji15 := (i64_w _).trans hji15
                    by_cases c16 : 0 ≤ (ji15)
                    · rw [if_pos c16] at H
                      have c16b0 := eq_true c16
                      have c16b1 : decide (0 ≤ (ji15)) = true := decide_eq_true c16
                      clear c16
                      by_cases c17 : x6_2.length + (ji15 : Int).toNat < 17592186044416
                      · rw [if_pos c17] at H
                        have LMc17 := Aside0.mk c17
                        clear c17
                        obtain ⟨y314, hy314⟩ : ∃ y_ : List Int, y_ = (x6_2 ++ List.replicate (ji15 : Int).toNat 0) := ⟨_, rfl⟩
                        replace H : (if y314.length < 17592186044416 then (impl_SpreadRow.l0 k2 a1 (y314 ++ [wrap64 ((rd l0 x22_2) * a1)]) l0 (l0.length : Int) (wrap64 (x22_2 + 1))) else (none)) = some (r1, r2) := by first | (rw [hy314]; with_reducible exact H) | (have H2_ := (Option.bind_some _ _).symm.trans H; rw [hy314]; with_reducible exact H2_) | (have H2_ := (Option.bind_some _ _).symm.trans H; with_reducible exact H2_) | with_reducible exact H | (rw [hy314]; exact H) | exact H
                        have Ny314 := Aside0.mk hy314
                        clear hy314
                        by_cases c18 : y314.length < 17592186044416
                        · rw [if_pos c18] at H
                          have LMc18 := Aside0.mk c18
                          clear c18
                          obtain ⟨y317, hy317⟩ : ∃ y_ : List Int, y_ = (y314 ++ [wrap64 ((rd l0 x22_2) * a1)]) := ⟨_, rfl⟩
                          replace H : (impl_SpreadRow.l0 k2 a1 y317 l0 (l0.length : Int) (wrap64 (x22_2 + 1))) = some (r1, r2) := by first | (rw [hy317]; with_reducible exact H) | (have H2_ := (Option.bind_some _ _).symm.trans H; rw [hy317]; with_reducible exact H2_) | (have H2_ := (Option.bind_some _ _).symm.trans H; with_reducible exact H2_) | with_reducible exact H | (rw [hy317]; exact H) | exact H
                          have Ny317 := Aside0.mk hy317
                          clear hy317
                          have H' := Aside0.mk H
                          clear H
                          have p313 : 0 ≤ (x22_2 : Int) := of_decide_eq_true (by first | (with_reducible assumption) | assumption)
                          have q313 : x22_2 < (l0.length : Int) := of_decide_eq_true (by first | (with_reducible assumption) | assumption)
                          obtain ⟨ad313, e313, hx313_0⟩ := Kd.at_int HR0.out x22_2 p313 q313
                          cases e313
                          replace hx313_0 := (HB.out.cell (World.block_lt_of_cell? w _ hx313_0)).trans hx313_0
                          replace p313 := eq_true p313
                          replace q313 := eq_true q313
                          go_wp2_with (first | (at_builtin; refine Kd.R_append_zeros (Kd.int .i64) (w0 := w) w.heap.size rfl (.tmp 29) (.tmp 31) 25 3 3 (.int .i64 0) 8 rfl Try.underlying25 Try.underlying3 info3 rfl (by decide) (by omega) u6 x6_2 0 (ji15 : Int) (fun _ => True) rfl rfl rfl ?aF ?aO (of_decide_eq_true (by first | (with_reducible assumption) | assumption)) ?aB ?aS ?aL ?_; (case aB => exact (by repeat (first | (with_reducible first | exact HB.out | apply below_alloc | apply pw_below_drewN | apply below_drew1) | exact HB.out))); (case aF => exact (fun _ _ => trivial)); (case aO => exact (by (with_reducible repeat (first | apply Kd.R_alloc | apply Kd.R_drewN | apply Kd.R_drew)); exact HO_6.out)); (case aS => exact (below_size (by repeat (first | (with_reducible first | exact HB.out | apply below_alloc | apply pw_below_drewN | apply below_drew1) | exact HB.out)))); (case aL => have := LMc17.out; omega); intro v315 w19 ho hb hg hat; rw [← Ny314.out] at ho; have n0_ := Aside0.mk (hb); have n1_ := Aside0.mk (ho); clear HB; clear HO_6; have HB := n0_; have HO316 := n1_; clear n0_ n1_; clear ho hb hg hat) | ((with_reducible refine gate_builtin (b := .append) (xs := #[.tmp 33, .tmp 37]) rfl ?_); at_builtin; refine Kd.R_append (Kd.int .i64) (w0 := w) w.heap.size rfl (.tmp 33) (.tmp 37) 25 3 (.int .i64 0) 8 rfl Try.underlying25 info3 rfl (by decide) (by omega) v315 y314 (wrap64 ((rd l0 x22_2) * a1)) [.int .i64 (wrap64 ((rd l0 x22_2) * a1))] (fun _ => True) (fun _ => False) rfl rfl ?aP (fun _ hk => hk.elim) ?aF ?aO ?aB ?aS ?aL ?_; (case aP => exact rfl); (case aB => exact (by repeat (first | (with_reducible first | exact HB.out | apply below_alloc | apply pw_below_drewN | apply below_drew1) | exact HB.out))); (case aF => exact (fun _ _ => trivial)); (case aO => exact (by (with_reducible repeat (first | apply Kd.R_alloc | apply Kd.R_drewN | apply Kd.R_drew)); exact HO316.out)); (case aS => exact (below_size (by repeat (first | (with_reducible first | exact HB.out | apply below_alloc | apply pw_below_drewN | apply below_drew1) | exact HB.out)))); (case aL => have := LMc18.out; omega); intro v318 w20 ho hb hg hat; rw [← Ny317.out] at ho; have n0_ := Aside0.mk (hb); have n1_ := Aside0.mk (ho); clear HB; clear HO316; have HB := n0_; have HO319 := n1_; clear n0_ n1_; clear ho hb hg hat))
                          go_roundg k2
                          case measure => have := HJ2.out; have := HK2.out; omega
                          case rel => exact ⟨(y317), (wrap64 (x22_2 + 1)), (by first | rfl | (simp; done) | (simp [*]; done)), H', ⟨by have := HJ2.out; have := HK2.out; omega⟩, ⟨by (with_reducible repeat (first | apply Kd.R_alloc | apply Kd.R_drewN | apply Kd.R_drew)); exact HO319.out⟩, ⟨by repeat (first | (with_reducible first | exact HB.out | apply below_alloc | apply pw_below_drewN | apply below_drew1) | exact HB.out)⟩⟩
                        · rw [if_neg c18] at H
                          exact absurd H (by simp)
                      · rw [if_neg c17] at H
                        exact absurd H (by simp)
                    · rw [if_neg c16] at H
                      exact absurd H (by simp)
                  · rw [if_neg c14] at H
                    have c14b0 : decide (0 < x22_2) = false := decide_eq_false c14
                    clear c14
                    by_cases c21 : x6_2.length < 17592186044416
                    · rw [if_pos c21] at H
                      have LMc21 := Aside0.mk c21
                      clear c21
                      obtain ⟨y320, hy320⟩ : ∃ y_ : List Int, y_ = (x6_2 ++ [wrap64 ((rd l0 x22_2) * a1)]) := ⟨_, rfl⟩
                      replace H : (impl_SpreadRow.l0 k2 a1 y320 l0 (l0.length : Int) (wrap64 (x22_2 + 1))) = some (r1, r2) := by first | (rw [hy320]; with_reducible exact H) | (have H2_ := (Option.bind_some _ _).symm.trans H; rw [hy320]; with_reducible exact H2_) | (have H2_ := (Option.bind_some _ _).symm.trans H; with_reducible exact H2_) | with_reducible exact H | (rw [hy320]; exact H) | exact H
                      have Ny320 := Aside0.mk hy320
                      clear hy320
                      have H' := Aside0.mk H
                      clear H
                      have p313 : 0 ≤ (x22_2 : Int) := of_decide_eq_true (by first | (with_reducible assumption) | assumption)
                      have q313 : x22_2 < (l0.length : Int) := of_decide_eq_true (by first | (with_reducible assumption) | assumption)
                      obtain ⟨ad313, e313, hx313_0⟩ := Kd.at_int HR0.out x22_2 p313 q313
                      cases e313
                      replace hx313_0 := (HB.out.cell (World.block_lt_of_cell? w _ hx313_0)).trans hx313_0
                      replace p313 := eq_true p313
                      replace q313 := eq_true q313
                      go_wp2_with (first | ((with_reducible refine gate_builtin (b := .append) (xs := #[.tmp 33, .tmp 37]) rfl ?_); at_builtin; refine Kd.R_append (Kd.int .i64) (w0 := w) w.heap.size rfl (.tmp 33) (.tmp 37) 25 3 (.int .i64 0) 8 rfl Try.underlying25 info3 rfl (by decide) (by omega) u6 x6_2 (wrap64 ((rd l0 x22_2) * a1)) [.int .i64 (wrap64 ((rd l0 x22_2) * a1))] (fun _ => True) (fun _ => False) rfl rfl ?aP (fun _ hk => hk.elim) ?aF ?aO ?aB ?aS ?aL ?_; (case aP => exact rfl); (case aB => exact (by repeat (first | (with_reducible first | exact HB.out | apply below_alloc | apply pw_below_drewN | apply below_drew1) | exact HB.out))); (case aF => exact (fun _ _ => trivial)); (case aO => exact (by (with_reducible repeat (first | apply Kd.R_alloc | apply Kd.R_drewN | apply Kd.R_drew)); exact HO_6.out)); (case aS => exact (below_size (by repeat (first | (with_reducible first | exact HB.out | apply below_alloc | apply pw_below_drewN | apply below_drew1) | exact HB.out)))); (case aL => have := LMc21.out; omega); intro v321 w22 ho hb hg hat; rw [← Ny320.out] at ho; have n0_ := Aside0.mk (hb); have n1_ := Aside0.mk (ho); clear HB; clear HO_6; have HB := n0_; have HO322 := n1_; clear n0_ n1_; clear ho hb hg hat))
                      go_roundg k2
                      case measure => have := HJ2.out; have := HK2.out; omega
                      case rel => exact ⟨(y320), (wrap64 (x22_2 + 1)), (by first | rfl | (simp; done) | (simp [*]; done)), H', ⟨by have := HJ2.out; have := HK2.out; omega⟩, ⟨by (with_reducible repeat (first | apply Kd.R_alloc | apply Kd.R_drewN | apply Kd.R_drew)); exact HO322.out⟩, ⟨by repeat (first | (with_reducible first | exact HB.out | apply below_alloc | apply pw_below_drewN | apply below_drew1) | exact HB.out)⟩⟩
                    · rw [if_neg c21] at H
                      exact absurd H (by simp)
                · rw [if_neg c13] at H
                  exact absurd H (by simp)
              · rw [if_neg c12] at H
                exact absurd H (by simp)
            · rw [if_neg c11] at H
              have c11b0 : decide (x22_2 < (l0.length : Int)) = false := decide_eq_false c11
              clear c11
              replace H := Option.bind_eq_some_iff.mp H
              obtain ⟨⟨t323, t326⟩, A230, H⟩ := H
              replace H : (some (t323, t326)) = some (r1, r2) := H
              have A23 := Aside0.mk A230
              clear A230
              simp only [Option.some.injEq, Prod.mk.injEq] at H
              obtain ⟨rfl, rfl⟩ := H
              obtain ⟨Ao24, co24, eo24⟩ := Kd.R_slice HO_6.out
              subst eo24
              go_wp2_with (first | ((with_reducible refine gate_callee (f := 52) rfl ?_); refine goesL_ (some 41) rfl rfl Try.func52 (by kernel_rfl) rfl #[.slice Ao24 x6_2.length co24] rfl (by (try simp only [List.map_toArray, List.map_cons, List.map_nil]); first | done | rfl | (simp only [List.length_drop, List.length_take]; rfl)) ?_; (with_reducible refine (impl_madeRow.calls k2 (fun k_ => some k_ = (.slice Ao24 x6_2.length co24 : Value).ownBlock) (.slice Ao24 x6_2.length co24) x6_2 t323 t326 w _ ?side1 ?side2 A23.out).mono ?_); (case side1 => repeat (first | (with_reducible first | exact HB.out | apply below_alloc | apply pw_below_drewN | apply below_drew1) | exact HB.out)); (case side2 => exact Kd.R_tight rfl HO_6.out); rintro e w25 ⟨v324, rfl, ho0, hb, hkp⟩; refine ⟨_, rfl, ?_⟩; have n0_ := Aside0.mk (Kd.R_mono (ok' := fun k_ => True) ho0 (fun k_ hk_ => trivial)); have n1_ := Aside0.mk (hb); clear HB; clear HO_6; have HO325 := n0_; have HB := n1_; clear n0_ n1_; (try clear hb); (try clear hkp); (try clear ho0)))
              go_ret2
              exact ⟨_, by first | rfl | (simp [errW_none, errW_some] <;> rfl) | (simp [*, errW_none, errW_some] <;> rfl), by (with_reducible repeat (first | apply Kd.R_alloc | apply Kd.R_drewN | apply Kd.R_drew)); exact HO325.out, by repeat (first | (with_reducible first | exact HB.out | apply below_alloc | apply pw_below_drewN | apply below_drew1) | exact HB.out)⟩

noncomputable def impl_SpreadRow.J0 (x0 : List Int) (x1 : Int) (x19 : Bool) : Option (List Int × Bool) := lim fun k => impl_SpreadRow.j0 k x0 x1 x19
theorem impl_SpreadRow.J0_lim (x0 : List Int) (x1 : Int) (x19 : Bool) : Lim (fun k => impl_SpreadRow.j0 k x0 x1 x19) (impl_SpreadRow.J0 x0 x1 x19) := Lim.of fun k => (impl_SpreadRow.mono_l k).1 x0 x1 x19
noncomputable def impl_SpreadRow.L0 (x1 : Int) (x6 : List Int) (x20 : List Int) (x21 : Int) (x22 : Int) : Option (List Int × Bool) := lim fun k => impl_SpreadRow.l0 k x1 x6 x20 x21 x22
theorem impl_SpreadRow.L0_lim (x1 : Int) (x6 : List Int) (x20 : List Int) (x21 : Int) (x22 : Int) : Lim (fun k => impl_SpreadRow.l0 k x1 x6 x20 x21 x22) (impl_SpreadRow.L0 x1 x6 x20 x21 x22) := Lim.of fun k => (impl_SpreadRow.mono_l k).2 x1 x6 x20 x21 x22
noncomputable def impl_SpreadRow.F (l0 : List Int) (a1 : Int) : Option (List Int × Bool) := lim fun k => impl_SpreadRow.f k l0 a1
theorem impl_SpreadRow.F_lim (l0 : List Int) (a1 : Int) : Lim (fun k => impl_SpreadRow.f k l0 a1) (impl_SpreadRow.F l0 a1) := Lim.of fun k => impl_SpreadRow.mono l0 a1 k
theorem impl_SpreadRow.J0_eq (x0 : List Int) (x1 : Int) (x19 : Bool) : impl_SpreadRow.J0 x0 x1 x19 = (if x19 = true then (some (([] : List Int), false)) else (impl_SpreadRow.L0 x1 ([] : List Int) x0 (x0.length : Int) 0)) :=
  Lim.step (f := fun k => (if x19 = true then (some (([] : List Int), false)) else (impl_SpreadRow.l0 k x1 ([] : List Int) x0 (x0.length : Int) 0))) (impl_SpreadRow.J0_lim x0 x1 x19) (fun k => by first | rfl | rw [impl_SpreadRow.j0]) (by
    repeat' first
    | (with_reducible exact Lim.const _)
    | (with_reducible exact impl_SpreadRow.L0_lim _ _ _ _ _)
    | (with_reducible refine Lim.ite ?_ ?_)
    | (with_reducible refine Lim.bind ?_ (fun _ => ?_)))
theorem impl_SpreadRow.L0_eq (x1 : Int) (x6 : List Int) (x20 : List Int) (x21 : Int) (x22 : Int) : impl_SpreadRow.L0 x1 x6 x20 x21 x22 = (if x22 < x21 then (if 0 ≤ x22 then (if x22 < (x20.length : Int) then (if x22 > 0 then (if 0 ≤ (wrap64 (x1 - 1)) then (if x6.length + (wrap64 (x1 - 1) : Int).toNat < 17592186044416 then ((some (x6 ++ List.replicate (wrap64 (x1 - 1) : Int).toNat 0 : List Int)).bind fun y314 => (if y314.length < 17592186044416 then (impl_SpreadRow.L0 x1 (y314 ++ [wrap64 ((rd x20 x22) * x1)]) x20 x21 (wrap64 (x22 + 1))) else (none))) else (none)) else (none)) else (if x6.length < 17592186044416 then (impl_SpreadRow.L0 x1 (x6 ++ [wrap64 ((rd x20 x22) * x1)]) x20 x21 (wrap64 (x22 + 1))) else (none))) else (none)) else (none)) else ((impl_madeRow.F x6).bind fun bt323 => (some (bt323.1, bt323.2)))) :=
  Lim.step (f := fun k => (if x22 < x21 then (if 0 ≤ x22 then (if x22 < (x20.length : Int) then (if x22 > 0 then (if 0 ≤ (wrap64 (x1 - 1)) then (if x6.length + (wrap64 (x1 - 1) : Int).toNat < 17592186044416 then ((some (x6 ++ List.replicate (wrap64 (x1 - 1) : Int).toNat 0 : List Int)).bind fun y314 => (if y314.length < 17592186044416 then (impl_SpreadRow.l0 k x1 (y314 ++ [wrap64 ((rd x20 x22) * x1)]) x20 x21 (wrap64 (x22 + 1))) else (none))) else (none)) else (none)) else (if x6.length < 17592186044416 then (impl_SpreadRow.l0 k x1 (x6 ++ [wrap64 ((rd x20 x22) * x1)]) x20 x21 (wrap64 (x22 + 1))) else (none))) else (none)) else (none)) else ((impl_madeRow.f k x6).bind fun bt323 => (some (bt323.1, bt323.2))))) (impl_SpreadRow.L0_lim x1 x6 x20 x21 x22) (fun k => by first | rfl | rw [impl_SpreadRow.l0]) (by
    repeat' first
    | (with_reducible exact Lim.const _)
    | (with_reducible exact impl_SpreadRow.L0_lim _ _ _ _ _)
    | (with_reducible exact impl_madeRow.F_lim _)
    | (with_reducible refine Lim.ite ?_ ?_)
    | (with_reducible refine Lim.bind ?_ (fun _ => ?_)))
theorem impl_SpreadRow.F_eq (l0 : List Int) (a1 : Int) : impl_SpreadRow.F l0 a1 = ((impl_fits.F l0 0).bind fun t312 => (if t312 = true then (if a1 < 1 then (impl_SpreadRow.J0 l0 a1 true) else (impl_SpreadRow.J0 l0 a1 (decide (a1 > 10)))) else (impl_SpreadRow.J0 l0 a1 true))) :=
  Lim.unique (impl_SpreadRow.F_lim l0 a1) (by
    unfold impl_SpreadRow.f
    repeat' first
    | (with_reducible exact Lim.const _)
    | (with_reducible exact impl_SpreadRow.J0_lim _ _ _)
    | (with_reducible exact impl_fits.F_lim _ _)
    | (with_reducible refine Lim.ite ?_ ?_)
    | (with_reducible refine Lim.bind ?_ (fun _ => ?_)))

end Go.Proofs.Ytmhcgihkijiecaa.Fn
namespace Go.Proofs.Ytmhcgihkijiecaa.Fn
open Go.RowKit Go.Proofs.YtmhcgihkijiecaaW.PrintWords Go.Proofs.YtmhcgihkijiecaaW.PrintLast Go.Proofs.YtmhcgihkijiecaaW.PrintMore
attribute [local go_sem] max2_int min2_int max_two min_two max_three min_three max_four min_four   -- for this text's walks alone
set_option linter.unusedVariables false
set_option linter.unusedSimpArgs false

/-! ### laws_FnExactSpreadRow: function 9 -/
mutual
def laws_FnExactSpreadRow.j0 : Nat → List Int → Int → List Int → Bool → List Int → List Int → Bool → Bool → Option (Bool)
  | 0, _, _, _, _, _, _, _, _ => none
  | k + 1, x0, x1, x5, x6, x7, x8, x9, x41 => if x41 = true then (some false) else ((laws_toIntS.f k x0).bind fun t342 => ((laws_eqIntS.f k x7 t342).bind fun t345 => (if t345 = true then ((laws_markIntS.f k x7 1).bind fun bt346 => (if bt346.1 < 0 then (laws_FnExactSpreadRow.j1 k x0 x1 x5 x6 x8 true) else ((laws_eqIntS.f k x8 x5).bind fun t348 => (if t348 = true then (laws_FnExactSpreadRow.j1 k x0 x1 x5 x6 x8 (x9 != x6)) else (laws_FnExactSpreadRow.j1 k x0 x1 x5 x6 x8 true))))) else (some false))))
def laws_FnExactSpreadRow.j1 : Nat → List Int → Int → List Int → Bool → List Int → Bool → Option (Bool)
  | 0, _, _, _, _, _, _ => none
  | k + 1, x0, x1, x5, x6, x8, x62 => if x62 = true then (some false) else ((laws_markIntS.f k x8 1).bind fun bt349 => ((laws_heldIntS.f k bt349.2 1).bind fun t351 => (if t351 < 0 then (some false) else (if t351 = bt349.1 then ((laws_toIntS.f k x0).bind fun t352 => ((impl_SpreadRow.f k t352 x1).bind fun bt355 => ((laws_eqIntS.f k bt355.1 x5).bind fun t359 => (if t359 = true then (laws_FnExactSpreadRow.j2 k bt349.2 bt349.1 (bt355.2 != x6)) else (laws_FnExactSpreadRow.j2 k bt349.2 bt349.1 true))))) else (some false)))))
def laws_FnExactSpreadRow.j2 : Nat → List Int → Int → Bool → Option (Bool)
  | 0, _, _, _ => none
  | k + 1, x8, x11, x89 => if x89 = true then (some false) else ((laws_heldIntS.f k x8 1).bind fun t360 => (if t360 < 0 then (some false) else (if t360 = x11 then (some true) else (some false))))
end
def laws_FnExactSpreadRow.f (k : Nat) (l0 : List Int) (a1 : Int) : Option (Bool) := if (l0.length : Int) > 1048576 then (some true) else ((laws_toIntS.f k l0).bind fun t327 => ((spec_SpreadRow.f k t327 a1).bind fun bt330 => ((laws_toIntS.f k l0).bind fun t334 => ((impl_SpreadRow.f k t334 a1).bind fun bt337 => ((laws_eqIntS.f k bt337.1 bt330.1).bind fun t341 => (if t341 = true then (laws_FnExactSpreadRow.j0 k l0 a1 bt330.1 bt330.2 t334 bt337.1 bt337.2 (bt337.2 != bt330.2)) else (laws_FnExactSpreadRow.j0 k l0 a1 bt330.1 bt330.2 t334 bt337.1 bt337.2 true)))))))
theorem laws_FnExactSpreadRow.mono_l : ∀ k, (∀ y0 y1 y2 y3 y4 y5 y6 y7, LeO (laws_FnExactSpreadRow.j0 k y0 y1 y2 y3 y4 y5 y6 y7) (laws_FnExactSpreadRow.j0 (k + 1) y0 y1 y2 y3 y4 y5 y6 y7)) ∧ (∀ y0 y1 y2 y3 y4 y5, LeO (laws_FnExactSpreadRow.j1 k y0 y1 y2 y3 y4 y5) (laws_FnExactSpreadRow.j1 (k + 1) y0 y1 y2 y3 y4 y5)) ∧ (∀ y0 y1 y2, LeO (laws_FnExactSpreadRow.j2 k y0 y1 y2) (laws_FnExactSpreadRow.j2 (k + 1) y0 y1 y2))
  | 0 => ⟨fun _ _ _ _ _ _ _ _ r h => by simp [laws_FnExactSpreadRow.j0] at h, fun _ _ _ _ _ _ r h => by simp [laws_FnExactSpreadRow.j1] at h, fun _ _ _ r h => by simp [laws_FnExactSpreadRow.j2] at h⟩
  | k + 1 => by
    obtain ⟨ih0, ih1, ih2⟩ := laws_FnExactSpreadRow.mono_l k
    refine ⟨?_, ?_, ?_⟩
    · intro y0 y1 y2 y3 y4 y5 y6 y7
      unfold laws_FnExactSpreadRow.j0
      repeat' first
      | (with_reducible exact ih0 _ _ _ _ _ _ _ _)
      | (with_reducible exact ih1 _ _ _ _ _ _)
      | (with_reducible exact ih2 _ _ _)
      | (with_reducible exact impl_SpreadRow.mono _ _ _)
      | (with_reducible exact laws_eqIntS.mono _ _ _)
      | (with_reducible exact laws_heldIntS.mono _ _ _)
      | (with_reducible exact laws_markIntS.mono _ _ _)
      | (with_reducible exact laws_toIntS.mono _ _)
      | (with_reducible exact spec_SpreadRow.mono _ _ _)
      | (with_reducible exact LeO.refl _)
      | (with_reducible exact LeO.none _)
      | (with_reducible refine LeO.ite ?_ ?_)
      | (with_reducible refine LeO.bind ?_ (fun _ => ?_))
      | exact ih0 _ _ _ _ _ _ _ _
      | exact ih1 _ _ _ _ _ _
      | exact ih2 _ _ _
      | exact impl_SpreadRow.mono _ _ _
      | exact laws_eqIntS.mono _ _ _
      | exact laws_heldIntS.mono _ _ _
      | exact laws_markIntS.mono _ _ _
      | exact laws_toIntS.mono _ _
      | exact spec_SpreadRow.mono _ _ _
      | exact LeO.none _
      | refine LeO.ite ?_ ?_
      | refine LeO.bind ?_ (fun _ => ?_)
    · intro y0 y1 y2 y3 y4 y5
      unfold laws_FnExactSpreadRow.j1
      repeat' first
      | (with_reducible exact ih0 _ _ _ _ _ _ _ _)
      | (with_reducible exact ih1 _ _ _ _ _ _)
      | (with_reducible exact ih2 _ _ _)
      | (with_reducible exact impl_SpreadRow.mono _ _ _)
      | (with_reducible exact laws_eqIntS.mono _ _ _)
      | (with_reducible exact laws_heldIntS.mono _ _ _)
      | (with_reducible exact laws_markIntS.mono _ _ _)
      | (with_reducible exact laws_toIntS.mono _ _)
      | (with_reducible exact spec_SpreadRow.mono _ _ _)
      | (with_reducible exact LeO.refl _)
      | (with_reducible exact LeO.none _)
      | (with_reducible refine LeO.ite ?_ ?_)
      | (with_reducible refine LeO.bind ?_ (fun _ => ?_))
      | exact ih0 _ _ _ _ _ _ _ _
      | exact ih1 _ _ _ _ _ _
      | exact ih2 _ _ _
      | exact impl_SpreadRow.mono _ _ _
      | exact laws_eqIntS.mono _ _ _
      | exact laws_heldIntS.mono _ _ _
      | exact laws_markIntS.mono _ _ _
      | exact laws_toIntS.mono _ _
      | exact spec_SpreadRow.mono _ _ _
      | exact LeO.none _
      | refine LeO.ite ?_ ?_
      | refine LeO.bind ?_ (fun _ => ?_)
    · intro y0 y1 y2
      unfold laws_FnExactSpreadRow.j2
      repeat' first
      | (with_reducible exact ih0 _ _ _ _ _ _ _ _)
      | (with_reducible exact ih1 _ _ _ _ _ _)
      | (with_reducible exact ih2 _ _ _)
      | (with_reducible exact impl_SpreadRow.mono _ _ _)
      | (with_reducible exact laws_eqIntS.mono _ _ _)
      | (with_reducible exact laws_heldIntS.mono _ _ _)
      | (with_reducible exact laws_markIntS.mono _ _ _)
      | (with_reducible exact laws_toIntS.mono _ _)
      | (with_reducible exact spec_SpreadRow.mono _ _ _)
      | (with_reducible exact LeO.refl _)
      | (with_reducible exact LeO.none _)
      | (with_reducible refine LeO.ite ?_ ?_)
      | (with_reducible refine LeO.bind ?_ (fun _ => ?_))
      | exact ih0 _ _ _ _ _ _ _ _
      | exact ih1 _ _ _ _ _ _
      | exact ih2 _ _ _
      | exact impl_SpreadRow.mono _ _ _
      | exact laws_eqIntS.mono _ _ _
      | exact laws_heldIntS.mono _ _ _
      | exact laws_markIntS.mono _ _ _
      | exact laws_toIntS.mono _ _
      | exact spec_SpreadRow.mono _ _ _
      | exact LeO.none _
      | refine LeO.ite ?_ ?_
      | refine LeO.bind ?_ (fun _ => ?_)
theorem laws_FnExactSpreadRow.mono : ∀ a0 a1 k, LeO (laws_FnExactSpreadRow.f k a0 a1) (laws_FnExactSpreadRow.f (k + 1) a0 a1) := by
  intro a0 a1 k
  obtain ⟨ih0, ih1, ih2⟩ := laws_FnExactSpreadRow.mono_l k
  unfold laws_FnExactSpreadRow.f
  repeat' first
      | (with_reducible exact ih0 _ _ _ _ _ _ _ _)
      | (with_reducible exact ih1 _ _ _ _ _ _)
      | (with_reducible exact ih2 _ _ _)
      | (with_reducible exact impl_SpreadRow.mono _ _ _)
      | (with_reducible exact laws_eqIntS.mono _ _ _)
      | (with_reducible exact laws_heldIntS.mono _ _ _)
      | (with_reducible exact laws_markIntS.mono _ _ _)
      | (with_reducible exact laws_toIntS.mono _ _)
      | (with_reducible exact spec_SpreadRow.mono _ _ _)
      | (with_reducible exact LeO.refl _)
      | (with_reducible exact LeO.none _)
      | (with_reducible refine LeO.ite ?_ ?_)
      | (with_reducible refine LeO.bind ?_ (fun _ => ?_))
      | exact ih0 _ _ _ _ _ _ _ _
      | exact ih1 _ _ _ _ _ _
      | exact ih2 _ _ _
      | exact impl_SpreadRow.mono _ _ _
      | exact laws_eqIntS.mono _ _ _
      | exact laws_heldIntS.mono _ _ _
      | exact laws_markIntS.mono _ _ _
      | exact laws_toIntS.mono _ _
      | exact spec_SpreadRow.mono _ _ _
      | exact LeO.none _
      | refine LeO.ite ?_ ?_
      | refine LeO.bind ?_ (fun _ => ?_)
set_option maxHeartbeats 8000000 in
set_option maxRecDepth 100000 in
theorem laws_FnExactSpreadRow.calls (k : Nat) (A0 : Option Addr) (c0 : Nat) (l0 : List Int) (a1 : Int) (r : Bool) (w : World) (hr0 : Kd.C (Kd.int .i64) w A0 l0.length l0) (hc0 : l0.length ≤ c0) (h : laws_FnExactSpreadRow.f k l0 a1 = some r) :
    Calls Try.prog 9 #[.slice A0 l0.length c0, .int .i64 a1] w fun e w' => e = .returned (.bool r) ∧ Below w.heap.size w w' := by
  have HR0 := Aside0.mk hr0
  have HC0 := Aside0.mk hc0
  clear hr0 hc0
  have HB := Aside0.mk (Below.refl w.heap.size w)
  have H : (if (l0.length : Int) > 1048576 then (some true) else ((laws_toIntS.f k l0).bind fun t327 => ((spec_SpreadRow.f k t327 a1).bind fun bt330 => ((laws_toIntS.f k l0).bind fun t334 => ((impl_SpreadRow.f k t334 a1).bind fun bt337 => ((laws_eqIntS.f k bt337.1 bt330.1).bind fun t341 => (if t341 = true then (laws_FnExactSpreadRow.j0 k l0 a1 bt330.1 bt330.2 t334 bt337.1 bt337.2 (bt337.2 != bt330.2)) else (laws_FnExactSpreadRow.j0 k l0 a1 bt330.1 bt330.2 t334 bt337.1 bt337.2 true)))))))) = some r := h
  clear h
  by_cases c3 : (l0.length : Int) > 1048576
  · rw [if_pos c3] at H
    have c3b0 : decide (1048576 < (l0.length : Int)) = true := decide_eq_true c3
    have c3b1 : decide (1048576 < l0.length) = true := decide_eq_true (by omega)
    clear c3
    obtain rfl := Option.some.inj H
    go_enter Try.func9, Try.ntmps9
    go_wp2
    go_ret
    exact ⟨by first | rfl | (simp [errW_none, errW_some] <;> rfl) | (simp [*, errW_none, errW_some] <;> rfl), by repeat (first | (with_reducible first | exact HB.out | apply below_alloc | apply pw_below_drewN | apply below_drew1) | exact HB.out)⟩
  · rw [if_neg c3] at H
    have c3b0 : decide (1048576 < (l0.length : Int)) = false := decide_eq_false c3
    have c3b1 : decide (1048576 < l0.length) = false := decide_eq_false (by omega)
    clear c3
    replace H := Option.bind_eq_some_iff.mp H
    obtain ⟨t327, A40, H⟩ := H
    replace H : ((spec_SpreadRow.f k t327 a1).bind fun bt330 => ((laws_toIntS.f k l0).bind fun t334 => ((impl_SpreadRow.f k t334 a1).bind fun bt337 => ((laws_eqIntS.f k bt337.1 bt330.1).bind fun t341 => (if t341 = true then (laws_FnExactSpreadRow.j0 k l0 a1 bt330.1 bt330.2 t334 bt337.1 bt337.2 (bt337.2 != bt330.2)) else (laws_FnExactSpreadRow.j0 k l0 a1 bt330.1 bt330.2 t334 bt337.1 bt337.2 true)))))) = some r := H
    have A4 := Aside0.mk A40
    clear A40
    replace H := Option.bind_eq_some_iff.mp H
    obtain ⟨⟨t330, t331⟩, A50, H⟩ := H
    replace H : ((laws_toIntS.f k l0).bind fun t334 => ((impl_SpreadRow.f k t334 a1).bind fun bt337 => ((laws_eqIntS.f k bt337.1 t330).bind fun t341 => (if t341 = true then (laws_FnExactSpreadRow.j0 k l0 a1 t330 t331 t334 bt337.1 bt337.2 (bt337.2 != t331)) else (laws_FnExactSpreadRow.j0 k l0 a1 t330 t331 t334 bt337.1 bt337.2 true))))) = some r := H
    have A5 := Aside0.mk A50
    clear A50
    replace H := Option.bind_eq_some_iff.mp H
    obtain ⟨t334, A60, H⟩ := H
    replace H : ((impl_SpreadRow.f k t334 a1).bind fun bt337 => ((laws_eqIntS.f k bt337.1 t330).bind fun t341 => (if t341 = true then (laws_FnExactSpreadRow.j0 k l0 a1 t330 t331 t334 bt337.1 bt337.2 (bt337.2 != t331)) else (laws_FnExactSpreadRow.j0 k l0 a1 t330 t331 t334 bt337.1 bt337.2 true)))) = some r := H
    have A6 := Aside0.mk A60
    clear A60
    replace H := Option.bind_eq_some_iff.mp H
    obtain ⟨⟨t337, t338⟩, A70, H⟩ := H
    replace H : ((laws_eqIntS.f k t337 t330).bind fun t341 => (if t341 = true then (laws_FnExactSpreadRow.j0 k l0 a1 t330 t331 t334 t337 t338 (t338 != t331)) else (laws_FnExactSpreadRow.j0 k l0 a1 t330 t331 t334 t337 t338 true))) = some r := H
    have A7 := Aside0.mk A70
    clear A70
    have HC8 := Aside0.mk H
    clear H
    go_enter Try.func9, Try.ntmps9
    go_upto_region 6 with (first | ((with_reducible refine gate_callee (f := 18) rfl ?_); refine goesL_ (some 20) rfl rfl Try.func18 (by kernel_rfl) rfl #[.slice A0 l0.length c0] rfl (by (try simp only [List.map_toArray, List.map_cons, List.map_nil]); first | done | rfl | (simp only [List.length_drop, List.length_take]; rfl)) ?_; (with_reducible refine (laws_toIntS.calls k _ _ l0 t327 _ ?side1 ?side2 A4.out).mono ?_); (case side1 => repeat (first | exact HR0.out | (with_reducible refine Kd.C_alloc ?_ _) | (with_reducible refine Kd.C_drewN ?_ _) | (with_reducible refine Kd.C_drew ?_))); (case side2 => exact HC0.out); rintro e w9 ⟨v328, rfl, ho0, hb⟩; refine ⟨_, rfl, ?_⟩; have n0_ := Aside0.mk (Kd.R_lower ho0 (below_size (by repeat (first | (with_reducible first | exact HB.out | apply below_alloc | apply pw_below_drewN | apply below_drew1) | exact HB.out)))); have n1_ := Aside0.mk (below_step (by repeat (first | (with_reducible first | exact HB.out | apply below_alloc | apply pw_below_drewN | apply below_drew1) | exact HB.out)) hb); clear HB; have HO329 := n0_; have HB := n1_; clear n0_ n1_; (try clear hb); (try clear hb2); (try clear hk); (try clear hi); (try clear ho0); obtain ⟨Ao10, co10, eo10⟩ := Kd.R_slice HO329.out; subst eo10) | ((with_reducible refine gate_callee (f := 34) rfl ?_); refine goesL_ (some 22) rfl rfl Try.func34 (by kernel_rfl) rfl #[.slice Ao10 t327.length co10, .int .i64 a1] rfl (by (try simp only [List.map_toArray, List.map_cons, List.map_nil]); first | done | rfl | (simp only [List.length_drop, List.length_take]; rfl)) ?_; (with_reducible refine (spec_SpreadRow.calls k _ _ t327 a1 t330 t331 _ ?side1 ?side2 A5.out).mono ?_); (case side1 => repeat (first | exact (Kd.R_reads' HO329.out).2.2 | (with_reducible refine Kd.C_alloc ?_ _) | (with_reducible refine Kd.C_drewN ?_ _) | (with_reducible refine Kd.C_drew ?_))); (case side2 => exact (Kd.R_reads' HO329.out).2.1); rintro e w11 ⟨v332, rfl, ho0, hb⟩; refine ⟨_, rfl, ?_⟩; have n0_ := Aside0.mk (Kd.R_elder' (by (with_reducible repeat (first | apply Kd.R_alloc | apply Kd.R_drewN | apply Kd.R_drew)); exact HO329.out) (Kd.R_base ho0) hb); have n1_ := Aside0.mk (Kd.R_lower (Kd.R_new' ho0 (Kd.R_lt (by (with_reducible repeat (first | apply Kd.R_alloc | apply Kd.R_drewN | apply Kd.R_drew)); exact HO329.out))) (below_size (by repeat (first | (with_reducible first | exact HB.out | apply below_alloc | apply pw_below_drewN | apply below_drew1) | exact HB.out)))); have n2_ := Aside0.mk (below_step (by repeat (first | (with_reducible first | exact HB.out | apply below_alloc | apply pw_below_drewN | apply below_drew1) | exact HB.out)) hb); clear HO329; clear HB; have HO329 := n0_; have HO333 := n1_; have HB := n2_; clear n0_ n1_ n2_; (try clear hb); (try clear hb2); (try clear hk); (try clear hi); (try clear ho0)) | ((with_reducible refine gate_callee (f := 18) rfl ?_); refine goesL_ (some 26) rfl rfl Try.func18 (by kernel_rfl) rfl #[.slice A0 l0.length c0] rfl (by (try simp only [List.map_toArray, List.map_cons, List.map_nil]); first | done | rfl | (simp only [List.length_drop, List.length_take]; rfl)) ?_; (with_reducible refine (laws_toIntS.calls k _ _ l0 t334 _ ?side1 ?side2 A6.out).mono ?_); (case side1 => repeat (first | exact (Kd.C_below HR0.out HB.out) | (with_reducible refine Kd.C_alloc ?_ _) | (with_reducible refine Kd.C_drewN ?_ _) | (with_reducible refine Kd.C_drew ?_))); (case side2 => exact HC0.out); rintro e w12 ⟨v335, rfl, ho0, hb⟩; refine ⟨_, rfl, ?_⟩; have n0_ := Aside0.mk (Kd.R_elder' (by (with_reducible repeat (first | apply Kd.R_alloc | apply Kd.R_drewN | apply Kd.R_drew)); exact HO329.out) (Kd.R_base ho0) hb); have n1_ := Aside0.mk (Kd.R_elder' (by (with_reducible repeat (first | apply Kd.R_alloc | apply Kd.R_drewN | apply Kd.R_drew)); exact HO333.out) (Kd.R_base ho0) hb); have n2_ := Aside0.mk (Kd.R_lower (Kd.R_new' (Kd.R_new' ho0 (Kd.R_lt (by (with_reducible repeat (first | apply Kd.R_alloc | apply Kd.R_drewN | apply Kd.R_drew)); exact HO329.out))) (Kd.R_lt (by (with_reducible repeat (first | apply Kd.R_alloc | apply Kd.R_drewN | apply Kd.R_drew)); exact HO333.out))) (below_size (by repeat (first | (with_reducible first | exact HB.out | apply below_alloc | apply pw_below_drewN | apply below_drew1) | exact HB.out)))); have n3_ := Aside0.mk (below_step (by repeat (first | (with_reducible first | exact HB.out | apply below_alloc | apply pw_below_drewN | apply below_drew1) | exact HB.out)) hb); clear HO329; clear HO333; clear HB; have HO329 := n0_; have HO333 := n1_; have HO336 := n2_; have HB := n3_; clear n0_ n1_ n2_ n3_; (try clear hb); (try clear hb2); (try clear hk); (try clear hi); (try clear ho0); obtain ⟨Ao13, co13, eo13⟩ := Kd.R_slice HO336.out; subst eo13) | ((with_reducible refine gate_callee (f := 35) rfl ?_); refine goesL_ (some 30) rfl rfl Try.func35 (by kernel_rfl) rfl #[.slice Ao13 t334.length co13, .int .i64 a1] rfl (by (try simp only [List.map_toArray, List.map_cons, List.map_nil]); first | done | rfl | (simp only [List.length_drop, List.length_take]; rfl)) ?_; (with_reducible refine (impl_SpreadRow.calls k _ _ t334 a1 t337 t338 _ ?side1 ?side2 A7.out).mono ?_); (case side1 => repeat (first | exact (Kd.R_reads' HO336.out).2.2 | (with_reducible refine Kd.C_alloc ?_ _) | (with_reducible refine Kd.C_drewN ?_ _) | (with_reducible refine Kd.C_drew ?_))); (case side2 => exact (Kd.R_reads' HO336.out).2.1); rintro e w14 ⟨v339, rfl, ho0, hb⟩; refine ⟨_, rfl, ?_⟩; have n0_ := Aside0.mk (Kd.R_elder' (by (with_reducible repeat (first | apply Kd.R_alloc | apply Kd.R_drewN | apply Kd.R_drew)); exact HO329.out) (Kd.R_base ho0) hb); have n1_ := Aside0.mk (Kd.R_elder' (by (with_reducible repeat (first | apply Kd.R_alloc | apply Kd.R_drewN | apply Kd.R_drew)); exact HO333.out) (Kd.R_base ho0) hb); have n2_ := Aside0.mk (Kd.R_elder' (by (with_reducible repeat (first | apply Kd.R_alloc | apply Kd.R_drewN | apply Kd.R_drew)); exact HO336.out) (Kd.R_base ho0) hb); have n3_ := Aside0.mk (Kd.R_lower (Kd.R_new' (Kd.R_new' (Kd.R_new' ho0 (Kd.R_lt (by (with_reducible repeat (first | apply Kd.R_alloc | apply Kd.R_drewN | apply Kd.R_drew)); exact HO329.out))) (Kd.R_lt (by (with_reducible repeat (first | apply Kd.R_alloc | apply Kd.R_drewN | apply Kd.R_drew)); exact HO333.out))) (Kd.R_lt (by (with_reducible repeat (first | apply Kd.R_alloc | apply Kd.R_drewN | apply Kd.R_drew)); exact HO336.out))) (below_size (by repeat (first | (with_reducible first | exact HB.out | apply below_alloc | apply pw_below_drewN | apply below_drew1) | exact HB.out)))); have n4_ := Aside0.mk (below_step (by repeat (first | (with_reducible first | exact HB.out | apply below_alloc | apply pw_below_drewN | apply below_drew1) | exact HB.out)) hb); clear HO329; clear HO333; clear HO336; clear HB; have HO329 := n0_; have HO333 := n1_; have HO336 := n2_; have HO340 := n3_; have HB := n4_; clear n0_ n1_ n2_ n3_ n4_; (try clear hb); (try clear hb2); (try clear hk); (try clear hi); (try clear ho0)))
    (try simp only [Act.put, List.setIfInBounds_toArray, List.set_cons_zero, List.set_cons_succ])
    go_cut [41] (fun v41 wc => ∃ (kq : Nat) (x41_7 : Bool), v41 = .bool x41_7 ∧ Aside0 (laws_FnExactSpreadRow.j0 kq l0 a1 t330 t331 t334 t337 t338 x41_7 = some r) ∧ Aside0 (kq ≤ k) ∧ Aside0 (Kd.R (Kd.int .i64) 3 wc w.heap.size (fun k_ => some k_ ≠ ((.slice Ao13 t334.length co13) : Value).ownBlock ∧ some k_ ≠ (v339 : Value).ownBlock) v332 t330) ∧ Aside0 (Kd.R (Kd.int .i64) 3 wc w.heap.size (fun k_ => some k_ ≠ (v332 : Value).ownBlock ∧ some k_ ≠ (v339 : Value).ownBlock) (.slice Ao13 t334.length co13) t334) ∧ Aside0 (Kd.R (Kd.int .i64) 3 wc w.heap.size (fun k_ => some k_ ≠ (v332 : Value).ownBlock ∧ some k_ ≠ ((.slice Ao13 t334.length co13) : Value).ownBlock) v339 t337) ∧ Aside0 (Below w.heap.size w wc))
    case first =>
      have H := HC8.out
      clear HC8
      replace H := Option.bind_eq_some_iff.mp H
      obtain ⟨t341, A150, H⟩ := H
      replace H : (if t341 = true then (laws_FnExactSpreadRow.j0 k l0 a1 t330 t331 t334 t337 t338 (t338 != t331)) else (laws_FnExactSpreadRow.j0 k l0 a1 t330 t331 t334 t337 t338 true)) = some r := H
      have A15 := Aside0.mk A150
      clear A150
      by_cases c16 : t341 = true
      · subst c16
        have H1 : (laws_FnExactSpreadRow.j0 k l0 a1 t330 t331 t334 t337 t338 (t338 != t331)) = some r := by rw [if_pos rfl] at H; exact H
        clear H
        have H := H1
        clear H1
        have H' := Aside0.mk H
        clear H
        obtain ⟨Ao17, co17, eo17⟩ := Kd.R_slice HO340.out
        subst eo17
        obtain ⟨Ao18, co18, eo18⟩ := Kd.R_slice HO333.out
        subst eo18
        go_wp2_with (first | ((with_reducible refine gate_callee (f := 20) rfl ?_); refine goesL_ (some 35) rfl rfl Try.func20 (by kernel_rfl) rfl #[.slice Ao17 t337.length co17, .slice Ao18 t330.length co18] rfl (by (try simp only [List.map_toArray, List.map_cons, List.map_nil]); first | done | rfl | (simp only [List.length_drop, List.length_take]; rfl)) ?_; (with_reducible refine (laws_eqIntS.calls k _ _ t337 _ _ t330 true _ ?side1 ?side2 ?side3 ?side4 A15.out).mono ?_); (case side1 => repeat (first | exact (Kd.R_reads' HO340.out).2.2 | (with_reducible refine Kd.C_alloc ?_ _) | (with_reducible refine Kd.C_drewN ?_ _) | (with_reducible refine Kd.C_drew ?_))); (case side2 => exact (Kd.R_reads' HO340.out).2.1); (case side3 => repeat (first | exact (Kd.R_reads' HO333.out).2.2 | (with_reducible refine Kd.C_alloc ?_ _) | (with_reducible refine Kd.C_drewN ?_ _) | (with_reducible refine Kd.C_drew ?_))); (case side4 => exact (Kd.R_reads' HO333.out).2.1); rintro e w' ⟨rfl, ⟨nd, rfl⟩⟩; refine ⟨_, rfl, ?_⟩))
        go_meet
        case rel => exact ⟨_, ((t338 != t331)), (by first | rfl | (simp; done) | (simp [*]; done)), H', ⟨by first | omega | exact Nat.le_refl _⟩, ⟨by (with_reducible repeat (first | apply Kd.R_alloc | apply Kd.R_drewN | apply Kd.R_drew)); exact Kd.R_mono HO333.out (fun _ hk => ⟨hk.1.2, hk.2⟩)⟩, ⟨by (with_reducible repeat (first | apply Kd.R_alloc | apply Kd.R_drewN | apply Kd.R_drew)); exact Kd.R_mono HO336.out (fun _ hk => ⟨hk.1.2, hk.2⟩)⟩, ⟨by (with_reducible repeat (first | apply Kd.R_alloc | apply Kd.R_drewN | apply Kd.R_drew)); exact Kd.R_mono HO340.out (fun _ hk => ⟨hk.1.2, hk.2⟩)⟩, ⟨by repeat (first | (with_reducible first | exact HB.out | apply below_alloc | apply pw_below_drewN | apply below_drew1) | exact HB.out)⟩⟩
      · replace c16 := Bool.eq_false_iff.mpr c16
        subst c16
        have H1 : (laws_FnExactSpreadRow.j0 k l0 a1 t330 t331 t334 t337 t338 true) = some r := by rw [if_neg (show ¬ (false = true) by decide)] at H; exact H
        clear H
        have H := H1
        clear H1
        have H' := Aside0.mk H
        clear H
        obtain ⟨Ao19, co19, eo19⟩ := Kd.R_slice HO340.out
        subst eo19
        obtain ⟨Ao20, co20, eo20⟩ := Kd.R_slice HO333.out
        subst eo20
        go_wp2_with (first | ((with_reducible refine gate_callee (f := 20) rfl ?_); refine goesL_ (some 35) rfl rfl Try.func20 (by kernel_rfl) rfl #[.slice Ao19 t337.length co19, .slice Ao20 t330.length co20] rfl (by (try simp only [List.map_toArray, List.map_cons, List.map_nil]); first | done | rfl | (simp only [List.length_drop, List.length_take]; rfl)) ?_; (with_reducible refine (laws_eqIntS.calls k _ _ t337 _ _ t330 false _ ?side1 ?side2 ?side3 ?side4 A15.out).mono ?_); (case side1 => repeat (first | exact (Kd.R_reads' HO340.out).2.2 | (with_reducible refine Kd.C_alloc ?_ _) | (with_reducible refine Kd.C_drewN ?_ _) | (with_reducible refine Kd.C_drew ?_))); (case side2 => exact (Kd.R_reads' HO340.out).2.1); (case side3 => repeat (first | exact (Kd.R_reads' HO333.out).2.2 | (with_reducible refine Kd.C_alloc ?_ _) | (with_reducible refine Kd.C_drewN ?_ _) | (with_reducible refine Kd.C_drew ?_))); (case side4 => exact (Kd.R_reads' HO333.out).2.1); rintro e w' ⟨rfl, ⟨nd, rfl⟩⟩; refine ⟨_, rfl, ?_⟩))
        go_meet
        case rel => exact ⟨_, (true), (by first | rfl | (simp; done) | (simp [*]; done)), H', ⟨by first | omega | exact Nat.le_refl _⟩, ⟨by (with_reducible repeat (first | apply Kd.R_alloc | apply Kd.R_drewN | apply Kd.R_drew)); exact Kd.R_mono HO333.out (fun _ hk => ⟨hk.1.2, hk.2⟩)⟩, ⟨by (with_reducible repeat (first | apply Kd.R_alloc | apply Kd.R_drewN | apply Kd.R_drew)); exact Kd.R_mono HO336.out (fun _ hk => ⟨hk.1.2, hk.2⟩)⟩, ⟨by (with_reducible repeat (first | apply Kd.R_alloc | apply Kd.R_drewN | apply Kd.R_drew)); exact Kd.R_mono HO340.out (fun _ hk => ⟨hk.1.2, hk.2⟩)⟩, ⟨by repeat (first | (with_reducible first | exact HB.out | apply below_alloc | apply pw_below_drewN | apply below_drew1) | exact HB.out)⟩⟩
    case rest =>
      clear HC8
      try clear c1
      try clear c2
      try clear p2
      try clear c3
      try clear c3b0
      try clear c3b1
      try clear c9
      try clear c16
      try clear c18
      try clear c20
      obtain ⟨kq, x41_7, rfl, HA, HJ7, HO_5, HO_7, HO_8, HB⟩ := hcut
      cases kq with
      | zero => exact absurd HA.out (by simp [laws_FnExactSpreadRow.j0])
      | succ kj7 =>
        have H := HA.out
        clear HA
        simp only [laws_FnExactSpreadRow.j0] at H
        by_cases c21 : x41_7 = true
        · subst c21
          have H1 : (some false) = some r := by rw [if_pos rfl] at H; exact H
          clear H
          have H := H1
          clear H1
          obtain rfl := Option.some.inj H
          go_wp2
          go_ret
          exact ⟨by first | rfl | (simp [errW_none, errW_some] <;> rfl) | (simp [*, errW_none, errW_some] <;> rfl), by repeat (first | (with_reducible first | exact HB.out | apply below_alloc | apply pw_below_drewN | apply below_drew1) | exact HB.out)⟩
        · replace c21 := Bool.eq_false_iff.mpr c21
          subst c21
          have H1 : ((laws_toIntS.f kj7 l0).bind fun t342 => ((laws_eqIntS.f kj7 t334 t342).bind fun t345 => (if t345 = true then ((laws_markIntS.f kj7 t334 1).bind fun bt346 => (if bt346.1 < 0 then (laws_FnExactSpreadRow.j1 kj7 l0 a1 t330 t331 t337 true) else ((laws_eqIntS.f kj7 t337 t330).bind fun t348 => (if t348 = true then (laws_FnExactSpreadRow.j1 kj7 l0 a1 t330 t331 t337 (t338 != t331)) else (laws_FnExactSpreadRow.j1 kj7 l0 a1 t330 t331 t337 true))))) else (some false)))) = some r := by rw [if_neg (show ¬ (false = true) by decide)] at H; exact H
          clear H
          have H := H1
          clear H1
          replace H := Option.bind_eq_some_iff.mp H
          obtain ⟨t342, A220, H⟩ := H
          replace H : ((laws_eqIntS.f kj7 t334 t342).bind fun t345 => (if t345 = true then ((laws_markIntS.f kj7 t334 1).bind fun bt346 => (if bt346.1 < 0 then (laws_FnExactSpreadRow.j1 kj7 l0 a1 t330 t331 t337 true) else ((laws_eqIntS.f kj7 t337 t330).bind fun t348 => (if t348 = true then (laws_FnExactSpreadRow.j1 kj7 l0 a1 t330 t331 t337 (t338 != t331)) else (laws_FnExactSpreadRow.j1 kj7 l0 a1 t330 t331 t337 true))))) else (some false))) = some r := H
          have A22 := Aside0.mk A220
          clear A220
          replace H := Option.bind_eq_some_iff.mp H
          obtain ⟨t345, A230, H⟩ := H
          replace H : (if t345 = true then ((laws_markIntS.f kj7 t334 1).bind fun bt346 => (if bt346.1 < 0 then (laws_FnExactSpreadRow.j1 kj7 l0 a1 t330 t331 t337 true) else ((laws_eqIntS.f kj7 t337 t330).bind fun t348 => (if t348 = true then (laws_FnExactSpreadRow.j1 kj7 l0 a1 t330 t331 t337 (t338 != t331)) else (laws_FnExactSpreadRow.j1 kj7 l0 a1 t330 t331 t337 true))))) else (some false)) = some r := H
          have A23 := Aside0.mk A230
          clear A230
          by_cases c24 : t345 = true
          · subst c24
            have H1 : ((laws_markIntS.f kj7 t334 1).bind fun bt346 => (if bt346.1 < 0 then (laws_FnExactSpreadRow.j1 kj7 l0 a1 t330 t331 t337 true) else ((laws_eqIntS.f kj7 t337 t330).bind fun t348 => (if t348 = true then (laws_FnExactSpreadRow.j1 kj7 l0 a1 t330 t331 t337 (t338 != t331)) else (laws_FnExactSpreadRow.j1 kj7 l0 a1 t330 t331 t337 true))))) = some r := by rw [if_pos rfl] at H; exact H
            clear H
            have H := H1
            clear H1
            replace H := Option.bind_eq_some_iff.mp H
            obtain ⟨⟨t346, t347⟩, A250, H⟩ := H
            replace H : (if t346 < 0 then (laws_FnExactSpreadRow.j1 kj7 l0 a1 t330 t331 t337 true) else ((laws_eqIntS.f kj7 t337 t330).bind fun t348 => (if t348 = true then (laws_FnExactSpreadRow.j1 kj7 l0 a1 t330 t331 t337 (t338 != t331)) else (laws_FnExactSpreadRow.j1 kj7 l0 a1 t330 t331 t337 true)))) = some r := H
            have A25 := Aside0.mk A250
            clear A250
            have HC26 := Aside0.mk H
            clear H
            go_upto_region 12 with (first | ((with_reducible refine gate_callee (f := 18) rfl ?_); refine goesL_ (some 44) rfl rfl Try.func18 (by kernel_rfl) rfl #[.slice A0 l0.length c0] rfl (by (try simp only [List.map_toArray, List.map_cons, List.map_nil]); first | done | rfl | (simp only [List.length_drop, List.length_take]; rfl)) ?_; (with_reducible refine (laws_toIntS.calls kj7 _ _ l0 t342 _ ?side1 ?side2 A22.out).mono ?_); (case side1 => repeat (first | exact (Kd.C_below HR0.out HB.out) | (with_reducible refine Kd.C_alloc ?_ _) | (with_reducible refine Kd.C_drewN ?_ _) | (with_reducible refine Kd.C_drew ?_))); (case side2 => exact HC0.out); rintro e w27 ⟨v343, rfl, ho0, hb⟩; refine ⟨_, rfl, ?_⟩; have n0_ := Aside0.mk (Kd.R_elder' (by (with_reducible repeat (first | apply Kd.R_alloc | apply Kd.R_drewN | apply Kd.R_drew)); exact HO_5.out) (Kd.R_base ho0) hb); have n1_ := Aside0.mk (Kd.R_elder' (by (with_reducible repeat (first | apply Kd.R_alloc | apply Kd.R_drewN | apply Kd.R_drew)); exact HO_7.out) (Kd.R_base ho0) hb); have n2_ := Aside0.mk (Kd.R_elder' (by (with_reducible repeat (first | apply Kd.R_alloc | apply Kd.R_drewN | apply Kd.R_drew)); exact HO_8.out) (Kd.R_base ho0) hb); have n3_ := Aside0.mk (Kd.R_lower (Kd.R_new' (Kd.R_new' (Kd.R_new' ho0 (Kd.R_lt (by (with_reducible repeat (first | apply Kd.R_alloc | apply Kd.R_drewN | apply Kd.R_drew)); exact HO_5.out))) (Kd.R_lt (by (with_reducible repeat (first | apply Kd.R_alloc | apply Kd.R_drewN | apply Kd.R_drew)); exact HO_7.out))) (Kd.R_lt (by (with_reducible repeat (first | apply Kd.R_alloc | apply Kd.R_drewN | apply Kd.R_drew)); exact HO_8.out))) (below_size (by repeat (first | (with_reducible first | exact HB.out | apply below_alloc | apply pw_below_drewN | apply below_drew1) | exact HB.out)))); have n4_ := Aside0.mk (below_step (by repeat (first | (with_reducible first | exact HB.out | apply below_alloc | apply pw_below_drewN | apply below_drew1) | exact HB.out)) hb); clear HO_5; clear HO_7; clear HO_8; clear HB; have HO_5 := n0_; have HO_7 := n1_; have HO_8 := n2_; have HO344 := n3_; have HB := n4_; clear n0_ n1_ n2_ n3_ n4_; (try clear hb); (try clear hb2); (try clear hk); (try clear hi); (try clear ho0); obtain ⟨Ao28, co28, eo28⟩ := Kd.R_slice HO344.out; subst eo28) | ((with_reducible refine gate_callee (f := 20) rfl ?_); refine goesL_ (some 45) rfl rfl Try.func20 (by kernel_rfl) rfl #[.slice Ao13 t334.length co13, .slice Ao28 t342.length co28] rfl (by (try simp only [List.map_toArray, List.map_cons, List.map_nil]); first | done | rfl | (simp only [List.length_drop, List.length_take]; rfl)) ?_; (with_reducible refine (laws_eqIntS.calls kj7 _ _ t334 _ _ t342 true _ ?side1 ?side2 ?side3 ?side4 A23.out).mono ?_); (case side1 => repeat (first | exact (Kd.R_reads' HO_7.out).2.2 | (with_reducible refine Kd.C_alloc ?_ _) | (with_reducible refine Kd.C_drewN ?_ _) | (with_reducible refine Kd.C_drew ?_))); (case side2 => exact (Kd.R_reads' HO_7.out).2.1); (case side3 => repeat (first | exact (Kd.R_reads' HO344.out).2.2 | (with_reducible refine Kd.C_alloc ?_ _) | (with_reducible refine Kd.C_drewN ?_ _) | (with_reducible refine Kd.C_drew ?_))); (case side4 => exact (Kd.R_reads' HO344.out).2.1); rintro e w' ⟨rfl, ⟨nd, rfl⟩⟩; refine ⟨_, rfl, ?_⟩) | ((with_reducible refine gate_callee (f := 21) rfl ?_); refine goesL_ (some 49) rfl rfl Try.func21 (by kernel_rfl) rfl #[.slice Ao13 t334.length co13, .int .i64 1] rfl (by (try simp only [List.map_toArray, List.map_cons, List.map_nil]); first | done | rfl | (simp only [List.length_drop, List.length_take]; rfl)) ?_; (with_reducible refine (laws_markIntS.calls kj7 (fun k_ => some k_ = (.slice Ao13 t334.length co13 : Value).ownBlock) (.slice Ao13 t334.length co13) t334 1 t346 t347 w _ ?side1 ?side2 A25.out).mono ?_); (case side1 => repeat (first | (with_reducible first | exact HB.out | apply below_alloc | apply pw_below_drewN | apply below_drew1) | exact HB.out)); (case side2 => exact Kd.R_tight rfl HO_7.out); rintro e w29 ⟨rfl, hy0, hb, hkp⟩; refine ⟨_, rfl, ?_⟩; have n0_ := Aside0.mk (Kd.R_mono (ok' := fun k_ => some k_ ≠ (.slice Ao13 t334.length co13 : Value).ownBlock ∧ some k_ ≠ (v339 : Value).ownBlock ∧ some k_ ≠ (.slice Ao28 t342.length co28 : Value).ownBlock) (Kd.R_keptB (HO_5.out) hkp (fun k_ hk_ hs_ => (hk_.1.1) hs_)) (fun k_ hk_ => ⟨hk_.1.1.1, hk_.1.1.2, hk_.1.2⟩)); have n1_ := Aside0.mk (Kd.R_reok rfl hy0 (fun k_ e_ => HO_7.out.1 k_ e_)); have n2_ := Aside0.mk (Kd.R_mono (ok' := fun k_ => some k_ ≠ (v332 : Value).ownBlock ∧ some k_ ≠ (.slice Ao13 t334.length co13 : Value).ownBlock ∧ some k_ ≠ (.slice Ao28 t342.length co28 : Value).ownBlock) (Kd.R_keptB (HO_8.out) hkp (fun k_ hk_ hs_ => (hk_.1.2) hs_)) (fun k_ hk_ => ⟨hk_.1.1.1, hk_.1.1.2, hk_.1.2⟩)); have n3_ := Aside0.mk (Kd.R_mono (ok' := fun k_ => some k_ ≠ (v332 : Value).ownBlock ∧ some k_ ≠ (.slice Ao13 t334.length co13 : Value).ownBlock ∧ some k_ ≠ (v339 : Value).ownBlock) (Kd.R_keptB (HO344.out) hkp (fun k_ hk_ hs_ => (hk_.1.2) hs_)) (fun k_ hk_ => ⟨hk_.1.1.1.2, hk_.1.1.2, hk_.1.2⟩)); have n4_ := Aside0.mk (hb); clear HO_5; clear HO_7; clear HO_8; clear HO344; clear HB; have HO_5 := n0_; have HO_7 := n1_; have HO_8 := n2_; have HO344 := n3_; have HB := n4_; clear n0_ n1_ n2_ n3_ n4_; (try clear hb); (try clear hkp); (try clear hy0)))
            (try simp only [Act.put, List.setIfInBounds_toArray, List.set_cons_zero, List.set_cons_succ])
            go_cut [62] (fun v62 wc => ∃ (kq : Nat) (x62_25 : Bool), v62 = .bool x62_25 ∧ Aside0 (laws_FnExactSpreadRow.j1 kq l0 a1 t330 t331 t337 x62_25 = some r) ∧ Aside0 (kq ≤ kj7) ∧ Aside0 (Kd.R (Kd.int .i64) 3 wc w.heap.size (fun k_ => some k_ ≠ (v339 : Value).ownBlock) v332 t330) ∧ Aside0 (Kd.R (Kd.int .i64) 3 wc w.heap.size (fun k_ => some k_ ≠ (v332 : Value).ownBlock) v339 t337) ∧ Aside0 (Below w.heap.size w wc))
            case first =>
              have H := HC26.out
              clear HC26
              by_cases c30 : t346 < 0
              · rw [if_pos c30] at H
                have c30b0 : decide (t346 < 0) = true := decide_eq_true c30
                clear c30
                (first | rw [c30b0] | (simp only [i64_w, i32_w]; rw [c30b0]) | skip)
                have H' := Aside0.mk H
                clear H
                go_wp2
                go_meet
                case rel => exact ⟨_, (true), (by first | rfl | (simp; done) | (simp [*]; done)), H', ⟨by have := HJ7.out; first | omega | exact Nat.le_refl _⟩, ⟨by (with_reducible repeat (first | apply Kd.R_alloc | apply Kd.R_drewN | apply Kd.R_drew)); exact Kd.R_mono HO_5.out (fun _ hk => hk.2.1)⟩, ⟨by (with_reducible repeat (first | apply Kd.R_alloc | apply Kd.R_drewN | apply Kd.R_drew)); exact Kd.R_mono HO_8.out (fun _ hk => hk.1)⟩, ⟨by repeat (first | (with_reducible first | exact HB.out | apply below_alloc | apply pw_below_drewN | apply below_drew1) | exact HB.out)⟩⟩
              · rw [if_neg c30] at H
                have c30b0 : decide (t346 < 0) = false := decide_eq_false c30
                clear c30
                (first | rw [c30b0] | (simp only [i64_w, i32_w]; rw [c30b0]) | skip)
                replace H := Option.bind_eq_some_iff.mp H
                obtain ⟨t348, A310, H⟩ := H
                replace H : (if t348 = true then (laws_FnExactSpreadRow.j1 kj7 l0 a1 t330 t331 t337 (t338 != t331)) else (laws_FnExactSpreadRow.j1 kj7 l0 a1 t330 t331 t337 true)) = some r := H
                have A31 := Aside0.mk A310
                clear A310
                by_cases c32 : t348 = true
                · subst c32
                  have H1 : (laws_FnExactSpreadRow.j1 kj7 l0 a1 t330 t331 t337 (t338 != t331)) = some r := by rw [if_pos rfl] at H; exact H
                  clear H
                  have H := H1
                  clear H1
                  have H' := Aside0.mk H
                  clear H
                  obtain ⟨Ao33, co33, eo33⟩ := Kd.R_slice HO_8.out
                  subst eo33
                  obtain ⟨Ao34, co34, eo34⟩ := Kd.R_slice HO_5.out
                  subst eo34
                  go_wp2_with (first | (go_at_call 20; (with_reducible refine (laws_eqIntS.calls kj7 _ _ t337 _ _ t330 true _ ?side1 ?side2 ?side3 ?side4 A31.out).mono ?_); (case side1 => repeat (first | exact (Kd.R_reads' HO_8.out).2.2 | (with_reducible refine Kd.C_alloc ?_ _) | (with_reducible refine Kd.C_drewN ?_ _) | (with_reducible refine Kd.C_drew ?_))); (case side2 => exact (Kd.R_reads' HO_8.out).2.1); (case side3 => repeat (first | exact (Kd.R_reads' HO_5.out).2.2 | (with_reducible refine Kd.C_alloc ?_ _) | (with_reducible refine Kd.C_drewN ?_ _) | (with_reducible refine Kd.C_drew ?_))); (case side4 => exact (Kd.R_reads' HO_5.out).2.1); rintro e w' ⟨rfl, ⟨nd, rfl⟩⟩))
                  go_meet
                  case rel => exact ⟨_, ((t338 != t331)), (by first | rfl | (simp; done) | (simp [*]; done)), H', ⟨by have := HJ7.out; first | omega | exact Nat.le_refl _⟩, ⟨by (with_reducible repeat (first | apply Kd.R_alloc | apply Kd.R_drewN | apply Kd.R_drew)); exact Kd.R_mono HO_5.out (fun _ hk => hk.2.1)⟩, ⟨by (with_reducible repeat (first | apply Kd.R_alloc | apply Kd.R_drewN | apply Kd.R_drew)); exact Kd.R_mono HO_8.out (fun _ hk => hk.1)⟩, ⟨by repeat (first | (with_reducible first | exact HB.out | apply below_alloc | apply pw_below_drewN | apply below_drew1) | exact HB.out)⟩⟩
                · replace c32 := Bool.eq_false_iff.mpr c32
                  subst c32
                  have H1 : (laws_FnExactSpreadRow.j1 kj7 l0 a1 t330 t331 t337 true) = some r := by rw [if_neg (show ¬ (false = true) by decide)] at H; exact H
                  clear H
                  have H := H1
                  clear H1
                  have H' := Aside0.mk H
                  clear H
                  obtain ⟨Ao35, co35, eo35⟩ := Kd.R_slice HO_8.out
                  subst eo35
                  obtain ⟨Ao36, co36, eo36⟩ := Kd.R_slice HO_5.out
                  subst eo36
                  go_wp2_with (first | (go_at_call 20; (with_reducible refine (laws_eqIntS.calls kj7 _ _ t337 _ _ t330 false _ ?side1 ?side2 ?side3 ?side4 A31.out).mono ?_); (case side1 => repeat (first | exact (Kd.R_reads' HO_8.out).2.2 | (with_reducible refine Kd.C_alloc ?_ _) | (with_reducible refine Kd.C_drewN ?_ _) | (with_reducible refine Kd.C_drew ?_))); (case side2 => exact (Kd.R_reads' HO_8.out).2.1); (case side3 => repeat (first | exact (Kd.R_reads' HO_5.out).2.2 | (with_reducible refine Kd.C_alloc ?_ _) | (with_reducible refine Kd.C_drewN ?_ _) | (with_reducible refine Kd.C_drew ?_))); (case side4 => exact (Kd.R_reads' HO_5.out).2.1); rintro e w' ⟨rfl, ⟨nd, rfl⟩⟩))
                  go_meet
                  case rel => exact ⟨_, (true), (by first | rfl | (simp; done) | (simp [*]; done)), H', ⟨by have := HJ7.out; first | omega | exact Nat.le_refl _⟩, ⟨by (with_reducible repeat (first | apply Kd.R_alloc | apply Kd.R_drewN | apply Kd.R_drew)); exact Kd.R_mono HO_5.out (fun _ hk => hk.2.1)⟩, ⟨by (with_reducible repeat (first | apply Kd.R_alloc | apply Kd.R_drewN | apply Kd.R_drew)); exact Kd.R_mono HO_8.out (fun _ hk => hk.1)⟩, ⟨by repeat (first | (with_reducible first | exact HB.out | apply below_alloc | apply pw_below_drewN | apply below_drew1) | exact HB.out)⟩⟩
            case rest =>
              clear HC26
              try clear c1
              try clear c2
              try clear p2
              try clear c3
              try clear c3b0
              try clear c3b1
              try clear c9
              try clear c16
              try clear c18
              try clear c20
              try clear c21
              try clear c24
              try clear c30
              try clear c30b0
              try clear c32
              try clear c34
              try clear c35
              try clear p2
              obtain ⟨kq, x62_25, rfl, HA, HJ25, HO_5, HO_8, HB⟩ := hcut
              cases kq with
              | zero => exact absurd HA.out (by simp [laws_FnExactSpreadRow.j1])
              | succ kj25 =>
                have H := HA.out
                clear HA
                simp only [laws_FnExactSpreadRow.j1] at H
                by_cases c37 : x62_25 = true
                · subst c37
                  have H1 : (some false) = some r := by rw [if_pos rfl] at H; exact H
                  clear H
                  have H := H1
                  clear H1
                  obtain rfl := Option.some.inj H
                  go_wp2
                  go_ret
                  exact ⟨by first | rfl | (simp [errW_none, errW_some] <;> rfl) | (simp [*, errW_none, errW_some] <;> rfl), by repeat (first | (with_reducible first | exact HB.out | apply below_alloc | apply pw_below_drewN | apply below_drew1) | exact HB.out)⟩
                · replace c37 := Bool.eq_false_iff.mpr c37
                  subst c37
                  have H1 : ((laws_markIntS.f kj25 t337 1).bind fun bt349 => ((laws_heldIntS.f kj25 bt349.2 1).bind fun t351 => (if t351 < 0 then (some false) else (if t351 = bt349.1 then ((laws_toIntS.f kj25 l0).bind fun t352 => ((impl_SpreadRow.f kj25 t352 a1).bind fun bt355 => ((laws_eqIntS.f kj25 bt355.1 t330).bind fun t359 => (if t359 = true then (laws_FnExactSpreadRow.j2 kj25 bt349.2 bt349.1 (bt355.2 != t331)) else (laws_FnExactSpreadRow.j2 kj25 bt349.2 bt349.1 true))))) else (some false))))) = some r := by rw [if_neg (show ¬ (false = true) by decide)] at H; exact H
                  clear H
                  have H := H1
                  clear H1
                  replace H := Option.bind_eq_some_iff.mp H
                  obtain ⟨⟨t349, t350⟩, A380, H⟩ := H
                  replace H : ((laws_heldIntS.f kj25 t350 1).bind fun t351 => (if t351 < 0 then (some false) else (if t351 = t349 then ((laws_toIntS.f kj25 l0).bind fun t352 => ((impl_SpreadRow.f kj25 t352 a1).bind fun bt355 => ((laws_eqIntS.f kj25 bt355.1 t330).bind fun t359 => (if t359 = true then (laws_FnExactSpreadRow.j2 kj25 t350 t349 (bt355.2 != t331)) else (laws_FnExactSpreadRow.j2 kj25 t350 t349 true))))) else (some false)))) = some r := H
                  have A38 := Aside0.mk A380
                  clear A380
                  replace H := Option.bind_eq_some_iff.mp H
                  obtain ⟨t351, A390, H⟩ := H
                  replace H : (if t351 < 0 then (some false) else (if t351 = t349 then ((laws_toIntS.f kj25 l0).bind fun t352 => ((impl_SpreadRow.f kj25 t352 a1).bind fun bt355 => ((laws_eqIntS.f kj25 bt355.1 t330).bind fun t359 => (if t359 = true then (laws_FnExactSpreadRow.j2 kj25 t350 t349 (bt355.2 != t331)) else (laws_FnExactSpreadRow.j2 kj25 t350 t349 true))))) else (some false))) = some r := H
                  have A39 := Aside0.mk A390
                  clear A390
                  by_cases c40 : t351 < 0
                  · rw [if_pos c40] at H
                    have c40b0 : decide (t351 < 0) = true := decide_eq_true c40
                    clear c40
                    obtain rfl := Option.some.inj H
                    obtain ⟨Ao41, co41, eo41⟩ := Kd.R_slice HO_8.out
                    subst eo41
                    go_wp2_with (first | ((with_reducible refine gate_callee (f := 21) rfl ?_); refine goesL_ (some 65) rfl rfl Try.func21 (by kernel_rfl) rfl #[.slice Ao41 t337.length co41, .int .i64 1] rfl (by (try simp only [List.map_toArray, List.map_cons, List.map_nil]); first | done | rfl | (simp only [List.length_drop, List.length_take]; rfl)) ?_; (with_reducible refine (laws_markIntS.calls kj25 (fun k_ => some k_ = (.slice Ao41 t337.length co41 : Value).ownBlock) (.slice Ao41 t337.length co41) t337 1 t349 t350 w _ ?side1 ?side2 A38.out).mono ?_); (case side1 => repeat (first | (with_reducible first | exact HB.out | apply below_alloc | apply pw_below_drewN | apply below_drew1) | exact HB.out)); (case side2 => exact Kd.R_tight rfl HO_8.out); rintro e w42 ⟨rfl, hy0, hb, hkp⟩; refine ⟨_, rfl, ?_⟩; have n0_ := Aside0.mk (Kd.R_mono (ok' := fun k_ => some k_ ≠ (.slice Ao41 t337.length co41 : Value).ownBlock) (Kd.R_keptB (HO_5.out) hkp (fun k_ hk_ hs_ => (hk_) hs_)) (fun k_ hk_ => hk_.1)); have n1_ := Aside0.mk (Kd.R_reok rfl hy0 (fun k_ e_ => HO_8.out.1 k_ e_)); have n2_ := Aside0.mk (hb); clear HO_5; clear HO_8; clear HB; have HO_5 := n0_; have HO_8 := n1_; have HB := n2_; clear n0_ n1_ n2_; (try clear hb); (try clear hkp); (try clear hy0)) | ((with_reducible refine gate_callee (f := 22) rfl ?_); refine goesL_ (some 68) rfl rfl Try.func22 (by kernel_rfl) rfl #[.slice Ao41 t350.length co41, .int .i64 1] rfl (by (try simp only [List.map_toArray, List.map_cons, List.map_nil]); first | done | (rw [show t350.length = t337.length from (Kd.R_reads' HO_8.out).1.symm] <;> rfl) | rfl | (simp only [List.length_drop, List.length_take]; rfl)) ?_; (with_reducible refine (laws_heldIntS.calls kj25 _ _ t350 1 t351 _ ?side1 ?side2 A39.out).mono ?_); (case side1 => repeat (first | exact (Kd.R_reads' HO_8.out).2.2 | (with_reducible refine Kd.C_alloc ?_ _) | (with_reducible refine Kd.C_drewN ?_ _) | (with_reducible refine Kd.C_drew ?_))); (case side2 => rw [show t350.length = t337.length from (Kd.R_reads' HO_8.out).1.symm]; exact (Kd.R_reads' HO_8.out).2.1); rintro e w' ⟨rfl, ⟨nd, rfl⟩⟩; refine ⟨_, rfl, ?_⟩))
                    go_ret
                    exact ⟨by first | rfl | (simp [errW_none, errW_some] <;> rfl) | (simp [*, errW_none, errW_some] <;> rfl), by repeat (first | (with_reducible first | exact HB.out | apply below_alloc | apply pw_below_drewN | apply below_drew1) | exact HB.out)⟩
                  · rw [if_neg c40] at H
                    have c40b0 : decide (t351 < 0) = false := decide_eq_false c40
                    clear c40
                    by_cases c43 : t351 = t349
                    · rw [if_pos c43] at H
                      have c43b0 : (t351 == t349) = true := beq_iff_eq.mpr c43
                      have c43b1 : (t351 != t349) = false := bne_eq_false_iff_eq.mpr c43
                      clear c43
                      replace H := Option.bind_eq_some_iff.mp H
                      obtain ⟨t352, A440, H⟩ := H
                      replace H : ((impl_SpreadRow.f kj25 t352 a1).bind fun bt355 => ((laws_eqIntS.f kj25 bt355.1 t330).bind fun t359 => (if t359 = true then (laws_FnExactSpreadRow.j2 kj25 t350 t349 (bt355.2 != t331)) else (laws_FnExactSpreadRow.j2 kj25 t350 t349 true)))) = some r := H
                      have A44 := Aside0.mk A440
                      clear A440
                      replace H := Option.bind_eq_some_iff.mp H
                      obtain ⟨⟨t355, t356⟩, A450, H⟩ := H
                      replace H : ((laws_eqIntS.f kj25 t355 t330).bind fun t359 => (if t359 = true then (laws_FnExactSpreadRow.j2 kj25 t350 t349 (t356 != t331)) else (laws_FnExactSpreadRow.j2 kj25 t350 t349 true))) = some r := H
                      have A45 := Aside0.mk A450
                      clear A450
                      have HC46 := Aside0.mk H
                      clear H
                      obtain ⟨Ao47, co47, eo47⟩ := Kd.R_slice HO_8.out
                      subst eo47
                      go_upto_region 23 with (first | ((with_reducible refine gate_callee (f := 21) rfl ?_); refine goesL_ (some 65) rfl rfl Try.func21 (by kernel_rfl) rfl #[.slice Ao47 t337.length co47, .int .i64 1] rfl (by (try simp only [List.map_toArray, List.map_cons, List.map_nil]); first | done | rfl | (simp only [List.length_drop, List.length_take]; rfl)) ?_; (with_reducible refine (laws_markIntS.calls kj25 (fun k_ => some k_ = (.slice Ao47 t337.length co47 : Value).ownBlock) (.slice Ao47 t337.length co47) t337 1 t349 t350 w _ ?side1 ?side2 A38.out).mono ?_); (case side1 => repeat (first | (with_reducible first | exact HB.out | apply below_alloc | apply pw_below_drewN | apply below_drew1) | exact HB.out)); (case side2 => exact Kd.R_tight rfl HO_8.out); rintro e w48 ⟨rfl, hy0, hb, hkp⟩; refine ⟨_, rfl, ?_⟩; have n0_ := Aside0.mk (Kd.R_mono (ok' := fun k_ => some k_ ≠ (.slice Ao47 t337.length co47 : Value).ownBlock) (Kd.R_keptB (HO_5.out) hkp (fun k_ hk_ hs_ => (hk_) hs_)) (fun k_ hk_ => hk_.1)); have n1_ := Aside0.mk (Kd.R_reok rfl hy0 (fun k_ e_ => HO_8.out.1 k_ e_)); have n2_ := Aside0.mk (hb); clear HO_5; clear HO_8; clear HB; have HO_5 := n0_; have HO_8 := n1_; have HB := n2_; clear n0_ n1_ n2_; (try clear hb); (try clear hkp); (try clear hy0)) | ((with_reducible refine gate_callee (f := 22) rfl ?_); refine goesL_ (some 68) rfl rfl Try.func22 (by kernel_rfl) rfl #[.slice Ao47 t350.length co47, .int .i64 1] rfl (by (try simp only [List.map_toArray, List.map_cons, List.map_nil]); first | done | (rw [show t350.length = t337.length from (Kd.R_reads' HO_8.out).1.symm] <;> rfl) | rfl | (simp only [List.length_drop, List.length_take]; rfl)) ?_; (with_reducible refine (laws_heldIntS.calls kj25 _ _ t350 1 t351 _ ?side1 ?side2 A39.out).mono ?_); (case side1 => repeat (first | exact (Kd.R_reads' HO_8.out).2.2 | (with_reducible refine Kd.C_alloc ?_ _) | (with_reducible refine Kd.C_drewN ?_ _) | (with_reducible refine Kd.C_drew ?_))); (case side2 => rw [show t350.length = t337.length from (Kd.R_reads' HO_8.out).1.symm]; exact (Kd.R_reads' HO_8.out).2.1); rintro e w' ⟨rfl, ⟨nd, rfl⟩⟩; refine ⟨_, rfl, ?_⟩) | ((with_reducible refine gate_callee (f := 18) rfl ?_); refine goesL_ (some 76) rfl rfl Try.func18 (by kernel_rfl) rfl #[.slice A0 l0.length c0] rfl (by (try simp only [List.map_toArray, List.map_cons, List.map_nil]); first | done | rfl | (simp only [List.length_drop, List.length_take]; rfl)) ?_; (with_reducible refine (laws_toIntS.calls kj25 _ _ l0 t352 _ ?side1 ?side2 A44.out).mono ?_); (case side1 => repeat (first | exact (Kd.C_below HR0.out (by repeat (first | (with_reducible first | exact HB.out | apply below_alloc | apply pw_below_drewN | apply below_drew1) | exact HB.out))) | (with_reducible refine Kd.C_alloc ?_ _) | (with_reducible refine Kd.C_drewN ?_ _) | (with_reducible refine Kd.C_drew ?_))); (case side2 => exact HC0.out); rintro e w49 ⟨v353, rfl, ho0, hb⟩; refine ⟨_, rfl, ?_⟩; have n0_ := Aside0.mk (Kd.R_elder' (by (with_reducible repeat (first | apply Kd.R_alloc | apply Kd.R_drewN | apply Kd.R_drew)); exact HO_5.out) (Kd.R_base ho0) hb); have n1_ := Aside0.mk (Kd.R_elder' (by (with_reducible repeat (first | apply Kd.R_alloc | apply Kd.R_drewN | apply Kd.R_drew)); exact HO_8.out) (Kd.R_base ho0) hb); have n2_ := Aside0.mk (Kd.R_lower (Kd.R_new' (Kd.R_new' ho0 (Kd.R_lt (by (with_reducible repeat (first | apply Kd.R_alloc | apply Kd.R_drewN | apply Kd.R_drew)); exact HO_5.out))) (Kd.R_lt (by (with_reducible repeat (first | apply Kd.R_alloc | apply Kd.R_drewN | apply Kd.R_drew)); exact HO_8.out))) (below_size (by repeat (first | (with_reducible first | exact HB.out | apply below_alloc | apply pw_below_drewN | apply below_drew1) | exact HB.out)))); have n3_ := Aside0.mk (below_step (by repeat (first | (with_reducible first | exact HB.out | apply below_alloc | apply pw_below_drewN | apply below_drew1) | exact HB.out)) hb); clear HO_5; clear HO_8; clear HB; have HO_5 := n0_; have HO_8 := n1_; have HO354 := n2_; have HB := n3_; clear n0_ n1_ n2_ n3_; (try clear hb); (try clear hb2); (try clear hk); (try clear hi); (try clear ho0); obtain ⟨Ao50, co50, eo50⟩ := Kd.R_slice HO354.out; subst eo50) | ((with_reducible refine gate_callee (f := 35) rfl ?_); refine goesL_ (some 78) rfl rfl Try.func35 (by kernel_rfl) rfl #[.slice Ao50 t352.length co50, .int .i64 a1] rfl (by (try simp only [List.map_toArray, List.map_cons, List.map_nil]); first | done | rfl | (simp only [List.length_drop, List.length_take]; rfl)) ?_; (with_reducible refine (impl_SpreadRow.calls kj25 _ _ t352 a1 t355 t356 _ ?side1 ?side2 A45.out).mono ?_); (case side1 => repeat (first | exact (Kd.R_reads' HO354.out).2.2 | (with_reducible refine Kd.C_alloc ?_ _) | (with_reducible refine Kd.C_drewN ?_ _) | (with_reducible refine Kd.C_drew ?_))); (case side2 => exact (Kd.R_reads' HO354.out).2.1); rintro e w51 ⟨v357, rfl, ho0, hb⟩; refine ⟨_, rfl, ?_⟩; have n0_ := Aside0.mk (Kd.R_elder' (by (with_reducible repeat (first | apply Kd.R_alloc | apply Kd.R_drewN | apply Kd.R_drew)); exact HO_5.out) (Kd.R_base ho0) hb); have n1_ := Aside0.mk (Kd.R_elder' (by (with_reducible repeat (first | apply Kd.R_alloc | apply Kd.R_drewN | apply Kd.R_drew)); exact HO_8.out) (Kd.R_base ho0) hb); have n2_ := Aside0.mk (Kd.R_elder' (by (with_reducible repeat (first | apply Kd.R_alloc | apply Kd.R_drewN | apply Kd.R_drew)); exact HO354.out) (Kd.R_base ho0) hb); have n3_ := Aside0.mk (Kd.R_lower (Kd.R_new' (Kd.R_new' (Kd.R_new' ho0 (Kd.R_lt (by (with_reducible repeat (first | apply Kd.R_alloc | apply Kd.R_drewN | apply Kd.R_drew)); exact HO_5.out))) (Kd.R_lt (by (with_reducible repeat (first | apply Kd.R_alloc | apply Kd.R_drewN | apply Kd.R_drew)); exact HO_8.out))) (Kd.R_lt (by (with_reducible repeat (first | apply Kd.R_alloc | apply Kd.R_drewN | apply Kd.R_drew)); exact HO354.out))) (below_size (by repeat (first | (with_reducible first | exact HB.out | apply below_alloc | apply pw_below_drewN | apply below_drew1) | exact HB.out)))); have n4_ := Aside0.mk (below_step (by repeat (first | (with_reducible first | exact HB.out | apply below_alloc | apply pw_below_drewN | apply below_drew1) | exact HB.out)) hb); clear HO_5; clear HO_8; clear HO354; clear HB; have HO_5 := n0_; have HO_8 := n1_; have HO354 := n2_; have HO358 := n3_; have HB := n4_; clear n0_ n1_ n2_ n3_ n4_; (try clear hb); (try clear hb2); (try clear hk); (try clear hi); (try clear ho0)))
                      (try simp only [Act.put, List.setIfInBounds_toArray, List.set_cons_zero, List.set_cons_succ])
                      go_cut [89] (fun v89 wc => ∃ (kq : Nat) (x89_45 : Bool), v89 = .bool x89_45 ∧ Aside0 (laws_FnExactSpreadRow.j2 kq t350 t349 x89_45 = some r) ∧ Aside0 (kq ≤ kj25) ∧ Aside0 (Kd.R (Kd.int .i64) 3 wc w.heap.size (fun _ => True) (.slice Ao47 t337.length co47) t350) ∧ Aside0 (Below w.heap.size w wc))
                      case first =>
                        have H := HC46.out
                        clear HC46
                        replace H := Option.bind_eq_some_iff.mp H
                        obtain ⟨t359, A520, H⟩ := H
                        replace H : (if t359 = true then (laws_FnExactSpreadRow.j2 kj25 t350 t349 (t356 != t331)) else (laws_FnExactSpreadRow.j2 kj25 t350 t349 true)) = some r := H
                        have A52 := Aside0.mk A520
                        clear A520
                        by_cases c53 : t359 = true
                        · subst c53
                          have H1 : (laws_FnExactSpreadRow.j2 kj25 t350 t349 (t356 != t331)) = some r := by rw [if_pos rfl] at H; exact H
                          clear H
                          have H := H1
                          clear H1
                          have H' := Aside0.mk H
                          clear H
                          obtain ⟨Ao54, co54, eo54⟩ := Kd.R_slice HO358.out
                          subst eo54
                          obtain ⟨Ao55, co55, eo55⟩ := Kd.R_slice HO_5.out
                          subst eo55
                          go_wp2_with (first | ((with_reducible refine gate_callee (f := 20) rfl ?_); refine goesL_ (some 83) rfl rfl Try.func20 (by kernel_rfl) rfl #[.slice Ao54 t355.length co54, .slice Ao55 t330.length co55] rfl (by (try simp only [List.map_toArray, List.map_cons, List.map_nil]); first | done | rfl | (simp only [List.length_drop, List.length_take]; rfl)) ?_; (with_reducible refine (laws_eqIntS.calls kj25 _ _ t355 _ _ t330 true _ ?side1 ?side2 ?side3 ?side4 A52.out).mono ?_); (case side1 => repeat (first | exact (Kd.R_reads' HO358.out).2.2 | (with_reducible refine Kd.C_alloc ?_ _) | (with_reducible refine Kd.C_drewN ?_ _) | (with_reducible refine Kd.C_drew ?_))); (case side2 => exact (Kd.R_reads' HO358.out).2.1); (case side3 => repeat (first | exact (Kd.R_reads' HO_5.out).2.2 | (with_reducible refine Kd.C_alloc ?_ _) | (with_reducible refine Kd.C_drewN ?_ _) | (with_reducible refine Kd.C_drew ?_))); (case side4 => exact (Kd.R_reads' HO_5.out).2.1); rintro e w' ⟨rfl, ⟨nd, rfl⟩⟩; refine ⟨_, rfl, ?_⟩))
                          go_meet
                          case rel => exact ⟨_, ((t356 != t331)), (by first | rfl | (simp; done) | (simp [*]; done)), H', ⟨by have := HJ7.out; have := HJ25.out; first | omega | exact Nat.le_refl _⟩, ⟨by (with_reducible repeat (first | apply Kd.R_alloc | apply Kd.R_drewN | apply Kd.R_drew)); exact Kd.R_mono HO_8.out (fun _ hk => trivial)⟩, ⟨by repeat (first | (with_reducible first | exact HB.out | apply below_alloc | apply pw_below_drewN | apply below_drew1) | exact HB.out)⟩⟩
                        · replace c53 := Bool.eq_false_iff.mpr c53
                          subst c53
                          have H1 : (laws_FnExactSpreadRow.j2 kj25 t350 t349 true) = some r := by rw [if_neg (show ¬ (false = true) by decide)] at H; exact H
                          clear H
                          have H := H1
                          clear H1
                          have H' := Aside0.mk H
                          clear H
                          obtain ⟨Ao56, co56, eo56⟩ := Kd.R_slice HO358.out
                          subst eo56
                          obtain ⟨Ao57, co57, eo57⟩ := Kd.R_slice HO_5.out
                          subst eo57
                          go_wp2_with (first | ((with_reducible refine gate_callee (f := 20) rfl ?_); refine goesL_ (some 83) rfl rfl Try.func20 (by kernel_rfl) rfl #[.slice Ao56 t355.length co56, .slice Ao57 t330.length co57] rfl (by (try simp only [List.map_toArray, List.map_cons, List.map_nil]); first | done | rfl | (simp only [List.length_drop, List.length_take]; rfl)) ?_; (with_reducible refine (laws_eqIntS.calls kj25 _ _ t355 _ _ t330 false _ ?side1 ?side2 ?side3 ?side4 A52.out).mono ?_); (case side1 => repeat (first | exact (Kd.R_reads' HO358.out).2.2 | (with_reducible refine Kd.C_alloc ?_ _) | (with_reducible refine Kd.C_drewN ?_ _) | (with_reducible refine Kd.C_drew ?_))); (case side2 => exact (Kd.R_reads' HO358.out).2.1); (case side3 => repeat (first | exact (Kd.R_reads' HO_5.out).2.2 | (with_reducible refine Kd.C_alloc ?_ _) | (with_reducible refine Kd.C_drewN ?_ _) | (with_reducible refine Kd.C_drew ?_))); (case side4 => exact (Kd.R_reads' HO_5.out).2.1); rintro e w' ⟨rfl, ⟨nd, rfl⟩⟩; refine ⟨_, rfl, ?_⟩))
                          go_meet
                          case rel => exact ⟨_, (true), (by first | rfl | (simp; done) | (simp [*]; done)), H', ⟨by have := HJ7.out; have := HJ25.out; first | omega | exact Nat.le_refl _⟩, ⟨by (with_reducible repeat (first | apply Kd.R_alloc | apply Kd.R_drewN | apply Kd.R_drew)); exact Kd.R_mono HO_8.out (fun _ hk => trivial)⟩, ⟨by repeat (first | (with_reducible first | exact HB.out | apply below_alloc | apply pw_below_drewN | apply below_drew1) | exact HB.out)⟩⟩
                      case rest =>
                        clear HC46
                        try clear c1
                        try clear c2
                        try clear p2
                        try clear c3
                        try clear c3b0
                        try clear c3b1
                        try clear c4
                        try clear c5
                        try clear c9
                        try clear c16
                        try clear c18
                        try clear c20
                        try clear c21
                        try clear c22
                        try clear c24
                        try clear c30
                        try clear c30b0
                        try clear c32
                        try clear c34
                        try clear c35
                        try clear c37
                        try clear c40
                        try clear c40b0
                        try clear c43
                        try clear c43b0
                        try clear c43b1
                        try clear c53
                        try clear p2
                        obtain ⟨kq, x89_45, rfl, HA, HJ45, HO_8, HB⟩ := hcut
                        have hl8_45 := (Kd.R_reads' HO_8.out).1
                        rw [hl8_45] at HO_8
                        (try simp only [hl8_45])
                        cases kq with
                        | zero => exact absurd HA.out (by simp [laws_FnExactSpreadRow.j2])
                        | succ kj45 =>
                          have H := HA.out
                          clear HA
                          simp only [laws_FnExactSpreadRow.j2] at H
                          by_cases c58 : x89_45 = true
                          · subst c58
                            have H1 : (some false) = some r := by rw [if_pos rfl] at H; exact H
                            clear H
                            have H := H1
                            clear H1
                            obtain rfl := Option.some.inj H
                            go_wp2
                            go_ret
                            exact ⟨by first | rfl | (simp [errW_none, errW_some] <;> rfl) | (simp [*, errW_none, errW_some] <;> rfl), by repeat (first | (with_reducible first | exact HB.out | apply below_alloc | apply pw_below_drewN | apply below_drew1) | exact HB.out)⟩
                          · replace c58 := Bool.eq_false_iff.mpr c58
                            subst c58
                            have H1 : ((laws_heldIntS.f kj45 t350 1).bind fun t360 => (if t360 < 0 then (some false) else (if t360 = t349 then (some true) else (some false)))) = some r := by rw [if_neg (show ¬ (false = true) by decide)] at H; exact H
                            clear H
                            have H := H1
                            clear H1
                            replace H := Option.bind_eq_some_iff.mp H
                            obtain ⟨t360, A590, H⟩ := H
                            replace H : (if t360 < 0 then (some false) else (if t360 = t349 then (some true) else (some false))) = some r := H
                            have A59 := Aside0.mk A590
                            clear A590
                            by_cases c60 : t360 < 0
                            · rw [if_pos c60] at H
                              have c60b0 : decide (t360 < 0) = true := decide_eq_true c60
                              clear c60
                              obtain rfl := Option.some.inj H
                              go_wp2_with (first | ((with_reducible refine gate_callee (f := 22) rfl ?_); refine goesL_ (some 92) rfl rfl Try.func22 (by kernel_rfl) rfl #[.slice Ao47 t350.length co47, .int .i64 1] rfl (by (try simp only [List.map_toArray, List.map_cons, List.map_nil]); first | done | rfl | (simp only [List.length_drop, List.length_take]; rfl)) ?_; (with_reducible refine (laws_heldIntS.calls kj45 _ _ t350 1 t360 _ ?side1 ?side2 A59.out).mono ?_); (case side1 => repeat (first | exact (Kd.R_reads' HO_8.out).2.2 | (with_reducible refine Kd.C_alloc ?_ _) | (with_reducible refine Kd.C_drewN ?_ _) | (with_reducible refine Kd.C_drew ?_))); (case side2 => exact (Kd.R_reads' HO_8.out).2.1); rintro e w' ⟨rfl, ⟨nd, rfl⟩⟩; refine ⟨_, rfl, ?_⟩))
                              go_ret
                              exact ⟨by first | rfl | (simp [errW_none, errW_some] <;> rfl) | (simp [*, errW_none, errW_some] <;> rfl), by repeat (first | (with_reducible first | exact HB.out | apply below_alloc | apply pw_below_drewN | apply below_drew1) | exact HB.out)⟩
                            · rw [if_neg c60] at H
                              have c60b0 : decide (t360 < 0) = false := decide_eq_false c60
                              clear c60
                              by_cases c61 : t360 = t349
                              · rw [if_pos c61] at H
                                have c61b0 : (t360 == t349) = true := beq_iff_eq.mpr c61
                                have c61b1 : (t360 != t349) = false := bne_eq_false_iff_eq.mpr c61
                                clear c61
                                obtain rfl := Option.some.inj H
                                go_wp2_with (first | ((with_reducible refine gate_callee (f := 22) rfl ?_); refine goesL_ (some 92) rfl rfl Try.func22 (by kernel_rfl) rfl #[.slice Ao47 t350.length co47, .int .i64 1] rfl (by (try simp only [List.map_toArray, List.map_cons, List.map_nil]); first | done | rfl | (simp only [List.length_drop, List.length_take]; rfl)) ?_; (with_reducible refine (laws_heldIntS.calls kj45 _ _ t350 1 t360 _ ?side1 ?side2 A59.out).mono ?_); (case side1 => repeat (first | exact (Kd.R_reads' HO_8.out).2.2 | (with_reducible refine Kd.C_alloc ?_ _) | (with_reducible refine Kd.C_drewN ?_ _) | (with_reducible refine Kd.C_drew ?_))); (case side2 => exact (Kd.R_reads' HO_8.out).2.1); rintro e w' ⟨rfl, ⟨nd, rfl⟩⟩; refine ⟨_, rfl, ?_⟩))
                                go_ret
                                exact ⟨by first | rfl | (simp [errW_none, errW_some] <;> rfl) | (simp [*, errW_none, errW_some] <;> rfl), by repeat (first | (with_reducible first | exact HB.out | apply below_alloc | apply pw_below_drewN | apply below_drew1) | exact HB.out)⟩
                              · rw [if_neg c61] at H
                                have c61b0 : (t360 == t349) = false := beq_eq_false_iff_ne.mpr c61
                                have c61b1 : (t360 != t349) = true := bne_iff_ne.mpr c61
                                obtain rfl := Option.some.inj H
                                go_wp2_with (first | ((with_reducible refine gate_callee (f := 22) rfl ?_); refine goesL_ (some 92) rfl rfl Try.func22 (by kernel_rfl) rfl #[.slice Ao47 t350.length co47, .int .i64 1] rfl (by (try simp only [List.map_toArray, List.map_cons, List.map_nil]); first | done | rfl | (simp only [List.length_drop, List.length_take]; rfl)) ?_; (with_reducible refine (laws_heldIntS.calls kj45 _ _ t350 1 t360 _ ?side1 ?side2 A59.out).mono ?_); (case side1 => repeat (first | exact (Kd.R_reads' HO_8.out).2.2 | (with_reducible refine Kd.C_alloc ?_ _) | (with_reducible refine Kd.C_drewN ?_ _) | (with_reducible refine Kd.C_drew ?_))); (case side2 => exact (Kd.R_reads' HO_8.out).2.1); rintro e w' ⟨rfl, ⟨nd, rfl⟩⟩; refine ⟨_, rfl, ?_⟩))
                                go_ret
                                exact ⟨by first | rfl | (simp [errW_none, errW_some] <;> rfl) | (simp [*, errW_none, errW_some] <;> rfl), by repeat (first | (with_reducible first | exact HB.out | apply below_alloc | apply pw_below_drewN | apply below_drew1) | exact HB.out)⟩
                    · rw [if_neg c43] at H
                      have c43b0 : (t351 == t349) = false := beq_eq_false_iff_ne.mpr c43
                      have c43b1 : (t351 != t349) = true := bne_iff_ne.mpr c43
                      obtain rfl := Option.some.inj H
                      obtain ⟨Ao62, co62, eo62⟩ := Kd.R_slice HO_8.out
                      subst eo62
                      go_wp2_with (first | ((with_reducible refine gate_callee (f := 21) rfl ?_); refine goesL_ (some 65) rfl rfl Try.func21 (by kernel_rfl) rfl #[.slice Ao62 t337.length co62, .int .i64 1] rfl (by (try simp only [List.map_toArray, List.map_cons, List.map_nil]); first | done | rfl | (simp only [List.length_drop, List.length_take]; rfl)) ?_; (with_reducible refine (laws_markIntS.calls kj25 (fun k_ => some k_ = (.slice Ao62 t337.length co62 : Value).ownBlock) (.slice Ao62 t337.length co62) t337 1 t349 t350 w _ ?side1 ?side2 A38.out).mono ?_); (case side1 => repeat (first | (with_reducible first | exact HB.out | apply below_alloc | apply pw_below_drewN | apply below_drew1) | exact HB.out)); (case side2 => exact Kd.R_tight rfl HO_8.out); rintro e w63 ⟨rfl, hy0, hb, hkp⟩; refine ⟨_, rfl, ?_⟩; have n0_ := Aside0.mk (Kd.R_mono (ok' := fun k_ => some k_ ≠ (.slice Ao62 t337.length co62 : Value).ownBlock) (Kd.R_keptB (HO_5.out) hkp (fun k_ hk_ hs_ => (hk_) hs_)) (fun k_ hk_ => hk_.1)); have n1_ := Aside0.mk (Kd.R_reok rfl hy0 (fun k_ e_ => HO_8.out.1 k_ e_)); have n2_ := Aside0.mk (hb); clear HO_5; clear HO_8; clear HB; have HO_5 := n0_; have HO_8 := n1_; have HB := n2_; clear n0_ n1_ n2_; (try clear hb); (try clear hkp); (try clear hy0)) | ((with_reducible refine gate_callee (f := 22) rfl ?_); refine goesL_ (some 68) rfl rfl Try.func22 (by kernel_rfl) rfl #[.slice Ao62 t350.length co62, .int .i64 1] rfl (by (try simp only [List.map_toArray, List.map_cons, List.map_nil]); first | done | (rw [show t350.length = t337.length from (Kd.R_reads' HO_8.out).1.symm] <;> rfl) | rfl | (simp only [List.length_drop, List.length_take]; rfl)) ?_; (with_reducible refine (laws_heldIntS.calls kj25 _ _ t350 1 t351 _ ?side1 ?side2 A39.out).mono ?_); (case side1 => repeat (first | exact (Kd.R_reads' HO_8.out).2.2 | (with_reducible refine Kd.C_alloc ?_ _) | (with_reducible refine Kd.C_drewN ?_ _) | (with_reducible refine Kd.C_drew ?_))); (case side2 => rw [show t350.length = t337.length from (Kd.R_reads' HO_8.out).1.symm]; exact (Kd.R_reads' HO_8.out).2.1); rintro e w' ⟨rfl, ⟨nd, rfl⟩⟩; refine ⟨_, rfl, ?_⟩))
                      go_ret
                      exact ⟨by first | rfl | (simp [errW_none, errW_some] <;> rfl) | (simp [*, errW_none, errW_some] <;> rfl), by repeat (first | (with_reducible first | exact HB.out | apply below_alloc | apply pw_below_drewN | apply below_drew1) | exact HB.out)⟩
          · replace c24 := Bool.eq_false_iff.mpr c24
            subst c24
            have H1 : (some false) = some r := by rw [if_neg (show ¬ (false = true) by decide)] at H; exact H
            clear H
            have H := H1
            clear H1
            obtain rfl := Option.some.inj H
            go_wp2_with (first | ((with_reducible refine gate_callee (f := 18) rfl ?_); refine goesL_ (some 44) rfl rfl Try.func18 (by kernel_rfl) rfl #[.slice A0 l0.length c0] rfl (by (try simp only [List.map_toArray, List.map_cons, List.map_nil]); first | done | rfl | (simp only [List.length_drop, List.length_take]; rfl)) ?_; (with_reducible refine (laws_toIntS.calls kj7 _ _ l0 t342 _ ?side1 ?side2 A22.out).mono ?_); (case side1 => repeat (first | exact (Kd.C_below HR0.out HB.out) | (with_reducible refine Kd.C_alloc ?_ _) | (with_reducible refine Kd.C_drewN ?_ _) | (with_reducible refine Kd.C_drew ?_))); (case side2 => exact HC0.out); rintro e w64 ⟨v343, rfl, ho0, hb⟩; refine ⟨_, rfl, ?_⟩; have n0_ := Aside0.mk (Kd.R_elder' (by (with_reducible repeat (first | apply Kd.R_alloc | apply Kd.R_drewN | apply Kd.R_drew)); exact HO_5.out) (Kd.R_base ho0) hb); have n1_ := Aside0.mk (Kd.R_elder' (by (with_reducible repeat (first | apply Kd.R_alloc | apply Kd.R_drewN | apply Kd.R_drew)); exact HO_7.out) (Kd.R_base ho0) hb); have n2_ := Aside0.mk (Kd.R_elder' (by (with_reducible repeat (first | apply Kd.R_alloc | apply Kd.R_drewN | apply Kd.R_drew)); exact HO_8.out) (Kd.R_base ho0) hb); have n3_ := Aside0.mk (Kd.R_lower (Kd.R_new' (Kd.R_new' (Kd.R_new' ho0 (Kd.R_lt (by (with_reducible repeat (first | apply Kd.R_alloc | apply Kd.R_drewN | apply Kd.R_drew)); exact HO_5.out))) (Kd.R_lt (by (with_reducible repeat (first | apply Kd.R_alloc | apply Kd.R_drewN | apply Kd.R_drew)); exact HO_7.out))) (Kd.R_lt (by (with_reducible repeat (first | apply Kd.R_alloc | apply Kd.R_drewN | apply Kd.R_drew)); exact HO_8.out))) (below_size (by repeat (first | (with_reducible first | exact HB.out | apply below_alloc | apply pw_below_drewN | apply below_drew1) | exact HB.out)))); have n4_ := Aside0.mk (below_step (by repeat (first | (with_reducible first | exact HB.out | apply below_alloc | apply pw_below_drewN | apply below_drew1) | exact HB.out)) hb); clear HO_5; clear HO_7; clear HO_8; clear HB; have HO_5 := n0_; have HO_7 := n1_; have HO_8 := n2_; have HO344 := n3_; have HB := n4_; clear n0_ n1_ n2_ n3_ n4_; (try clear hb); (try clear hb2); (try clear hk); (try clear hi); (try clear ho0); obtain ⟨Ao65, co65, eo65⟩ := Kd.R_slice HO344.out; subst eo65) | ((with_reducible refine gate_callee (f := 20) rfl ?_); refine goesL_ (some 45) rfl rfl Try.func20 (by kernel_rfl) rfl #[.slice Ao13 t334.length co13, .slice Ao65 t342.length co65] rfl (by (try simp only [List.map_toArray, List.map_cons, List.map_nil]); first | done | rfl | (simp only [List.length_drop, List.length_take]; rfl)) ?_; (with_reducible refine (laws_eqIntS.calls kj7 _ _ t334 _ _ t342 false _ ?side1 ?side2 ?side3 ?side4 A23.out).mono ?_); (case side1 => repeat (first | exact (Kd.R_reads' HO_7.out).2.2 | (with_reducible refine Kd.C_alloc ?_ _) | (with_reducible refine Kd.C_drewN ?_ _) | (with_reducible refine Kd.C_drew ?_))); (case side2 => exact (Kd.R_reads' HO_7.out).2.1); (case side3 => repeat (first | exact (Kd.R_reads' HO344.out).2.2 | (with_reducible refine Kd.C_alloc ?_ _) | (with_reducible refine Kd.C_drewN ?_ _) | (with_reducible refine Kd.C_drew ?_))); (case side4 => exact (Kd.R_reads' HO344.out).2.1); rintro e w' ⟨rfl, ⟨nd, rfl⟩⟩; refine ⟨_, rfl, ?_⟩))
            go_ret
            exact ⟨by first | rfl | (simp [errW_none, errW_some] <;> rfl) | (simp [*, errW_none, errW_some] <;> rfl), by repeat (first | (with_reducible first | exact HB.out | apply below_alloc | apply pw_below_drewN | apply below_drew1) | exact HB.out)⟩

/-- The statement of laws_FnExactSpreadRow over numbers and lists. -/
def laws_FnExactSpreadRow.Pure : Prop := ∀ (l0 : List Int) (a1 : Int), l0.length ≤ maxLen → l0.length * 8 ≤ 140737488351232 → (∀ x ∈ l0, (Lit.int .i64 x).wf = true) → (Lit.int .i64 a1).wf = true → ∃ k, laws_FnExactSpreadRow.f k l0 a1 = some true
theorem laws_FnExactSpreadRow.walk (P : laws_FnExactSpreadRow.Pure) (a0 : Option Addr) (len0 cap0 : Nat) (z0 : List Int) (a1 : Int) (w : World) (w0 : (a0 = none ∧ len0 = 0 ∧ cap0 = 0 ∧ z0 = []) ∨ ∃ x, a0 = some x ∧ len0 ≤ cap0 ∧ cap0 ≤ maxLen ∧ z0.length = cap0 ∧ (∀ i, i < z0.length → w.cell? (x.add i) = some (.int .i64 (z0.getD i 0))) ∧ ∀ n ∈ z0, (Lit.int .i64 n).wf = true) (y0 : len0 * 8 ≤ 140737488351232) (w1 : (Lit.int .i64 a1).wf = true) :
    Calls Try.prog 9 #[.slice a0 len0 cap0, .int .i64 a1] w fun e w' => e = .returned (.bool true) ∧ Below w.heap.size w w' := by
  obtain ⟨l0, rfl, hr0, hm0, hw0, hc0⟩ := ReadsInt.ofRowC w0
  obtain ⟨k, h⟩ := P l0 a1 hm0 y0 hw0 w1
  refine (laws_FnExactSpreadRow.calls k _ _ l0 a1 true w (Kd.C_of_reads (d := (0 : Int)) (h1 := fun _ => rfl) hr0) hc0 h).mono ?_
  rintro e w' ⟨rfl, hd⟩
  exact ⟨rfl, hd⟩

noncomputable def laws_FnExactSpreadRow.J0 (x0 : List Int) (x1 : Int) (x5 : List Int) (x6 : Bool) (x7 : List Int) (x8 : List Int) (x9 : Bool) (x41 : Bool) : Option (Bool) := lim fun k => laws_FnExactSpreadRow.j0 k x0 x1 x5 x6 x7 x8 x9 x41
theorem laws_FnExactSpreadRow.J0_lim (x0 : List Int) (x1 : Int) (x5 : List Int) (x6 : Bool) (x7 : List Int) (x8 : List Int) (x9 : Bool) (x41 : Bool) : Lim (fun k => laws_FnExactSpreadRow.j0 k x0 x1 x5 x6 x7 x8 x9 x41) (laws_FnExactSpreadRow.J0 x0 x1 x5 x6 x7 x8 x9 x41) := Lim.of fun k => (laws_FnExactSpreadRow.mono_l k).1 x0 x1 x5 x6 x7 x8 x9 x41
noncomputable def laws_FnExactSpreadRow.J1 (x0 : List Int) (x1 : Int) (x5 : List Int) (x6 : Bool) (x8 : List Int) (x62 : Bool) : Option (Bool) := lim fun k => laws_FnExactSpreadRow.j1 k x0 x1 x5 x6 x8 x62
theorem laws_FnExactSpreadRow.J1_lim (x0 : List Int) (x1 : Int) (x5 : List Int) (x6 : Bool) (x8 : List Int) (x62 : Bool) : Lim (fun k => laws_FnExactSpreadRow.j1 k x0 x1 x5 x6 x8 x62) (laws_FnExactSpreadRow.J1 x0 x1 x5 x6 x8 x62) := Lim.of fun k => (laws_FnExactSpreadRow.mono_l k).2.1 x0 x1 x5 x6 x8 x62
noncomputable def laws_FnExactSpreadRow.J2 (x8 : List Int) (x11 : Int) (x89 : Bool) : Option (Bool) := lim fun k => laws_FnExactSpreadRow.j2 k x8 x11 x89
theorem laws_FnExactSpreadRow.J2_lim (x8 : List Int) (x11 : Int) (x89 : Bool) : Lim (fun k => laws_FnExactSpreadRow.j2 k x8 x11 x89) (laws_FnExactSpreadRow.J2 x8 x11 x89) := Lim.of fun k => (laws_FnExactSpreadRow.mono_l k).2.2 x8 x11 x89
noncomputable def laws_FnExactSpreadRow.F (l0 : List Int) (a1 : Int) : Option (Bool) := lim fun k => laws_FnExactSpreadRow.f k l0 a1
theorem laws_FnExactSpreadRow.F_lim (l0 : List Int) (a1 : Int) : Lim (fun k => laws_FnExactSpreadRow.f k l0 a1) (laws_FnExactSpreadRow.F l0 a1) := Lim.of fun k => laws_FnExactSpreadRow.mono l0 a1 k
theorem laws_FnExactSpreadRow.J0_eq (x0 : List Int) (x1 : Int) (x5 : List Int) (x6 : Bool) (x7 : List Int) (x8 : List Int) (x9 : Bool) (x41 : Bool) : laws_FnExactSpreadRow.J0 x0 x1 x5 x6 x7 x8 x9 x41 = (if x41 = true then (some false) else ((laws_toIntS.F x0).bind fun t342 => ((laws_eqIntS.F x7 t342).bind fun t345 => (if t345 = true then ((laws_markIntS.F x7 1).bind fun bt346 => (if bt346.1 < 0 then (laws_FnExactSpreadRow.J1 x0 x1 x5 x6 x8 true) else ((laws_eqIntS.F x8 x5).bind fun t348 => (if t348 = true then (laws_FnExactSpreadRow.J1 x0 x1 x5 x6 x8 (x9 != x6)) else (laws_FnExactSpreadRow.J1 x0 x1 x5 x6 x8 true))))) else (some false))))) :=
  Lim.step (f := fun k => (if x41 = true then (some false) else ((laws_toIntS.f k x0).bind fun t342 => ((laws_eqIntS.f k x7 t342).bind fun t345 => (if t345 = true then ((laws_markIntS.f k x7 1).bind fun bt346 => (if bt346.1 < 0 then (laws_FnExactSpreadRow.j1 k x0 x1 x5 x6 x8 true) else ((laws_eqIntS.f k x8 x5).bind fun t348 => (if t348 = true then (laws_FnExactSpreadRow.j1 k x0 x1 x5 x6 x8 (x9 != x6)) else (laws_FnExactSpreadRow.j1 k x0 x1 x5 x6 x8 true))))) else (some false)))))) (laws_FnExactSpreadRow.J0_lim x0 x1 x5 x6 x7 x8 x9 x41) (fun k => by first | rfl | rw [laws_FnExactSpreadRow.j0]) (by
    repeat' first
    | (with_reducible exact Lim.const _)
    | (with_reducible exact laws_FnExactSpreadRow.J1_lim _ _ _ _ _ _)
    | (with_reducible exact laws_eqIntS.F_lim _ _)
    | (with_reducible exact laws_markIntS.F_lim _ _)
    | (with_reducible exact laws_toIntS.F_lim _)
    | (with_reducible refine Lim.ite ?_ ?_)
    | (with_reducible refine Lim.bind ?_ (fun _ => ?_)))
theorem laws_FnExactSpreadRow.J1_eq (x0 : List Int) (x1 : Int) (x5 : List Int) (x6 : Bool) (x8 : List Int) (x62 : Bool) : laws_FnExactSpreadRow.J1 x0 x1 x5 x6 x8 x62 = (if x62 = true then (some false) else ((laws_markIntS.F x8 1).bind fun bt349 => ((laws_heldIntS.F bt349.2 1).bind fun t351 => (if t351 < 0 then (some false) else (if t351 = bt349.1 then ((laws_toIntS.F x0).bind fun t352 => ((impl_SpreadRow.F t352 x1).bind fun bt355 => ((laws_eqIntS.F bt355.1 x5).bind fun t359 => (if t359 = true then (laws_FnExactSpreadRow.J2 bt349.2 bt349.1 (bt355.2 != x6)) else (laws_FnExactSpreadRow.J2 bt349.2 bt349.1 true))))) else (some false)))))) :=
  Lim.step (f := fun k => (if x62 = true then (some false) else ((laws_markIntS.f k x8 1).bind fun bt349 => ((laws_heldIntS.f k bt349.2 1).bind fun t351 => (if t351 < 0 then (some false) else (if t351 = bt349.1 then ((laws_toIntS.f k x0).bind fun t352 => ((impl_SpreadRow.f k t352 x1).bind fun bt355 => ((laws_eqIntS.f k bt355.1 x5).bind fun t359 => (if t359 = true then (laws_FnExactSpreadRow.j2 k bt349.2 bt349.1 (bt355.2 != x6)) else (laws_FnExactSpreadRow.j2 k bt349.2 bt349.1 true))))) else (some false))))))) (laws_FnExactSpreadRow.J1_lim x0 x1 x5 x6 x8 x62) (fun k => by first | rfl | rw [laws_FnExactSpreadRow.j1]) (by
    repeat' first
    | (with_reducible exact Lim.const _)
    | (with_reducible exact impl_SpreadRow.F_lim _ _)
    | (with_reducible exact laws_FnExactSpreadRow.J2_lim _ _ _)
    | (with_reducible exact laws_eqIntS.F_lim _ _)
    | (with_reducible exact laws_heldIntS.F_lim _ _)
    | (with_reducible exact laws_markIntS.F_lim _ _)
    | (with_reducible exact laws_toIntS.F_lim _)
    | (with_reducible refine Lim.ite ?_ ?_)
    | (with_reducible refine Lim.bind ?_ (fun _ => ?_)))
theorem laws_FnExactSpreadRow.J2_eq (x8 : List Int) (x11 : Int) (x89 : Bool) : laws_FnExactSpreadRow.J2 x8 x11 x89 = (if x89 = true then (some false) else ((laws_heldIntS.F x8 1).bind fun t360 => (if t360 < 0 then (some false) else (if t360 = x11 then (some true) else (some false))))) :=
  Lim.step (f := fun k => (if x89 = true then (some false) else ((laws_heldIntS.f k x8 1).bind fun t360 => (if t360 < 0 then (some false) else (if t360 = x11 then (some true) else (some false)))))) (laws_FnExactSpreadRow.J2_lim x8 x11 x89) (fun k => by first | rfl | rw [laws_FnExactSpreadRow.j2]) (by
    repeat' first
    | (with_reducible exact Lim.const _)
    | (with_reducible exact laws_heldIntS.F_lim _ _)
    | (with_reducible refine Lim.ite ?_ ?_)
    | (with_reducible refine Lim.bind ?_ (fun _ => ?_)))
theorem laws_FnExactSpreadRow.F_eq (l0 : List Int) (a1 : Int) : laws_FnExactSpreadRow.F l0 a1 = (if (l0.length : Int) > 1048576 then (some true) else ((laws_toIntS.F l0).bind fun t327 => ((spec_SpreadRow.F t327 a1).bind fun bt330 => ((laws_toIntS.F l0).bind fun t334 => ((impl_SpreadRow.F t334 a1).bind fun bt337 => ((laws_eqIntS.F bt337.1 bt330.1).bind fun t341 => (if t341 = true then (laws_FnExactSpreadRow.J0 l0 a1 bt330.1 bt330.2 t334 bt337.1 bt337.2 (bt337.2 != bt330.2)) else (laws_FnExactSpreadRow.J0 l0 a1 bt330.1 bt330.2 t334 bt337.1 bt337.2 true)))))))) :=
  Lim.unique (laws_FnExactSpreadRow.F_lim l0 a1) (by
    unfold laws_FnExactSpreadRow.f
    repeat' first
    | (with_reducible exact Lim.const _)
    | (with_reducible exact impl_SpreadRow.F_lim _ _)
    | (with_reducible exact laws_FnExactSpreadRow.J0_lim _ _ _ _ _ _ _ _)
    | (with_reducible exact laws_eqIntS.F_lim _ _)
    | (with_reducible exact laws_toIntS.F_lim _)
    | (with_reducible exact spec_SpreadRow.F_lim _ _)
    | (with_reducible refine Lim.ite ?_ ?_)
    | (with_reducible refine Lim.bind ?_ (fun _ => ?_)))

end Go.Proofs.Ytmhcgihkijiecaa.Fn
namespace Go.Proofs.Ytmhcgihkijiecaa.Fn
open Go.RowKit Go.Proofs.YtmhcgihkijiecaaW.PrintWords Go.Proofs.YtmhcgihkijiecaaW.PrintLast Go.Proofs.YtmhcgihkijiecaaW.PrintMore
set_option linter.unusedVariables false
set_option linter.unusedSimpArgs false
theorem laws_toIntS.L0_val : ∀ (suf pre junk : List Int), (pre ++ suf).length < 4611686018427387904 → junk.length = suf.length → laws_toIntS.L0 (pre ++ suf) (pre ++ junk) (pre.length : Int) = some (pre ++ suf)
  | [], pre, junk, h, hj => by
    obtain rfl : junk = [] := List.eq_nil_of_length_eq_zero hj
    rw [laws_toIntS.L0_eq, range_end]
  | x :: suf, pre, j :: junk, h, hj => by
    have hj' : junk.length = suf.length := by simpa using hj
    have h1 : (pre.length : Int) < ((pre ++ x :: suf).length : Int) := by rw [List.length_append, List.length_cons]; omega
    have h2 : (pre.length : Int) < ((pre ++ j :: junk).length : Int) := by rw [List.length_append, List.length_cons]; omega
    have ih := laws_toIntS.L0_val suf (pre ++ [x]) junk (by simpa using h) hj'
    rw [laws_toIntS.L0_eq, if_pos h1, if_pos (by omega), if_pos h2, rd_mid, wrap_mid h]
    have e : (pre ++ j :: junk).set ((pre.length : Int)).toNat x = (pre ++ [x]) ++ junk := by simp
    rw [e, app_mid]
    exact ih
theorem laws_toIntS.F_val (l : List Int) (h : l.length ≤ 35184372088832) : laws_toIntS.F l = some l := by
  rw [laws_toIntS.F_eq, if_pos (by omega), if_pos (by simpa using h)]
  have := laws_toIntS.L0_val l [] (List.replicate l.length 0) (by simp; omega) (by simp)
  simpa using this
theorem laws_eqIntS.L0_val : ∀ (sa pre sb : List Int), (pre ++ sa).length < 4611686018427387904 → sa.length = sb.length → laws_eqIntS.L0 (pre ++ sa) (pre ++ sb) (pre.length : Int) = some (decide (sa = sb))
  | [], pre, sb, h, hj => by
    obtain rfl : sb = [] := List.eq_nil_of_length_eq_zero hj.symm
    rw [laws_eqIntS.L0_eq, range_end]
    simp
  | x :: sa, pre, y :: sb, h, hj => by
    have h1 : (pre.length : Int) < ((pre ++ x :: sa).length : Int) := by rw [List.length_append, List.length_cons]; omega
    have h2 : (pre.length : Int) < ((pre ++ y :: sb).length : Int) := by rw [List.length_append, List.length_cons]; omega
    rw [laws_eqIntS.L0_eq, if_pos h1, if_pos (by omega), if_pos h2, rd_mid, rd_mid, wrap_mid h]
    by_cases e : x = y
    · subst e
      rw [if_pos rfl, app_mid pre x sa, app_mid pre x sb, laws_eqIntS.L0_val sa (pre ++ [x]) sb (by simpa using h) (by simpa using hj)]
      simp
    · rw [if_neg e]
      simp [e]
theorem laws_eqIntS.F_val (a b : List Int) (h : a.length < 4611686018427387904) : laws_eqIntS.F a b = some (decide (a = b)) := by
  rw [laws_eqIntS.F_eq]
  by_cases e : (a.length : Int) = (b.length : Int)
  · rw [if_pos e]
    have := laws_eqIntS.L0_val a [] b (by simpa using h) (by omega)
    simpa using this
  · rw [if_neg e]
    have : ¬ a = b := fun hab => e (by rw [hab])
    simp [this]
theorem laws_eqIntS.F_same (a : List Int) (h : a.length < 4611686018427387904) : laws_eqIntS.F a a = some true := by
  rw [laws_eqIntS.F_val a a h]
  simp
/-- The numbers k, k + 1, .., n of them. -/
def marks : Nat → Int → List Int
  | 0, _ => []
  | n + 1, k => k :: marks n (k + 1)
theorem marks_length : ∀ n k, (marks n k).length = n
  | 0, _ => rfl
  | n + 1, k => by simp [marks, marks_length n]
theorem laws_markIntS.L0_val : ∀ (suf pre : List Int) (k : Int), (pre ++ suf).length < 4611686018427387904 → 0 ≤ k → k + suf.length < 4611686018427387904 → laws_markIntS.L0 (pre ++ suf) k (pre.length : Int) = some (k + suf.length, pre ++ marks suf.length k)
  | [], pre, k, h, h0, hk => by
    rw [laws_markIntS.L0_eq, range_end]
    simp [marks]
  | x :: suf, pre, k, h, h0, hk => by
    have h1 : (pre.length : Int) < ((pre ++ x :: suf).length : Int) := by rw [List.length_append, List.length_cons]; omega
    have hk' : k + (suf.length + 1 : Nat) < 4611686018427387904 := by simpa using hk
    rw [laws_markIntS.L0_eq, if_pos h1, if_pos (by omega), wrap_mid h, wrap_in (n := k + 1) (by omega) (by omega)]
    have e : (pre ++ x :: suf).set ((pre.length : Int)).toNat k = (pre ++ [k]) ++ suf := by simp
    have el : ((pre ++ [x]).length : Int) = ((pre ++ [k]).length : Int) := by simp
    rw [e, el, laws_markIntS.L0_val suf (pre ++ [k]) (k + 1) (by simpa using h) (by omega) (by omega)]
    simp [marks]
    omega
theorem laws_markIntS.F_val (l : List Int) (k : Int) (h0 : 0 ≤ k) (hk : k + l.length < 4611686018427387904) : laws_markIntS.F l k = some (k + l.length, marks l.length k) := by
  rw [laws_markIntS.F_eq]
  have := laws_markIntS.L0_val l [] k (by simp; omega) h0 hk
  simpa using this
theorem laws_heldIntS.L0_val : ∀ (n : Nat) (pre : List Int) (k : Int), pre.length + n < 4611686018427387904 → 0 ≤ k → k + n < 4611686018427387904 → laws_heldIntS.L0 (pre ++ marks n k) k (pre.length : Int) = some (k + n)
  | 0, pre, k, h, h0, hk => by
    rw [laws_heldIntS.L0_eq, marks, range_end]
    simp
  | n + 1, pre, k, h, h0, hk => by
    have h1 : (pre.length : Int) < ((pre ++ k :: marks n (k + 1)).length : Int) := by rw [List.length_append, List.length_cons]; omega
    have h2 : (pre ++ k :: marks n (k + 1)).length < 4611686018427387904 := by rw [List.length_append, List.length_cons, marks_length]; omega
    rw [laws_heldIntS.L0_eq, marks, if_pos h1, if_pos (by omega), rd_mid, if_pos rfl, wrap_mid h2, wrap_in (n := k + 1) (by omega) (by omega), app_mid, laws_heldIntS.L0_val n (pre ++ [k]) (k + 1) (by simp; omega) (by omega) (by omega)]
    congr 1
    omega
theorem laws_heldIntS.F_val (n : Nat) (k : Int) (h0 : 0 ≤ k) (hk : k + n < 4611686018427387904) : laws_heldIntS.F (marks n k) k = some (k + n) := by
  rw [laws_heldIntS.F_eq]
  have := laws_heldIntS.L0_val n [] k (by simp; omega) h0 hk
  simpa using this
end Go.Proofs.Ytmhcgihkijiecaa.Fn
namespace Go.Proofs.Ytmhcgihkijiecaa.Fn
open Go.RowKit Go.Proofs.YtmhcgihkijiecaaW.PrintWords Go.Proofs.YtmhcgihkijiecaaW.PrintLast Go.Proofs.YtmhcgihkijiecaaW.PrintMore
attribute [local go_sem] max2_int min2_int max_two min_two max_three min_three max_four min_four   -- for this text's walks alone
set_option linter.unusedVariables false
set_option linter.unusedSimpArgs false

/-! ### spec_l1Own: function 50 -/
def spec_l1Own.f (l0 : List Int) : Option (List Int) := (some (([] : List Int) : List Int)).bind fun y113 => (if y113.length + l0.length < 17592186044416 then (some (y113 ++ l0)) else (none))
set_option maxHeartbeats 8000000 in
set_option maxRecDepth 100000 in
theorem spec_l1Own.calls (A0 : Option Addr) (c0 : Nat) (l0 : List Int) (r : List Int) (w : World) (hr0 : Kd.C (Kd.int .i64) w A0 l0.length l0) (hc0 : l0.length ≤ c0) (h : spec_l1Own.f l0 = some r) :
    Calls Try.prog 50 #[.slice A0 l0.length c0] w fun e w' => ∃ v0_ : Value, e = .returned (v0_) ∧ Kd.R (Kd.int .i64) 3 w' w.heap.size (fun _ => True) v0_ r ∧ Below w.heap.size w w' := by
  have HR0 := Aside0.mk hr0
  have HC0 := Aside0.mk hc0
  clear hr0 hc0
  have HB := Aside0.mk (Below.refl w.heap.size w)
  have H : ((some (([] : List Int) : List Int)).bind fun y113 => (if y113.length + l0.length < 17592186044416 then (some (y113 ++ l0)) else (none))) = some r := h
  clear h
  obtain ⟨y113, hy113⟩ : ∃ y_ : List Int, y_ = (([] : List Int)) := ⟨_, rfl⟩
  replace H : (if y113.length + l0.length < 17592186044416 then (some (y113 ++ l0)) else (none)) = some r := by first | (rw [hy113]; with_reducible exact H) | (have H2_ := (Option.bind_some _ _).symm.trans H; rw [hy113]; with_reducible exact H2_) | (have H2_ := (Option.bind_some _ _).symm.trans H; with_reducible exact H2_) | with_reducible exact H | (rw [hy113]; exact H) | exact H
  have Ny113 := Aside0.mk hy113
  clear hy113
  by_cases c2 : y113.length + l0.length < 17592186044416
  · rw [if_pos c2] at H
    have LMc2 := Aside0.mk c2
    clear c2
    obtain ⟨y116, hy116⟩ : ∃ y_ : List Int, y_ = (y113 ++ l0) := ⟨_, rfl⟩
    replace H : (some y116) = some r := by first | (rw [hy116]; with_reducible exact H) | (have H2_ := (Option.bind_some _ _).symm.trans H; rw [hy116]; with_reducible exact H2_) | (have H2_ := (Option.bind_some _ _).symm.trans H; with_reducible exact H2_) | with_reducible exact H | (rw [hy116]; exact H) | exact H
    have Ny116 := Aside0.mk hy116
    clear hy116
    obtain rfl := Option.some.inj H
    go_enter Try.func50, Try.ntmps50
    go_wp2_with (first | ((with_reducible refine gate_dst (N := 3) rfl ?_); refine Kd.R_lit (Kd.int .i64) _ 3 ?hg (N := 3) ?hd (xs := ([] : List Int)) (inner := []) (ok := fun _ => True) (okp := fun _ => True) ?hr ?hp (fun _ hk => hk) trivial (Below.refl _ _) (Nat.le_refl _) (by simp) ?_; (case hd => rfl); (case hg => rfl); (case hr => first | (go_simp; done) | (go_simp; rfl)); (case hp => exact (Reps.none _ _)); intro v114 w3 ho4 hb hg_ hnew_; clear hg_ hnew_; (first | rw [← Ny113.out] at ho4 | (simp only [Int.reduceToNat] at ho4; rw [← Ny113.out] at ho4)); have n0_ := Aside0.mk (Kd.R_lower ho4 (below_size (by repeat (first | (with_reducible first | exact HB.out | apply below_alloc | apply pw_below_drewN | apply below_drew1) | exact HB.out)))); have n1_ := Aside0.mk (below_step (by repeat (first | (with_reducible first | exact HB.out | apply below_alloc | apply pw_below_drewN | apply below_drew1) | exact HB.out)) hb); clear HB; have HO115 := n0_; have HB := n1_; clear n0_ n1_; clear hb ho4) | ((with_reducible refine gate_builtin (b := .append) (xs := #[.tmp 3, .tmp 4]) rfl ?_); at_builtin; refine Kd.R_append_rows (Kd.int .i64) (w0 := w) w.heap.size rfl (.tmp 3) (.tmp 4) 25 3 (.int .i64 0) 8 rfl Try.underlying25 info3 rfl (by decide) (by omega) v114 y113 l0 _ _ _ (fun _ => True) (fun _ => False) rfl rfl ?aO ?aR (fun _ _ h => h) (fun _ h => h.elim) ?aF ?aB ?aS ?aL ?_; (case aR => repeat (first | exact (Kd.C_below HR0.out HB.out) | (with_reducible refine Kd.C_alloc ?_ _) | (with_reducible refine Kd.C_drewN ?_ _) | (with_reducible refine Kd.C_drew ?_))); (case aB => exact (by repeat (first | (with_reducible first | exact HB.out | apply below_alloc | apply pw_below_drewN | apply below_drew1) | exact HB.out))); (case aF => exact (fun _ _ => trivial)); (case aO => exact (by (with_reducible repeat (first | apply Kd.R_alloc | apply Kd.R_drewN | apply Kd.R_drew)); exact HO115.out)); (case aS => exact (below_size (by repeat (first | (with_reducible first | exact HB.out | apply below_alloc | apply pw_below_drewN | apply below_drew1) | exact HB.out)))); (case aL => have := LMc2.out; omega); intro v117 w5 ho hb hg hat; rw [← Ny116.out] at ho; have n0_ := Aside0.mk (hb); have n1_ := Aside0.mk (ho); clear HB; clear HO115; have HB := n0_; have HO118 := n1_; clear n0_ n1_; clear ho hb hg hat))
    go_ret
    exact ⟨_, by first | rfl | (simp [errW_none, errW_some] <;> rfl) | (simp [*, errW_none, errW_some] <;> rfl), by (with_reducible repeat (first | apply Kd.R_alloc | apply Kd.R_drewN | apply Kd.R_drew)); exact HO118.out, by repeat (first | (with_reducible first | exact HB.out | apply below_alloc | apply pw_below_drewN | apply below_drew1) | exact HB.out)⟩
  · rw [if_neg c2] at H
    exact absurd H (by simp)


end Go.Proofs.Ytmhcgihkijiecaa.Fn
namespace Go.Proofs.Ytmhcgihkijiecaa.Fn
open Go.RowKit Go.Proofs.YtmhcgihkijiecaaW.PrintWords Go.Proofs.YtmhcgihkijiecaaW.PrintLast Go.Proofs.YtmhcgihkijiecaaW.PrintMore
attribute [local go_sem] max2_int min2_int max_two min_two max_three min_three max_four min_four   -- for this text's walks alone
set_option linter.unusedVariables false
set_option linter.unusedSimpArgs false

/-! ### spec_JoinRows: function 17 -/
def spec_JoinRows.j0 : Nat → List Int → List Int → Bool → Option (List Int × Bool)
  | 0, _, _, _ => none
  | k + 1, x0, x1, x13 => if x13 = true then (some (([] : List Int), false)) else ((spec_l1Own.f x0).bind fun t121 => (if t121.length + x1.length < 17592186044416 then ((spec_hoIf.f k (t121 ++ x1)).bind fun bt127 => (some (bt127.1, bt127.2))) else (none)))
def spec_JoinRows.f (k : Nat) (l0 : List Int) (l1 : List Int) : Option (List Int × Bool) := (spec_roGood.f k l0).bind fun t119 => (if t119 = true then ((spec_roGood.f k l1).bind fun t120 => (spec_JoinRows.j0 k l0 l1 (!t120))) else (spec_JoinRows.j0 k l0 l1 true))
theorem spec_JoinRows.mono_l : ∀ k, (∀ y0 y1 y2, LeO (spec_JoinRows.j0 k y0 y1 y2) (spec_JoinRows.j0 (k + 1) y0 y1 y2))
  | 0 => fun _ _ _ r h => by simp [spec_JoinRows.j0] at h
  | k + 1 => by
    have ih0 := spec_JoinRows.mono_l k
    · intro y0 y1 y2
      unfold spec_JoinRows.j0
      repeat' first
      | (with_reducible exact ih0 _ _ _)
      | (with_reducible exact spec_hoIf.mono _ _)
      | (with_reducible exact spec_roGood.mono _ _)
      | (with_reducible exact LeO.refl _)
      | (with_reducible exact LeO.none _)
      | (with_reducible refine LeO.ite ?_ ?_)
      | (with_reducible refine LeO.bind ?_ (fun _ => ?_))
      | exact ih0 _ _ _
      | exact spec_hoIf.mono _ _
      | exact spec_roGood.mono _ _
      | exact LeO.none _
      | refine LeO.ite ?_ ?_
      | refine LeO.bind ?_ (fun _ => ?_)
theorem spec_JoinRows.mono : ∀ a0 a1 k, LeO (spec_JoinRows.f k a0 a1) (spec_JoinRows.f (k + 1) a0 a1) := by
  intro a0 a1 k
  have ih0 := spec_JoinRows.mono_l k
  unfold spec_JoinRows.f
  repeat' first
      | (with_reducible exact ih0 _ _ _)
      | (with_reducible exact spec_hoIf.mono _ _)
      | (with_reducible exact spec_roGood.mono _ _)
      | (with_reducible exact LeO.refl _)
      | (with_reducible exact LeO.none _)
      | (with_reducible refine LeO.ite ?_ ?_)
      | (with_reducible refine LeO.bind ?_ (fun _ => ?_))
      | exact ih0 _ _ _
      | exact spec_hoIf.mono _ _
      | exact spec_roGood.mono _ _
      | exact LeO.none _
      | refine LeO.ite ?_ ?_
      | refine LeO.bind ?_ (fun _ => ?_)
set_option maxHeartbeats 8000000 in
set_option maxRecDepth 100000 in
theorem spec_JoinRows.calls (k : Nat) (A0 : Option Addr) (c0 : Nat) (l0 : List Int) (A1 : Option Addr) (c1 : Nat) (l1 : List Int) (r1 : List Int) (r2 : Bool) (w : World) (hr0 : Kd.C (Kd.int .i64) w A0 l0.length l0) (hc0 : l0.length ≤ c0) (hr1 : Kd.C (Kd.int .i64) w A1 l1.length l1) (hc1 : l1.length ≤ c1) (h : spec_JoinRows.f k l0 l1 = some (r1, r2)) :
    Calls Try.prog 17 #[.slice A0 l0.length c0, .slice A1 l1.length c1] w fun e w' => ∃ v0_ : Value, e = .returned (.tuple #[v0_, .bool r2]) ∧ Kd.R (Kd.int .i64) 3 w' w.heap.size (fun _ => True) v0_ r1 ∧ Below w.heap.size w w' := by
  have HR0 := Aside0.mk hr0
  have HC0 := Aside0.mk hc0
  clear hr0 hc0
  have HR1 := Aside0.mk hr1
  have HC1 := Aside0.mk hc1
  clear hr1 hc1
  have HB := Aside0.mk (Below.refl w.heap.size w)
  have H : ((spec_roGood.f k l0).bind fun t119 => (if t119 = true then ((spec_roGood.f k l1).bind fun t120 => (spec_JoinRows.j0 k l0 l1 (!t120))) else (spec_JoinRows.j0 k l0 l1 true))) = some (r1, r2) := h
  clear h
  have HC3 := Aside0.mk H
  clear H
  go_enter Try.func17, Try.ntmps17
  go_upto_region 1 with (fail)
  go_cut [13] (fun v13 wc => ∃ (kq : Nat) (x13_2 : Bool), v13 = .bool x13_2 ∧ Aside0 (spec_JoinRows.j0 kq l0 l1 x13_2 = some (r1, r2)) ∧ Aside0 (kq ≤ k) ∧ Aside0 (Below w.heap.size w wc))
  case first =>
    have H := HC3.out
    clear HC3
    replace H := Option.bind_eq_some_iff.mp H
    obtain ⟨t119, A40, H⟩ := H
    replace H : (if t119 = true then ((spec_roGood.f k l1).bind fun t120 => (spec_JoinRows.j0 k l0 l1 (!t120))) else (spec_JoinRows.j0 k l0 l1 true)) = some (r1, r2) := H
    have A4 := Aside0.mk A40
    clear A40
    by_cases c5 : t119 = true
    · subst c5
      have H1 : ((spec_roGood.f k l1).bind fun t120 => (spec_JoinRows.j0 k l0 l1 (!t120))) = some (r1, r2) := by rw [if_pos rfl] at H; exact H
      clear H
      have H := H1
      clear H1
      replace H := Option.bind_eq_some_iff.mp H
      obtain ⟨t120, A60, H⟩ := H
      replace H : (spec_JoinRows.j0 k l0 l1 (!t120)) = some (r1, r2) := H
      have A6 := Aside0.mk A60
      clear A60
      have H' := Aside0.mk H
      clear H
      go_wp2_with (first | ((with_reducible refine gate_callee (f := 48) rfl ?_); refine goesL_ (some 7) rfl rfl Try.func48 (by kernel_rfl) rfl #[.slice A0 l0.length c0] rfl (by (try simp only [List.map_toArray, List.map_cons, List.map_nil]); first | done | rfl | (simp only [List.length_drop, List.length_take]; rfl)) ?_; (with_reducible refine (spec_roGood.calls k _ _ l0 true _ ?side1 ?side2 A4.out).mono ?_); (case side1 => repeat (first | exact (Kd.C_below HR0.out HB.out) | (with_reducible refine Kd.C_alloc ?_ _) | (with_reducible refine Kd.C_drewN ?_ _) | (with_reducible refine Kd.C_drew ?_))); (case side2 => exact HC0.out); rintro e w' ⟨rfl, ⟨nd, rfl⟩⟩; refine ⟨_, rfl, ?_⟩) | (go_at_call 48; (with_reducible refine (spec_roGood.calls k _ _ l1 t120 _ ?side1 ?side2 A6.out).mono ?_); (case side1 => repeat (first | exact (Kd.C_below HR1.out (by repeat (first | (with_reducible first | exact HB.out | apply below_alloc | apply pw_below_drewN | apply below_drew1) | exact HB.out))) | (with_reducible refine Kd.C_alloc ?_ _) | (with_reducible refine Kd.C_drewN ?_ _) | (with_reducible refine Kd.C_drew ?_))); (case side2 => exact HC1.out); rintro e w' ⟨rfl, ⟨nd, rfl⟩⟩))
      go_meet
      case rel => exact ⟨_, (!t120), (by first | rfl | (simp; done) | (simp [*]; done)), H', ⟨by first | omega | exact Nat.le_refl _⟩, ⟨by repeat (first | (with_reducible first | exact HB.out | apply below_alloc | apply pw_below_drewN | apply below_drew1) | exact HB.out)⟩⟩
    · replace c5 := Bool.eq_false_iff.mpr c5
      subst c5
      have H1 : (spec_JoinRows.j0 k l0 l1 true) = some (r1, r2) := by rw [if_neg (show ¬ (false = true) by decide)] at H; exact H
      clear H
      have H := H1
      clear H1
      have H' := Aside0.mk H
      clear H
      go_wp2_with (first | ((with_reducible refine gate_callee (f := 48) rfl ?_); refine goesL_ (some 7) rfl rfl Try.func48 (by kernel_rfl) rfl #[.slice A0 l0.length c0] rfl (by (try simp only [List.map_toArray, List.map_cons, List.map_nil]); first | done | rfl | (simp only [List.length_drop, List.length_take]; rfl)) ?_; (with_reducible refine (spec_roGood.calls k _ _ l0 false _ ?side1 ?side2 A4.out).mono ?_); (case side1 => repeat (first | exact (Kd.C_below HR0.out HB.out) | (with_reducible refine Kd.C_alloc ?_ _) | (with_reducible refine Kd.C_drewN ?_ _) | (with_reducible refine Kd.C_drew ?_))); (case side2 => exact HC0.out); rintro e w' ⟨rfl, ⟨nd, rfl⟩⟩; refine ⟨_, rfl, ?_⟩))
      go_meet
      case rel => exact ⟨_, (true), (by first | rfl | (simp; done) | (simp [*]; done)), H', ⟨by first | omega | exact Nat.le_refl _⟩, ⟨by repeat (first | (with_reducible first | exact HB.out | apply below_alloc | apply pw_below_drewN | apply below_drew1) | exact HB.out)⟩⟩
  case rest =>
    clear HC3
    try clear c1
    try clear p2
    try clear c4
    try clear c5
    obtain ⟨kq, x13_2, rfl, HA, HJ2, HB⟩ := hcut
    cases kq with
    | zero => exact absurd HA.out (by simp [spec_JoinRows.j0])
    | succ kj2 =>
      have H := HA.out
      clear HA
      simp only [spec_JoinRows.j0] at H
      by_cases c7 : x13_2 = true
      · subst c7
        have H1 : (some (([] : List Int), false)) = some (r1, r2) := by rw [if_pos rfl] at H; exact H
        clear H
        have H := H1
        clear H1
        simp only [Option.some.injEq, Prod.mk.injEq] at H
        obtain ⟨rfl, rfl⟩ := H
        go_wp2
        go_ret2
        exact ⟨_, by first | rfl | (simp [errW_none, errW_some] <;> rfl) | (simp [*, errW_none, errW_some] <;> rfl), by first | exact Kd.R_nil _ _ _ _ _ | exact Kd.N_nil _ _ _ _ _ | exact Kd.V_nil _ _ _ _ _ | exact Kd.Q_nil _ _ _ _ _ | exact Kd.S_nil _ _ _ _ _, by repeat (first | (with_reducible first | exact HB.out | apply below_alloc | apply pw_below_drewN | apply below_drew1) | exact HB.out)⟩
      · replace c7 := Bool.eq_false_iff.mpr c7
        subst c7
        have H1 : ((spec_l1Own.f l0).bind fun t121 => (if t121.length + l1.length < 17592186044416 then ((spec_hoIf.f kj2 (t121 ++ l1)).bind fun bt127 => (some (bt127.1, bt127.2))) else (none))) = some (r1, r2) := by rw [if_neg (show ¬ (false = true) by decide)] at H; exact H
        clear H
        have H := H1
        clear H1
        replace H := Option.bind_eq_some_iff.mp H
        obtain ⟨t121, A80, H⟩ := H
        replace H : (if t121.length + l1.length < 17592186044416 then ((spec_hoIf.f kj2 (t121 ++ l1)).bind fun bt127 => (some (bt127.1, bt127.2))) else (none)) = some (r1, r2) := H
        have A8 := Aside0.mk A80
        clear A80
        by_cases c9 : t121.length + l1.length < 17592186044416
        · rw [if_pos c9] at H
          have LMc9 := Aside0.mk c9
          clear c9
          obtain ⟨y124, hy124⟩ : ∃ y_ : List Int, y_ = (t121 ++ l1) := ⟨_, rfl⟩
          replace H : ((spec_hoIf.f kj2 y124).bind fun bt127 => (some (bt127.1, bt127.2))) = some (r1, r2) := by first | (rw [hy124]; with_reducible exact H) | (have H2_ := (Option.bind_some _ _).symm.trans H; rw [hy124]; with_reducible exact H2_) | (have H2_ := (Option.bind_some _ _).symm.trans H; with_reducible exact H2_) | with_reducible exact H | (rw [hy124]; exact H) | exact H
          have Ny124 := Aside0.mk hy124
          clear hy124
          replace H := Option.bind_eq_some_iff.mp H
          obtain ⟨⟨t127, t130⟩, A100, H⟩ := H
          replace H : (some (t127, t130)) = some (r1, r2) := H
          have A10 := Aside0.mk A100
          clear A100
          simp only [Option.some.injEq, Prod.mk.injEq] at H
          obtain ⟨rfl, rfl⟩ := H
          go_wp2_with (first | ((with_reducible refine gate_callee (f := 50) rfl ?_); refine goesL_ (some 15) rfl rfl Try.func50 (by kernel_rfl) rfl #[.slice A0 l0.length c0] rfl (by (try simp only [List.map_toArray, List.map_cons, List.map_nil]); first | done | rfl | (simp only [List.length_drop, List.length_take]; rfl)) ?_; (with_reducible refine (spec_l1Own.calls _ _ l0 t121 _ ?side1 ?side2 A8.out).mono ?_); (case side1 => repeat (first | exact (Kd.C_below HR0.out HB.out) | (with_reducible refine Kd.C_alloc ?_ _) | (with_reducible refine Kd.C_drewN ?_ _) | (with_reducible refine Kd.C_drew ?_))); (case side2 => exact HC0.out); rintro e w11 ⟨v122, rfl, ho0, hb⟩; refine ⟨_, rfl, ?_⟩; have n0_ := Aside0.mk (Kd.R_lower ho0 (below_size (by repeat (first | (with_reducible first | exact HB.out | apply below_alloc | apply pw_below_drewN | apply below_drew1) | exact HB.out)))); have n1_ := Aside0.mk (below_step (by repeat (first | (with_reducible first | exact HB.out | apply below_alloc | apply pw_below_drewN | apply below_drew1) | exact HB.out)) hb); clear HB; have HO123 := n0_; have HB := n1_; clear n0_ n1_; (try clear hb); (try clear hb2); (try clear hk); (try clear hi); (try clear ho0)) | ((with_reducible refine gate_builtin (b := .append) (xs := #[.tmp 15, .tmp 16]) rfl ?_); at_builtin; refine Kd.R_append_rows (Kd.int .i64) (w0 := w) w.heap.size rfl (.tmp 15) (.tmp 16) 25 3 (.int .i64 0) 8 rfl Try.underlying25 info3 rfl (by decide) (by omega) v122 t121 l1 _ _ _ (fun _ => True) (fun _ => False) rfl rfl ?aO ?aR (fun _ _ h => h) (fun _ h => h.elim) ?aF ?aB ?aS ?aL ?_; (case aR => repeat (first | exact (Kd.C_below HR1.out HB.out) | (with_reducible refine Kd.C_alloc ?_ _) | (with_reducible refine Kd.C_drewN ?_ _) | (with_reducible refine Kd.C_drew ?_))); (case aB => exact (by repeat (first | (with_reducible first | exact HB.out | apply below_alloc | apply pw_below_drewN | apply below_drew1) | exact HB.out))); (case aF => exact (fun _ _ => trivial)); (case aO => exact (by (with_reducible repeat (first | apply Kd.R_alloc | apply Kd.R_drewN | apply Kd.R_drew)); exact HO123.out)); (case aS => exact (below_size (by repeat (first | (with_reducible first | exact HB.out | apply below_alloc | apply pw_below_drewN | apply below_drew1) | exact HB.out)))); (case aL => have := LMc9.out; omega); intro v125 w12 ho hb hg hat; rw [← Ny124.out] at ho; have n0_ := Aside0.mk (hb); have n1_ := Aside0.mk (ho); clear HB; clear HO123; have HB := n0_; have HO126 := n1_; clear n0_ n1_; clear ho hb hg hat; obtain ⟨Ao13, co13, eo13⟩ := Kd.R_slice HO126.out; subst eo13) | ((with_reducible refine gate_callee (f := 49) rfl ?_); refine goesL_ (some 18) rfl rfl Try.func49 (by kernel_rfl) rfl #[.slice Ao13 y124.length co13] rfl (by (try simp only [List.map_toArray, List.map_cons, List.map_nil]); first | done | rfl | (simp only [List.length_drop, List.length_take]; rfl)) ?_; (with_reducible refine (spec_hoIf.calls kj2 (fun k_ => some k_ = (.slice Ao13 y124.length co13 : Value).ownBlock) (.slice Ao13 y124.length co13) y124 t127 t130 w _ ?side1 ?side2 A10.out).mono ?_); (case side1 => repeat (first | (with_reducible first | exact HB.out | apply below_alloc | apply pw_below_drewN | apply below_drew1) | exact HB.out)); (case side2 => exact Kd.R_tight rfl HO126.out); rintro e w14 ⟨v128, rfl, ho0, hb, hkp⟩; refine ⟨_, rfl, ?_⟩; have n0_ := Aside0.mk (Kd.R_mono (ok' := fun k_ => True) ho0 (fun k_ hk_ => trivial)); have n1_ := Aside0.mk (hb); clear HB; clear HO126; have HO129 := n0_; have HB := n1_; clear n0_ n1_; (try clear hb); (try clear hkp); (try clear ho0)))
          go_ret2
          exact ⟨_, by first | rfl | (simp [errW_none, errW_some] <;> rfl) | (simp [*, errW_none, errW_some] <;> rfl), by (with_reducible repeat (first | apply Kd.R_alloc | apply Kd.R_drewN | apply Kd.R_drew)); exact HO129.out, by repeat (first | (with_reducible first | exact HB.out | apply below_alloc | apply pw_below_drewN | apply below_drew1) | exact HB.out)⟩
        · rw [if_neg c9] at H
          exact absurd H (by simp)

noncomputable def spec_JoinRows.J0 (x0 : List Int) (x1 : List Int) (x13 : Bool) : Option (List Int × Bool) := lim fun k => spec_JoinRows.j0 k x0 x1 x13
theorem spec_JoinRows.J0_lim (x0 : List Int) (x1 : List Int) (x13 : Bool) : Lim (fun k => spec_JoinRows.j0 k x0 x1 x13) (spec_JoinRows.J0 x0 x1 x13) := Lim.of fun k => (spec_JoinRows.mono_l k) x0 x1 x13
noncomputable def spec_JoinRows.F (l0 : List Int) (l1 : List Int) : Option (List Int × Bool) := lim fun k => spec_JoinRows.f k l0 l1
theorem spec_JoinRows.F_lim (l0 : List Int) (l1 : List Int) : Lim (fun k => spec_JoinRows.f k l0 l1) (spec_JoinRows.F l0 l1) := Lim.of fun k => spec_JoinRows.mono l0 l1 k
theorem spec_JoinRows.J0_eq (x0 : List Int) (x1 : List Int) (x13 : Bool) : spec_JoinRows.J0 x0 x1 x13 = (if x13 = true then (some (([] : List Int), false)) else ((spec_l1Own.f x0).bind fun t121 => (if t121.length + x1.length < 17592186044416 then ((spec_hoIf.F (t121 ++ x1)).bind fun bt127 => (some (bt127.1, bt127.2))) else (none)))) :=
  Lim.step (f := fun k => (if x13 = true then (some (([] : List Int), false)) else ((spec_l1Own.f x0).bind fun t121 => (if t121.length + x1.length < 17592186044416 then ((spec_hoIf.f k (t121 ++ x1)).bind fun bt127 => (some (bt127.1, bt127.2))) else (none))))) (spec_JoinRows.J0_lim x0 x1 x13) (fun k => by first | rfl | rw [spec_JoinRows.j0]) (by
    repeat' first
    | (with_reducible exact Lim.const _)
    | (with_reducible exact spec_hoIf.F_lim _)
    | (with_reducible refine Lim.ite ?_ ?_)
    | (with_reducible refine Lim.bind ?_ (fun _ => ?_)))
theorem spec_JoinRows.F_eq (l0 : List Int) (l1 : List Int) : spec_JoinRows.F l0 l1 = ((spec_roGood.F l0).bind fun t119 => (if t119 = true then ((spec_roGood.F l1).bind fun t120 => (spec_JoinRows.J0 l0 l1 (!t120))) else (spec_JoinRows.J0 l0 l1 true))) :=
  Lim.unique (spec_JoinRows.F_lim l0 l1) (by
    unfold spec_JoinRows.f
    repeat' first
    | (with_reducible exact Lim.const _)
    | (with_reducible exact spec_JoinRows.J0_lim _ _ _)
    | (with_reducible exact spec_roGood.F_lim _)
    | (with_reducible refine Lim.ite ?_ ?_)
    | (with_reducible refine Lim.bind ?_ (fun _ => ?_)))

end Go.Proofs.Ytmhcgihkijiecaa.Fn
namespace Go.Proofs.Ytmhcgihkijiecaa.Fn
open Go.RowKit Go.Proofs.YtmhcgihkijiecaaW.PrintWords Go.Proofs.YtmhcgihkijiecaaW.PrintLast Go.Proofs.YtmhcgihkijiecaaW.PrintMore
attribute [local go_sem] max2_int min2_int max_two min_two max_three min_three max_four min_four   -- for this text's walks alone
set_option linter.unusedVariables false
set_option linter.unusedSimpArgs false

/-! ### slices_Clone_int_int: function 53 (given) -/
def slices_Clone_int_int.f (l0 : List Int) : Option (List Int) := if l0.length < 17592186044416 then some l0 else none
theorem slices_Clone_int_int.app_room {y l : List Int} (h1 : l.length < 17592186044416) (h2 : y = []) : (y.length + l.length) * 8 ≤ 140737488355328 := by
  subst h2; simp; omega
set_option maxHeartbeats 8000000 in
set_option maxRecDepth 100000 in
theorem slices_Clone_int_int.calls (A0 : Option Addr) (c0 : Nat) (l0 : List Int) (r : List Int) (w : World) (hr0 : Kd.C (Kd.int .i64) w A0 l0.length l0) (hc0 : l0.length ≤ c0) (h : slices_Clone_int_int.f l0 = some r) :
    Calls Try.prog 53 #[.slice A0 l0.length c0] w fun e w' => ∃ v0_ : Value, e = .returned (v0_) ∧ Kd.R (Kd.int .i64) 3 w' w.heap.size (fun _ => True) v0_ r ∧ Below w.heap.size w w' := by
  have HR0 := Aside0.mk hr0
  have hlen : l0.length < 17592186044416 := by
    unfold slices_Clone_int_int.f at h
    split at h
    · assumption
    · cases h
  obtain rfl : l0 = r := by
    unfold slices_Clone_int_int.f at h
    rw [if_pos hlen] at h
    exact Option.some.inj h
  have LM := Aside0.mk hlen
  have HB := Aside0.mk (Below.refl w.heap.size w)
  have hu := Try.underlying25
  have heq := fun (w : World) => Lib.run_eql_slice_nil (P := Try.prog) w 25 3 A0 l0.length c0 0 0 hu
  clear h hlen hc0
  cases A0 with
  | none =>
    have hl : l0 = [] := by
      cases l0 with
      | nil => rfl
      | cons x xs =>
        obtain ⟨ad, e, _⟩ := hr0.2.2 (by simp)
        cases e
    have HL := Aside0.mk hl
    clear hr0 hl
    go_enter Try.func53, Try.ntmps53
    go_wp2
    go_ret
    exact ⟨_, rfl, by rw [HL.out]; exact Kd.R_nil _ _ _ _ _, by repeat (first | (with_reducible first | exact HB.out | apply below_alloc | apply pw_below_drewN | apply below_drew1) | exact HB.out)⟩
  | some ad =>
    clear hr0
    obtain ⟨y113, hy113⟩ : ∃ y_ : List Int, y_ = (([] : List Int)) := ⟨_, rfl⟩
    have Ny113 := Aside0.mk hy113
    clear hy113
    obtain ⟨y116, hy116⟩ : ∃ y_ : List Int, y_ = (y113 ++ l0) := ⟨_, rfl⟩
    have Ny116 := Aside0.mk hy116
    clear hy116
    go_enter Try.func53, Try.ntmps53
    go_wp2_with (first | ((with_reducible refine gate_dst (N := 5) rfl ?_); refine Kd.R_lit (Kd.int .i64) _ 3 ?hg (N := 5) ?hd (xs := ([] : List Int)) (inner := []) (ok := fun _ => True) (okp := fun _ => True) ?hr ?hp (fun _ hk => hk) trivial (Below.refl _ _) (Nat.le_refl _) (by simp) ?_; (case hd => rfl); (case hg => rfl); (case hr => first | (go_simp; done) | (go_simp; rfl)); (case hp => exact (Reps.none _ _)); intro v114 w3 ho4 hb hg_ hnew_; clear hg_ hnew_; (first | rw [← Ny113.out] at ho4 | (simp only [Int.reduceToNat] at ho4; rw [← Ny113.out] at ho4)); have n0_ := Aside0.mk (Kd.R_lower ho4 (below_size (by repeat (first | (with_reducible first | exact HB.out | apply below_alloc | apply pw_below_drewN | apply below_drew1) | exact HB.out)))); have n1_ := Aside0.mk (below_step (by repeat (first | (with_reducible first | exact HB.out | apply below_alloc | apply pw_below_drewN | apply below_drew1) | exact HB.out)) hb); clear HB; have HO115 := n0_; have HB := n1_; clear n0_ n1_; clear hb ho4) | ((with_reducible refine gate_builtin (b := .append) (xs := #[.tmp 5, .tmp 6]) rfl ?_); at_builtin; refine Kd.R_append_rows (Kd.int .i64) (w0 := w) w.heap.size rfl (.tmp 5) (.tmp 6) 25 3 (.int .i64 0) 8 rfl Try.underlying25 info3 rfl (by decide) (by omega) v114 y113 l0 _ _ _ (fun _ => True) (fun _ => False) rfl rfl ?aO ?aR (fun _ _ h => h) (fun _ h => h.elim) ?aF ?aB ?aS ?aL ?_; (case aR => repeat (first | exact (Kd.C_below HR0.out HB.out) | (with_reducible refine Kd.C_alloc ?_ _) | (with_reducible refine Kd.C_drewN ?_ _) | (with_reducible refine Kd.C_drew ?_))); (case aB => exact (by repeat (first | (with_reducible first | exact HB.out | apply below_alloc | apply pw_below_drewN | apply below_drew1) | exact HB.out))); (case aF => exact (fun _ _ => trivial)); (case aO => exact (by (with_reducible repeat (first | apply Kd.R_alloc | apply Kd.R_drewN | apply Kd.R_drew)); exact HO115.out)); (case aS => exact (below_size (by repeat (first | (with_reducible first | exact HB.out | apply below_alloc | apply pw_below_drewN | apply below_drew1) | exact HB.out)))); (case aL => exact slices_Clone_int_int.app_room LM.out Ny113.out); intro v117 w5 ho hb hg hat; rw [← Ny116.out] at ho; have n0_ := Aside0.mk (hb); have n1_ := Aside0.mk (ho); clear HB; clear HO115; have HB := n0_; have HO118 := n1_; clear n0_ n1_; clear ho hb hg hat))
    go_ret
    exact ⟨_, rfl, by (with_reducible repeat (first | apply Kd.R_alloc | apply Kd.R_drewN | apply Kd.R_drew)); have h := HO118.out; rw [Ny116.out, Ny113.out, List.nil_append] at h; exact h, by repeat (first | (with_reducible first | exact HB.out | apply below_alloc | apply pw_below_drewN | apply below_drew1) | exact HB.out)⟩


end Go.Proofs.Ytmhcgihkijiecaa.Fn
namespace Go.Proofs.Ytmhcgihkijiecaa.Fn
open Go.RowKit Go.Proofs.YtmhcgihkijiecaaW.PrintWords Go.Proofs.YtmhcgihkijiecaaW.PrintLast Go.Proofs.YtmhcgihkijiecaaW.PrintMore
attribute [local go_sem] max2_int min2_int max_two min_two max_three min_three max_four min_four   -- for this text's walks alone
set_option linter.unusedVariables false
set_option linter.unusedSimpArgs false

/-! ### impl_JoinRows: function 19 -/
def impl_JoinRows.j0 : Nat → List Int → List Int → Bool → Option (List Int × Bool)
  | 0, _, _, _ => none
  | k + 1, x0, x1, x13 => if x13 = true then (some (([] : List Int), false)) else ((slices_Clone_int_int.f x0).bind fun t140 => (if t140.length + x1.length < 17592186044416 then ((impl_madeRow.f k (t140 ++ x1)).bind fun bt146 => (some (bt146.1, bt146.2))) else (none)))
def impl_JoinRows.f (k : Nat) (l0 : List Int) (l1 : List Int) : Option (List Int × Bool) := (impl_IsRow.f k l0).bind fun t138 => (if t138 = true then ((impl_IsRow.f k l1).bind fun t139 => (impl_JoinRows.j0 k l0 l1 (!t139))) else (impl_JoinRows.j0 k l0 l1 true))
theorem impl_JoinRows.mono_l : ∀ k, (∀ y0 y1 y2, LeO (impl_JoinRows.j0 k y0 y1 y2) (impl_JoinRows.j0 (k + 1) y0 y1 y2))
  | 0 => fun _ _ _ r h => by simp [impl_JoinRows.j0] at h
  | k + 1 => by
    have ih0 := impl_JoinRows.mono_l k
    · intro y0 y1 y2
      unfold impl_JoinRows.j0
      repeat' first
      | (with_reducible exact ih0 _ _ _)
      | (with_reducible exact impl_IsRow.mono _ _)
      | (with_reducible exact impl_madeRow.mono _ _)
      | (with_reducible exact LeO.refl _)
      | (with_reducible exact LeO.none _)
      | (with_reducible refine LeO.ite ?_ ?_)
      | (with_reducible refine LeO.bind ?_ (fun _ => ?_))
      | exact ih0 _ _ _
      | exact impl_IsRow.mono _ _
      | exact impl_madeRow.mono _ _
      | exact LeO.none _
      | refine LeO.ite ?_ ?_
      | refine LeO.bind ?_ (fun _ => ?_)
theorem impl_JoinRows.mono : ∀ a0 a1 k, LeO (impl_JoinRows.f k a0 a1) (impl_JoinRows.f (k + 1) a0 a1) := by
  intro a0 a1 k
  have ih0 := impl_JoinRows.mono_l k
  unfold impl_JoinRows.f
  repeat' first
      | (with_reducible exact ih0 _ _ _)
      | (with_reducible exact impl_IsRow.mono _ _)
      | (with_reducible exact impl_madeRow.mono _ _)
      | (with_reducible exact LeO.refl _)
      | (with_reducible exact LeO.none _)
      | (with_reducible refine LeO.ite ?_ ?_)
      | (with_reducible refine LeO.bind ?_ (fun _ => ?_))
      | exact ih0 _ _ _
      | exact impl_IsRow.mono _ _
      | exact impl_madeRow.mono _ _
      | exact LeO.none _
      | refine LeO.ite ?_ ?_
      | refine LeO.bind ?_ (fun _ => ?_)
set_option maxHeartbeats 8000000 in
set_option maxRecDepth 100000 in
theorem impl_JoinRows.calls (k : Nat) (A0 : Option Addr) (c0 : Nat) (l0 : List Int) (A1 : Option Addr) (c1 : Nat) (l1 : List Int) (r1 : List Int) (r2 : Bool) (w : World) (hr0 : Kd.C (Kd.int .i64) w A0 l0.length l0) (hc0 : l0.length ≤ c0) (hr1 : Kd.C (Kd.int .i64) w A1 l1.length l1) (hc1 : l1.length ≤ c1) (h : impl_JoinRows.f k l0 l1 = some (r1, r2)) :
    Calls Try.prog 19 #[.slice A0 l0.length c0, .slice A1 l1.length c1] w fun e w' => ∃ v0_ : Value, e = .returned (.tuple #[v0_, .bool r2]) ∧ Kd.R (Kd.int .i64) 3 w' w.heap.size (fun _ => True) v0_ r1 ∧ Below w.heap.size w w' := by
  have HR0 := Aside0.mk hr0
  have HC0 := Aside0.mk hc0
  clear hr0 hc0
  have HR1 := Aside0.mk hr1
  have HC1 := Aside0.mk hc1
  clear hr1 hc1
  have HB := Aside0.mk (Below.refl w.heap.size w)
  have H : ((impl_IsRow.f k l0).bind fun t138 => (if t138 = true then ((impl_IsRow.f k l1).bind fun t139 => (impl_JoinRows.j0 k l0 l1 (!t139))) else (impl_JoinRows.j0 k l0 l1 true))) = some (r1, r2) := h
  clear h
  have HC3 := Aside0.mk H
  clear H
  go_enter Try.func19, Try.ntmps19
  go_upto_region 1 with (fail)
  go_cut [13] (fun v13 wc => ∃ (kq : Nat) (x13_2 : Bool), v13 = .bool x13_2 ∧ Aside0 (impl_JoinRows.j0 kq l0 l1 x13_2 = some (r1, r2)) ∧ Aside0 (kq ≤ k) ∧ Aside0 (Below w.heap.size w wc))
  case first =>
    have H := HC3.out
    clear HC3
    replace H := Option.bind_eq_some_iff.mp H
    obtain ⟨t138, A40, H⟩ := H
    replace H : (if t138 = true then ((impl_IsRow.f k l1).bind fun t139 => (impl_JoinRows.j0 k l0 l1 (!t139))) else (impl_JoinRows.j0 k l0 l1 true)) = some (r1, r2) := H
    have A4 := Aside0.mk A40
    clear A40
    by_cases c5 : t138 = true
    · subst c5
      have H1 : ((impl_IsRow.f k l1).bind fun t139 => (impl_JoinRows.j0 k l0 l1 (!t139))) = some (r1, r2) := by rw [if_pos rfl] at H; exact H
      clear H
      have H := H1
      clear H1
      replace H := Option.bind_eq_some_iff.mp H
      obtain ⟨t139, A60, H⟩ := H
      replace H : (impl_JoinRows.j0 k l0 l1 (!t139)) = some (r1, r2) := H
      have A6 := Aside0.mk A60
      clear A60
      have H' := Aside0.mk H
      clear H
      go_wp2_with (first | ((with_reducible refine gate_callee (f := 51) rfl ?_); refine goesL_ (some 7) rfl rfl Try.func51 (by kernel_rfl) rfl #[.slice A0 l0.length c0] rfl (by (try simp only [List.map_toArray, List.map_cons, List.map_nil]); first | done | rfl | (simp only [List.length_drop, List.length_take]; rfl)) ?_; (with_reducible refine (impl_IsRow.calls k _ _ l0 true _ ?side1 ?side2 A4.out).mono ?_); (case side1 => repeat (first | exact (Kd.C_below HR0.out HB.out) | (with_reducible refine Kd.C_alloc ?_ _) | (with_reducible refine Kd.C_drewN ?_ _) | (with_reducible refine Kd.C_drew ?_))); (case side2 => exact HC0.out); rintro e w' ⟨rfl, ⟨nd, rfl⟩⟩; refine ⟨_, rfl, ?_⟩) | (go_at_call 51; (with_reducible refine (impl_IsRow.calls k _ _ l1 t139 _ ?side1 ?side2 A6.out).mono ?_); (case side1 => repeat (first | exact (Kd.C_below HR1.out (by repeat (first | (with_reducible first | exact HB.out | apply below_alloc | apply pw_below_drewN | apply below_drew1) | exact HB.out))) | (with_reducible refine Kd.C_alloc ?_ _) | (with_reducible refine Kd.C_drewN ?_ _) | (with_reducible refine Kd.C_drew ?_))); (case side2 => exact HC1.out); rintro e w' ⟨rfl, ⟨nd, rfl⟩⟩))
      go_meet
      case rel => exact ⟨_, (!t139), (by first | rfl | (simp; done) | (simp [*]; done)), H', ⟨by first | omega | exact Nat.le_refl _⟩, ⟨by repeat (first | (with_reducible first | exact HB.out | apply below_alloc | apply pw_below_drewN | apply below_drew1) | exact HB.out)⟩⟩
    · replace c5 := Bool.eq_false_iff.mpr c5
      subst c5
      have H1 : (impl_JoinRows.j0 k l0 l1 true) = some (r1, r2) := by rw [if_neg (show ¬ (false = true) by decide)] at H; exact H
      clear H
      have H := H1
      clear H1
      have H' := Aside0.mk H
      clear H
      go_wp2_with (first | ((with_reducible refine gate_callee (f := 51) rfl ?_); refine goesL_ (some 7) rfl rfl Try.func51 (by kernel_rfl) rfl #[.slice A0 l0.length c0] rfl (by (try simp only [List.map_toArray, List.map_cons, List.map_nil]); first | done | rfl | (simp only [List.length_drop, List.length_take]; rfl)) ?_; (with_reducible refine (impl_IsRow.calls k _ _ l0 false _ ?side1 ?side2 A4.out).mono ?_); (case side1 => repeat (first | exact (Kd.C_below HR0.out HB.out) | (with_reducible refine Kd.C_alloc ?_ _) | (with_reducible refine Kd.C_drewN ?_ _) | (with_reducible refine Kd.C_drew ?_))); (case side2 => exact HC0.out); rintro e w' ⟨rfl, ⟨nd, rfl⟩⟩; refine ⟨_, rfl, ?_⟩))
      go_meet
      case rel => exact ⟨_, (true), (by first | rfl | (simp; done) | (simp [*]; done)), H', ⟨by first | omega | exact Nat.le_refl _⟩, ⟨by repeat (first | (with_reducible first | exact HB.out | apply below_alloc | apply pw_below_drewN | apply below_drew1) | exact HB.out)⟩⟩
  case rest =>
    clear HC3
    try clear c1
    try clear p2
    try clear c5
    obtain ⟨kq, x13_2, rfl, HA, HJ2, HB⟩ := hcut
    cases kq with
    | zero => exact absurd HA.out (by simp [impl_JoinRows.j0])
    | succ kj2 =>
      have H := HA.out
      clear HA
      simp only [impl_JoinRows.j0] at H
      by_cases c7 : x13_2 = true
      · subst c7
        have H1 : (some (([] : List Int), false)) = some (r1, r2) := by rw [if_pos rfl] at H; exact H
        clear H
        have H := H1
        clear H1
        simp only [Option.some.injEq, Prod.mk.injEq] at H
        obtain ⟨rfl, rfl⟩ := H
        go_wp2
        go_ret2
        exact ⟨_, by first | rfl | (simp [errW_none, errW_some] <;> rfl) | (simp [*, errW_none, errW_some] <;> rfl), by first | exact Kd.R_nil _ _ _ _ _ | exact Kd.N_nil _ _ _ _ _ | exact Kd.V_nil _ _ _ _ _ | exact Kd.Q_nil _ _ _ _ _ | exact Kd.S_nil _ _ _ _ _, by repeat (first | (with_reducible first | exact HB.out | apply below_alloc | apply pw_below_drewN | apply below_drew1) | exact HB.out)⟩
      · replace c7 := Bool.eq_false_iff.mpr c7
        subst c7
        have H1 : ((slices_Clone_int_int.f l0).bind fun t140 => (if t140.length + l1.length < 17592186044416 then ((impl_madeRow.f kj2 (t140 ++ l1)).bind fun bt146 => (some (bt146.1, bt146.2))) else (none))) = some (r1, r2) := by rw [if_neg (show ¬ (false = true) by decide)] at H; exact H
        clear H
        have H := H1
        clear H1
        replace H := Option.bind_eq_some_iff.mp H
        obtain ⟨t140, A80, H⟩ := H
        replace H : (if t140.length + l1.length < 17592186044416 then ((impl_madeRow.f kj2 (t140 ++ l1)).bind fun bt146 => (some (bt146.1, bt146.2))) else (none)) = some (r1, r2) := H
        have A8 := Aside0.mk A80
        clear A80
        by_cases c9 : t140.length + l1.length < 17592186044416
        · rw [if_pos c9] at H
          have LMc9 := Aside0.mk c9
          clear c9
          obtain ⟨y143, hy143⟩ : ∃ y_ : List Int, y_ = (t140 ++ l1) := ⟨_, rfl⟩
          replace H : ((impl_madeRow.f kj2 y143).bind fun bt146 => (some (bt146.1, bt146.2))) = some (r1, r2) := by first | (rw [hy143]; with_reducible exact H) | (have H2_ := (Option.bind_some _ _).symm.trans H; rw [hy143]; with_reducible exact H2_) | (have H2_ := (Option.bind_some _ _).symm.trans H; with_reducible exact H2_) | with_reducible exact H | (rw [hy143]; exact H) | exact H
          have Ny143 := Aside0.mk hy143
          clear hy143
          replace H := Option.bind_eq_some_iff.mp H
          obtain ⟨⟨t146, t149⟩, A100, H⟩ := H
          replace H : (some (t146, t149)) = some (r1, r2) := H
          have A10 := Aside0.mk A100
          clear A100
          simp only [Option.some.injEq, Prod.mk.injEq] at H
          obtain ⟨rfl, rfl⟩ := H
          go_wp2_with (first | ((with_reducible refine gate_callee (f := 53) rfl ?_); refine goesL_ (some 15) rfl rfl Try.func53 (by kernel_rfl) rfl #[.slice A0 l0.length c0] rfl (by (try simp only [List.map_toArray, List.map_cons, List.map_nil]); first | done | rfl | (simp only [List.length_drop, List.length_take]; rfl)) ?_; (with_reducible refine (slices_Clone_int_int.calls _ _ l0 t140 _ ?side1 ?side2 A8.out).mono ?_); (case side1 => repeat (first | exact (Kd.C_below HR0.out HB.out) | (with_reducible refine Kd.C_alloc ?_ _) | (with_reducible refine Kd.C_drewN ?_ _) | (with_reducible refine Kd.C_drew ?_))); (case side2 => exact HC0.out); rintro e w11 ⟨v141, rfl, ho0, hb⟩; refine ⟨_, rfl, ?_⟩; have n0_ := Aside0.mk (Kd.R_lower ho0 (below_size (by repeat (first | (with_reducible first | exact HB.out | apply below_alloc | apply pw_below_drewN | apply below_drew1) | exact HB.out)))); have n1_ := Aside0.mk (below_step (by repeat (first | (with_reducible first | exact HB.out | apply below_alloc | apply pw_below_drewN | apply below_drew1) | exact HB.out)) hb); clear HB; have HO142 := n0_; have HB := n1_; clear n0_ n1_; (try clear hb); (try clear hb2); (try clear hk); (try clear hi); (try clear ho0)) | ((with_reducible refine gate_builtin (b := .append) (xs := #[.tmp 15, .tmp 16]) rfl ?_); at_builtin; refine Kd.R_append_rows (Kd.int .i64) (w0 := w) w.heap.size rfl (.tmp 15) (.tmp 16) 25 3 (.int .i64 0) 8 rfl Try.underlying25 info3 rfl (by decide) (by omega) v141 t140 l1 _ _ _ (fun _ => True) (fun _ => False) rfl rfl ?aO ?aR (fun _ _ h => h) (fun _ h => h.elim) ?aF ?aB ?aS ?aL ?_; (case aR => repeat (first | exact (Kd.C_below HR1.out HB.out) | (with_reducible refine Kd.C_alloc ?_ _) | (with_reducible refine Kd.C_drewN ?_ _) | (with_reducible refine Kd.C_drew ?_))); (case aB => exact (by repeat (first | (with_reducible first | exact HB.out | apply below_alloc | apply pw_below_drewN | apply below_drew1) | exact HB.out))); (case aF => exact (fun _ _ => trivial)); (case aO => exact (by (with_reducible repeat (first | apply Kd.R_alloc | apply Kd.R_drewN | apply Kd.R_drew)); exact HO142.out)); (case aS => exact (below_size (by repeat (first | (with_reducible first | exact HB.out | apply below_alloc | apply pw_below_drewN | apply below_drew1) | exact HB.out)))); (case aL => have := LMc9.out; omega); intro v144 w12 ho hb hg hat; rw [← Ny143.out] at ho; have n0_ := Aside0.mk (hb); have n1_ := Aside0.mk (ho); clear HB; clear HO142; have HB := n0_; have HO145 := n1_; clear n0_ n1_; clear ho hb hg hat; obtain ⟨Ao13, co13, eo13⟩ := Kd.R_slice HO145.out; subst eo13) | ((with_reducible refine gate_callee (f := 52) rfl ?_); refine goesL_ (some 18) rfl rfl Try.func52 (by kernel_rfl) rfl #[.slice Ao13 y143.length co13] rfl (by (try simp only [List.map_toArray, List.map_cons, List.map_nil]); first | done | rfl | (simp only [List.length_drop, List.length_take]; rfl)) ?_; (with_reducible refine (impl_madeRow.calls kj2 (fun k_ => some k_ = (.slice Ao13 y143.length co13 : Value).ownBlock) (.slice Ao13 y143.length co13) y143 t146 t149 w _ ?side1 ?side2 A10.out).mono ?_); (case side1 => repeat (first | (with_reducible first | exact HB.out | apply below_alloc | apply pw_below_drewN | apply below_drew1) | exact HB.out)); (case side2 => exact Kd.R_tight rfl HO145.out); rintro e w14 ⟨v147, rfl, ho0, hb, hkp⟩; refine ⟨_, rfl, ?_⟩; have n0_ := Aside0.mk (Kd.R_mono (ok' := fun k_ => True) ho0 (fun k_ hk_ => trivial)); have n1_ := Aside0.mk (hb); clear HB; clear HO145; have HO148 := n0_; have HB := n1_; clear n0_ n1_; (try clear hb); (try clear hkp); (try clear ho0)))
          go_ret2
          exact ⟨_, by first | rfl | (simp [errW_none, errW_some] <;> rfl) | (simp [*, errW_none, errW_some] <;> rfl), by (with_reducible repeat (first | apply Kd.R_alloc | apply Kd.R_drewN | apply Kd.R_drew)); exact HO148.out, by repeat (first | (with_reducible first | exact HB.out | apply below_alloc | apply pw_below_drewN | apply below_drew1) | exact HB.out)⟩
        · rw [if_neg c9] at H
          exact absurd H (by simp)

noncomputable def impl_JoinRows.J0 (x0 : List Int) (x1 : List Int) (x13 : Bool) : Option (List Int × Bool) := lim fun k => impl_JoinRows.j0 k x0 x1 x13
theorem impl_JoinRows.J0_lim (x0 : List Int) (x1 : List Int) (x13 : Bool) : Lim (fun k => impl_JoinRows.j0 k x0 x1 x13) (impl_JoinRows.J0 x0 x1 x13) := Lim.of fun k => (impl_JoinRows.mono_l k) x0 x1 x13
noncomputable def impl_JoinRows.F (l0 : List Int) (l1 : List Int) : Option (List Int × Bool) := lim fun k => impl_JoinRows.f k l0 l1
theorem impl_JoinRows.F_lim (l0 : List Int) (l1 : List Int) : Lim (fun k => impl_JoinRows.f k l0 l1) (impl_JoinRows.F l0 l1) := Lim.of fun k => impl_JoinRows.mono l0 l1 k
theorem impl_JoinRows.J0_eq (x0 : List Int) (x1 : List Int) (x13 : Bool) : impl_JoinRows.J0 x0 x1 x13 = (if x13 = true then (some (([] : List Int), false)) else ((slices_Clone_int_int.f x0).bind fun t140 => (if t140.length + x1.length < 17592186044416 then ((impl_madeRow.F (t140 ++ x1)).bind fun bt146 => (some (bt146.1, bt146.2))) else (none)))) :=
  Lim.step (f := fun k => (if x13 = true then (some (([] : List Int), false)) else ((slices_Clone_int_int.f x0).bind fun t140 => (if t140.length + x1.length < 17592186044416 then ((impl_madeRow.f k (t140 ++ x1)).bind fun bt146 => (some (bt146.1, bt146.2))) else (none))))) (impl_JoinRows.J0_lim x0 x1 x13) (fun k => by first | rfl | rw [impl_JoinRows.j0]) (by
    repeat' first
    | (with_reducible exact Lim.const _)
    | (with_reducible exact impl_madeRow.F_lim _)
    | (with_reducible refine Lim.ite ?_ ?_)
    | (with_reducible refine Lim.bind ?_ (fun _ => ?_)))
theorem impl_JoinRows.F_eq (l0 : List Int) (l1 : List Int) : impl_JoinRows.F l0 l1 = ((impl_IsRow.F l0).bind fun t138 => (if t138 = true then ((impl_IsRow.F l1).bind fun t139 => (impl_JoinRows.J0 l0 l1 (!t139))) else (impl_JoinRows.J0 l0 l1 true))) :=
  Lim.unique (impl_JoinRows.F_lim l0 l1) (by
    unfold impl_JoinRows.f
    repeat' first
    | (with_reducible exact Lim.const _)
    | (with_reducible exact impl_IsRow.F_lim _)
    | (with_reducible exact impl_JoinRows.J0_lim _ _ _)
    | (with_reducible refine Lim.ite ?_ ?_)
    | (with_reducible refine Lim.bind ?_ (fun _ => ?_)))

end Go.Proofs.Ytmhcgihkijiecaa.Fn
namespace Go.Proofs.Ytmhcgihkijiecaa.Fn
open Go.RowKit Go.Proofs.YtmhcgihkijiecaaW.PrintWords Go.Proofs.YtmhcgihkijiecaaW.PrintLast Go.Proofs.YtmhcgihkijiecaaW.PrintMore
attribute [local go_sem] max2_int min2_int max_two min_two max_three min_three max_four min_four   -- for this text's walks alone
set_option linter.unusedVariables false
set_option linter.unusedSimpArgs false

/-! ### spec_TrimRow: function 23 -/
mutual
def spec_TrimRow.j1 : Nat → List Int → Int → Int → Option (List Int × Bool)
  | 0, _, _, _ => none
  | k + 1, x0, x4, x5 => spec_TrimRow.l1 k x0 x4 x5
def spec_TrimRow.l1 : Nat → List Int → Int → Int → Option (List Int × Bool)
  | 0, _, _, _ => none
  | k + 1, x0, x4, x5 => if x5 > x4 then (if 0 ≤ (wrap64 (x5 - 1)) then (if (wrap64 (x5 - 1)) < (x0.length : Int) then (if (rd x0 (wrap64 (x5 - 1))) = 0 then (spec_TrimRow.l1 k x0 x4 (wrap64 (x5 - 1))) else (if 0 ≤ x4 then (if x4 ≤ x5 then (if x5 ≤ (x0.length : Int) then ((spec_l1Own.f ((x0.take (x5 : Int).toNat).drop (x4 : Int).toNat)).bind fun t207 => (some (t207, true))) else (none)) else (none)) else (none))) else (none)) else (none)) else (if 0 ≤ x4 then (if x4 ≤ x5 then (if x5 ≤ (x0.length : Int) then ((spec_l1Own.f ((x0.take (x5 : Int).toNat).drop (x4 : Int).toNat)).bind fun t211 => (some (t211, true))) else (none)) else (none)) else (none))
def spec_TrimRow.l0 : Nat → List Int → Int → Int → Option (List Int × Bool)
  | 0, _, _, _ => none
  | k + 1, x0, x4, x5 => if x4 < x5 then (if 0 ≤ x4 then (if x4 < (x0.length : Int) then (if (rd x0 x4) = 0 then (spec_TrimRow.l0 k x0 (wrap64 (x4 + 1)) x5) else (spec_TrimRow.j1 k x0 x4 x5)) else (none)) else (none)) else (spec_TrimRow.j1 k x0 x4 x5)
end
def spec_TrimRow.f (k : Nat) (l0 : List Int) : Option (List Int × Bool) := (spec_roGood.f k l0).bind fun t203 => (if t203 = true then (spec_TrimRow.l0 k l0 0 (l0.length : Int)) else (some (([] : List Int), false)))
theorem spec_TrimRow.mono_l : ∀ k, (∀ y0 y1 y2, LeO (spec_TrimRow.j1 k y0 y1 y2) (spec_TrimRow.j1 (k + 1) y0 y1 y2)) ∧ (∀ y0 y1 y2, LeO (spec_TrimRow.l1 k y0 y1 y2) (spec_TrimRow.l1 (k + 1) y0 y1 y2)) ∧ (∀ y0 y1 y2, LeO (spec_TrimRow.l0 k y0 y1 y2) (spec_TrimRow.l0 (k + 1) y0 y1 y2))
  | 0 => ⟨fun _ _ _ r h => by simp [spec_TrimRow.j1] at h, fun _ _ _ r h => by simp [spec_TrimRow.l1] at h, fun _ _ _ r h => by simp [spec_TrimRow.l0] at h⟩
  | k + 1 => by
    obtain ⟨ih0, ih1, ih2⟩ := spec_TrimRow.mono_l k
    refine ⟨?_, ?_, ?_⟩
    · intro y0 y1 y2
      unfold spec_TrimRow.j1
      repeat' first
      | (with_reducible exact ih0 _ _ _)
      | (with_reducible exact ih1 _ _ _)
      | (with_reducible exact ih2 _ _ _)
      | (with_reducible exact spec_roGood.mono _ _)
      | (with_reducible exact LeO.refl _)
      | (with_reducible exact LeO.none _)
      | (with_reducible refine LeO.ite ?_ ?_)
      | (with_reducible refine LeO.bind ?_ (fun _ => ?_))
      | exact ih0 _ _ _
      | exact ih1 _ _ _
      | exact ih2 _ _ _
      | exact spec_roGood.mono _ _
      | exact LeO.none _
      | refine LeO.ite ?_ ?_
      | refine LeO.bind ?_ (fun _ => ?_)
    · intro y0 y1 y2
      unfold spec_TrimRow.l1
      repeat' first
      | (with_reducible exact ih0 _ _ _)
      | (with_reducible exact ih1 _ _ _)
      | (with_reducible exact ih2 _ _ _)
      | (with_reducible exact spec_roGood.mono _ _)
      | (with_reducible exact LeO.refl _)
      | (with_reducible exact LeO.none _)
      | (with_reducible refine LeO.ite ?_ ?_)
      | (with_reducible refine LeO.bind ?_ (fun _ => ?_))
      | exact ih0 _ _ _
      | exact ih1 _ _ _
      | exact ih2 _ _ _
      | exact spec_roGood.mono _ _
      | exact LeO.none _
      | refine LeO.ite ?_ ?_
      | refine LeO.bind ?_ (fun _ => ?_)
    · intro y0 y1 y2
      unfold spec_TrimRow.l0
      repeat' first
      | (with_reducible exact ih0 _ _ _)
      | (with_reducible exact ih1 _ _ _)
      | (with_reducible exact ih2 _ _ _)
      | (with_reducible exact spec_roGood.mono _ _)
      | (with_reducible exact LeO.refl _)
      | (with_reducible exact LeO.none _)
      | (with_reducible refine LeO.ite ?_ ?_)
      | (with_reducible refine LeO.bind ?_ (fun _ => ?_))
      | exact ih0 _ _ _
      | exact ih1 _ _ _
      | exact ih2 _ _ _
      | exact spec_roGood.mono _ _
      | exact LeO.none _
      | refine LeO.ite ?_ ?_
      | refine LeO.bind ?_ (fun _ => ?_)
theorem spec_TrimRow.mono : ∀ a0 k, LeO (spec_TrimRow.f k a0) (spec_TrimRow.f (k + 1) a0) := by
  intro a0 k
  obtain ⟨ih0, ih1, ih2⟩ := spec_TrimRow.mono_l k
  unfold spec_TrimRow.f
  repeat' first
      | (with_reducible exact ih0 _ _ _)
      | (with_reducible exact ih1 _ _ _)
      | (with_reducible exact ih2 _ _ _)
      | (with_reducible exact spec_roGood.mono _ _)
      | (with_reducible exact LeO.refl _)
      | (with_reducible exact LeO.none _)
      | (with_reducible refine LeO.ite ?_ ?_)
      | (with_reducible refine LeO.bind ?_ (fun _ => ?_))
      | exact ih0 _ _ _
      | exact ih1 _ _ _
      | exact ih2 _ _ _
      | exact spec_roGood.mono _ _
      | exact LeO.none _
      | refine LeO.ite ?_ ?_
      | refine LeO.bind ?_ (fun _ => ?_)
set_option maxHeartbeats 8000000 in
set_option maxRecDepth 100000 in
theorem spec_TrimRow.calls (k : Nat) (A0 : Option Addr) (c0 : Nat) (l0 : List Int) (r1 : List Int) (r2 : Bool) (w : World) (hr0 : Kd.C (Kd.int .i64) w A0 l0.length l0) (hc0 : l0.length ≤ c0) (h : spec_TrimRow.f k l0 = some (r1, r2)) :
    Calls Try.prog 23 #[.slice A0 l0.length c0] w fun e w' => ∃ v0_ : Value, e = .returned (.tuple #[v0_, .bool r2]) ∧ Kd.R (Kd.int .i64) 3 w' w.heap.size (fun _ => True) v0_ r1 ∧ Below w.heap.size w w' := by
  have HR0 := Aside0.mk hr0
  have HC0 := Aside0.mk hc0
  clear hr0 hc0
  have HB := Aside0.mk (Below.refl w.heap.size w)
  have H : ((spec_roGood.f k l0).bind fun t203 => (if t203 = true then (spec_TrimRow.l0 k l0 0 (l0.length : Int)) else (some (([] : List Int), false)))) = some (r1, r2) := h
  clear h
  replace H := Option.bind_eq_some_iff.mp H
  obtain ⟨t203, A20, H⟩ := H
  replace H : (if t203 = true then (spec_TrimRow.l0 k l0 0 (l0.length : Int)) else (some (([] : List Int), false))) = some (r1, r2) := H
  have A2 := Aside0.mk A20
  clear A20
  by_cases c3 : t203 = true
  · subst c3
    have H1 : (spec_TrimRow.l0 k l0 0 (l0.length : Int)) = some (r1, r2) := by rw [if_pos rfl] at H; exact H
    clear H
    have H := H1
    clear H1
    have HC4 := Aside0.mk H
    clear H
    go_enter Try.func23, Try.ntmps23
    go_upto_block 0 with (first | ((with_reducible refine gate_callee (f := 48) rfl ?_); refine goesL_ (some 7) rfl rfl Try.func48 (by kernel_rfl) rfl #[.slice A0 l0.length c0] rfl (by (try simp only [List.map_toArray, List.map_cons, List.map_nil]); first | done | rfl | (simp only [List.length_drop, List.length_take]; rfl)) ?_; (with_reducible refine (spec_roGood.calls k _ _ l0 true _ ?side1 ?side2 A2.out).mono ?_); (case side1 => repeat (first | exact HR0.out | (with_reducible refine Kd.C_alloc ?_ _) | (with_reducible refine Kd.C_drewN ?_ _) | (with_reducible refine Kd.C_drew ?_))); (case side2 => exact HC0.out); rintro e w' ⟨rfl, ⟨nd, rfl⟩⟩; refine ⟨_, rfl, ?_⟩))
    (try simp only [Act.put, List.setIfInBounds_toArray, List.set_cons_zero, List.set_cons_succ])
    go_cut [4] (fun v4 wc => ∃ (kq : Nat) (x4_3 : Int), v4 = .int .i64 x4_3 ∧ Aside0 (spec_TrimRow.j1 kq l0 x4_3 (l0.length : Int) = some (r1, r2)) ∧ Aside0 (kq ≤ k) ∧ Aside0 (Below w.heap.size w wc))
    case first =>
      have H := HC4.out
      clear HC4
      have H' := Aside0.mk H
      clear H
      go_wp2
      go_loopg [4] k (fun kq v4 w' => ∃ (x4_1 : Int), v4 = .int .i64 x4_1 ∧ Aside0 (spec_TrimRow.l0 kq l0 x4_1 (l0.length : Int) = some (r1, r2)) ∧ Aside0 (kq ≤ k) ∧ Aside0 (Below w.heap.size w w'))
      case atStart => exact ⟨(0), (by first | rfl | (simp; done) | (simp [*]; done)), H', ⟨Nat.le_refl _⟩, ⟨by repeat (first | (with_reducible first | exact HB.out | apply below_alloc | apply pw_below_drewN | apply below_drew1) | exact HB.out)⟩⟩
      case round =>
        clear H'
        try clear c2
        try clear p2
        try clear c3
        try clear c4
        obtain ⟨x4_1, rfl, HA, HK1, HB⟩ := hrel
        cases gk with
        | zero => exact absurd HA.out (by simp [spec_TrimRow.l0])
        | succ k1 =>
          have H := HA.out
          clear HA
          simp only [spec_TrimRow.l0] at H
          by_cases c5 : x4_1 < (l0.length : Int)
          · rw [if_pos c5] at H
            have c5b0 : decide (x4_1 < (l0.length : Int)) = true := decide_eq_true c5
            clear c5
            (first | rw [c5b0] | (simp only [i64_w, i32_w]; rw [c5b0]) | skip)
            by_cases c6 : 0 ≤ x4_1
            · rw [if_pos c6] at H
              have c6b0 : decide (0 ≤ x4_1) = true := decide_eq_true c6
              clear c6
              by_cases c7 : x4_1 < (l0.length : Int)
              · rw [if_pos c7] at H
                have c7b0 : decide (x4_1 < (l0.length : Int)) = true := decide_eq_true c7
                clear c7
                by_cases c8 : (rd l0 x4_1) = 0
                · rw [if_pos c8] at H
                  have c8b0 : ((rd l0 x4_1) == 0) = true := beq_iff_eq.mpr c8
                  have c8b1 : ((rd l0 x4_1) != 0) = false := bne_eq_false_iff_eq.mpr c8
                  clear c8
                  have H' := Aside0.mk H
                  clear H
                  have p204 : 0 ≤ (x4_1 : Int) := of_decide_eq_true (by first | (with_reducible assumption) | assumption)
                  have q204 : x4_1 < (l0.length : Int) := of_decide_eq_true (by first | (with_reducible assumption) | assumption)
                  obtain ⟨ad204, e204, hx204_0⟩ := Kd.at_int HR0.out x4_1 p204 q204
                  cases e204
                  replace hx204_0 := (HB.out.cell (World.block_lt_of_cell? w _ hx204_0)).trans hx204_0
                  replace p204 := eq_true p204
                  replace q204 := eq_true q204
                  go_wp2
                  go_roundg k1
                  case measure => have := HK1.out; omega
                  case rel => exact ⟨(wrap64 (x4_1 + 1)), (by first | rfl | (simp; done) | (simp [*]; done)), H', ⟨by have := HK1.out; omega⟩, ⟨by repeat (first | (with_reducible first | exact HB.out | apply below_alloc | apply pw_below_drewN | apply below_drew1) | exact HB.out)⟩⟩
                · rw [if_neg c8] at H
                  have c8b0 : ((rd l0 x4_1) == 0) = false := beq_eq_false_iff_ne.mpr c8
                  have c8b1 : ((rd l0 x4_1) != 0) = true := bne_iff_ne.mpr c8
                  have H' := Aside0.mk H
                  clear H
                  have p204 : 0 ≤ (x4_1 : Int) := of_decide_eq_true (by first | (with_reducible assumption) | assumption)
                  have q204 : x4_1 < (l0.length : Int) := of_decide_eq_true (by first | (with_reducible assumption) | assumption)
                  obtain ⟨ad204, e204, hx204_0⟩ := Kd.at_int HR0.out x4_1 p204 q204
                  cases e204
                  replace hx204_0 := (HB.out.cell (World.block_lt_of_cell? w _ hx204_0)).trans hx204_0
                  replace p204 := eq_true p204
                  replace q204 := eq_true q204
                  go_wp2
                  go_meet
                  case rel => exact ⟨_, (x4_1), (by first | rfl | (simp; done) | (simp [*]; done)), H', ⟨by have := HK1.out; first | omega | exact Nat.le_refl _⟩, ⟨by repeat (first | (with_reducible first | exact HB.out | apply below_alloc | apply pw_below_drewN | apply below_drew1) | exact HB.out)⟩⟩
              · rw [if_neg c7] at H
                exact absurd H (by simp)
            · rw [if_neg c6] at H
              exact absurd H (by simp)
          · rw [if_neg c5] at H
            have c5b0 : decide (x4_1 < (l0.length : Int)) = false := decide_eq_false c5
            clear c5
            (first | rw [c5b0] | (simp only [i64_w, i32_w]; rw [c5b0]) | skip)
            have H' := Aside0.mk H
            clear H
            go_wp2
            go_meet
            case rel => exact ⟨_, (x4_1), (by first | rfl | (simp; done) | (simp [*]; done)), H', ⟨by have := HK1.out; first | omega | exact Nat.le_refl _⟩, ⟨by repeat (first | (with_reducible first | exact HB.out | apply below_alloc | apply pw_below_drewN | apply below_drew1) | exact HB.out)⟩⟩
    case rest =>
      clear HC4
      try clear c2
      try clear p2
      try clear q2
      try clear hx2
      try clear c3
      try clear c4
      try clear c5
      try clear c5b0
      try clear c6
      try clear c6b0
      try clear p6
      try clear c7
      try clear c7b0
      try clear c8
      try clear c8b0
      try clear c8b1
      try clear hx204_0
      try clear p2
      try clear p204
      try clear q204
      obtain ⟨kq, x4_3, rfl, HA, HJ3, HB⟩ := hcut
      cases kq with
      | zero => exact absurd HA.out (by simp [spec_TrimRow.j1])
      | succ kj3 =>
        have H := HA.out
        clear HA
        simp only [spec_TrimRow.j1] at H
        have H' := Aside0.mk H
        clear H
        go_wp2
        go_loopg [5] kj3 (fun kq v5 w' => ∃ (x5_2 : Int), v5 = .int .i64 x5_2 ∧ Aside0 (spec_TrimRow.l1 kq l0 x4_3 x5_2 = some (r1, r2)) ∧ Aside0 (kq ≤ kj3) ∧ Aside0 (Below w.heap.size w w'))
        case atStart => exact ⟨((l0.length : Int)), (by first | rfl | (simp; done) | (simp [*]; done)), H', ⟨Nat.le_refl _⟩, ⟨by repeat (first | (with_reducible first | exact HB.out | apply below_alloc | apply pw_below_drewN | apply below_drew1) | exact HB.out)⟩⟩
        case round =>
          clear H'
          try clear c2
          try clear p2
          try clear q2
          try clear hx2
          try clear c3
          try clear c4
          try clear c5
          try clear c5b0
          try clear c6
          try clear c6b0
          try clear p6
          try clear c7
          try clear c7b0
          try clear c8
          try clear c8b0
          try clear c8b1
          try clear hx204_0
          try clear p2
          try clear p204
          try clear p6
          try clear q2
          try clear q204
          obtain ⟨x5_2, rfl, HA, HK2, HB⟩ := hrel
          cases gk with
          | zero => exact absurd HA.out (by simp [spec_TrimRow.l1])
          | succ k2 =>
            have H := HA.out
            clear HA
            simp only [spec_TrimRow.l1] at H
            by_cases c9 : x5_2 > x4_3
            · rw [if_pos c9] at H
              have c9b0 : decide (x4_3 < x5_2) = true := decide_eq_true c9
              clear c9
              obtain ⟨ji10, hji10⟩ : ∃ j_ : Int, (wrap64 (x5_2 - 1)) = j_ := ⟨_, rfl⟩
              replace H : (if 0 ≤ (ji10) then (if (ji10) < (l0.length : Int) then (if (rd l0 (ji10)) = 0 then (spec_TrimRow.l1 k2 l0 x4_3 ji10) else (if 0 ≤ x4_3 then (if x4_3 ≤ x5_2 then (if x5_2 ≤ (l0.length : Int) then ((spec_l1Own.f ((l0.take (x5_2 : Int).toNat).drop (x4_3 : Int).toNat)).bind fun t207 => (some (t207, true))) else (none)) else (none)) else (none))) else (none)) else (none)) = some (r1, r2) := by first | (rw [hji10] at H; exact H) | (simp only [hji10] at H ⊢; exact H)
              have hji10w : (IntKind.i64.wrap (x5_2 - 1)) = ji10 := (i64_w _).trans hji10
              by_cases c11 : 0 ≤ (ji10)
              · rw [if_pos c11] at H
                have c11b0 : decide (0 ≤ (ji10)) = true := decide_eq_true c11
                clear c11
                by_cases c12 : (ji10) < (l0.length : Int)
                · rw [if_pos c12] at H
                  have c12b0 : decide ((ji10) < (l0.length : Int)) = true := decide_eq_true c12
                  clear c12
                  by_cases c13 : (rd l0 (ji10)) = 0
                  · rw [if_pos c13] at H
                    have c13b0 : ((rd l0 (ji10)) == 0) = true := beq_iff_eq.mpr c13
                    have c13b1 : ((rd l0 (ji10)) != 0) = false := bne_eq_false_iff_eq.mpr c13
                    clear c13
                    have H' := Aside0.mk H
                    clear H
                    have p205 : 0 ≤ ((ji10) : Int) := of_decide_eq_true (by first | (with_reducible assumption) | assumption)
                    have q205 : (ji10) < (l0.length : Int) := of_decide_eq_true (by first | (with_reducible assumption) | assumption)
                    obtain ⟨ad205, e205, hx205_0⟩ := Kd.at_int HR0.out (ji10) p205 q205
                    cases e205
                    replace hx205_0 := (HB.out.cell (World.block_lt_of_cell? w _ hx205_0)).trans hx205_0
                    replace p205 := eq_true p205
                    replace q205 := eq_true q205
                    go_wp2
                    go_roundg k2
                    case measure => have := HJ3.out; have := HK2.out; omega
                    case rel => exact ⟨(ji10), (by first | rfl | (simp; done) | (simp only [← hji10] <;> (first | rfl | simp)) | (simp [*]; done)), H', ⟨by have := HJ3.out; have := HK2.out; omega⟩, ⟨by repeat (first | (with_reducible first | exact HB.out | apply below_alloc | apply pw_below_drewN | apply below_drew1) | exact HB.out)⟩⟩
                  · rw [if_neg c13] at H
                    have c13b0 : ((rd l0 (ji10)) == 0) = false := beq_eq_false_iff_ne.mpr c13
                    have c13b1 : ((rd l0 (ji10)) != 0) = true := bne_iff_ne.mpr c13
                    by_cases c14 : 0 ≤ x4_3
                    · rw [if_pos c14] at H
                      have c14b0 := eq_true c14
                      have c14b1 : decide (0 ≤ x4_3) = true := decide_eq_true c14
                      clear c14
                      by_cases c15 : x4_3 ≤ x5_2
                      · rw [if_pos c15] at H
                        have c15b0 := eq_true c15
                        have c15b1 : decide (x4_3 ≤ x5_2) = true := decide_eq_true c15
                        clear c15
                        by_cases c16 : x5_2 ≤ (l0.length : Int)
                        · rw [if_pos c16] at H
                          have c16b0 := eq_true c16
                          have c16b1 : decide (x5_2 ≤ (l0.length : Int)) = true := decide_eq_true c16
                          clear c16
                          replace H := Option.bind_eq_some_iff.mp H
                          obtain ⟨t207, A170, H⟩ := H
                          replace H : (some (t207, true)) = some (r1, r2) := H
                          have A17 := Aside0.mk A170
                          clear A170
                          simp only [Option.some.injEq, Prod.mk.injEq] at H
                          obtain ⟨rfl, rfl⟩ := H
                          have p205 : 0 ≤ ((ji10) : Int) := of_decide_eq_true (by first | (with_reducible assumption) | assumption)
                          have q205 : (ji10) < (l0.length : Int) := of_decide_eq_true (by first | (with_reducible assumption) | assumption)
                          obtain ⟨ad205, e205, hx205_0⟩ := Kd.at_int HR0.out (ji10) p205 q205
                          cases e205
                          replace hx205_0 := (HB.out.cell (World.block_lt_of_cell? w _ hx205_0)).trans hx205_0
                          replace p205 := eq_true p205
                          replace q205 := eq_true q205
                          obtain ⟨i018, hi018, _, hsz18, _⟩ := info_parts info3
                          obtain ⟨A18, hcut18, hA18, hC18⟩ := print_mid_of (P := Try.prog) (Value.int .i64) 0 25 3 .i64 .i64 Try.underlying25 hi018 hsz18 (some ad205) c0 l0 x4_3 x5_2 (of_decide_eq_true (by first | (with_reducible assumption) | assumption)) (by first | omega | exact of_decide_eq_true (by first | (with_reducible assumption) | assumption)) (of_decide_eq_true (by first | (with_reducible assumption) | assumption)) HC0.out
                          have HR206 := Aside0.mk (Kd.C_of_reads (h1 := fun _ => rfl) (hA18 _ (Kd.reads_of_C HR0.out)))
                          have HC206 := Aside0.mk hC18
                          clear hA18 hC18 hi018 hsz18
                          go_wp2_with (first | ((with_reducible refine gate_callee (f := 50) rfl ?_); refine goesL_ (some 40) rfl rfl Try.func50 (by kernel_rfl) rfl #[.slice A18 ((l0.take (x5_2 : Int).toNat).drop (x4_3 : Int).toNat).length (c0 - x4_3.toNat)] rfl (by (try simp only [List.map_toArray, List.map_cons, List.map_nil]); first | done | (rw [show ((l0.take (x5_2 : Int).toNat).drop (x4_3 : Int).toNat).length = (x5_2.toNat - x4_3.toNat) from (by rw [List.length_drop, List.length_take]; have h_ : (x5_2 : Int) ≤ (l0.length : Int) := of_decide_eq_true (by first | (with_reducible assumption) | assumption); omega)] <;> rfl) | rfl | (simp only [List.length_drop, List.length_take]; rfl)) ?_; (with_reducible refine (spec_l1Own.calls _ _ ((l0.take (x5_2 : Int).toNat).drop (x4_3 : Int).toNat) t207 _ ?side1 ?side2 A17.out).mono ?_); (case side1 => repeat (first | exact (Kd.C_below HR206.out HB.out) | (with_reducible refine Kd.C_alloc ?_ _) | (with_reducible refine Kd.C_drewN ?_ _) | (with_reducible refine Kd.C_drew ?_))); (case side2 => exact HC206.out); rintro e w19 ⟨v208, rfl, ho0, hb⟩; refine ⟨_, rfl, ?_⟩; have n0_ := Aside0.mk (Kd.R_lower ho0 (below_size (by repeat (first | (with_reducible first | exact HB.out | apply below_alloc | apply pw_below_drewN | apply below_drew1) | exact HB.out)))); have n1_ := Aside0.mk (below_step (by repeat (first | (with_reducible first | exact HB.out | apply below_alloc | apply pw_below_drewN | apply below_drew1) | exact HB.out)) hb); clear HB; have HO209 := n0_; have HB := n1_; clear n0_ n1_; (try clear hb); (try clear hb2); (try clear hk); (try clear hi); (try clear ho0)))
                          go_ret2
                          exact ⟨_, by first | rfl | (simp [errW_none, errW_some] <;> rfl) | (simp only [← hji10]; first | rfl | (simp [errW_none, errW_some] <;> rfl)) | (simp [*, errW_none, errW_some] <;> rfl), by (with_reducible repeat (first | apply Kd.R_alloc | apply Kd.R_drewN | apply Kd.R_drew)); exact HO209.out, by repeat (first | (with_reducible first | exact HB.out | apply below_alloc | apply pw_below_drewN | apply below_drew1) | exact HB.out)⟩
                        · rw [if_neg c16] at H
                          exact absurd H (by simp)
                      · rw [if_neg c15] at H
                        exact absurd H (by simp)
                    · rw [if_neg c14] at H
                      exact absurd H (by simp)
                · rw [if_neg c12] at H
                  exact absurd H (by simp)
              · rw [if_neg c11] at H
                exact absurd H (by simp)
            · rw [if_neg c9] at H
              have c9b0 : decide (x4_3 < x5_2) = false := decide_eq_false c9
              clear c9
              by_cases c20 : 0 ≤ x4_3
              · rw [if_pos c20] at H
                have c20b0 := eq_true c20
                have c20b1 : decide (0 ≤ x4_3) = true := decide_eq_true c20
                clear c20
                by_cases c21 : x4_3 ≤ x5_2
                · rw [if_pos c21] at H
                  have c21b0 := eq_true c21
                  have c21b1 : decide (x4_3 ≤ x5_2) = true := decide_eq_true c21
                  clear c21
                  by_cases c22 : x5_2 ≤ (l0.length : Int)
                  · rw [if_pos c22] at H
                    have c22b0 := eq_true c22
                    have c22b1 : decide (x5_2 ≤ (l0.length : Int)) = true := decide_eq_true c22
                    clear c22
                    replace H := Option.bind_eq_some_iff.mp H
                    obtain ⟨t211, A230, H⟩ := H
                    replace H : (some (t211, true)) = some (r1, r2) := H
                    have A23 := Aside0.mk A230
                    clear A230
                    simp only [Option.some.injEq, Prod.mk.injEq] at H
                    obtain ⟨rfl, rfl⟩ := H
                    obtain ⟨i024, hi024, _, hsz24, _⟩ := info_parts info3
                    obtain ⟨A24, hcut24, hA24, hC24⟩ := print_mid_of (P := Try.prog) (Value.int .i64) 0 25 3 .i64 .i64 Try.underlying25 hi024 hsz24 A0 c0 l0 x4_3 x5_2 (of_decide_eq_true (by first | (with_reducible assumption) | assumption)) (by first | omega | exact of_decide_eq_true (by first | (with_reducible assumption) | assumption)) (of_decide_eq_true (by first | (with_reducible assumption) | assumption)) HC0.out
                    have HR210 := Aside0.mk (Kd.C_of_reads (h1 := fun _ => rfl) (hA24 _ (Kd.reads_of_C HR0.out)))
                    have HC210 := Aside0.mk hC24
                    clear hA24 hC24 hi024 hsz24
                    go_wp2_with (first | ((with_reducible refine gate_callee (f := 50) rfl ?_); refine goesL_ (some 40) rfl rfl Try.func50 (by kernel_rfl) rfl #[.slice A24 ((l0.take (x5_2 : Int).toNat).drop (x4_3 : Int).toNat).length (c0 - x4_3.toNat)] rfl (by (try simp only [List.map_toArray, List.map_cons, List.map_nil]); first | done | (rw [show ((l0.take (x5_2 : Int).toNat).drop (x4_3 : Int).toNat).length = (x5_2.toNat - x4_3.toNat) from (by rw [List.length_drop, List.length_take]; have h_ : (x5_2 : Int) ≤ (l0.length : Int) := of_decide_eq_true (by first | (with_reducible assumption) | assumption); omega)] <;> rfl) | rfl | (simp only [List.length_drop, List.length_take]; rfl)) ?_; (with_reducible refine (spec_l1Own.calls _ _ ((l0.take (x5_2 : Int).toNat).drop (x4_3 : Int).toNat) t211 _ ?side1 ?side2 A23.out).mono ?_); (case side1 => repeat (first | exact (Kd.C_below HR210.out HB.out) | (with_reducible refine Kd.C_alloc ?_ _) | (with_reducible refine Kd.C_drewN ?_ _) | (with_reducible refine Kd.C_drew ?_))); (case side2 => exact HC210.out); rintro e w25 ⟨v212, rfl, ho0, hb⟩; refine ⟨_, rfl, ?_⟩; have n0_ := Aside0.mk (Kd.R_lower ho0 (below_size (by repeat (first | (with_reducible first | exact HB.out | apply below_alloc | apply pw_below_drewN | apply below_drew1) | exact HB.out)))); have n1_ := Aside0.mk (below_step (by repeat (first | (with_reducible first | exact HB.out | apply below_alloc | apply pw_below_drewN | apply below_drew1) | exact HB.out)) hb); clear HB; have HO213 := n0_; have HB := n1_; clear n0_ n1_; (try clear hb); (try clear hb2); (try clear hk); (try clear hi); (try clear ho0)))
                    go_ret2
                    exact ⟨_, by first | rfl | (simp [errW_none, errW_some] <;> rfl) | (simp [*, errW_none, errW_some] <;> rfl), by (with_reducible repeat (first | apply Kd.R_alloc | apply Kd.R_drewN | apply Kd.R_drew)); exact HO213.out, by repeat (first | (with_reducible first | exact HB.out | apply below_alloc | apply pw_below_drewN | apply below_drew1) | exact HB.out)⟩
                  · rw [if_neg c22] at H
                    exact absurd H (by simp)
                · rw [if_neg c21] at H
                  exact absurd H (by simp)
              · rw [if_neg c20] at H
                exact absurd H (by simp)
  · replace c3 := Bool.eq_false_iff.mpr c3
    subst c3
    have H1 : (some (([] : List Int), false)) = some (r1, r2) := by rw [if_neg (show ¬ (false = true) by decide)] at H; exact H
    clear H
    have H := H1
    clear H1
    simp only [Option.some.injEq, Prod.mk.injEq] at H
    obtain ⟨rfl, rfl⟩ := H
    go_enter Try.func23, Try.ntmps23
    go_wp2_with (first | ((with_reducible refine gate_callee (f := 48) rfl ?_); refine goesL_ (some 7) rfl rfl Try.func48 (by kernel_rfl) rfl #[.slice A0 l0.length c0] rfl (by (try simp only [List.map_toArray, List.map_cons, List.map_nil]); first | done | rfl | (simp only [List.length_drop, List.length_take]; rfl)) ?_; (with_reducible refine (spec_roGood.calls k _ _ l0 false _ ?side1 ?side2 A2.out).mono ?_); (case side1 => repeat (first | exact HR0.out | (with_reducible refine Kd.C_alloc ?_ _) | (with_reducible refine Kd.C_drewN ?_ _) | (with_reducible refine Kd.C_drew ?_))); (case side2 => exact HC0.out); rintro e w' ⟨rfl, ⟨nd, rfl⟩⟩; refine ⟨_, rfl, ?_⟩))
    go_ret2
    exact ⟨_, by first | rfl | (simp [errW_none, errW_some] <;> rfl) | (simp [*, errW_none, errW_some] <;> rfl), by first | exact Kd.R_nil _ _ _ _ _ | exact Kd.N_nil _ _ _ _ _ | exact Kd.V_nil _ _ _ _ _ | exact Kd.Q_nil _ _ _ _ _ | exact Kd.S_nil _ _ _ _ _, by repeat (first | (with_reducible first | exact HB.out | apply below_alloc | apply pw_below_drewN | apply below_drew1) | exact HB.out)⟩

noncomputable def spec_TrimRow.J1 (x0 : List Int) (x4 : Int) (x5 : Int) : Option (List Int × Bool) := lim fun k => spec_TrimRow.j1 k x0 x4 x5
theorem spec_TrimRow.J1_lim (x0 : List Int) (x4 : Int) (x5 : Int) : Lim (fun k => spec_TrimRow.j1 k x0 x4 x5) (spec_TrimRow.J1 x0 x4 x5) := Lim.of fun k => (spec_TrimRow.mono_l k).1 x0 x4 x5
noncomputable def spec_TrimRow.L1 (x0 : List Int) (x4 : Int) (x5 : Int) : Option (List Int × Bool) := lim fun k => spec_TrimRow.l1 k x0 x4 x5
theorem spec_TrimRow.L1_lim (x0 : List Int) (x4 : Int) (x5 : Int) : Lim (fun k => spec_TrimRow.l1 k x0 x4 x5) (spec_TrimRow.L1 x0 x4 x5) := Lim.of fun k => (spec_TrimRow.mono_l k).2.1 x0 x4 x5
noncomputable def spec_TrimRow.L0 (x0 : List Int) (x4 : Int) (x5 : Int) : Option (List Int × Bool) := lim fun k => spec_TrimRow.l0 k x0 x4 x5
theorem spec_TrimRow.L0_lim (x0 : List Int) (x4 : Int) (x5 : Int) : Lim (fun k => spec_TrimRow.l0 k x0 x4 x5) (spec_TrimRow.L0 x0 x4 x5) := Lim.of fun k => (spec_TrimRow.mono_l k).2.2 x0 x4 x5
noncomputable def spec_TrimRow.F (l0 : List Int) : Option (List Int × Bool) := lim fun k => spec_TrimRow.f k l0
theorem spec_TrimRow.F_lim (l0 : List Int) : Lim (fun k => spec_TrimRow.f k l0) (spec_TrimRow.F l0) := Lim.of fun k => spec_TrimRow.mono l0 k
theorem spec_TrimRow.J1_eq (x0 : List Int) (x4 : Int) (x5 : Int) : spec_TrimRow.J1 x0 x4 x5 = (spec_TrimRow.L1 x0 x4 x5) :=
  Lim.step (f := fun k => (spec_TrimRow.l1 k x0 x4 x5)) (spec_TrimRow.J1_lim x0 x4 x5) (fun k => by first | rfl | rw [spec_TrimRow.j1]) (by
    repeat' first
    | (with_reducible exact Lim.const _)
    | (with_reducible exact spec_TrimRow.L1_lim _ _ _)
    | (with_reducible refine Lim.ite ?_ ?_)
    | (with_reducible refine Lim.bind ?_ (fun _ => ?_)))
theorem spec_TrimRow.L1_eq (x0 : List Int) (x4 : Int) (x5 : Int) : spec_TrimRow.L1 x0 x4 x5 = (if x5 > x4 then (if 0 ≤ (wrap64 (x5 - 1)) then (if (wrap64 (x5 - 1)) < (x0.length : Int) then (if (rd x0 (wrap64 (x5 - 1))) = 0 then (spec_TrimRow.L1 x0 x4 (wrap64 (x5 - 1))) else (if 0 ≤ x4 then (if x4 ≤ x5 then (if x5 ≤ (x0.length : Int) then ((spec_l1Own.f ((x0.take (x5 : Int).toNat).drop (x4 : Int).toNat)).bind fun t207 => (some (t207, true))) else (none)) else (none)) else (none))) else (none)) else (none)) else (if 0 ≤ x4 then (if x4 ≤ x5 then (if x5 ≤ (x0.length : Int) then ((spec_l1Own.f ((x0.take (x5 : Int).toNat).drop (x4 : Int).toNat)).bind fun t211 => (some (t211, true))) else (none)) else (none)) else (none))) :=
  Lim.step (f := fun k => (if x5 > x4 then (if 0 ≤ (wrap64 (x5 - 1)) then (if (wrap64 (x5 - 1)) < (x0.length : Int) then (if (rd x0 (wrap64 (x5 - 1))) = 0 then (spec_TrimRow.l1 k x0 x4 (wrap64 (x5 - 1))) else (if 0 ≤ x4 then (if x4 ≤ x5 then (if x5 ≤ (x0.length : Int) then ((spec_l1Own.f ((x0.take (x5 : Int).toNat).drop (x4 : Int).toNat)).bind fun t207 => (some (t207, true))) else (none)) else (none)) else (none))) else (none)) else (none)) else (if 0 ≤ x4 then (if x4 ≤ x5 then (if x5 ≤ (x0.length : Int) then ((spec_l1Own.f ((x0.take (x5 : Int).toNat).drop (x4 : Int).toNat)).bind fun t211 => (some (t211, true))) else (none)) else (none)) else (none)))) (spec_TrimRow.L1_lim x0 x4 x5) (fun k => by first | rfl | rw [spec_TrimRow.l1]) (by
    repeat' first
    | (with_reducible exact Lim.const _)
    | (with_reducible exact spec_TrimRow.L1_lim _ _ _)
    | (with_reducible refine Lim.ite ?_ ?_)
    | (with_reducible refine Lim.bind ?_ (fun _ => ?_)))
theorem spec_TrimRow.L0_eq (x0 : List Int) (x4 : Int) (x5 : Int) : spec_TrimRow.L0 x0 x4 x5 = (if x4 < x5 then (if 0 ≤ x4 then (if x4 < (x0.length : Int) then (if (rd x0 x4) = 0 then (spec_TrimRow.L0 x0 (wrap64 (x4 + 1)) x5) else (spec_TrimRow.J1 x0 x4 x5)) else (none)) else (none)) else (spec_TrimRow.J1 x0 x4 x5)) :=
  Lim.step (f := fun k => (if x4 < x5 then (if 0 ≤ x4 then (if x4 < (x0.length : Int) then (if (rd x0 x4) = 0 then (spec_TrimRow.l0 k x0 (wrap64 (x4 + 1)) x5) else (spec_TrimRow.j1 k x0 x4 x5)) else (none)) else (none)) else (spec_TrimRow.j1 k x0 x4 x5))) (spec_TrimRow.L0_lim x0 x4 x5) (fun k => by first | rfl | rw [spec_TrimRow.l0]) (by
    repeat' first
    | (with_reducible exact Lim.const _)
    | (with_reducible exact spec_TrimRow.J1_lim _ _ _)
    | (with_reducible exact spec_TrimRow.L0_lim _ _ _)
    | (with_reducible refine Lim.ite ?_ ?_)
    | (with_reducible refine Lim.bind ?_ (fun _ => ?_)))
theorem spec_TrimRow.F_eq (l0 : List Int) : spec_TrimRow.F l0 = ((spec_roGood.F l0).bind fun t203 => (if t203 = true then (spec_TrimRow.L0 l0 0 (l0.length : Int)) else (some (([] : List Int), false)))) :=
  Lim.unique (spec_TrimRow.F_lim l0) (by
    unfold spec_TrimRow.f
    repeat' first
    | (with_reducible exact Lim.const _)
    | (with_reducible exact spec_TrimRow.L0_lim _ _ _)
    | (with_reducible exact spec_roGood.F_lim _)
    | (with_reducible refine Lim.ite ?_ ?_)
    | (with_reducible refine Lim.bind ?_ (fun _ => ?_)))

end Go.Proofs.Ytmhcgihkijiecaa.Fn
namespace Go.Proofs.Ytmhcgihkijiecaa.Fn
open Go.RowKit Go.Proofs.YtmhcgihkijiecaaW.PrintWords Go.Proofs.YtmhcgihkijiecaaW.PrintLast Go.Proofs.YtmhcgihkijiecaaW.PrintMore
attribute [local go_sem] max2_int min2_int max_two min_two max_three min_three max_four min_four   -- for this text's walks alone
set_option linter.unusedVariables false
set_option linter.unusedSimpArgs false

/-! ### impl_TrimRow: function 24 -/
mutual
def impl_TrimRow.j1 : Nat → List Int → Int → Int → Option (List Int × Bool)
  | 0, _, _, _ => none
  | k + 1, x0, x4, x5 => impl_TrimRow.l1 k x0 x4 x5
def impl_TrimRow.l1 : Nat → List Int → Int → Int → Option (List Int × Bool)
  | 0, _, _, _ => none
  | k + 1, x0, x4, x5 => if x4 < x5 then (if 0 ≤ (wrap64 (x5 - 1)) then (if (wrap64 (x5 - 1)) < (x0.length : Int) then (if (rd x0 (wrap64 (x5 - 1))) = 0 then (impl_TrimRow.l1 k x0 x4 (wrap64 (x5 - 1))) else (if 0 ≤ x4 then (if x4 ≤ x5 then (if x5 ≤ (x0.length : Int) then ((slices_Clone_int_int.f ((x0.take (x5 : Int).toNat).drop (x4 : Int).toNat)).bind fun t218 => (some (t218, true))) else (none)) else (none)) else (none))) else (none)) else (none)) else (if 0 ≤ x4 then (if x4 ≤ x5 then (if x5 ≤ (x0.length : Int) then ((slices_Clone_int_int.f ((x0.take (x5 : Int).toNat).drop (x4 : Int).toNat)).bind fun t222 => (some (t222, true))) else (none)) else (none)) else (none))
def impl_TrimRow.l0 : Nat → List Int → Int → Int → Option (List Int × Bool)
  | 0, _, _, _ => none
  | k + 1, x0, x4, x5 => if x4 < x5 then (if 0 ≤ x4 then (if x4 < (x0.length : Int) then (if (rd x0 x4) = 0 then (impl_TrimRow.l0 k x0 (wrap64 (x4 + 1)) x5) else (impl_TrimRow.j1 k x0 x4 x5)) else (none)) else (none)) else (impl_TrimRow.j1 k x0 x4 x5)
end
def impl_TrimRow.f (k : Nat) (l0 : List Int) : Option (List Int × Bool) := (impl_IsRow.f k l0).bind fun t214 => (if t214 = true then (impl_TrimRow.l0 k l0 0 (l0.length : Int)) else (some (([] : List Int), false)))
theorem impl_TrimRow.mono_l : ∀ k, (∀ y0 y1 y2, LeO (impl_TrimRow.j1 k y0 y1 y2) (impl_TrimRow.j1 (k + 1) y0 y1 y2)) ∧ (∀ y0 y1 y2, LeO (impl_TrimRow.l1 k y0 y1 y2) (impl_TrimRow.l1 (k + 1) y0 y1 y2)) ∧ (∀ y0 y1 y2, LeO (impl_TrimRow.l0 k y0 y1 y2) (impl_TrimRow.l0 (k + 1) y0 y1 y2))
  | 0 => ⟨fun _ _ _ r h => by simp [impl_TrimRow.j1] at h, fun _ _ _ r h => by simp [impl_TrimRow.l1] at h, fun _ _ _ r h => by simp [impl_TrimRow.l0] at h⟩
  | k + 1 => by
    obtain ⟨ih0, ih1, ih2⟩ := impl_TrimRow.mono_l k
    refine ⟨?_, ?_, ?_⟩
    · intro y0 y1 y2
      unfold impl_TrimRow.j1
      repeat' first
      | (with_reducible exact ih0 _ _ _)
      | (with_reducible exact ih1 _ _ _)
      | (with_reducible exact ih2 _ _ _)
      | (with_reducible exact impl_IsRow.mono _ _)
      | (with_reducible exact LeO.refl _)
      | (with_reducible exact LeO.none _)
      | (with_reducible refine LeO.ite ?_ ?_)
      | (with_reducible refine LeO.bind ?_ (fun _ => ?_))
      | exact ih0 _ _ _
      | exact ih1 _ _ _
      | exact ih2 _ _ _
      | exact impl_IsRow.mono _ _
      | exact LeO.none _
      | refine LeO.ite ?_ ?_
      | refine LeO.bind ?_ (fun _ => ?_)
    · intro y0 y1 y2
      unfold impl_TrimRow.l1
      repeat' first
      | (with_reducible exact ih0 _ _ _)
      | (with_reducible exact ih1 _ _ _)
      | (with_reducible exact ih2 _ _ _)
      | (with_reducible exact impl_IsRow.mono _ _)
      | (with_reducible exact LeO.refl _)
      | (with_reducible exact LeO.none _)
      | (with_reducible refine LeO.ite ?_ ?_)
      | (with_reducible refine LeO.bind ?_ (fun _ => ?_))
      | exact ih0 _ _ _
      | exact ih1 _ _ _
      | exact ih2 _ _ _
      | exact impl_IsRow.mono _ _
      | exact LeO.none _
      | refine LeO.ite ?_ ?_
      | refine LeO.bind ?_ (fun _ => ?_)
    · intro y0 y1 y2
      unfold impl_TrimRow.l0
      repeat' first
      | (with_reducible exact ih0 _ _ _)
      | (with_reducible exact ih1 _ _ _)
      | (with_reducible exact ih2 _ _ _)
      | (with_reducible exact impl_IsRow.mono _ _)
      | (with_reducible exact LeO.refl _)
      | (with_reducible exact LeO.none _)
      | (with_reducible refine LeO.ite ?_ ?_)
      | (with_reducible refine LeO.bind ?_ (fun _ => ?_))
      | exact ih0 _ _ _
      | exact ih1 _ _ _
      | exact ih2 _ _ _
      | exact impl_IsRow.mono _ _
      | exact LeO.none _
      | refine LeO.ite ?_ ?_
      | refine LeO.bind ?_ (fun _ => ?_)
theorem impl_TrimRow.mono : ∀ a0 k, LeO (impl_TrimRow.f k a0) (impl_TrimRow.f (k + 1) a0) := by
  intro a0 k
  obtain ⟨ih0, ih1, ih2⟩ := impl_TrimRow.mono_l k
  unfold impl_TrimRow.f
  repeat' first
      | (with_reducible exact ih0 _ _ _)
      | (with_reducible exact ih1 _ _ _)
      | (with_reducible exact ih2 _ _ _)
      | (with_reducible exact impl_IsRow.mono _ _)
      | (with_reducible exact LeO.refl _)
      | (with_reducible exact LeO.none _)
      | (with_reducible refine LeO.ite ?_ ?_)
      | (with_reducible refine LeO.bind ?_ (fun _ => ?_))
      | exact ih0 _ _ _
      | exact ih1 _ _ _
      | exact ih2 _ _ _
      | exact impl_IsRow.mono _ _
      | exact LeO.none _
      | refine LeO.ite ?_ ?_
      | refine LeO.bind ?_ (fun _ => ?_)
set_option maxHeartbeats 8000000 in
set_option maxRecDepth 100000 in
theorem impl_TrimRow.calls (k : Nat) (A0 : Option Addr) (c0 : Nat) (l0 : List Int) (r1 : List Int) (r2 : Bool) (w : World) (hr0 : Kd.C (Kd.int .i64) w A0 l0.length l0) (hc0 : l0.length ≤ c0) (h : impl_TrimRow.f k l0 = some (r1, r2)) :
    Calls Try.prog 24 #[.slice A0 l0.length c0] w fun e w' => ∃ v0_ : Value, e = .returned (.tuple #[v0_, .bool r2]) ∧ Kd.R (Kd.int .i64) 3 w' w.heap.size (fun _ => True) v0_ r1 ∧ Below w.heap.size w w' := by
  have HR0 := Aside0.mk hr0
  have HC0 := Aside0.mk hc0
  clear hr0 hc0
  have HB := Aside0.mk (Below.refl w.heap.size w)
  have H : ((impl_IsRow.f k l0).bind fun t214 => (if t214 = true then (impl_TrimRow.l0 k l0 0 (l0.length : Int)) else (some (([] : List Int), false)))) = some (r1, r2) := h
  clear h
  replace H := Option.bind_eq_some_iff.mp H
  obtain ⟨t214, A20, H⟩ := H
  replace H : (if t214 = true then (impl_TrimRow.l0 k l0 0 (l0.length : Int)) else (some (([] : List Int), false))) = some (r1, r2) := H
  have A2 := Aside0.mk A20
  clear A20
  by_cases c3 : t214 = true
  · subst c3
    have H1 : (impl_TrimRow.l0 k l0 0 (l0.length : Int)) = some (r1, r2) := by rw [if_pos rfl] at H; exact H
    clear H
    have H := H1
    clear H1
    have HC4 := Aside0.mk H
    clear H
    go_enter Try.func24, Try.ntmps24
    go_upto_block 0 with (first | ((with_reducible refine gate_callee (f := 51) rfl ?_); refine goesL_ (some 7) rfl rfl Try.func51 (by kernel_rfl) rfl #[.slice A0 l0.length c0] rfl (by (try simp only [List.map_toArray, List.map_cons, List.map_nil]); first | done | rfl | (simp only [List.length_drop, List.length_take]; rfl)) ?_; (with_reducible refine (impl_IsRow.calls k _ _ l0 true _ ?side1 ?side2 A2.out).mono ?_); (case side1 => repeat (first | exact HR0.out | (with_reducible refine Kd.C_alloc ?_ _) | (with_reducible refine Kd.C_drewN ?_ _) | (with_reducible refine Kd.C_drew ?_))); (case side2 => exact HC0.out); rintro e w' ⟨rfl, ⟨nd, rfl⟩⟩; refine ⟨_, rfl, ?_⟩))
    (try simp only [Act.put, List.setIfInBounds_toArray, List.set_cons_zero, List.set_cons_succ])
    go_cut [4] (fun v4 wc => ∃ (kq : Nat) (x4_3 : Int), v4 = .int .i64 x4_3 ∧ Aside0 (impl_TrimRow.j1 kq l0 x4_3 (l0.length : Int) = some (r1, r2)) ∧ Aside0 (kq ≤ k) ∧ Aside0 (Below w.heap.size w wc))
    case first =>
      have H := HC4.out
      clear HC4
      have H' := Aside0.mk H
      clear H
      go_wp2
      go_loopg [4] k (fun kq v4 w' => ∃ (x4_1 : Int), v4 = .int .i64 x4_1 ∧ Aside0 (impl_TrimRow.l0 kq l0 x4_1 (l0.length : Int) = some (r1, r2)) ∧ Aside0 (kq ≤ k) ∧ Aside0 (Below w.heap.size w w'))
      case atStart => exact ⟨(0), (by first | rfl | (simp; done) | (simp [*]; done)), H', ⟨Nat.le_refl _⟩, ⟨by repeat (first | (with_reducible first | exact HB.out | apply below_alloc | apply pw_below_drewN | apply below_drew1) | exact HB.out)⟩⟩
      case round =>
        clear H'
        try clear c2
        try clear p2
        try clear c3
        obtain ⟨x4_1, rfl, HA, HK1, HB⟩ := hrel
        cases gk with
        | zero => exact absurd HA.out (by simp [impl_TrimRow.l0])
        | succ k1 =>
          have H := HA.out
          clear HA
          simp only [impl_TrimRow.l0] at H
          by_cases c5 : x4_1 < (l0.length : Int)
          · rw [if_pos c5] at H
            have c5b0 : decide (x4_1 < (l0.length : Int)) = true := decide_eq_true c5
            clear c5
            (first | rw [c5b0] | (simp only [i64_w, i32_w]; rw [c5b0]) | skip)
            by_cases c6 : 0 ≤ x4_1
            · rw [if_pos c6] at H
              have c6b0 : decide (0 ≤ x4_1) = true := decide_eq_true c6
              clear c6
              by_cases c7 : x4_1 < (l0.length : Int)
              · rw [if_pos c7] at H
                have c7b0 : decide (x4_1 < (l0.length : Int)) = true := decide_eq_true c7
                clear c7
                by_cases c8 : (rd l0 x4_1) = 0
                · rw [if_pos c8] at H
                  have c8b0 : ((rd l0 x4_1) == 0) = true := beq_iff_eq.mpr c8
                  have c8b1 : ((rd l0 x4_1) != 0) = false := bne_eq_false_iff_eq.mpr c8
                  clear c8
                  have H' := Aside0.mk H
                  clear H
                  have p215 : 0 ≤ (x4_1 : Int) := of_decide_eq_true (by first | (with_reducible assumption) | assumption)
                  have q215 : x4_1 < (l0.length : Int) := of_decide_eq_true (by first | (with_reducible assumption) | assumption)
                  obtain ⟨ad215, e215, hx215_0⟩ := Kd.at_int HR0.out x4_1 p215 q215
                  cases e215
                  replace hx215_0 := (HB.out.cell (World.block_lt_of_cell? w _ hx215_0)).trans hx215_0
                  replace p215 := eq_true p215
                  replace q215 := eq_true q215
                  go_wp2
                  go_roundg k1
                  case measure => have := HK1.out; omega
                  case rel => exact ⟨(wrap64 (x4_1 + 1)), (by first | rfl | (simp; done) | (simp [*]; done)), H', ⟨by have := HK1.out; omega⟩, ⟨by repeat (first | (with_reducible first | exact HB.out | apply below_alloc | apply pw_below_drewN | apply below_drew1) | exact HB.out)⟩⟩
                · rw [if_neg c8] at H
                  have c8b0 : ((rd l0 x4_1) == 0) = false := beq_eq_false_iff_ne.mpr c8
                  have c8b1 : ((rd l0 x4_1) != 0) = true := bne_iff_ne.mpr c8
                  have H' := Aside0.mk H
                  clear H
                  have p215 : 0 ≤ (x4_1 : Int) := of_decide_eq_true (by first | (with_reducible assumption) | assumption)
                  have q215 : x4_1 < (l0.length : Int) := of_decide_eq_true (by first | (with_reducible assumption) | assumption)
                  obtain ⟨ad215, e215, hx215_0⟩ := Kd.at_int HR0.out x4_1 p215 q215
                  cases e215
                  replace hx215_0 := (HB.out.cell (World.block_lt_of_cell? w _ hx215_0)).trans hx215_0
                  replace p215 := eq_true p215
                  replace q215 := eq_true q215
                  go_wp2
                  go_meet
                  case rel => exact ⟨_, (x4_1), (by first | rfl | (simp; done) | (simp [*]; done)), H', ⟨by have := HK1.out; first | omega | exact Nat.le_refl _⟩, ⟨by repeat (first | (with_reducible first | exact HB.out | apply below_alloc | apply pw_below_drewN | apply below_drew1) | exact HB.out)⟩⟩
              · rw [if_neg c7] at H
                exact absurd H (by simp)
            · rw [if_neg c6] at H
              exact absurd H (by simp)
          · rw [if_neg c5] at H
            have c5b0 : decide (x4_1 < (l0.length : Int)) = false := decide_eq_false c5
            clear c5
            (first | rw [c5b0] | (simp only [i64_w, i32_w]; rw [c5b0]) | skip)
            have H' := Aside0.mk H
            clear H
            go_wp2
            go_meet
            case rel => exact ⟨_, (x4_1), (by first | rfl | (simp; done) | (simp [*]; done)), H', ⟨by have := HK1.out; first | omega | exact Nat.le_refl _⟩, ⟨by repeat (first | (with_reducible first | exact HB.out | apply below_alloc | apply pw_below_drewN | apply below_drew1) | exact HB.out)⟩⟩
    case rest =>
      clear HC4
      try clear c2
      try clear p2
      try clear q2
      try clear hx2
      try clear c3
      try clear c5
      try clear c5b0
      try clear c6
      try clear c6b0
      try clear p6
      try clear c7
      try clear c7b0
      try clear c8
      try clear c8b0
      try clear c8b1
      try clear hx215_0
      try clear p2
      try clear p215
      try clear q215
      obtain ⟨kq, x4_3, rfl, HA, HJ3, HB⟩ := hcut
      cases kq with
      | zero => exact absurd HA.out (by simp [impl_TrimRow.j1])
      | succ kj3 =>
        have H := HA.out
        clear HA
        simp only [impl_TrimRow.j1] at H
        have H' := Aside0.mk H
        clear H
        go_wp2
        go_loopg [5] kj3 (fun kq v5 w' => ∃ (x5_2 : Int), v5 = .int .i64 x5_2 ∧ Aside0 (impl_TrimRow.l1 kq l0 x4_3 x5_2 = some (r1, r2)) ∧ Aside0 (kq ≤ kj3) ∧ Aside0 (Below w.heap.size w w'))
        case atStart => exact ⟨((l0.length : Int)), (by first | rfl | (simp; done) | (simp [*]; done)), H', ⟨Nat.le_refl _⟩, ⟨by repeat (first | (with_reducible first | exact HB.out | apply below_alloc | apply pw_below_drewN | apply below_drew1) | exact HB.out)⟩⟩
        case round =>
          clear H'
          try clear c2
          try clear p2
          try clear q2
          try clear hx2
          try clear c3
          try clear c5
          try clear c5b0
          try clear c6
          try clear c6b0
          try clear p6
          try clear c7
          try clear c7b0
          try clear c8
          try clear c8b0
          try clear c8b1
          try clear hx215_0
          try clear p2
          try clear p215
          try clear p6
          try clear q2
          try clear q215
          obtain ⟨x5_2, rfl, HA, HK2, HB⟩ := hrel
          cases gk with
          | zero => exact absurd HA.out (by simp [impl_TrimRow.l1])
          | succ k2 =>
            have H := HA.out
            clear HA
            simp only [impl_TrimRow.l1] at H
            by_cases c9 : x4_3 < x5_2
            · rw [if_pos c9] at H
              have c9b0 : decide (x4_3 < x5_2) = true := decide_eq_true c9
              clear c9
              obtain ⟨ji10, hji10⟩ : ∃ j_ : Int, (wrap64 (x5_2 - 1)) = j_ := ⟨_, rfl⟩
              replace H : (if 0 ≤ (ji10) then (if (ji10) < (l0.length : Int) then (if (rd l0 (ji10)) = 0 then (impl_TrimRow.l1 k2 l0 x4_3 ji10) else (if 0 ≤ x4_3 then (if x4_3 ≤ x5_2 then (if x5_2 ≤ (l0.length : Int) then ((slices_Clone_int_int.f ((l0.take (x5_2 : Int).toNat).drop (x4_3 : Int).toNat)).bind fun t218 => (some (t218, true))) else (none)) else (none)) else (none))) else (none)) else (none)) = some (r1, r2) := by first | (rw [hji10] at H; exact H) | (simp only [hji10] at H ⊢; exact H)
              have hji10w : (IntKind.i64.wrap (x5_2 - 1)) = ji10 := (i64_w _).trans hji10
              by_cases c11 : 0 ≤ (ji10)
              · rw [if_pos c11] at H
                have c11b0 : decide (0 ≤ (ji10)) = true := decide_eq_true c11
                clear c11
                by_cases c12 : (ji10) < (l0.length : Int)
                · rw [if_pos c12] at H
                  have c12b0 : decide ((ji10) < (l0.length : Int)) = true := decide_eq_true c12
                  clear c12
                  by_cases c13 : (rd l0 (ji10)) = 0
                  · rw [if_pos c13] at H
                    have c13b0 : ((rd l0 (ji10)) == 0) = true := beq_iff_eq.mpr c13
                    have c13b1 : ((rd l0 (ji10)) != 0) = false := bne_eq_false_iff_eq.mpr c13
                    clear c13
                    have H' := Aside0.mk H
                    clear H
                    have p216 : 0 ≤ ((ji10) : Int) := of_decide_eq_true (by first | (with_reducible assumption) | assumption)
                    have q216 : (ji10) < (l0.length : Int) := of_decide_eq_true (by first | (with_reducible assumption) | assumption)
                    obtain ⟨ad216, e216, hx216_0⟩ := Kd.at_int HR0.out (ji10) p216 q216
                    cases e216
                    replace hx216_0 := (HB.out.cell (World.block_lt_of_cell? w _ hx216_0)).trans hx216_0
                    replace p216 := eq_true p216
                    replace q216 := eq_true q216
                    go_wp2
                    go_roundg k2
                    case measure => have := HJ3.out; have := HK2.out; omega
                    case rel => exact ⟨(ji10), (by first | rfl | (simp; done) | (simp only [← hji10] <;> (first | rfl | simp)) | (simp [*]; done)), H', ⟨by have := HJ3.out; have := HK2.out; omega⟩, ⟨by repeat (first | (with_reducible first | exact HB.out | apply below_alloc | apply pw_below_drewN | apply below_drew1) | exact HB.out)⟩⟩
                  · rw [if_neg c13] at H
                    have c13b0 : ((rd l0 (ji10)) == 0) = false := beq_eq_false_iff_ne.mpr c13
                    have c13b1 : ((rd l0 (ji10)) != 0) = true := bne_iff_ne.mpr c13
                    by_cases c14 : 0 ≤ x4_3
                    · rw [if_pos c14] at H
                      have c14b0 := eq_true c14
                      have c14b1 : decide (0 ≤ x4_3) = true := decide_eq_true c14
                      clear c14
                      by_cases c15 : x4_3 ≤ x5_2
                      · rw [if_pos c15] at H
                        have c15b0 := eq_true c15
                        have c15b1 : decide (x4_3 ≤ x5_2) = true := decide_eq_true c15
                        clear c15
                        by_cases c16 : x5_2 ≤ (l0.length : Int)
                        · rw [if_pos c16] at H
                          have c16b0 := eq_true c16
                          have c16b1 : decide (x5_2 ≤ (l0.length : Int)) = true := decide_eq_true c16
                          clear c16
                          replace H := Option.bind_eq_some_iff.mp H
                          obtain ⟨t218, A170, H⟩ := H
                          replace H : (some (t218, true)) = some (r1, r2) := H
                          have A17 := Aside0.mk A170
                          clear A170
                          simp only [Option.some.injEq, Prod.mk.injEq] at H
                          obtain ⟨rfl, rfl⟩ := H
                          have p216 : 0 ≤ ((ji10) : Int) := of_decide_eq_true (by first | (with_reducible assumption) | assumption)
                          have q216 : (ji10) < (l0.length : Int) := of_decide_eq_true (by first | (with_reducible assumption) | assumption)
                          obtain ⟨ad216, e216, hx216_0⟩ := Kd.at_int HR0.out (ji10) p216 q216
                          cases e216
                          replace hx216_0 := (HB.out.cell (World.block_lt_of_cell? w _ hx216_0)).trans hx216_0
                          replace p216 := eq_true p216
                          replace q216 := eq_true q216
                          obtain ⟨i018, hi018, _, hsz18, _⟩ := info_parts info3
                          obtain ⟨A18, hcut18, hA18, hC18⟩ := print_mid_of (P := Try.prog) (Value.int .i64) 0 25 3 .i64 .i64 Try.underlying25 hi018 hsz18 (some ad216) c0 l0 x4_3 x5_2 (of_decide_eq_true (by first | (with_reducible assumption) | assumption)) (by first | omega | exact of_decide_eq_true (by first | (with_reducible assumption) | assumption)) (of_decide_eq_true (by first | (with_reducible assumption) | assumption)) HC0.out
                          have HR217 := Aside0.mk (Kd.C_of_reads (h1 := fun _ => rfl) (hA18 _ (Kd.reads_of_C HR0.out)))
                          have HC217 := Aside0.mk hC18
                          clear hA18 hC18 hi018 hsz18
                          go_wp2_with (first | ((with_reducible refine gate_callee (f := 53) rfl ?_); refine goesL_ (some 40) rfl rfl Try.func53 (by kernel_rfl) rfl #[.slice A18 ((l0.take (x5_2 : Int).toNat).drop (x4_3 : Int).toNat).length (c0 - x4_3.toNat)] rfl (by (try simp only [List.map_toArray, List.map_cons, List.map_nil]); first | done | (rw [show ((l0.take (x5_2 : Int).toNat).drop (x4_3 : Int).toNat).length = (x5_2.toNat - x4_3.toNat) from (by rw [List.length_drop, List.length_take]; have h_ : (x5_2 : Int) ≤ (l0.length : Int) := of_decide_eq_true (by first | (with_reducible assumption) | assumption); omega)] <;> rfl) | rfl | (simp only [List.length_drop, List.length_take]; rfl)) ?_; (with_reducible refine (slices_Clone_int_int.calls _ _ ((l0.take (x5_2 : Int).toNat).drop (x4_3 : Int).toNat) t218 _ ?side1 ?side2 A17.out).mono ?_); (case side1 => repeat (first | exact (Kd.C_below HR217.out HB.out) | (with_reducible refine Kd.C_alloc ?_ _) | (with_reducible refine Kd.C_drewN ?_ _) | (with_reducible refine Kd.C_drew ?_))); (case side2 => exact HC217.out); rintro e w19 ⟨v219, rfl, ho0, hb⟩; refine ⟨_, rfl, ?_⟩; have n0_ := Aside0.mk (Kd.R_lower ho0 (below_size (by repeat (first | (with_reducible first | exact HB.out | apply below_alloc | apply pw_below_drewN | apply below_drew1) | exact HB.out)))); have n1_ := Aside0.mk (below_step (by repeat (first | (with_reducible first | exact HB.out | apply below_alloc | apply pw_below_drewN | apply below_drew1) | exact HB.out)) hb); clear HB; have HO220 := n0_; have HB := n1_; clear n0_ n1_; (try clear hb); (try clear hb2); (try clear hk); (try clear hi); (try clear ho0)))
                          go_ret2
                          exact ⟨_, by first | rfl | (simp [errW_none, errW_some] <;> rfl) | (simp only [← hji10]; first | rfl | (simp [errW_none, errW_some] <;> rfl)) | (simp [*, errW_none, errW_some] <;> rfl), by (with_reducible repeat (first | apply Kd.R_alloc | apply Kd.R_drewN | apply Kd.R_drew)); exact HO220.out, by repeat (first | (with_reducible first | exact HB.out | apply below_alloc | apply pw_below_drewN | apply below_drew1) | exact HB.out)⟩
                        · rw [if_neg c16] at H
                          exact absurd H (by simp)
                      · rw [if_neg c15] at H
                        exact absurd H (by simp)
                    · rw [if_neg c14] at H
                      exact absurd H (by simp)
                · rw [if_neg c12] at H
                  exact absurd H (by simp)
              · rw [if_neg c11] at H
                exact absurd H (by simp)
            · rw [if_neg c9] at H
              have c9b0 : decide (x4_3 < x5_2) = false := decide_eq_false c9
              clear c9
              by_cases c20 : 0 ≤ x4_3
              · rw [if_pos c20] at H
                have c20b0 := eq_true c20
                have c20b1 : decide (0 ≤ x4_3) = true := decide_eq_true c20
                clear c20
                by_cases c21 : x4_3 ≤ x5_2
                · rw [if_pos c21] at H
                  have c21b0 := eq_true c21
                  have c21b1 : decide (x4_3 ≤ x5_2) = true := decide_eq_true c21
                  clear c21
                  by_cases c22 : x5_2 ≤ (l0.length : Int)
                  · rw [if_pos c22] at H
                    have c22b0 := eq_true c22
                    have c22b1 : decide (x5_2 ≤ (l0.length : Int)) = true := decide_eq_true c22
                    clear c22
                    replace H := Option.bind_eq_some_iff.mp H
                    obtain ⟨t222, A230, H⟩ := H
                    replace H : (some (t222, true)) = some (r1, r2) := H
                    have A23 := Aside0.mk A230
                    clear A230
                    simp only [Option.some.injEq, Prod.mk.injEq] at H
                    obtain ⟨rfl, rfl⟩ := H
                    obtain ⟨i024, hi024, _, hsz24, _⟩ := info_parts info3
                    obtain ⟨A24, hcut24, hA24, hC24⟩ := print_mid_of (P := Try.prog) (Value.int .i64) 0 25 3 .i64 .i64 Try.underlying25 hi024 hsz24 A0 c0 l0 x4_3 x5_2 (of_decide_eq_true (by first | (with_reducible assumption) | assumption)) (by first | omega | exact of_decide_eq_true (by first | (with_reducible assumption) | assumption)) (of_decide_eq_true (by first | (with_reducible assumption) | assumption)) HC0.out
                    have HR221 := Aside0.mk (Kd.C_of_reads (h1 := fun _ => rfl) (hA24 _ (Kd.reads_of_C HR0.out)))
                    have HC221 := Aside0.mk hC24
                    clear hA24 hC24 hi024 hsz24
                    go_wp2_with (first | ((with_reducible refine gate_callee (f := 53) rfl ?_); refine goesL_ (some 40) rfl rfl Try.func53 (by kernel_rfl) rfl #[.slice A24 ((l0.take (x5_2 : Int).toNat).drop (x4_3 : Int).toNat).length (c0 - x4_3.toNat)] rfl (by (try simp only [List.map_toArray, List.map_cons, List.map_nil]); first | done | (rw [show ((l0.take (x5_2 : Int).toNat).drop (x4_3 : Int).toNat).length = (x5_2.toNat - x4_3.toNat) from (by rw [List.length_drop, List.length_take]; have h_ : (x5_2 : Int) ≤ (l0.length : Int) := of_decide_eq_true (by first | (with_reducible assumption) | assumption); omega)] <;> rfl) | rfl | (simp only [List.length_drop, List.length_take]; rfl)) ?_; (with_reducible refine (slices_Clone_int_int.calls _ _ ((l0.take (x5_2 : Int).toNat).drop (x4_3 : Int).toNat) t222 _ ?side1 ?side2 A23.out).mono ?_); (case side1 => repeat (first | exact (Kd.C_below HR221.out HB.out) | (with_reducible refine Kd.C_alloc ?_ _) | (with_reducible refine Kd.C_drewN ?_ _) | (with_reducible refine Kd.C_drew ?_))); (case side2 => exact HC221.out); rintro e w25 ⟨v223, rfl, ho0, hb⟩; refine ⟨_, rfl, ?_⟩; have n0_ := Aside0.mk (Kd.R_lower ho0 (below_size (by repeat (first | (with_reducible first | exact HB.out | apply below_alloc | apply pw_below_drewN | apply below_drew1) | exact HB.out)))); have n1_ := Aside0.mk (below_step (by repeat (first | (with_reducible first | exact HB.out | apply below_alloc | apply pw_below_drewN | apply below_drew1) | exact HB.out)) hb); clear HB; have HO224 := n0_; have HB := n1_; clear n0_ n1_; (try clear hb); (try clear hb2); (try clear hk); (try clear hi); (try clear ho0)))
                    go_ret2
                    exact ⟨_, by first | rfl | (simp [errW_none, errW_some] <;> rfl) | (simp [*, errW_none, errW_some] <;> rfl), by (with_reducible repeat (first | apply Kd.R_alloc | apply Kd.R_drewN | apply Kd.R_drew)); exact HO224.out, by repeat (first | (with_reducible first | exact HB.out | apply below_alloc | apply pw_below_drewN | apply below_drew1) | exact HB.out)⟩
                  · rw [if_neg c22] at H
                    exact absurd H (by simp)
                · rw [if_neg c21] at H
                  exact absurd H (by simp)
              · rw [if_neg c20] at H
                exact absurd H (by simp)
  · replace c3 := Bool.eq_false_iff.mpr c3
    subst c3
    have H1 : (some (([] : List Int), false)) = some (r1, r2) := by rw [if_neg (show ¬ (false = true) by decide)] at H; exact H
    clear H
    have H := H1
    clear H1
    simp only [Option.some.injEq, Prod.mk.injEq] at H
    obtain ⟨rfl, rfl⟩ := H
    go_enter Try.func24, Try.ntmps24
    go_wp2_with (first | ((with_reducible refine gate_callee (f := 51) rfl ?_); refine goesL_ (some 7) rfl rfl Try.func51 (by kernel_rfl) rfl #[.slice A0 l0.length c0] rfl (by (try simp only [List.map_toArray, List.map_cons, List.map_nil]); first | done | rfl | (simp only [List.length_drop, List.length_take]; rfl)) ?_; (with_reducible refine (impl_IsRow.calls k _ _ l0 false _ ?side1 ?side2 A2.out).mono ?_); (case side1 => repeat (first | exact HR0.out | (with_reducible refine Kd.C_alloc ?_ _) | (with_reducible refine Kd.C_drewN ?_ _) | (with_reducible refine Kd.C_drew ?_))); (case side2 => exact HC0.out); rintro e w' ⟨rfl, ⟨nd, rfl⟩⟩; refine ⟨_, rfl, ?_⟩))
    go_ret2
    exact ⟨_, by first | rfl | (simp [errW_none, errW_some] <;> rfl) | (simp [*, errW_none, errW_some] <;> rfl), by first | exact Kd.R_nil _ _ _ _ _ | exact Kd.N_nil _ _ _ _ _ | exact Kd.V_nil _ _ _ _ _ | exact Kd.Q_nil _ _ _ _ _ | exact Kd.S_nil _ _ _ _ _, by repeat (first | (with_reducible first | exact HB.out | apply below_alloc | apply pw_below_drewN | apply below_drew1) | exact HB.out)⟩

noncomputable def impl_TrimRow.J1 (x0 : List Int) (x4 : Int) (x5 : Int) : Option (List Int × Bool) := lim fun k => impl_TrimRow.j1 k x0 x4 x5
theorem impl_TrimRow.J1_lim (x0 : List Int) (x4 : Int) (x5 : Int) : Lim (fun k => impl_TrimRow.j1 k x0 x4 x5) (impl_TrimRow.J1 x0 x4 x5) := Lim.of fun k => (impl_TrimRow.mono_l k).1 x0 x4 x5
noncomputable def impl_TrimRow.L1 (x0 : List Int) (x4 : Int) (x5 : Int) : Option (List Int × Bool) := lim fun k => impl_TrimRow.l1 k x0 x4 x5
theorem impl_TrimRow.L1_lim (x0 : List Int) (x4 : Int) (x5 : Int) : Lim (fun k => impl_TrimRow.l1 k x0 x4 x5) (impl_TrimRow.L1 x0 x4 x5) := Lim.of fun k => (impl_TrimRow.mono_l k).2.1 x0 x4 x5
noncomputable def impl_TrimRow.L0 (x0 : List Int) (x4 : Int) (x5 : Int) : Option (List Int × Bool) := lim fun k => impl_TrimRow.l0 k x0 x4 x5
theorem impl_TrimRow.L0_lim (x0 : List Int) (x4 : Int) (x5 : Int) : Lim (fun k => impl_TrimRow.l0 k x0 x4 x5) (impl_TrimRow.L0 x0 x4 x5) := Lim.of fun k => (impl_TrimRow.mono_l k).2.2 x0 x4 x5
noncomputable def impl_TrimRow.F (l0 : List Int) : Option (List Int × Bool) := lim fun k => impl_TrimRow.f k l0
theorem impl_TrimRow.F_lim (l0 : List Int) : Lim (fun k => impl_TrimRow.f k l0) (impl_TrimRow.F l0) := Lim.of fun k => impl_TrimRow.mono l0 k
theorem impl_TrimRow.J1_eq (x0 : List Int) (x4 : Int) (x5 : Int) : impl_TrimRow.J1 x0 x4 x5 = (impl_TrimRow.L1 x0 x4 x5) :=
  Lim.step (f := fun k => (impl_TrimRow.l1 k x0 x4 x5)) (impl_TrimRow.J1_lim x0 x4 x5) (fun k => by first | rfl | rw [impl_TrimRow.j1]) (by
    repeat' first
    | (with_reducible exact Lim.const _)
    | (with_reducible exact impl_TrimRow.L1_lim _ _ _)
    | (with_reducible refine Lim.ite ?_ ?_)
    | (with_reducible refine Lim.bind ?_ (fun _ => ?_)))
theorem impl_TrimRow.L1_eq (x0 : List Int) (x4 : Int) (x5 : Int) : impl_TrimRow.L1 x0 x4 x5 = (if x4 < x5 then (if 0 ≤ (wrap64 (x5 - 1)) then (if (wrap64 (x5 - 1)) < (x0.length : Int) then (if (rd x0 (wrap64 (x5 - 1))) = 0 then (impl_TrimRow.L1 x0 x4 (wrap64 (x5 - 1))) else (if 0 ≤ x4 then (if x4 ≤ x5 then (if x5 ≤ (x0.length : Int) then ((slices_Clone_int_int.f ((x0.take (x5 : Int).toNat).drop (x4 : Int).toNat)).bind fun t218 => (some (t218, true))) else (none)) else (none)) else (none))) else (none)) else (none)) else (if 0 ≤ x4 then (if x4 ≤ x5 then (if x5 ≤ (x0.length : Int) then ((slices_Clone_int_int.f ((x0.take (x5 : Int).toNat).drop (x4 : Int).toNat)).bind fun t222 => (some (t222, true))) else (none)) else (none)) else (none))) :=
  Lim.step (f := fun k => (if x4 < x5 then (if 0 ≤ (wrap64 (x5 - 1)) then (if (wrap64 (x5 - 1)) < (x0.length : Int) then (if (rd x0 (wrap64 (x5 - 1))) = 0 then (impl_TrimRow.l1 k x0 x4 (wrap64 (x5 - 1))) else (if 0 ≤ x4 then (if x4 ≤ x5 then (if x5 ≤ (x0.length : Int) then ((slices_Clone_int_int.f ((x0.take (x5 : Int).toNat).drop (x4 : Int).toNat)).bind fun t218 => (some (t218, true))) else (none)) else (none)) else (none))) else (none)) else (none)) else (if 0 ≤ x4 then (if x4 ≤ x5 then (if x5 ≤ (x0.length : Int) then ((slices_Clone_int_int.f ((x0.take (x5 : Int).toNat).drop (x4 : Int).toNat)).bind fun t222 => (some (t222, true))) else (none)) else (none)) else (none)))) (impl_TrimRow.L1_lim x0 x4 x5) (fun k => by first | rfl | rw [impl_TrimRow.l1]) (by
    repeat' first
    | (with_reducible exact Lim.const _)
    | (with_reducible exact impl_TrimRow.L1_lim _ _ _)
    | (with_reducible refine Lim.ite ?_ ?_)
    | (with_reducible refine Lim.bind ?_ (fun _ => ?_)))
theorem impl_TrimRow.L0_eq (x0 : List Int) (x4 : Int) (x5 : Int) : impl_TrimRow.L0 x0 x4 x5 = (if x4 < x5 then (if 0 ≤ x4 then (if x4 < (x0.length : Int) then (if (rd x0 x4) = 0 then (impl_TrimRow.L0 x0 (wrap64 (x4 + 1)) x5) else (impl_TrimRow.J1 x0 x4 x5)) else (none)) else (none)) else (impl_TrimRow.J1 x0 x4 x5)) :=
  Lim.step (f := fun k => (if x4 < x5 then (if 0 ≤ x4 then (if x4 < (x0.length : Int) then (if (rd x0 x4) = 0 then (impl_TrimRow.l0 k x0 (wrap64 (x4 + 1)) x5) else (impl_TrimRow.j1 k x0 x4 x5)) else (none)) else (none)) else (impl_TrimRow.j1 k x0 x4 x5))) (impl_TrimRow.L0_lim x0 x4 x5) (fun k => by first | rfl | rw [impl_TrimRow.l0]) (by
    repeat' first
    | (with_reducible exact Lim.const _)
    | (with_reducible exact impl_TrimRow.J1_lim _ _ _)
    | (with_reducible exact impl_TrimRow.L0_lim _ _ _)
    | (with_reducible refine Lim.ite ?_ ?_)
    | (with_reducible refine Lim.bind ?_ (fun _ => ?_)))
theorem impl_TrimRow.F_eq (l0 : List Int) : impl_TrimRow.F l0 = ((impl_IsRow.F l0).bind fun t214 => (if t214 = true then (impl_TrimRow.L0 l0 0 (l0.length : Int)) else (some (([] : List Int), false)))) :=
  Lim.unique (impl_TrimRow.F_lim l0) (by
    unfold impl_TrimRow.f
    repeat' first
    | (with_reducible exact Lim.const _)
    | (with_reducible exact impl_IsRow.F_lim _)
    | (with_reducible exact impl_TrimRow.L0_lim _ _ _)
    | (with_reducible refine Lim.ite ?_ ?_)
    | (with_reducible refine Lim.bind ?_ (fun _ => ?_)))

end Go.Proofs.Ytmhcgihkijiecaa.Fn
namespace Go.Proofs.Ytmhcgihkijiecaa.Fn
open Go.RowKit Go.Proofs.YtmhcgihkijiecaaW.PrintWords Go.Proofs.YtmhcgihkijiecaaW.PrintLast Go.Proofs.YtmhcgihkijiecaaW.PrintMore
set_option linter.unusedVariables false
set_option linter.unusedSimpArgs false
/-- A list of at most 40 numbers in 0..20. -/
def isRow (l : List Int) : Bool := decide (l.length ≤ 40) && l.all (fun x => decide (0 ≤ x) && decide (x ≤ 20))
theorem isRow_len {l : List Int} (h : isRow l = true) : l.length ≤ 40 := by
  unfold isRow at h
  simp only [Bool.and_eq_true, decide_eq_true_eq] at h
  exact h.1
theorem isRow_mem {l : List Int} (h : isRow l = true) {x : Int} (hx : x ∈ l) : 0 ≤ x ∧ x ≤ 20 := by
  unfold isRow at h
  simp only [Bool.and_eq_true, decide_eq_true_eq, List.all_eq_true] at h
  exact h.2 x hx
theorem slices_Clone_int_int.f_val (l : List Int) (h : l.length < 17592186044416) : slices_Clone_int_int.f l = some l := by
  unfold slices_Clone_int_int.f
  rw [if_pos h]
theorem spec_l1Own.f_val (l : List Int) (h : l.length < 17592186044416) : spec_l1Own.f l = some l := by
  unfold spec_l1Own.f
  simp [h]
theorem spec_l1In.f_val (a b c : Int) : spec_l1In.f a b c = some (decide (b ≤ a) && decide (a ≤ c)) := by
  unfold spec_l1In.f
  by_cases h : a ≥ b
  · rw [if_pos h]
    simp [show b ≤ a from h]
  · rw [if_neg h]
    simp [show ¬ b ≤ a from h]
theorem impl_IsRow.L0_val (l : List Int) : ∀ (suf pre : List Int), (pre ++ suf).length < 4611686018427387904 → impl_IsRow.L0 l (pre ++ suf) ((pre ++ suf).length : Int) (pre.length : Int) = some (suf.all (fun x => decide (0 ≤ x) && decide (x ≤ 20)) && decide (l.length ≤ 40))
  | [], pre, h => by
    rw [impl_IsRow.L0_eq, range_end]
    simp
    omega
  | x :: suf, pre, h => by
    rw [impl_IsRow.L0_eq, range_step, rd_mid, wrap_mid h]
    by_cases h1 : x < 0
    · have : ¬ 0 ≤ x := by omega
      rw [if_pos h1]
      simp [this]
    · have h1' : 0 ≤ x := by omega
      rw [if_neg h1]
      by_cases h2 : x > 20
      · have : ¬ x ≤ 20 := by omega
        rw [if_pos h2]
        simp [this]
      · have h2' : x ≤ 20 := by omega
        rw [if_neg h2, app_mid, impl_IsRow.L0_val l suf (pre ++ [x]) (by simpa using h)]
        simp [h1', h2']
theorem impl_IsRow.F_val (l : List Int) (h : l.length < 4611686018427387904) : impl_IsRow.F l = some (isRow l) := by
  rw [impl_IsRow.F_eq]
  have := impl_IsRow.L0_val l l [] (by simpa using h)
  simp only [List.nil_append, List.length_nil] at this
  rw [isRow, Bool.and_comm]
  exact this
theorem impl_madeRow.F_val (l : List Int) (h : l.length < 4611686018427387904) : impl_madeRow.F l = some (if isRow l = true then (l, true) else ([], false)) := by
  rw [impl_madeRow.F_eq, impl_IsRow.F_val l h]
  simp only [Option.bind_some]
  split <;> rfl
theorem spec_l1All.L0_val (a b : Int) : ∀ (suf pre : List Int), (pre ++ suf).length < 4611686018427387904 → spec_l1All.L0 a b (pre ++ suf) ((pre ++ suf).length : Int) (pre.length : Int) = some (suf.all (fun x => decide (a ≤ x) && decide (x ≤ b)))
  | [], pre, h => by
    rw [spec_l1All.L0_eq, range_end]
    simp
  | x :: suf, pre, h => by
    rw [spec_l1All.L0_eq, range_step, rd_mid, wrap_mid h, spec_l1In.f_val]
    simp only [Option.bind_some]
    by_cases h1 : (decide (a ≤ x) && decide (x ≤ b)) = true
    · rw [if_pos h1, app_mid, spec_l1All.L0_val a b suf (pre ++ [x]) (by simpa using h)]
      simp only [List.all_cons, h1, Bool.true_and]
    · rw [if_neg h1]
      simp only [List.all_cons, Bool.not_eq_true] at h1 ⊢
      rw [h1, Bool.false_and]
theorem spec_l1All.F_val (l : List Int) (a b : Int) (h : l.length < 4611686018427387904) : spec_l1All.F l a b = some (l.all (fun x => decide (a ≤ x) && decide (x ≤ b))) := by
  rw [spec_l1All.F_eq]
  have := spec_l1All.L0_val a b l [] (by simpa using h)
  simpa using this
theorem spec_roGood.F_val (l : List Int) (h : l.length < 4611686018427387904) : spec_roGood.F l = some (isRow l) := by
  rw [spec_roGood.F_eq]
  unfold isRow
  by_cases h1 : (l.length : Int) ≤ 40
  · rw [if_pos h1, spec_l1All.F_val l 0 20 h]
    have : l.length ≤ 40 := by omega
    simp [this]
  · rw [if_neg h1]
    have : ¬ l.length ≤ 40 := by omega
    simp [this]
theorem spec_hoIf.F_val (l : List Int) (h : l.length < 4611686018427387904) : spec_hoIf.F l = some (if isRow l = true then (l, true) else ([], false)) := by
  rw [spec_hoIf.F_eq, spec_roGood.F_val l h]
  simp only [Option.bind_some]
  split <;> rfl
/-- The places of two rows, one behind the other, if this is a row. -/
def joinRows (a b : List Int) : List Int × Bool := if isRow a = true ∧ isRow b = true ∧ isRow (a ++ b) = true then (a ++ b, true) else ([], false)
theorem joinRows_len (a b : List Int) : (joinRows a b).1.length ≤ 40 := by
  unfold joinRows
  split
  · rename_i h
    exact isRow_len h.2.2
  · simp
theorem impl_JoinRows.F_val (a b : List Int) (ha : a.length < 4611686018427387904) (hb : b.length < 4611686018427387904) : impl_JoinRows.F a b = some (joinRows a b) := by
  rw [impl_JoinRows.F_eq, impl_IsRow.F_val a ha]
  simp only [Option.bind_some]
  unfold joinRows
  by_cases h1 : isRow a = true
  · have l1 := isRow_len h1
    rw [if_pos h1, impl_IsRow.F_val b hb]
    simp only [Option.bind_some]
    rw [impl_JoinRows.J0_eq]
    by_cases h2 : isRow b = true
    · have l2 := isRow_len h2
      rw [if_neg (by simp [h2]), slices_Clone_int_int.f_val a (by omega)]
      simp only [Option.bind_some]
      rw [if_pos (by omega), impl_madeRow.F_val _ (by simp; omega)]
      simp only [Option.bind_some]
      by_cases h3 : isRow (a ++ b) = true
      · simp [h1, h2, h3]
      · simp [h3]
    · rw [if_pos (by simp [h2])]
      simp [h2]
  · rw [if_neg h1, impl_JoinRows.J0_eq, if_pos rfl]
    simp [h1]
theorem spec_JoinRows.F_val (a b : List Int) (ha : a.length < 4611686018427387904) (hb : b.length < 4611686018427387904) : spec_JoinRows.F a b = some (joinRows a b) := by
  rw [spec_JoinRows.F_eq, spec_roGood.F_val a ha]
  simp only [Option.bind_some]
  unfold joinRows
  by_cases h1 : isRow a = true
  · have l1 := isRow_len h1
    rw [if_pos h1, spec_roGood.F_val b hb]
    simp only [Option.bind_some]
    rw [spec_JoinRows.J0_eq]
    by_cases h2 : isRow b = true
    · have l2 := isRow_len h2
      rw [if_neg (by simp [h2]), spec_l1Own.f_val a (by omega)]
      simp only [Option.bind_some]
      rw [if_pos (by omega), spec_hoIf.F_val _ (by simp; omega)]
      simp only [Option.bind_some]
      by_cases h3 : isRow (a ++ b) = true
      · simp [h1, h2, h3]
      · simp [h3]
    · rw [if_pos (by simp [h2])]
      simp [h2]
  · rw [if_neg h1, spec_JoinRows.J0_eq, if_pos rfl]
    simp [h1]
/-- From the place i on: where the holes at the end begin. -/
def backTo (l : List Int) (i : Nat) : Nat → Nat
  | 0 => 0
  | j + 1 => if i < j + 1 ∧ rd l j = 0 then backTo l i j else j + 1
theorem backTo_le (l : List Int) (i : Nat) : ∀ j, backTo l i j ≤ j
  | 0 => Nat.le_refl _
  | j + 1 => by
    unfold backTo
    split
    · exact Nat.le_succ_of_le (backTo_le l i j)
    · exact Nat.le_refl _
theorem le_backTo (l : List Int) (i : Nat) : ∀ j, i ≤ j → i ≤ backTo l i j
  | 0, h => by simpa [backTo] using h
  | j + 1, h => by
    unfold backTo
    split
    · rename_i h1
      exact le_backTo l i j (by omega)
    · exact h
/-- Where the holes at the beginning end; n places are left to look at. -/
def frontTo (l : List Int) : Nat → Nat → Nat
  | i, 0 => i
  | i, n + 1 => if rd l i = 0 then frontTo l (i + 1) n else i
theorem frontTo_le (l : List Int) : ∀ n i, frontTo l i n ≤ i + n
  | 0, i => Nat.le_refl _
  | n + 1, i => by
    unfold frontTo
    split
    · have := frontTo_le l n (i + 1)
      omega
    · omega
/-- A row without the holes at its beginning and at its end. -/
def trimmed (l : List Int) : List Int := (l.take (backTo l (frontTo l 0 l.length) l.length)).drop (frontTo l 0 l.length)
def trimRow (l : List Int) : List Int × Bool := if isRow l = true then (trimmed l, true) else ([], false)
theorem trimRow_len (l : List Int) (h : l.length ≤ 4611686018427387904) : (trimRow l).1.length ≤ l.length := by
  unfold trimRow trimmed
  split
  · simp only [List.length_drop, List.length_take]
    omega
  · simp
theorem impl_TrimRow.L1_val (l : List Int) (hl : l.length ≤ 40) (i : Nat) : ∀ j, i ≤ j → j ≤ l.length → impl_TrimRow.L1 l (i : Int) (j : Int) = some ((l.take (backTo l i j)).drop i, true)
  | 0, h, hj => by
    obtain rfl : i = 0 := by omega
    rw [impl_TrimRow.L1_eq, if_neg (by omega), if_pos (by omega), if_pos (by omega), if_pos (by omega), slices_Clone_int_int.f_val _ (by simp)]
    simp [backTo]
  | j + 1, h, hj => by
    have e : wrap64 (((j + 1 : Nat) : Int) - 1) = (j : Int) := by rw [wrap_in (by omega) (by omega)]; omega
    rw [impl_TrimRow.L1_eq]
    by_cases h1 : i < j + 1
    · rw [if_pos (by omega), e, if_pos (by omega), if_pos (by omega)]
      by_cases h2 : rd l j = 0
      · rw [if_pos h2, impl_TrimRow.L1_val l hl i j (by omega) (by omega)]
        simp [backTo, h1, h2]
      · rw [if_neg h2, if_pos (by omega), if_pos (by omega), if_pos (by omega), slices_Clone_int_int.f_val _ (by simp; omega)]
        (simp [backTo, h2] <;> omega)
    · rw [if_neg (by omega), if_pos (by omega), if_pos (by omega), if_pos (by omega), slices_Clone_int_int.f_val _ (by simp; omega)]
      (simp [backTo, h1] <;> omega)
theorem impl_TrimRow.L0_val (l : List Int) (hl : l.length ≤ 40) : ∀ n i, i + n = l.length → impl_TrimRow.L0 l (i : Int) (l.length : Int) = some ((l.take (backTo l (frontTo l i n) l.length)).drop (frontTo l i n), true)
  | 0, i, h => by
    rw [impl_TrimRow.L0_eq, if_neg (by omega), impl_TrimRow.J1_eq, impl_TrimRow.L1_val l hl i l.length (by omega) (by omega)]
    simp [frontTo]
  | n + 1, i, h => by
    have e : wrap64 ((i : Int) + 1) = ((i + 1 : Nat) : Int) := by rw [wrap_in (by omega) (by omega)]; omega
    rw [impl_TrimRow.L0_eq, if_pos (by omega), if_pos (by omega), if_pos (by omega)]
    by_cases h2 : rd l i = 0
    · rw [if_pos h2, e, impl_TrimRow.L0_val l hl n (i + 1) (by omega)]
      simp [frontTo, h2]
    · rw [if_neg h2, impl_TrimRow.J1_eq, impl_TrimRow.L1_val l hl i l.length (by omega) (by omega)]
      simp [frontTo, h2]
theorem impl_TrimRow.F_val (l : List Int) (h : l.length < 4611686018427387904) : impl_TrimRow.F l = some (trimRow l) := by
  rw [impl_TrimRow.F_eq, impl_IsRow.F_val l h]
  simp only [Option.bind_some]
  unfold trimRow
  split
  · rename_i h1
    exact impl_TrimRow.L0_val l (isRow_len h1) l.length 0 (by omega)
  · rfl
theorem spec_TrimRow.L1_val (l : List Int) (hl : l.length ≤ 40) (i : Nat) : ∀ j, i ≤ j → j ≤ l.length → spec_TrimRow.L1 l (i : Int) (j : Int) = some ((l.take (backTo l i j)).drop i, true)
  | 0, h, hj => by
    obtain rfl : i = 0 := by omega
    rw [spec_TrimRow.L1_eq, if_neg (by omega), if_pos (by omega), if_pos (by omega), if_pos (by omega), spec_l1Own.f_val _ (by simp)]
    simp [backTo]
  | j + 1, h, hj => by
    have e : wrap64 (((j + 1 : Nat) : Int) - 1) = (j : Int) := by rw [wrap_in (by omega) (by omega)]; omega
    rw [spec_TrimRow.L1_eq]
    by_cases h1 : i < j + 1
    · rw [if_pos (by omega), e, if_pos (by omega), if_pos (by omega)]
      by_cases h2 : rd l j = 0
      · rw [if_pos h2, spec_TrimRow.L1_val l hl i j (by omega) (by omega)]
        simp [backTo, h1, h2]
      · rw [if_neg h2, if_pos (by omega), if_pos (by omega), if_pos (by omega), spec_l1Own.f_val _ (by simp; omega)]
        (simp [backTo, h2] <;> omega)
    · rw [if_neg (by omega), if_pos (by omega), if_pos (by omega), if_pos (by omega), spec_l1Own.f_val _ (by simp; omega)]
      (simp [backTo, h1] <;> omega)
theorem spec_TrimRow.L0_val (l : List Int) (hl : l.length ≤ 40) : ∀ n i, i + n = l.length → spec_TrimRow.L0 l (i : Int) (l.length : Int) = some ((l.take (backTo l (frontTo l i n) l.length)).drop (frontTo l i n), true)
  | 0, i, h => by
    rw [spec_TrimRow.L0_eq, if_neg (by omega), spec_TrimRow.J1_eq, spec_TrimRow.L1_val l hl i l.length (by omega) (by omega)]
    simp [frontTo]
  | n + 1, i, h => by
    have e : wrap64 ((i : Int) + 1) = ((i + 1 : Nat) : Int) := by rw [wrap_in (by omega) (by omega)]; omega
    rw [spec_TrimRow.L0_eq, if_pos (by omega), if_pos (by omega), if_pos (by omega)]
    by_cases h2 : rd l i = 0
    · rw [if_pos h2, e, spec_TrimRow.L0_val l hl n (i + 1) (by omega)]
      simp [frontTo, h2]
    · rw [if_neg h2, spec_TrimRow.J1_eq, spec_TrimRow.L1_val l hl i l.length (by omega) (by omega)]
      simp [frontTo, h2]
theorem spec_TrimRow.F_val (l : List Int) (h : l.length < 4611686018427387904) : spec_TrimRow.F l = some (trimRow l) := by
  rw [spec_TrimRow.F_eq, spec_roGood.F_val l h]
  simp only [Option.bind_some]
  unfold trimRow
  split
  · rename_i h1
    exact spec_TrimRow.L0_val l (isRow_len h1) l.length 0 (by omega)
  · rfl
end Go.Proofs.Ytmhcgihkijiecaa.Fn
