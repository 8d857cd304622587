/- The machine's side and plain lemmas for FnExactFirstExtended: texts of this session, merged by its program (part 1). -/
import Derived.Test.YtmhcgihkijiecaaMFnExactFirstExtended0
namespace Go.Proofs.Ytmhcgihkijiecaa.Fn
open Go.RowKit Go.Proofs.YtmhcgihkijiecaaW.PrintWords Go.Proofs.YtmhcgihkijiecaaW.PrintLast Go.Proofs.YtmhcgihkijiecaaW.PrintMore
attribute [local go_sem] max2_int min2_int max_two min_two max_three min_three max_four min_four   -- for this text's walks alone
set_option linter.unusedVariables false
set_option linter.unusedSimpArgs false

/-! ### laws_FnExactFirstExtended: function 7 -/
mutual
def laws_FnExactFirstExtended.j0 : Nat → Int → Int → List Int → Bool → List Int → Bool → Option (Bool)
  | 0, _, _, _, _, _, _ => none
  | k + 1, x0, x1, x5, x6, x7, x33 => if x33 = true then (some false) else ((laws_markIntS.f k x7 1).bind fun bt273 => ((laws_heldIntS.f k bt273.2 1).bind fun t275 => (if t275 < 0 then (some false) else (if t275 = bt273.1 then ((impl_FirstExtended.f x0 x1).bind fun bt276 => ((laws_eqIntS.f k bt276.1 x5).bind fun t280 => (if t280 = true then (laws_FnExactFirstExtended.j1 k bt273.2 bt273.1 (bt276.2 != x6)) else (laws_FnExactFirstExtended.j1 k bt273.2 bt273.1 true)))) else (some false)))))
def laws_FnExactFirstExtended.j1 : Nat → List Int → Int → Bool → Option (Bool)
  | 0, _, _, _ => none
  | k + 1, x7, x9, x59 => if x59 = true then (some false) else ((laws_heldIntS.f k x7 1).bind fun t281 => (if t281 < 0 then (some false) else (if t281 = x9 then (some true) else (some false))))
end
def laws_FnExactFirstExtended.f (k : Nat) (a0 : Int) (a1 : Int) : Option (Bool) := (spec_FirstExtended.f a0 a1).bind fun bt264 => ((impl_FirstExtended.f a0 a1).bind fun bt268 => ((laws_eqIntS.f k bt268.1 bt264.1).bind fun t272 => (if t272 = true then (laws_FnExactFirstExtended.j0 k a0 a1 bt264.1 bt264.2 bt268.1 (bt268.2 != bt264.2)) else (laws_FnExactFirstExtended.j0 k a0 a1 bt264.1 bt264.2 bt268.1 true))))
theorem laws_FnExactFirstExtended.mono_l : ∀ k, (∀ y0 y1 y2 y3 y4 y5, LeO (laws_FnExactFirstExtended.j0 k y0 y1 y2 y3 y4 y5) (laws_FnExactFirstExtended.j0 (k + 1) y0 y1 y2 y3 y4 y5)) ∧ (∀ y0 y1 y2, LeO (laws_FnExactFirstExtended.j1 k y0 y1 y2) (laws_FnExactFirstExtended.j1 (k + 1) y0 y1 y2))
  | 0 => ⟨fun _ _ _ _ _ _ r h => by simp [laws_FnExactFirstExtended.j0] at h, fun _ _ _ r h => by simp [laws_FnExactFirstExtended.j1] at h⟩
  | k + 1 => by
    obtain ⟨ih0, ih1⟩ := laws_FnExactFirstExtended.mono_l k
    refine ⟨?_, ?_⟩
    · intro y0 y1 y2 y3 y4 y5
      unfold laws_FnExactFirstExtended.j0
      repeat' first
      | (with_reducible exact ih0 _ _ _ _ _ _)
      | (with_reducible exact ih1 _ _ _)
      | (with_reducible exact laws_eqIntS.mono _ _ _)
      | (with_reducible exact laws_heldIntS.mono _ _ _)
      | (with_reducible exact laws_markIntS.mono _ _ _)
      | (with_reducible exact LeO.refl _)
      | (with_reducible exact LeO.none _)
      | (with_reducible refine LeO.ite ?_ ?_)
      | (with_reducible refine LeO.bind ?_ (fun _ => ?_))
      | exact ih0 _ _ _ _ _ _
      | exact ih1 _ _ _
      | exact laws_eqIntS.mono _ _ _
      | exact laws_heldIntS.mono _ _ _
      | exact laws_markIntS.mono _ _ _
      | exact LeO.none _
      | refine LeO.ite ?_ ?_
      | refine LeO.bind ?_ (fun _ => ?_)
    · intro y0 y1 y2
      unfold laws_FnExactFirstExtended.j1
      repeat' first
      | (with_reducible exact ih0 _ _ _ _ _ _)
      | (with_reducible exact ih1 _ _ _)
      | (with_reducible exact laws_eqIntS.mono _ _ _)
      | (with_reducible exact laws_heldIntS.mono _ _ _)
      | (with_reducible exact laws_markIntS.mono _ _ _)
      | (with_reducible exact LeO.refl _)
      | (with_reducible exact LeO.none _)
      | (with_reducible refine LeO.ite ?_ ?_)
      | (with_reducible refine LeO.bind ?_ (fun _ => ?_))
      | exact ih0 _ _ _ _ _ _
      | exact ih1 _ _ _
      | exact laws_eqIntS.mono _ _ _
      | exact laws_heldIntS.mono _ _ _
      | exact laws_markIntS.mono _ _ _
      | exact LeO.none _
      | refine LeO.ite ?_ ?_
      | refine LeO.bind ?_ (fun _ => ?_)
theorem laws_FnExactFirstExtended.mono : ∀ a0 a1 k, LeO (laws_FnExactFirstExtended.f k a0 a1) (laws_FnExactFirstExtended.f (k + 1) a0 a1) := by
  intro a0 a1 k
  obtain ⟨ih0, ih1⟩ := laws_FnExactFirstExtended.mono_l k
  unfold laws_FnExactFirstExtended.f
  repeat' first
      | (with_reducible exact ih0 _ _ _ _ _ _)
      | (with_reducible exact ih1 _ _ _)
      | (with_reducible exact laws_eqIntS.mono _ _ _)
      | (with_reducible exact laws_heldIntS.mono _ _ _)
      | (with_reducible exact laws_markIntS.mono _ _ _)
      | (with_reducible exact LeO.refl _)
      | (with_reducible exact LeO.none _)
      | (with_reducible refine LeO.ite ?_ ?_)
      | (with_reducible refine LeO.bind ?_ (fun _ => ?_))
      | exact ih0 _ _ _ _ _ _
      | exact ih1 _ _ _
      | exact laws_eqIntS.mono _ _ _
      | exact laws_heldIntS.mono _ _ _
      | exact laws_markIntS.mono _ _ _
      | exact LeO.none _
      | refine LeO.ite ?_ ?_
      | refine LeO.bind ?_ (fun _ => ?_)
set_option maxHeartbeats 8000000 in
set_option maxRecDepth 100000 in
theorem laws_FnExactFirstExtended.calls (k : Nat) (a0 : Int) (a1 : Int) (r : Bool) (w : World) (h : laws_FnExactFirstExtended.f k a0 a1 = some r) :
    Calls Try.prog 7 #[.int .i64 a0, .int .i64 a1] w fun e w' => e = .returned (.bool r) ∧ Below w.heap.size w w' := by
  have HB := Aside0.mk (Below.refl w.heap.size w)
  have H : ((spec_FirstExtended.f a0 a1).bind fun bt264 => ((impl_FirstExtended.f a0 a1).bind fun bt268 => ((laws_eqIntS.f k bt268.1 bt264.1).bind fun t272 => (if t272 = true then (laws_FnExactFirstExtended.j0 k a0 a1 bt264.1 bt264.2 bt268.1 (bt268.2 != bt264.2)) else (laws_FnExactFirstExtended.j0 k a0 a1 bt264.1 bt264.2 bt268.1 true))))) = some r := h
  clear h
  replace H := Option.bind_eq_some_iff.mp H
  obtain ⟨⟨t264, t265⟩, A30, H⟩ := H
  replace H : ((impl_FirstExtended.f a0 a1).bind fun bt268 => ((laws_eqIntS.f k bt268.1 t264).bind fun t272 => (if t272 = true then (laws_FnExactFirstExtended.j0 k a0 a1 t264 t265 bt268.1 (bt268.2 != t265)) else (laws_FnExactFirstExtended.j0 k a0 a1 t264 t265 bt268.1 true)))) = some r := H
  have A3 := Aside0.mk A30
  clear A30
  replace H := Option.bind_eq_some_iff.mp H
  obtain ⟨⟨t268, t269⟩, A40, H⟩ := H
  replace H : ((laws_eqIntS.f k t268 t264).bind fun t272 => (if t272 = true then (laws_FnExactFirstExtended.j0 k a0 a1 t264 t265 t268 (t269 != t265)) else (laws_FnExactFirstExtended.j0 k a0 a1 t264 t265 t268 true))) = some r := H
  have A4 := Aside0.mk A40
  clear A40
  have HC5 := Aside0.mk H
  clear H
  go_enter Try.func7, Try.ntmps7
  go_upto_region 3 with (first | ((with_reducible refine gate_callee (f := 27) rfl ?_); refine goesL_ (some 16) rfl rfl Try.func27 (by kernel_rfl) rfl #[.int .i64 a0, .int .i64 a1] rfl (by (try simp only [List.map_toArray, List.map_cons, List.map_nil]); first | done | rfl | (simp only [List.length_drop, List.length_take]; rfl)) ?_; (with_reducible refine (spec_FirstExtended.calls a0 a1 t264 t265 _ A3.out).mono ?_); rintro e w6 ⟨v266, rfl, ho0, hb⟩; refine ⟨_, rfl, ?_⟩; have n0_ := Aside0.mk (Kd.R_lower ho0 (below_size (by repeat (first | (with_reducible first | exact HB.out | apply below_alloc | apply pw_below_drewN | apply below_drew1) | exact HB.out)))); have n1_ := Aside0.mk (below_step (by repeat (first | (with_reducible first | exact HB.out | apply below_alloc | apply pw_below_drewN | apply below_drew1) | exact HB.out)) hb); clear HB; have HO267 := n0_; have HB := n1_; clear n0_ n1_; (try clear hb); (try clear hb2); (try clear hk); (try clear hi); (try clear ho0)) | ((with_reducible refine gate_callee (f := 28) rfl ?_); refine goesL_ (some 22) rfl rfl Try.func28 (by kernel_rfl) rfl #[.int .i64 a0, .int .i64 a1] rfl (by (try simp only [List.map_toArray, List.map_cons, List.map_nil]); first | done | rfl | (simp only [List.length_drop, List.length_take]; rfl)) ?_; (with_reducible refine (impl_FirstExtended.calls a0 a1 t268 t269 _ A4.out).mono ?_); rintro e w7 ⟨v270, rfl, ho0, hb⟩; refine ⟨_, rfl, ?_⟩; have n0_ := Aside0.mk (Kd.R_elder' (by (with_reducible repeat (first | apply Kd.R_alloc | apply Kd.R_drewN | apply Kd.R_drew)); exact HO267.out) (Kd.R_base ho0) hb); have n1_ := Aside0.mk (Kd.R_lower (Kd.R_new' ho0 (Kd.R_lt (by (with_reducible repeat (first | apply Kd.R_alloc | apply Kd.R_drewN | apply Kd.R_drew)); exact HO267.out))) (below_size (by repeat (first | (with_reducible first | exact HB.out | apply below_alloc | apply pw_below_drewN | apply below_drew1) | exact HB.out)))); have n2_ := Aside0.mk (below_step (by repeat (first | (with_reducible first | exact HB.out | apply below_alloc | apply pw_below_drewN | apply below_drew1) | exact HB.out)) hb); clear HO267; clear HB; have HO267 := n0_; have HO271 := n1_; have HB := n2_; clear n0_ n1_ n2_; (try clear hb); (try clear hb2); (try clear hk); (try clear hi); (try clear ho0)))
  (try simp only [Act.put, List.setIfInBounds_toArray, List.set_cons_zero, List.set_cons_succ])
  go_cut [33] (fun v33 wc => ∃ (kq : Nat) (x33_4 : Bool), v33 = .bool x33_4 ∧ Aside0 (laws_FnExactFirstExtended.j0 kq a0 a1 t264 t265 t268 x33_4 = some r) ∧ Aside0 (kq ≤ k) ∧ Aside0 (Kd.R (Kd.int .i64) 3 wc w.heap.size (fun k_ => some k_ ≠ (v270 : Value).ownBlock) v266 t264) ∧ Aside0 (Kd.R (Kd.int .i64) 3 wc w.heap.size (fun k_ => some k_ ≠ (v266 : Value).ownBlock) v270 t268) ∧ Aside0 (Below w.heap.size w wc))
  case first =>
    have H := HC5.out
    clear HC5
    replace H := Option.bind_eq_some_iff.mp H
    obtain ⟨t272, A80, H⟩ := H
    replace H : (if t272 = true then (laws_FnExactFirstExtended.j0 k a0 a1 t264 t265 t268 (t269 != t265)) else (laws_FnExactFirstExtended.j0 k a0 a1 t264 t265 t268 true)) = some r := H
    have A8 := Aside0.mk A80
    clear A80
    by_cases c9 : t272 = true
    · subst c9
      have H1 : (laws_FnExactFirstExtended.j0 k a0 a1 t264 t265 t268 (t269 != t265)) = some r := by rw [if_pos rfl] at H; exact H
      clear H
      have H := H1
      clear H1
      have H' := Aside0.mk H
      clear H
      obtain ⟨Ao10, co10, eo10⟩ := Kd.R_slice HO271.out
      subst eo10
      obtain ⟨Ao11, co11, eo11⟩ := Kd.R_slice HO267.out
      subst eo11
      go_wp2_with (first | ((with_reducible refine gate_callee (f := 20) rfl ?_); refine goesL_ (some 27) rfl rfl Try.func20 (by kernel_rfl) rfl #[.slice Ao10 t268.length co10, .slice Ao11 t264.length co11] rfl (by (try simp only [List.map_toArray, List.map_cons, List.map_nil]); first | done | rfl | (simp only [List.length_drop, List.length_take]; rfl)) ?_; (with_reducible refine (laws_eqIntS.calls k _ _ t268 _ _ t264 true _ ?side1 ?side2 ?side3 ?side4 A8.out).mono ?_); (case side1 => repeat (first | exact (Kd.R_reads' HO271.out).2.2 | (with_reducible refine Kd.C_alloc ?_ _) | (with_reducible refine Kd.C_drewN ?_ _) | (with_reducible refine Kd.C_drew ?_))); (case side2 => exact (Kd.R_reads' HO271.out).2.1); (case side3 => repeat (first | exact (Kd.R_reads' HO267.out).2.2 | (with_reducible refine Kd.C_alloc ?_ _) | (with_reducible refine Kd.C_drewN ?_ _) | (with_reducible refine Kd.C_drew ?_))); (case side4 => exact (Kd.R_reads' HO267.out).2.1); rintro e w' ⟨rfl, ⟨nd, rfl⟩⟩; refine ⟨_, rfl, ?_⟩))
      go_meet
      case rel => exact ⟨_, ((t269 != t265)), (by first | rfl | (simp; done) | (simp [*]; done)), H', ⟨by first | omega | exact Nat.le_refl _⟩, ⟨by (with_reducible repeat (first | apply Kd.R_alloc | apply Kd.R_drewN | apply Kd.R_drew)); exact Kd.R_mono HO267.out (fun _ hk => hk.2)⟩, ⟨by (with_reducible repeat (first | apply Kd.R_alloc | apply Kd.R_drewN | apply Kd.R_drew)); exact Kd.R_mono HO271.out (fun _ hk => hk.2)⟩, ⟨by repeat (first | (with_reducible first | exact HB.out | apply below_alloc | apply pw_below_drewN | apply below_drew1) | exact HB.out)⟩⟩
    · replace c9 := Bool.eq_false_iff.mpr c9
      subst c9
      have H1 : (laws_FnExactFirstExtended.j0 k a0 a1 t264 t265 t268 true) = some r := by rw [if_neg (show ¬ (false = true) by decide)] at H; exact H
      clear H
      have H := H1
      clear H1
      have H' := Aside0.mk H
      clear H
      obtain ⟨Ao12, co12, eo12⟩ := Kd.R_slice HO271.out
      subst eo12
      obtain ⟨Ao13, co13, eo13⟩ := Kd.R_slice HO267.out
      subst eo13
      go_wp2_with (first | ((with_reducible refine gate_callee (f := 20) rfl ?_); refine goesL_ (some 27) rfl rfl Try.func20 (by kernel_rfl) rfl #[.slice Ao12 t268.length co12, .slice Ao13 t264.length co13] rfl (by (try simp only [List.map_toArray, List.map_cons, List.map_nil]); first | done | rfl | (simp only [List.length_drop, List.length_take]; rfl)) ?_; (with_reducible refine (laws_eqIntS.calls k _ _ t268 _ _ t264 false _ ?side1 ?side2 ?side3 ?side4 A8.out).mono ?_); (case side1 => repeat (first | exact (Kd.R_reads' HO271.out).2.2 | (with_reducible refine Kd.C_alloc ?_ _) | (with_reducible refine Kd.C_drewN ?_ _) | (with_reducible refine Kd.C_drew ?_))); (case side2 => exact (Kd.R_reads' HO271.out).2.1); (case side3 => repeat (first | exact (Kd.R_reads' HO267.out).2.2 | (with_reducible refine Kd.C_alloc ?_ _) | (with_reducible refine Kd.C_drewN ?_ _) | (with_reducible refine Kd.C_drew ?_))); (case side4 => exact (Kd.R_reads' HO267.out).2.1); rintro e w' ⟨rfl, ⟨nd, rfl⟩⟩; refine ⟨_, rfl, ?_⟩))
      go_meet
      case rel => exact ⟨_, (true), (by first | rfl | (simp; done) | (simp [*]; done)), H', ⟨by first | omega | exact Nat.le_refl _⟩, ⟨by (with_reducible repeat (first | apply Kd.R_alloc | apply Kd.R_drewN | apply Kd.R_drew)); exact Kd.R_mono HO267.out (fun _ hk => hk.2)⟩, ⟨by (with_reducible repeat (first | apply Kd.R_alloc | apply Kd.R_drewN | apply Kd.R_drew)); exact Kd.R_mono HO271.out (fun _ hk => hk.2)⟩, ⟨by repeat (first | (with_reducible first | exact HB.out | apply below_alloc | apply pw_below_drewN | apply below_drew1) | exact HB.out)⟩⟩
  case rest =>
    clear HC5
    try clear c2
    try clear p2
    try clear c7
    try clear c9
    obtain ⟨kq, x33_4, rfl, HA, HJ4, HO_5, HO_7, HB⟩ := hcut
    cases kq with
    | zero => exact absurd HA.out (by simp [laws_FnExactFirstExtended.j0])
    | succ kj4 =>
      have H := HA.out
      clear HA
      simp only [laws_FnExactFirstExtended.j0] at H
      by_cases c14 : x33_4 = true
      · subst c14
        have H1 : (some false) = some r := by rw [if_pos rfl] at H; exact H
        clear H
        have H := H1
        clear H1
        obtain rfl := Option.some.inj H
        go_wp2
        go_ret
        exact ⟨by first | rfl | (simp [errW_none, errW_some] <;> rfl) | (simp [*, errW_none, errW_some] <;> rfl), by repeat (first | (with_reducible first | exact HB.out | apply below_alloc | apply pw_below_drewN | apply below_drew1) | exact HB.out)⟩
      · replace c14 := Bool.eq_false_iff.mpr c14
        subst c14
        have H1 : ((laws_markIntS.f kj4 t268 1).bind fun bt273 => ((laws_heldIntS.f kj4 bt273.2 1).bind fun t275 => (if t275 < 0 then (some false) else (if t275 = bt273.1 then ((impl_FirstExtended.f a0 a1).bind fun bt276 => ((laws_eqIntS.f kj4 bt276.1 t264).bind fun t280 => (if t280 = true then (laws_FnExactFirstExtended.j1 kj4 bt273.2 bt273.1 (bt276.2 != t265)) else (laws_FnExactFirstExtended.j1 kj4 bt273.2 bt273.1 true)))) else (some false))))) = some r := by rw [if_neg (show ¬ (false = true) by decide)] at H; exact H
        clear H
        have H := H1
        clear H1
        replace H := Option.bind_eq_some_iff.mp H
        obtain ⟨⟨t273, t274⟩, A150, H⟩ := H
        replace H : ((laws_heldIntS.f kj4 t274 1).bind fun t275 => (if t275 < 0 then (some false) else (if t275 = t273 then ((impl_FirstExtended.f a0 a1).bind fun bt276 => ((laws_eqIntS.f kj4 bt276.1 t264).bind fun t280 => (if t280 = true then (laws_FnExactFirstExtended.j1 kj4 t274 t273 (bt276.2 != t265)) else (laws_FnExactFirstExtended.j1 kj4 t274 t273 true)))) else (some false)))) = some r := H
        have A15 := Aside0.mk A150
        clear A150
        replace H := Option.bind_eq_some_iff.mp H
        obtain ⟨t275, A160, H⟩ := H
        replace H : (if t275 < 0 then (some false) else (if t275 = t273 then ((impl_FirstExtended.f a0 a1).bind fun bt276 => ((laws_eqIntS.f kj4 bt276.1 t264).bind fun t280 => (if t280 = true then (laws_FnExactFirstExtended.j1 kj4 t274 t273 (bt276.2 != t265)) else (laws_FnExactFirstExtended.j1 kj4 t274 t273 true)))) else (some false))) = some r := H
        have A16 := Aside0.mk A160
        clear A160
        by_cases c17 : t275 < 0
        · rw [if_pos c17] at H
          have c17b0 : decide (t275 < 0) = true := decide_eq_true c17
          clear c17
          obtain rfl := Option.some.inj H
          obtain ⟨Ao18, co18, eo18⟩ := Kd.R_slice HO_7.out
          subst eo18
          go_wp2_with (first | ((with_reducible refine gate_callee (f := 21) rfl ?_); refine goesL_ (some 36) rfl rfl Try.func21 (by kernel_rfl) rfl #[.slice Ao18 t268.length co18, .int .i64 1] rfl (by (try simp only [List.map_toArray, List.map_cons, List.map_nil]); first | done | rfl | (simp only [List.length_drop, List.length_take]; rfl)) ?_; (with_reducible refine (laws_markIntS.calls kj4 (fun k_ => some k_ = (.slice Ao18 t268.length co18 : Value).ownBlock) (.slice Ao18 t268.length co18) t268 1 t273 t274 w _ ?side1 ?side2 A15.out).mono ?_); (case side1 => repeat (first | (with_reducible first | exact HB.out | apply below_alloc | apply pw_below_drewN | apply below_drew1) | exact HB.out)); (case side2 => exact Kd.R_tight rfl HO_7.out); rintro e w19 ⟨rfl, hy0, hb, hkp⟩; refine ⟨_, rfl, ?_⟩; have n0_ := Aside0.mk (Kd.R_mono (ok' := fun k_ => some k_ ≠ (.slice Ao18 t268.length co18 : Value).ownBlock) (Kd.R_keptB (HO_5.out) hkp (fun k_ hk_ hs_ => (hk_) hs_)) (fun k_ hk_ => hk_.1)); have n1_ := Aside0.mk (Kd.R_reok rfl hy0 (fun k_ e_ => HO_7.out.1 k_ e_)); have n2_ := Aside0.mk (hb); clear HO_5; clear HO_7; clear HB; have HO_5 := n0_; have HO_7 := n1_; have HB := n2_; clear n0_ n1_ n2_; (try clear hb); (try clear hkp); (try clear hy0)) | ((with_reducible refine gate_callee (f := 22) rfl ?_); refine goesL_ (some 39) rfl rfl Try.func22 (by kernel_rfl) rfl #[.slice Ao18 t274.length co18, .int .i64 1] rfl (by (try simp only [List.map_toArray, List.map_cons, List.map_nil]); first | done | (rw [show t274.length = t268.length from (Kd.R_reads' HO_7.out).1.symm] <;> rfl) | rfl | (simp only [List.length_drop, List.length_take]; rfl)) ?_; (with_reducible refine (laws_heldIntS.calls kj4 _ _ t274 1 t275 _ ?side1 ?side2 A16.out).mono ?_); (case side1 => repeat (first | exact (Kd.R_reads' HO_7.out).2.2 | (with_reducible refine Kd.C_alloc ?_ _) | (with_reducible refine Kd.C_drewN ?_ _) | (with_reducible refine Kd.C_drew ?_))); (case side2 => rw [show t274.length = t268.length from (Kd.R_reads' HO_7.out).1.symm]; exact (Kd.R_reads' HO_7.out).2.1); rintro e w' ⟨rfl, ⟨nd, rfl⟩⟩; refine ⟨_, rfl, ?_⟩))
          go_ret
          exact ⟨by first | rfl | (simp [errW_none, errW_some] <;> rfl) | (simp [*, errW_none, errW_some] <;> rfl), by repeat (first | (with_reducible first | exact HB.out | apply below_alloc | apply pw_below_drewN | apply below_drew1) | exact HB.out)⟩
        · rw [if_neg c17] at H
          have c17b0 : decide (t275 < 0) = false := decide_eq_false c17
          clear c17
          by_cases c20 : t275 = t273
          · rw [if_pos c20] at H
            have c20b0 : (t275 == t273) = true := beq_iff_eq.mpr c20
            have c20b1 : (t275 != t273) = false := bne_eq_false_iff_eq.mpr c20
            clear c20
            replace H := Option.bind_eq_some_iff.mp H
            obtain ⟨⟨t276, t277⟩, A210, H⟩ := H
            replace H : ((laws_eqIntS.f kj4 t276 t264).bind fun t280 => (if t280 = true then (laws_FnExactFirstExtended.j1 kj4 t274 t273 (t277 != t265)) else (laws_FnExactFirstExtended.j1 kj4 t274 t273 true))) = some r := H
            have A21 := Aside0.mk A210
            clear A210
            have HC22 := Aside0.mk H
            clear H
            obtain ⟨Ao23, co23, eo23⟩ := Kd.R_slice HO_7.out
            subst eo23
            go_upto_region 14 with (first | ((with_reducible refine gate_callee (f := 21) rfl ?_); refine goesL_ (some 36) rfl rfl Try.func21 (by kernel_rfl) rfl #[.slice Ao23 t268.length co23, .int .i64 1] rfl (by (try simp only [List.map_toArray, List.map_cons, List.map_nil]); first | done | rfl | (simp only [List.length_drop, List.length_take]; rfl)) ?_; (with_reducible refine (laws_markIntS.calls kj4 (fun k_ => some k_ = (.slice Ao23 t268.length co23 : Value).ownBlock) (.slice Ao23 t268.length co23) t268 1 t273 t274 w _ ?side1 ?side2 A15.out).mono ?_); (case side1 => repeat (first | (with_reducible first | exact HB.out | apply below_alloc | apply pw_below_drewN | apply below_drew1) | exact HB.out)); (case side2 => exact Kd.R_tight rfl HO_7.out); rintro e w24 ⟨rfl, hy0, hb, hkp⟩; refine ⟨_, rfl, ?_⟩; have n0_ := Aside0.mk (Kd.R_mono (ok' := fun k_ => some k_ ≠ (.slice Ao23 t268.length co23 : Value).ownBlock) (Kd.R_keptB (HO_5.out) hkp (fun k_ hk_ hs_ => (hk_) hs_)) (fun k_ hk_ => hk_.1)); have n1_ := Aside0.mk (Kd.R_reok rfl hy0 (fun k_ e_ => HO_7.out.1 k_ e_)); have n2_ := Aside0.mk (hb); clear HO_5; clear HO_7; clear HB; have HO_5 := n0_; have HO_7 := n1_; have HB := n2_; clear n0_ n1_ n2_; (try clear hb); (try clear hkp); (try clear hy0)) | ((with_reducible refine gate_callee (f := 22) rfl ?_); refine goesL_ (some 39) rfl rfl Try.func22 (by kernel_rfl) rfl #[.slice Ao23 t274.length co23, .int .i64 1] rfl (by (try simp only [List.map_toArray, List.map_cons, List.map_nil]); first | done | (rw [show t274.length = t268.length from (Kd.R_reads' HO_7.out).1.symm] <;> rfl) | rfl | (simp only [List.length_drop, List.length_take]; rfl)) ?_; (with_reducible refine (laws_heldIntS.calls kj4 _ _ t274 1 t275 _ ?side1 ?side2 A16.out).mono ?_); (case side1 => repeat (first | exact (Kd.R_reads' HO_7.out).2.2 | (with_reducible refine Kd.C_alloc ?_ _) | (with_reducible refine Kd.C_drewN ?_ _) | (with_reducible refine Kd.C_drew ?_))); (case side2 => rw [show t274.length = t268.length from (Kd.R_reads' HO_7.out).1.symm]; exact (Kd.R_reads' HO_7.out).2.1); rintro e w' ⟨rfl, ⟨nd, rfl⟩⟩; refine ⟨_, rfl, ?_⟩) | ((with_reducible refine gate_callee (f := 28) rfl ?_); refine goesL_ (some 48) rfl rfl Try.func28 (by kernel_rfl) rfl #[.int .i64 a0, .int .i64 a1] rfl (by (try simp only [List.map_toArray, List.map_cons, List.map_nil]); first | done | rfl | (simp only [List.length_drop, List.length_take]; rfl)) ?_; (with_reducible refine (impl_FirstExtended.calls a0 a1 t276 t277 _ A21.out).mono ?_); rintro e w25 ⟨v278, rfl, ho0, hb⟩; refine ⟨_, rfl, ?_⟩; have n0_ := Aside0.mk (Kd.R_elder' (by (with_reducible repeat (first | apply Kd.R_alloc | apply Kd.R_drewN | apply Kd.R_drew)); exact HO_5.out) (Kd.R_base ho0) hb); have n1_ := Aside0.mk (Kd.R_elder' (by (with_reducible repeat (first | apply Kd.R_alloc | apply Kd.R_drewN | apply Kd.R_drew)); exact HO_7.out) (Kd.R_base ho0) hb); have n2_ := Aside0.mk (Kd.R_lower (Kd.R_new' (Kd.R_new' ho0 (Kd.R_lt (by (with_reducible repeat (first | apply Kd.R_alloc | apply Kd.R_drewN | apply Kd.R_drew)); exact HO_5.out))) (Kd.R_lt (by (with_reducible repeat (first | apply Kd.R_alloc | apply Kd.R_drewN | apply Kd.R_drew)); exact HO_7.out))) (below_size (by repeat (first | (with_reducible first | exact HB.out | apply below_alloc | apply pw_below_drewN | apply below_drew1) | exact HB.out)))); have n3_ := Aside0.mk (below_step (by repeat (first | (with_reducible first | exact HB.out | apply below_alloc | apply pw_below_drewN | apply below_drew1) | exact HB.out)) hb); clear HO_5; clear HO_7; clear HB; have HO_5 := n0_; have HO_7 := n1_; have HO279 := n2_; have HB := n3_; clear n0_ n1_ n2_ n3_; (try clear hb); (try clear hb2); (try clear hk); (try clear hi); (try clear ho0)))
            (try simp only [Act.put, List.setIfInBounds_toArray, List.set_cons_zero, List.set_cons_succ])
            go_cut [59] (fun v59 wc => ∃ (kq : Nat) (x59_21 : Bool), v59 = .bool x59_21 ∧ Aside0 (laws_FnExactFirstExtended.j1 kq t274 t273 x59_21 = some r) ∧ Aside0 (kq ≤ kj4) ∧ Aside0 (Kd.R (Kd.int .i64) 3 wc w.heap.size (fun _ => True) (.slice Ao23 t268.length co23) t274) ∧ Aside0 (Below w.heap.size w wc))
            case first =>
              have H := HC22.out
              clear HC22
              replace H := Option.bind_eq_some_iff.mp H
              obtain ⟨t280, A260, H⟩ := H
              replace H : (if t280 = true then (laws_FnExactFirstExtended.j1 kj4 t274 t273 (t277 != t265)) else (laws_FnExactFirstExtended.j1 kj4 t274 t273 true)) = some r := H
              have A26 := Aside0.mk A260
              clear A260
              by_cases c27 : t280 = true
              · subst c27
                have H1 : (laws_FnExactFirstExtended.j1 kj4 t274 t273 (t277 != t265)) = some r := by rw [if_pos rfl] at H; exact H
                clear H
                have H := H1
                clear H1
                have H' := Aside0.mk H
                clear H
                obtain ⟨Ao28, co28, eo28⟩ := Kd.R_slice HO279.out
                subst eo28
                obtain ⟨Ao29, co29, eo29⟩ := Kd.R_slice HO_5.out
                subst eo29
                go_wp2_with (first | ((with_reducible refine gate_callee (f := 20) rfl ?_); refine goesL_ (some 53) rfl rfl Try.func20 (by kernel_rfl) rfl #[.slice Ao28 t276.length co28, .slice Ao29 t264.length co29] rfl (by (try simp only [List.map_toArray, List.map_cons, List.map_nil]); first | done | rfl | (simp only [List.length_drop, List.length_take]; rfl)) ?_; (with_reducible refine (laws_eqIntS.calls kj4 _ _ t276 _ _ t264 true _ ?side1 ?side2 ?side3 ?side4 A26.out).mono ?_); (case side1 => repeat (first | exact (Kd.R_reads' HO279.out).2.2 | (with_reducible refine Kd.C_alloc ?_ _) | (with_reducible refine Kd.C_drewN ?_ _) | (with_reducible refine Kd.C_drew ?_))); (case side2 => exact (Kd.R_reads' HO279.out).2.1); (case side3 => repeat (first | exact (Kd.R_reads' HO_5.out).2.2 | (with_reducible refine Kd.C_alloc ?_ _) | (with_reducible refine Kd.C_drewN ?_ _) | (with_reducible refine Kd.C_drew ?_))); (case side4 => exact (Kd.R_reads' HO_5.out).2.1); rintro e w' ⟨rfl, ⟨nd, rfl⟩⟩; refine ⟨_, rfl, ?_⟩))
                go_meet
                case rel => exact ⟨_, ((t277 != t265)), (by first | rfl | (simp; done) | (simp [*]; done)), H', ⟨by have := HJ4.out; first | omega | exact Nat.le_refl _⟩, ⟨by (with_reducible repeat (first | apply Kd.R_alloc | apply Kd.R_drewN | apply Kd.R_drew)); exact Kd.R_mono HO_7.out (fun _ hk => trivial)⟩, ⟨by repeat (first | (with_reducible first | exact HB.out | apply below_alloc | apply pw_below_drewN | apply below_drew1) | exact HB.out)⟩⟩
              · replace c27 := Bool.eq_false_iff.mpr c27
                subst c27
                have H1 : (laws_FnExactFirstExtended.j1 kj4 t274 t273 true) = some r := by rw [if_neg (show ¬ (false = true) by decide)] at H; exact H
                clear H
                have H := H1
                clear H1
                have H' := Aside0.mk H
                clear H
                obtain ⟨Ao30, co30, eo30⟩ := Kd.R_slice HO279.out
                subst eo30
                obtain ⟨Ao31, co31, eo31⟩ := Kd.R_slice HO_5.out
                subst eo31
                go_wp2_with (first | ((with_reducible refine gate_callee (f := 20) rfl ?_); refine goesL_ (some 53) rfl rfl Try.func20 (by kernel_rfl) rfl #[.slice Ao30 t276.length co30, .slice Ao31 t264.length co31] rfl (by (try simp only [List.map_toArray, List.map_cons, List.map_nil]); first | done | rfl | (simp only [List.length_drop, List.length_take]; rfl)) ?_; (with_reducible refine (laws_eqIntS.calls kj4 _ _ t276 _ _ t264 false _ ?side1 ?side2 ?side3 ?side4 A26.out).mono ?_); (case side1 => repeat (first | exact (Kd.R_reads' HO279.out).2.2 | (with_reducible refine Kd.C_alloc ?_ _) | (with_reducible refine Kd.C_drewN ?_ _) | (with_reducible refine Kd.C_drew ?_))); (case side2 => exact (Kd.R_reads' HO279.out).2.1); (case side3 => repeat (first | exact (Kd.R_reads' HO_5.out).2.2 | (with_reducible refine Kd.C_alloc ?_ _) | (with_reducible refine Kd.C_drewN ?_ _) | (with_reducible refine Kd.C_drew ?_))); (case side4 => exact (Kd.R_reads' HO_5.out).2.1); rintro e w' ⟨rfl, ⟨nd, rfl⟩⟩; refine ⟨_, rfl, ?_⟩))
                go_meet
                case rel => exact ⟨_, (true), (by first | rfl | (simp; done) | (simp [*]; done)), H', ⟨by have := HJ4.out; first | omega | exact Nat.le_refl _⟩, ⟨by (with_reducible repeat (first | apply Kd.R_alloc | apply Kd.R_drewN | apply Kd.R_drew)); exact Kd.R_mono HO_7.out (fun _ hk => trivial)⟩, ⟨by repeat (first | (with_reducible first | exact HB.out | apply below_alloc | apply pw_below_drewN | apply below_drew1) | exact HB.out)⟩⟩
            case rest =>
              clear HC22
              try clear c1
              try clear c2
              try clear p2
              try clear c7
              try clear c9
              try clear c14
              try clear c17
              try clear c17b0
              try clear c20
              try clear c20b0
              try clear c20b1
              try clear c21
              try clear c22
              try clear c27
              try clear c28
              try clear p2
              obtain ⟨kq, x59_21, rfl, HA, HJ21, HO_7, HB⟩ := hcut
              have hl7_21 := (Kd.R_reads' HO_7.out).1
              rw [hl7_21] at HO_7
              (try simp only [hl7_21])
              cases kq with
              | zero => exact absurd HA.out (by simp [laws_FnExactFirstExtended.j1])
              | succ kj21 =>
                have H := HA.out
                clear HA
                simp only [laws_FnExactFirstExtended.j1] at H
                by_cases c32 : x59_21 = true
                · subst c32
                  have H1 : (some false) = some r := by rw [if_pos rfl] at H; exact H
                  clear H
                  have H := H1
                  clear H1
                  obtain rfl := Option.some.inj H
                  go_wp2
                  go_ret
                  exact ⟨by first | rfl | (simp [errW_none, errW_some] <;> rfl) | (simp [*, errW_none, errW_some] <;> rfl), by repeat (first | (with_reducible first | exact HB.out | apply below_alloc | apply pw_below_drewN | apply below_drew1) | exact HB.out)⟩
                · replace c32 := Bool.eq_false_iff.mpr c32
                  subst c32
                  have H1 : ((laws_heldIntS.f kj21 t274 1).bind fun t281 => (if t281 < 0 then (some false) else (if t281 = t273 then (some true) else (some false)))) = some r := by rw [if_neg (show ¬ (false = true) by decide)] at H; exact H
                  clear H
                  have H := H1
                  clear H1
                  replace H := Option.bind_eq_some_iff.mp H
                  obtain ⟨t281, A330, H⟩ := H
                  replace H : (if t281 < 0 then (some false) else (if t281 = t273 then (some true) else (some false))) = some r := H
                  have A33 := Aside0.mk A330
                  clear A330
                  by_cases c34 : t281 < 0
                  · rw [if_pos c34] at H
                    have c34b0 : decide (t281 < 0) = true := decide_eq_true c34
                    clear c34
                    obtain rfl := Option.some.inj H
                    go_wp2_with (first | ((with_reducible refine gate_callee (f := 22) rfl ?_); refine goesL_ (some 62) rfl rfl Try.func22 (by kernel_rfl) rfl #[.slice Ao23 t274.length co23, .int .i64 1] rfl (by (try simp only [List.map_toArray, List.map_cons, List.map_nil]); first | done | rfl | (simp only [List.length_drop, List.length_take]; rfl)) ?_; (with_reducible refine (laws_heldIntS.calls kj21 _ _ t274 1 t281 _ ?side1 ?side2 A33.out).mono ?_); (case side1 => repeat (first | exact (Kd.R_reads' HO_7.out).2.2 | (with_reducible refine Kd.C_alloc ?_ _) | (with_reducible refine Kd.C_drewN ?_ _) | (with_reducible refine Kd.C_drew ?_))); (case side2 => exact (Kd.R_reads' HO_7.out).2.1); rintro e w' ⟨rfl, ⟨nd, rfl⟩⟩; refine ⟨_, rfl, ?_⟩))
                    go_ret
                    exact ⟨by first | rfl | (simp [errW_none, errW_some] <;> rfl) | (simp [*, errW_none, errW_some] <;> rfl), by repeat (first | (with_reducible first | exact HB.out | apply below_alloc | apply pw_below_drewN | apply below_drew1) | exact HB.out)⟩
                  · rw [if_neg c34] at H
                    have c34b0 : decide (t281 < 0) = false := decide_eq_false c34
                    clear c34
                    by_cases c35 : t281 = t273
                    · rw [if_pos c35] at H
                      have c35b0 : (t281 == t273) = true := beq_iff_eq.mpr c35
                      have c35b1 : (t281 != t273) = false := bne_eq_false_iff_eq.mpr c35
                      clear c35
                      obtain rfl := Option.some.inj H
                      go_wp2_with (first | ((with_reducible refine gate_callee (f := 22) rfl ?_); refine goesL_ (some 62) rfl rfl Try.func22 (by kernel_rfl) rfl #[.slice Ao23 t274.length co23, .int .i64 1] rfl (by (try simp only [List.map_toArray, List.map_cons, List.map_nil]); first | done | rfl | (simp only [List.length_drop, List.length_take]; rfl)) ?_; (with_reducible refine (laws_heldIntS.calls kj21 _ _ t274 1 t281 _ ?side1 ?side2 A33.out).mono ?_); (case side1 => repeat (first | exact (Kd.R_reads' HO_7.out).2.2 | (with_reducible refine Kd.C_alloc ?_ _) | (with_reducible refine Kd.C_drewN ?_ _) | (with_reducible refine Kd.C_drew ?_))); (case side2 => exact (Kd.R_reads' HO_7.out).2.1); rintro e w' ⟨rfl, ⟨nd, rfl⟩⟩; refine ⟨_, rfl, ?_⟩))
                      go_ret
                      exact ⟨by first | rfl | (simp [errW_none, errW_some] <;> rfl) | (simp [*, errW_none, errW_some] <;> rfl), by repeat (first | (with_reducible first | exact HB.out | apply below_alloc | apply pw_below_drewN | apply below_drew1) | exact HB.out)⟩
                    · rw [if_neg c35] at H
                      have c35b0 : (t281 == t273) = false := beq_eq_false_iff_ne.mpr c35
                      have c35b1 : (t281 != t273) = true := bne_iff_ne.mpr c35
                      obtain rfl := Option.some.inj H
                      go_wp2_with (first | ((with_reducible refine gate_callee (f := 22) rfl ?_); refine goesL_ (some 62) rfl rfl Try.func22 (by kernel_rfl) rfl #[.slice Ao23 t274.length co23, .int .i64 1] rfl (by (try simp only [List.map_toArray, List.map_cons, List.map_nil]); first | done | rfl | (simp only [List.length_drop, List.length_take]; rfl)) ?_; (with_reducible refine (laws_heldIntS.calls kj21 _ _ t274 1 t281 _ ?side1 ?side2 A33.out).mono ?_); (case side1 => repeat (first | exact (Kd.R_reads' HO_7.out).2.2 | (with_reducible refine Kd.C_alloc ?_ _) | (with_reducible refine Kd.C_drewN ?_ _) | (with_reducible refine Kd.C_drew ?_))); (case side2 => exact (Kd.R_reads' HO_7.out).2.1); rintro e w' ⟨rfl, ⟨nd, rfl⟩⟩; refine ⟨_, rfl, ?_⟩))
                      go_ret
                      exact ⟨by first | rfl | (simp [errW_none, errW_some] <;> rfl) | (simp [*, errW_none, errW_some] <;> rfl), by repeat (first | (with_reducible first | exact HB.out | apply below_alloc | apply pw_below_drewN | apply below_drew1) | exact HB.out)⟩
          · rw [if_neg c20] at H
            have c20b0 : (t275 == t273) = false := beq_eq_false_iff_ne.mpr c20
            have c20b1 : (t275 != t273) = true := bne_iff_ne.mpr c20
            obtain rfl := Option.some.inj H
            obtain ⟨Ao36, co36, eo36⟩ := Kd.R_slice HO_7.out
            subst eo36
            go_wp2_with (first | ((with_reducible refine gate_callee (f := 21) rfl ?_); refine goesL_ (some 36) rfl rfl Try.func21 (by kernel_rfl) rfl #[.slice Ao36 t268.length co36, .int .i64 1] rfl (by (try simp only [List.map_toArray, List.map_cons, List.map_nil]); first | done | rfl | (simp only [List.length_drop, List.length_take]; rfl)) ?_; (with_reducible refine (laws_markIntS.calls kj4 (fun k_ => some k_ = (.slice Ao36 t268.length co36 : Value).ownBlock) (.slice Ao36 t268.length co36) t268 1 t273 t274 w _ ?side1 ?side2 A15.out).mono ?_); (case side1 => repeat (first | (with_reducible first | exact HB.out | apply below_alloc | apply pw_below_drewN | apply below_drew1) | exact HB.out)); (case side2 => exact Kd.R_tight rfl HO_7.out); rintro e w37 ⟨rfl, hy0, hb, hkp⟩; refine ⟨_, rfl, ?_⟩; have n0_ := Aside0.mk (Kd.R_mono (ok' := fun k_ => some k_ ≠ (.slice Ao36 t268.length co36 : Value).ownBlock) (Kd.R_keptB (HO_5.out) hkp (fun k_ hk_ hs_ => (hk_) hs_)) (fun k_ hk_ => hk_.1)); have n1_ := Aside0.mk (Kd.R_reok rfl hy0 (fun k_ e_ => HO_7.out.1 k_ e_)); have n2_ := Aside0.mk (hb); clear HO_5; clear HO_7; clear HB; have HO_5 := n0_; have HO_7 := n1_; have HB := n2_; clear n0_ n1_ n2_; (try clear hb); (try clear hkp); (try clear hy0)) | ((with_reducible refine gate_callee (f := 22) rfl ?_); refine goesL_ (some 39) rfl rfl Try.func22 (by kernel_rfl) rfl #[.slice Ao36 t274.length co36, .int .i64 1] rfl (by (try simp only [List.map_toArray, List.map_cons, List.map_nil]); first | done | (rw [show t274.length = t268.length from (Kd.R_reads' HO_7.out).1.symm] <;> rfl) | rfl | (simp only [List.length_drop, List.length_take]; rfl)) ?_; (with_reducible refine (laws_heldIntS.calls kj4 _ _ t274 1 t275 _ ?side1 ?side2 A16.out).mono ?_); (case side1 => repeat (first | exact (Kd.R_reads' HO_7.out).2.2 | (with_reducible refine Kd.C_alloc ?_ _) | (with_reducible refine Kd.C_drewN ?_ _) | (with_reducible refine Kd.C_drew ?_))); (case side2 => rw [show t274.length = t268.length from (Kd.R_reads' HO_7.out).1.symm]; exact (Kd.R_reads' HO_7.out).2.1); rintro e w' ⟨rfl, ⟨nd, rfl⟩⟩; refine ⟨_, rfl, ?_⟩))
            go_ret
            exact ⟨by first | rfl | (simp [errW_none, errW_some] <;> rfl) | (simp [*, errW_none, errW_some] <;> rfl), by repeat (first | (with_reducible first | exact HB.out | apply below_alloc | apply pw_below_drewN | apply below_drew1) | exact HB.out)⟩

/-- The statement of laws_FnExactFirstExtended over numbers and lists. -/
def laws_FnExactFirstExtended.Pure : Prop := ∀ (a0 : Int) (a1 : Int), (Lit.int .i64 a0).wf = true → (Lit.int .i64 a1).wf = true → ∃ k, laws_FnExactFirstExtended.f k a0 a1 = some true
theorem laws_FnExactFirstExtended.walk (P : laws_FnExactFirstExtended.Pure) (a0 : Int) (a1 : Int) (w : World) (w0 : (Lit.int .i64 a0).wf = true) (w1 : (Lit.int .i64 a1).wf = true) :
    Calls Try.prog 7 #[.int .i64 a0, .int .i64 a1] w fun e w' => e = .returned (.bool true) ∧ Below w.heap.size w w' := by
  obtain ⟨k, h⟩ := P a0 a1 w0 w1
  refine (laws_FnExactFirstExtended.calls k a0 a1 true w h).mono ?_
  rintro e w' ⟨rfl, hd⟩
  exact ⟨rfl, hd⟩

noncomputable def laws_FnExactFirstExtended.J0 (x0 : Int) (x1 : Int) (x5 : List Int) (x6 : Bool) (x7 : List Int) (x33 : Bool) : Option (Bool) := lim fun k => laws_FnExactFirstExtended.j0 k x0 x1 x5 x6 x7 x33
theorem laws_FnExactFirstExtended.J0_lim (x0 : Int) (x1 : Int) (x5 : List Int) (x6 : Bool) (x7 : List Int) (x33 : Bool) : Lim (fun k => laws_FnExactFirstExtended.j0 k x0 x1 x5 x6 x7 x33) (laws_FnExactFirstExtended.J0 x0 x1 x5 x6 x7 x33) := Lim.of fun k => (laws_FnExactFirstExtended.mono_l k).1 x0 x1 x5 x6 x7 x33
noncomputable def laws_FnExactFirstExtended.J1 (x7 : List Int) (x9 : Int) (x59 : Bool) : Option (Bool) := lim fun k => laws_FnExactFirstExtended.j1 k x7 x9 x59
theorem laws_FnExactFirstExtended.J1_lim (x7 : List Int) (x9 : Int) (x59 : Bool) : Lim (fun k => laws_FnExactFirstExtended.j1 k x7 x9 x59) (laws_FnExactFirstExtended.J1 x7 x9 x59) := Lim.of fun k => (laws_FnExactFirstExtended.mono_l k).2 x7 x9 x59
noncomputable def laws_FnExactFirstExtended.F (a0 : Int) (a1 : Int) : Option (Bool) := lim fun k => laws_FnExactFirstExtended.f k a0 a1
theorem laws_FnExactFirstExtended.F_lim (a0 : Int) (a1 : Int) : Lim (fun k => laws_FnExactFirstExtended.f k a0 a1) (laws_FnExactFirstExtended.F a0 a1) := Lim.of fun k => laws_FnExactFirstExtended.mono a0 a1 k
theorem laws_FnExactFirstExtended.J0_eq (x0 : Int) (x1 : Int) (x5 : List Int) (x6 : Bool) (x7 : List Int) (x33 : Bool) : laws_FnExactFirstExtended.J0 x0 x1 x5 x6 x7 x33 = (if x33 = true then (some false) else ((laws_markIntS.F x7 1).bind fun bt273 => ((laws_heldIntS.F bt273.2 1).bind fun t275 => (if t275 < 0 then (some false) else (if t275 = bt273.1 then ((impl_FirstExtended.f x0 x1).bind fun bt276 => ((laws_eqIntS.F bt276.1 x5).bind fun t280 => (if t280 = true then (laws_FnExactFirstExtended.J1 bt273.2 bt273.1 (bt276.2 != x6)) else (laws_FnExactFirstExtended.J1 bt273.2 bt273.1 true)))) else (some false)))))) :=
  Lim.step (f := fun k => (if x33 = true then (some false) else ((laws_markIntS.f k x7 1).bind fun bt273 => ((laws_heldIntS.f k bt273.2 1).bind fun t275 => (if t275 < 0 then (some false) else (if t275 = bt273.1 then ((impl_FirstExtended.f x0 x1).bind fun bt276 => ((laws_eqIntS.f k bt276.1 x5).bind fun t280 => (if t280 = true then (laws_FnExactFirstExtended.j1 k bt273.2 bt273.1 (bt276.2 != x6)) else (laws_FnExactFirstExtended.j1 k bt273.2 bt273.1 true)))) else (some false))))))) (laws_FnExactFirstExtended.J0_lim x0 x1 x5 x6 x7 x33) (fun k => by first | rfl | rw [laws_FnExactFirstExtended.j0]) (by
    repeat' first
    | (with_reducible exact Lim.const _)
    | (with_reducible exact laws_FnExactFirstExtended.J1_lim _ _ _)
    | (with_reducible exact laws_eqIntS.F_lim _ _)
    | (with_reducible exact laws_heldIntS.F_lim _ _)
    | (with_reducible exact laws_markIntS.F_lim _ _)
    | (with_reducible refine Lim.ite ?_ ?_)
    | (with_reducible refine Lim.bind ?_ (fun _ => ?_)))
theorem laws_FnExactFirstExtended.J1_eq (x7 : List Int) (x9 : Int) (x59 : Bool) : laws_FnExactFirstExtended.J1 x7 x9 x59 = (if x59 = true then (some false) else ((laws_heldIntS.F x7 1).bind fun t281 => (if t281 < 0 then (some false) else (if t281 = x9 then (some true) else (some false))))) :=
  Lim.step (f := fun k => (if x59 = true then (some false) else ((laws_heldIntS.f k x7 1).bind fun t281 => (if t281 < 0 then (some false) else (if t281 = x9 then (some true) else (some false)))))) (laws_FnExactFirstExtended.J1_lim x7 x9 x59) (fun k => by first | rfl | rw [laws_FnExactFirstExtended.j1]) (by
    repeat' first
    | (with_reducible exact Lim.const _)
    | (with_reducible exact laws_heldIntS.F_lim _ _)
    | (with_reducible refine Lim.ite ?_ ?_)
    | (with_reducible refine Lim.bind ?_ (fun _ => ?_)))
theorem laws_FnExactFirstExtended.F_eq (a0 : Int) (a1 : Int) : laws_FnExactFirstExtended.F a0 a1 = ((spec_FirstExtended.f a0 a1).bind fun bt264 => ((impl_FirstExtended.f a0 a1).bind fun bt268 => ((laws_eqIntS.F bt268.1 bt264.1).bind fun t272 => (if t272 = true then (laws_FnExactFirstExtended.J0 a0 a1 bt264.1 bt264.2 bt268.1 (bt268.2 != bt264.2)) else (laws_FnExactFirstExtended.J0 a0 a1 bt264.1 bt264.2 bt268.1 true))))) :=
  Lim.unique (laws_FnExactFirstExtended.F_lim a0 a1) (by
    unfold laws_FnExactFirstExtended.f
    repeat' first
    | (with_reducible exact Lim.const _)
    | (with_reducible exact laws_FnExactFirstExtended.J0_lim _ _ _ _ _ _)
    | (with_reducible exact laws_eqIntS.F_lim _ _)
    | (with_reducible refine Lim.ite ?_ ?_)
    | (with_reducible refine Lim.bind ?_ (fun _ => ?_)))

end Go.Proofs.Ytmhcgihkijiecaa.Fn
namespace Go.Proofs.Ytmhcgihkijiecaa.Fn
open Go.RowKit Go.Proofs.YtmhcgihkijiecaaW.PrintWords Go.Proofs.YtmhcgihkijiecaaW.PrintLast Go.Proofs.YtmhcgihkijiecaaW.PrintMore
set_option linter.unusedVariables false
set_option linter.unusedSimpArgs false
theorem laws_eqIntS.L0_val : ∀ (sa pre sb : List Int), (pre ++ sa).length < 4611686018427387904 → sa.length = sb.length → laws_eqIntS.L0 (pre ++ sa) (pre ++ sb) (pre.length : Int) = some (decide (sa = sb))
  | [], pre, sb, h, hj => by
    obtain rfl : sb = [] := List.eq_nil_of_length_eq_zero hj.symm
    rw [laws_eqIntS.L0_eq, range_end]
    simp
  | x :: sa, pre, y :: sb, h, hj => by
    have h1 : (pre.length : Int) < ((pre ++ x :: sa).length : Int) := by rw [List.length_append, List.length_cons]; omega
    have h2 : (pre.length : Int) < ((pre ++ y :: sb).length : Int) := by rw [List.length_append, List.length_cons]; omega
    rw [laws_eqIntS.L0_eq, if_pos h1, if_pos (by omega), if_pos h2, rd_mid, rd_mid, wrap_mid h]
    by_cases e : x = y
    · subst e
      rw [if_pos rfl, app_mid pre x sa, app_mid pre x sb, laws_eqIntS.L0_val sa (pre ++ [x]) sb (by simpa using h) (by simpa using hj)]
      simp
    · rw [if_neg e]
      simp [e]
theorem laws_eqIntS.F_val (a b : List Int) (h : a.length < 4611686018427387904) : laws_eqIntS.F a b = some (decide (a = b)) := by
  rw [laws_eqIntS.F_eq]
  by_cases e : (a.length : Int) = (b.length : Int)
  · rw [if_pos e]
    have := laws_eqIntS.L0_val a [] b (by simpa using h) (by omega)
    simpa using this
  · rw [if_neg e]
    have : ¬ a = b := fun hab => e (by rw [hab])
    simp [this]
theorem laws_eqIntS.F_same (a : List Int) (h : a.length < 4611686018427387904) : laws_eqIntS.F a a = some true := by
  rw [laws_eqIntS.F_val a a h]
  simp
/-- The numbers k, k + 1, .., n of them. -/
def marks : Nat → Int → List Int
  | 0, _ => []
  | n + 1, k => k :: marks n (k + 1)
theorem marks_length : ∀ n k, (marks n k).length = n
  | 0, _ => rfl
  | n + 1, k => by simp [marks, marks_length n]
theorem laws_markIntS.L0_val : ∀ (suf pre : List Int) (k : Int), (pre ++ suf).length < 4611686018427387904 → 0 ≤ k → k + suf.length < 4611686018427387904 → laws_markIntS.L0 (pre ++ suf) k (pre.length : Int) = some (k + suf.length, pre ++ marks suf.length k)
  | [], pre, k, h, h0, hk => by
    rw [laws_markIntS.L0_eq, range_end]
    simp [marks]
  | x :: suf, pre, k, h, h0, hk => by
    have h1 : (pre.length : Int) < ((pre ++ x :: suf).length : Int) := by rw [List.length_append, List.length_cons]; omega
    have hk' : k + (suf.length + 1 : Nat) < 4611686018427387904 := by simpa using hk
    rw [laws_markIntS.L0_eq, if_pos h1, if_pos (by omega), wrap_mid h, wrap_in (n := k + 1) (by omega) (by omega)]
    have e : (pre ++ x :: suf).set ((pre.length : Int)).toNat k = (pre ++ [k]) ++ suf := by simp
    have el : ((pre ++ [x]).length : Int) = ((pre ++ [k]).length : Int) := by simp
    rw [e, el, laws_markIntS.L0_val suf (pre ++ [k]) (k + 1) (by simpa using h) (by omega) (by omega)]
    simp [marks]
    omega
theorem laws_markIntS.F_val (l : List Int) (k : Int) (h0 : 0 ≤ k) (hk : k + l.length < 4611686018427387904) : laws_markIntS.F l k = some (k + l.length, marks l.length k) := by
  rw [laws_markIntS.F_eq]
  have := laws_markIntS.L0_val l [] k (by simp; omega) h0 hk
  simpa using this
theorem laws_heldIntS.L0_val : ∀ (n : Nat) (pre : List Int) (k : Int), pre.length + n < 4611686018427387904 → 0 ≤ k → k + n < 4611686018427387904 → laws_heldIntS.L0 (pre ++ marks n k) k (pre.length : Int) = some (k + n)
  | 0, pre, k, h, h0, hk => by
    rw [laws_heldIntS.L0_eq, marks, range_end]
    simp
  | n + 1, pre, k, h, h0, hk => by
    have h1 : (pre.length : Int) < ((pre ++ k :: marks n (k + 1)).length : Int) := by rw [List.length_append, List.length_cons]; omega
    have h2 : (pre ++ k :: marks n (k + 1)).length < 4611686018427387904 := by rw [List.length_append, List.length_cons, marks_length]; omega
    rw [laws_heldIntS.L0_eq, marks, if_pos h1, if_pos (by omega), rd_mid, if_pos rfl, wrap_mid h2, wrap_in (n := k + 1) (by omega) (by omega), app_mid, laws_heldIntS.L0_val n (pre ++ [k]) (k + 1) (by simp; omega) (by omega) (by omega)]
    congr 1
    omega
theorem laws_heldIntS.F_val (n : Nat) (k : Int) (h0 : 0 ≤ k) (hk : k + n < 4611686018427387904) : laws_heldIntS.F (marks n k) k = some (k + n) := by
  rw [laws_heldIntS.F_eq]
  have := laws_heldIntS.L0_val n [] k (by simp; omega) h0 hk
  simpa using this
end Go.Proofs.Ytmhcgihkijiecaa.Fn
namespace Go.Proofs.Ytmhcgihkijiecaa.Fn
open Go.RowKit Go.Proofs.YtmhcgihkijiecaaW.PrintWords Go.Proofs.YtmhcgihkijiecaaW.PrintLast Go.Proofs.YtmhcgihkijiecaaW.PrintMore
set_option linter.unusedVariables false
set_option linter.unusedSimpArgs false
theorem spec_l1In.f_val (a b c : Int) : spec_l1In.f a b c = some (decide (b ≤ a) && decide (a ≤ c)) := by
  unfold spec_l1In.f
  by_cases h : a ≥ b
  · rw [if_pos h]
    simp [show b ≤ a from h]
  · rw [if_neg h]
    simp [show ¬ b ≤ a from h]
end Go.Proofs.Ytmhcgihkijiecaa.Fn
namespace Go.Proofs.Ytmhcgihkijiecaa.Fn
open Go.RowKit Go.Proofs.YtmhcgihkijiecaaW.PrintWords Go.Proofs.YtmhcgihkijiecaaW.PrintLast Go.Proofs.YtmhcgihkijiecaaW.PrintMore
set_option linter.unusedVariables false
set_option linter.unusedSimpArgs false
/-- All rows, in order. -/
def extsLoop (rec : List Int → Nat → List (List Int)) (hole shift : Int) (row : List Int) (used a : Nat) : Nat → Int → List (List Int)
  | 0, _ => []
  | m + 1, n => (if sePassed hole row used n ((a : Int) + n + shift) then [] else rec ((row.set a n).set ((a : Int) + n + shift).toNat n) (used ||| 2 ^ n.toNat)) ++ extsLoop rec hole shift row used a m (n + 1)
def exts (from_ : Int) (N : Nat) (shift hole : Int) : Nat → List Int → Nat → List (List Int)
  | 0, _, _ => []
  | k + 1, row, used => if seAt hole row = row.length then [row] else extsLoop (exts from_ N shift hole k) hole shift row used (seAt hole row) N from_
/-- A function called for rows, one after the other, until it ends. -/
def foldE {σ : Type} (each : σ → List Int → Option (σ × Bool)) : σ → List (List Int) → Option (σ × Bool)
  | s, [] => some (s, false)
  | s, x :: l => (each s x).bind fun p => if p.2 = true then some (p.1, true) else foldE each p.1 l
theorem foldE_append {σ : Type} (each : σ → List Int → Option (σ × Bool)) : ∀ (a b : List (List Int)) (s : σ), foldE each s (a ++ b) = (foldE each s a).bind fun p => if p.2 = true then some (p.1, true) else foldE each p.1 b
  | [], b, s => by simp [foldE]
  | x :: a, b, s => by
    simp only [List.cons_append, foldE]
    cases each s x with
    | none => rfl
    | some p =>
      simp only [Option.bind_some]
      by_cases h : p.2 = true
      · simp [h]
      · simp only [if_neg h]
        exact foldE_append each a b p.1
/-- The row as the program's search has it. -/
def freeH (hole : Int) (row : List Int) : List Int := (List.range row.length).map fun j : Nat => if rd row j = 0 ∧ (j : Int) ≠ hole then -1 else rd row j
theorem freeH_len (hole : Int) (row : List Int) : (freeH hole row).length = row.length := by simp [freeH]
theorem freeH_rd {hole : Int} {row : List Int} (j : Nat) (h : j < row.length) : rd (freeH hole row) j = if rd row j = 0 ∧ (j : Int) ≠ hole then -1 else rd row j := by
  rw [rd_nat _ j (by rw [freeH_len]; exact h)]
  simp [freeH]
theorem ext_rd {a b : List Int} (hl : a.length = b.length) (h : ∀ j : Nat, j < a.length → rd a j = rd b j) : a = b := by
  apply List.ext_getElem hl
  intro j h1 h2
  have := h j h1
  rwa [rd_nat a j h1, rd_nat b j h2] at this
theorem rd_set (l : List Int) (a : Nat) (v : Int) (j : Nat) (hj : j < l.length) : rd (l.set a v) j = if a = j then v else rd l j := by
  rw [rd_nat _ j (by rw [List.length_set]; exact hj), rd_nat l j hj, List.getElem_set]
theorem freeH_set {hole : Int} {row : List Int} {a : Nat} {n : Int} (hn : n ≠ 0) : (freeH hole row).set a n = freeH hole (row.set a n) := by
  apply ext_rd (by simp [freeH_len])
  intro j hj
  have hj' : j < row.length := by simpa [freeH_len] using hj
  rw [rd_set (freeH hole row) a n j (by rw [freeH_len]; exact hj'), freeH_rd (row := row) j hj', freeH_rd (row := row.set a n) j (by rw [List.length_set]; exact hj'), rd_set row a n j hj']
  by_cases e : a = j
  · simp [e, hn]
  · simp [e]
theorem freeAt_is : ∀ (l : List Int) (a : Nat), a ≤ l.length → (∀ j : Nat, j < a → rd l j ≠ -1) → (a < l.length → rd l a = -1) → freeAt l = a
  | [], a, h, _, _ => by
    simp at h
    simp [freeAt, h]
  | x :: l, 0, _, _, h => by
    have := h (by simp)
    simp [rd] at this
    simp [freeAt, this]
  | x :: l, a + 1, h, h1, h2 => by
    have hx := h1 0 (by omega)
    simp [rd] at hx
    have ih := freeAt_is l a (by simpa using h) (fun j hj => by
      have := h1 (j + 1) (by omega)
      simpa [rd] using this) (fun ha => by
      have := h2 (by simpa using ha)
      simpa [rd] using this)
    simp [freeAt, hx, ih]
theorem seAtFrom_spec (hole : Int) : ∀ (l : List Int) (i : Nat), ∃ a, seAtFrom hole l i = i + a ∧ a ≤ l.length ∧ (∀ j : Nat, j < a → rd l j ≠ 0 ∨ ((i + j : Nat) : Int) = hole) ∧ (a < l.length → rd l a = 0 ∧ ((i + a : Nat) : Int) ≠ hole)
  | [], i => ⟨0, rfl, Nat.le_refl _, fun j hj => by omega, fun h => by simp at h⟩
  | x :: l, i => by
    by_cases h : x = 0 ∧ (i : Int) ≠ hole
    · exact ⟨0, by rw [seAtFrom, if_pos h]; rfl, Nat.zero_le _, fun j hj => by omega, fun _ => ⟨by simpa [rd] using h.1, by simpa using h.2⟩⟩
    · obtain ⟨a, h1, h2, h3, h4⟩ := seAtFrom_spec hole l (i + 1)
      refine ⟨a + 1, by rw [seAtFrom, if_neg h, h1]; omega, by simpa using h2, fun j hj => ?_, fun ha => ?_⟩
      · cases j with
        | zero =>
          by_cases hx : x = 0
          · exact .inr (by simpa using Classical.byContradiction fun e => h ⟨hx, e⟩)
          · exact .inl (by simpa [rd] using hx)
        | succ j =>
          have := h3 j (by omega)
          rw [show i + (j + 1) = i + 1 + j by omega]
          simpa [rd] using this
      · have := h4 (by simpa using ha)
        rw [show i + (a + 1) = i + 1 + a by omega]
        simpa [rd] using this
theorem seAt_spec (hole : Int) (l : List Int) : seAt hole l ≤ l.length ∧ (∀ j : Nat, j < seAt hole l → rd l j ≠ 0 ∨ (j : Int) = hole) ∧ (seAt hole l < l.length → rd l (seAt hole l) = 0 ∧ ((seAt hole l : Nat) : Int) ≠ hole) := by
  obtain ⟨a, h1, h2, h3, h4⟩ := seAtFrom_spec hole l 0
  have e : seAt hole l = a := by rw [seAt, h1, Nat.zero_add]
  rw [e]
  exact ⟨h2, fun j hj => by simpa using h3 j hj, fun ha => by simpa using h4 ha⟩
theorem freeH_free {hole : Int} {row : List Int} (hp : ∀ j : Nat, j < row.length → 0 ≤ rd row j) : freeAt (freeH hole row) = seAt hole row := by
  obtain ⟨h1, h2, h3⟩ := seAt_spec hole row
  refine freeAt_is _ _ (by rw [freeH_len]; exact h1) (fun j hj => ?_) (fun ha => ?_)
  · rw [freeH_rd j (by omega)]
    have := hp j (by omega)
    split
    · rename_i h
      rcases h2 j hj with h4 | h4
      · exact absurd h.1 h4
      · exact absurd h4 h.2
    · omega
  · rw [freeH_len] at ha
    rw [freeH_rd _ ha, if_pos (h3 ha)]
theorem freeH_full {hole : Int} {row : List Int} (h : seAt hole row = row.length) : freeH hole row = row := by
  refine ext_rd (freeH_len _ _) (fun j hj => ?_)
  rw [freeH_len] at hj
  have := (seAt_spec hole row).2.1 j (by omega)
  rw [freeH_rd j hj, if_neg (fun e => this.elim (fun h => h e.1) (fun h => e.2 h))]
/-- What is left of the numbers from_, .., N of them. -/
def leftH (from_ : Int) (N used : Nat) : List Int := (List.range N).map fun i => if used.testBit (from_.toNat + i) = true then 0 else from_ + (i : Int)
theorem leftH_len (from_ : Int) (N used : Nat) : (leftH from_ N used).length = N := by simp [leftH]
theorem leftH_rd {from_ : Int} {N used i : Nat} (h : i < N) : rd (leftH from_ N used) i = if used.testBit (from_.toNat + i) = true then 0 else from_ + (i : Int) := by
  rw [rd_nat _ i (by rw [leftH_len]; exact h)]
  simp [leftH]
theorem leftH_set {from_ : Int} {N used i : Nat} (h : i < N) : (leftH from_ N used).set i 0 = leftH from_ N (used ||| 2 ^ (from_.toNat + i)) := by
  apply List.ext_getElem?
  intro j
  rw [List.getElem?_set, leftH_len]
  by_cases hj : i = j
  · subst hj
    rw [if_pos rfl, if_pos h]
    simp [leftH, h, Nat.testBit_or, Nat.testBit_two_pow]
  · rw [if_neg hj]
    rcases Nat.lt_or_ge j N with h2 | h2
    · simp [leftH, h2, Nat.testBit_or, Nat.testBit_two_pow, hj]
    · rw [List.getElem?_eq_none (by rw [leftH_len]; exact h2), List.getElem?_eq_none (by rw [leftH_len]; exact h2)]
theorem count_free {r : List Int} {a : Nat} {n : Int} (t : Nat) (ha : a < r.length) (h0 : rd r a = -1) (hn : n ≠ -1) : ((r.set a n).set t n).count (-1) < r.count (-1) := by
  have hmem : (-1 : Int) ∈ r := by
    rw [rd_nat r a ha] at h0
    rw [← h0]
    exact List.getElem_mem ha
  have hpos := List.count_pos_iff.2 hmem
  have h1 : (r.set a n).count (-1) = r.count (-1) - 1 := by
    rw [List.count_set ha]
    rw [rd_nat r a ha] at h0
    simp [h0, hn]
  rcases Nat.lt_or_ge t (r.set a n).length with h | h
  · rw [List.count_set h, h1]
    simp only [beq_iff_eq, hn, if_false, Nat.add_zero]
    omega
  · rw [List.set_eq_of_length_le h, h1]
    omega
theorem fillLoop_exts {σ : Type} {each : σ → List Int → Option (σ × Bool)} {row told : List Int} {from_ shift hole : Int} {N used k : Nat} {rec : σ → List Int → List Int → Option (σ × Bool)} {recE : List Int → Nat → List (List Int)} (hz : ∀ j : Int, rd told j = 0) (hf : 1 ≤ from_) (hs : 0 ≤ shift) (hpos : ∀ j : Nat, j < row.length → 0 ≤ rd row j)
    (hrec : ∀ s row' used', row'.length = row.length → (freeH hole row').count (-1) < k → (∀ j : Nat, j < row'.length → 0 ≤ rd row' j) → rec s (freeH hole row') (leftH from_ N used') = foldE each s (recE row' used')) (hk : (freeH hole row).count (-1) < k + 1) (ha : seAt hole row < row.length) :
    ∀ (m i : Nat) (s : σ), i + m = N → fillLoop rec (freeH hole row) told (leftH from_ N used) shift m i s = foldE each s (extsLoop recE hole shift row used (seAt hole row) m (from_ + (i : Int)))
  | 0, i, s, hi => rfl
  | m + 1, i, s, hi => by
    have hfa := freeH_free (hole := hole) hpos
    have hn := leftH_rd (from_ := from_) (N := N) (used := used) (i := i) (by omega)
    have hnx : from_ + (i : Int) + 1 = from_ + ((i + 1 : Nat) : Int) := by omega
    have hb : (from_ + (i : Int)).toNat = from_.toNat + i := by omega
    by_cases hbit : used.testBit (from_.toNat + i) = true
    · rw [if_pos hbit] at hn
      have hp : sePassed hole row used (from_ + (i : Int)) ((seAt hole row : Int) + (from_ + (i : Int)) + shift) := .inl (by rw [hb]; exact hbit)
      rw [fillLoop_pass hfa hn rfl (.inl rfl), fillLoop_exts hz hf hs hpos hrec hk ha m (i + 1) s (by omega), extsLoop, if_pos hp, List.nil_append, hnx]
    · rw [if_neg hbit] at hn
      obtain ⟨n, hne⟩ : ∃ n, from_ + (i : Int) = n := ⟨_, rfl⟩
      rw [hne] at hn hnx hb ⊢
      obtain ⟨t, ht⟩ : ∃ t, (seAt hole row : Int) + n + shift = t := ⟨_, rfl⟩
      have hn1 : 1 ≤ n := by omega
      obtain ⟨tn, htn⟩ : ∃ tn : Nat, t = (tn : Int) := ⟨t.toNat, by omega⟩
      have hcond : passed (freeH hole row) told (seAt hole row) n t ↔ sePassed hole row used n t := by
        have hb2 : ¬ used.testBit n.toNat = true := by rw [hb]; exact hbit
        have hrd : tn < row.length → (rd (freeH hole row) t ≠ -1 ↔ (t = hole ∨ rd row t ≠ 0)) := fun h => by
          rw [htn, freeH_rd tn h]
          have h6 := hpos tn h
          by_cases h3 : rd row (tn : Int) = 0 ∧ (tn : Int) ≠ hole
          · rw [if_pos h3]
            simp [h3]
          · rw [if_neg h3]
            constructor
            · intro _
              by_cases h7 : rd row (tn : Int) = 0
              · exact .inl (Classical.byContradiction fun e => h3 ⟨h7, e⟩)
              · exact .inr h7
            · intro _; omega
        unfold passed
        rw [freeH_len, hz, hz]
        constructor
        · rintro (h | h | h | h | h)
          · omega
          · exact .inr (.inl h)
          · by_cases h5 : (row.length : Int) ≤ t
            · exact .inr (.inl h5)
            · exact .inr (.inr ((hrd (by omega)).1 h))
          · exact absurd rfl h.1
          · exact absurd rfl h.1
        · rintro (h | h | h)
          · exact absurd h hb2
          · exact .inr (.inl h)
          · by_cases h5 : (row.length : Int) ≤ t
            · exact .inr (.inl h5)
            · exact .inr (.inr (.inl ((hrd (by omega)).2 h)))
      by_cases hp : sePassed hole row used n t
      · rw [fillLoop_pass hfa hn ht (hcond.2 hp), fillLoop_exts hz hf hs hpos hrec hk ha m (i + 1) s (by omega), extsLoop, ht, if_pos hp, List.nil_append, hnx]
      · have hat := (seAt_spec hole row).2.2 ha
        have hfr : rd (freeH hole row) (seAt hole row) = -1 := by rw [freeH_rd _ ha, if_pos hat]
        have hc := count_free (n := n) t.toNat (by rw [freeH_len]; exact ha) hfr (by omega)
        rw [fillLoop_put hfa hn ht (fun h => hp (hcond.1 h)), freeH_set (show n ≠ 0 by omega), freeH_set (show n ≠ 0 by omega), leftH_set (show i < N by omega), hrec s _ _ (by simp) (by rw [freeH_set (show n ≠ 0 by omega), freeH_set (show n ≠ 0 by omega)] at hc; omega) (fun j hj => by
          have hj' : j < row.length := by simpa using hj
          rw [rd_set _ _ _ _ (by simpa using hj'), rd_set _ _ _ _ hj']
          have := hpos j hj'
          split
          · omega
          · split
            · omega
            · exact this), extsLoop, ht, if_neg hp, foldE_append, ← hb]
        cases foldE each s (recE ((row.set (seAt hole row) n).set t.toNat n) (used ||| 2 ^ n.toNat)) with
        | none => rfl
        | some p =>
          simp only [Option.bind_some]
          by_cases h8 : p.2 = true
          · rw [if_pos h8, if_pos h8]
          · rw [if_neg h8, if_neg h8, fillLoop_exts hz hf hs hpos hrec hk ha m (i + 1) p.1 (by omega), hnx]
theorem fillF_exts {σ : Type} (each : σ → List Int → Option (σ × Bool)) (told : List Int) (from_ shift hole : Int) (N : Nat) (hz : ∀ j : Int, rd told j = 0) (hf : 1 ≤ from_) (hs : 0 ≤ shift) : ∀ (k : Nat) (s : σ) (row : List Int) (used : Nat), (freeH hole row).count (-1) < k → (∀ j : Nat, j < row.length → 0 ≤ rd row j) → fillF each told shift k s (freeH hole row) (leftH from_ N used) = foldE each s (exts from_ N shift hole k row used)
  | 0, s, row, used, h, hp => by omega
  | k + 1, s, row, used, h, hp => by
    have hfa := freeH_free (hole := hole) hp
    unfold fillF exts
    rw [hfa, freeH_len]
    by_cases h2 : seAt hole row = row.length
    · rw [if_pos h2, if_pos h2, freeH_full h2]
      simp only [foldE]
      cases each s row with
      | none => rfl
      | some p =>
        simp only [Option.bind_some]
        by_cases h8 : p.2 = true
        · rw [if_pos h8, ← h8]
        · rw [if_neg h8]
          rw [Bool.not_eq_true] at h8
          rw [← h8]
    · have := (seAt_spec hole row).1
      rw [if_neg h2, if_neg h2, leftH_len, fillLoop_exts hz hf hs hp (fun s row' used' h1 h2 h3 => fillF_exts each told from_ shift hole N hz hf hs k s row' used' h2 h3) h (by omega) N 0 s (by omega)]
      simp
theorem take_more' {α : Type} (a b : List α) (n : Nat) : (a.take n ++ b).take n = (a ++ b).take n := by
  rcases Nat.le_total n a.length with h | h
  · rw [List.take_append_of_le_length (by rw [List.length_take]; omega), List.take_append_of_le_length h, List.take_take, Nat.min_self]
  · rw [List.take_of_length_le h]
theorem seLoop_exts {row : List Int} {from_ shift hole : Int} {used k most : Nat} {rec : SeSt → List Int → Nat → Option SeSt} {recE : List Int → Nat → List (List Int)} (hf : 1 ≤ from_) (hs : 0 ≤ shift) (hpos : ∀ j : Nat, j < row.length → 0 ≤ rd row j)
    (hrec : ∀ c xs row' used', (freeH hole row').count (-1) < k → (∀ j : Nat, j < row'.length → 0 ≤ rd row' j) → xs.length ≤ most → c + (recE row' used').length ≤ 1000000000000 → rec (c, xs) row' used' = some (c + (recE row' used').length, (xs ++ recE row' used').take most)) (hk : (freeH hole row).count (-1) < k + 1) (ha : seAt hole row < row.length) :
    ∀ (m : Nat) (n : Int) (c : Nat) (xs : List (List Int)), 1 ≤ n → xs.length ≤ most → c + (extsLoop recE hole shift row used (seAt hole row) m n).length ≤ 1000000000000 → seLoop rec hole shift row used (seAt hole row) m n (c, xs) = some (c + (extsLoop recE hole shift row used (seAt hole row) m n).length, (xs ++ extsLoop recE hole shift row used (seAt hole row) m n).take most)
  | 0, n, c, xs, hn, hx, hc => by
    simp only [seLoop, extsLoop, List.append_nil, List.length_nil, Nat.add_zero]
    rw [List.take_of_length_le hx]
  | m + 1, n, c, xs, hn, hx, hc => by
    obtain ⟨t, ht⟩ : ∃ t, (seAt hole row : Int) + n + shift = t := ⟨_, rfl⟩
    by_cases hp : sePassed hole row used n t
    · have e : extsLoop recE hole shift row used (seAt hole row) (m + 1) n = extsLoop recE hole shift row used (seAt hole row) m (n + 1) := by
        rw [extsLoop, ht, if_pos hp, List.nil_append]
      rw [e] at hc ⊢
      rw [seLoop_pass ht hp, seLoop_exts hf hs hpos hrec hk ha m (n + 1) c xs (by omega) hx hc]
    · have e : extsLoop recE hole shift row used (seAt hole row) (m + 1) n = recE ((row.set (seAt hole row) n).set t.toNat n) (used ||| 2 ^ n.toNat) ++ extsLoop recE hole shift row used (seAt hole row) m (n + 1) := by
        rw [extsLoop, ht, if_neg hp]
      have hat := (seAt_spec hole row).2.2 ha
      have hfr : rd (freeH hole row) (seAt hole row) = -1 := by rw [freeH_rd _ ha, if_pos hat]
      have hc2 := count_free (n := n) t.toNat (by rw [freeH_len]; exact ha) hfr (by omega)
      rw [freeH_set (show n ≠ 0 by omega), freeH_set (show n ≠ 0 by omega)] at hc2
      rw [e] at hc ⊢
      rw [List.length_append] at hc ⊢
      rw [seLoop_put ht hp, hrec c xs _ _ (by omega) (fun j hj => by
          have hj' : j < row.length := by simpa using hj
          rw [rd_set _ _ _ _ (by simpa using hj'), rd_set _ _ _ _ hj']
          have := hpos j hj'
          split
          · omega
          · split
            · omega
            · exact this) hx (by omega), Option.bind_some, seLoop_exts hf hs hpos hrec hk ha m (n + 1) _ _ (by omega) (by rw [List.length_take]; omega) (by omega), take_more', List.append_assoc, Nat.add_assoc]
theorem seF_exts (from_ to_ shift hole : Int) (most : Nat) (hm : most ≤ 1000000) (hf : 1 ≤ from_) (hs : 0 ≤ shift) : ∀ (k c : Nat) (xs : List (List Int)) (row : List Int) (used : Nat), (freeH hole row).count (-1) < k → (∀ j : Nat, j < row.length → 0 ≤ rd row j) → xs.length ≤ most → c + (exts from_ (to_ + 1 - from_).toNat shift hole k row used).length ≤ 1000000000000 → seF from_ to_ shift hole (most : Int) k (c, xs) row used = some (c + (exts from_ (to_ + 1 - from_).toNat shift hole k row used).length, (xs ++ exts from_ (to_ + 1 - from_).toNat shift hole k row used).take most)
  | 0, c, xs, row, used, h, hp, hx, hc => by omega
  | k + 1, c, xs, row, used, h, hp, hx, hc => by
    unfold seF
    by_cases h2 : seAt hole row = row.length
    · have e : exts from_ (to_ + 1 - from_).toNat shift hole (k + 1) row used = [row] := by rw [exts, if_pos h2]
      rw [e] at hc ⊢
      have hc' : c + 1 ≤ 1000000000000 := hc
      rw [if_pos h2, if_pos ⟨by show c < _; omega, by show xs.length < _; omega⟩]
      show some (c + 1, if (xs.length : Int) < (most : Int) then xs ++ [row] else xs) = _
      by_cases h3 : (xs.length : Int) < (most : Int)
      · rw [if_pos h3, List.take_of_length_le (by simp; omega)]
        rfl
      · rw [if_neg h3, List.take_append_of_le_length (by omega), List.take_of_length_le (by omega)]
        rfl
    · have e : exts from_ (to_ + 1 - from_).toNat shift hole (k + 1) row used = extsLoop (exts from_ (to_ + 1 - from_).toNat shift hole k) hole shift row used (seAt hole row) (to_ + 1 - from_).toNat from_ := by rw [exts, if_neg h2]
      rw [e] at hc ⊢
      have := (seAt_spec hole row).1
      rw [if_neg h2]
      exact seLoop_exts hf hs hp (fun c xs row' used' h1 h3 h4 h5 => seF_exts from_ to_ shift hole most hm hf hs k c xs row' used' h1 h3 h4 h5) h (by omega) _ _ c xs hf hx hc
/-- So many of the numbers are not used. -/
def unset (used : Nat) : Nat → Nat → Nat
  | _, 0 => 0
  | b, m + 1 => (if used.testBit b = true then 0 else 1) + unset used (b + 1) m
theorem unset_same {u v : Nat} : ∀ (m b : Nat), (∀ j, b ≤ j → u.testBit j = v.testBit j) → unset u b m = unset v b m
  | 0, b, h => rfl
  | m + 1, b, h => by
    rw [unset, unset, h b (Nat.le_refl _), unset_same m (b + 1) (fun j hj => h j (by omega))]
theorem unset_or {u c : Nat} (hu : u.testBit c = false) : ∀ (m b : Nat), b ≤ c → c < b + m → unset (u ||| 2 ^ c) b m + 1 = unset u b m
  | 0, b, h1, h2 => by omega
  | m + 1, b, h1, h2 => by
    by_cases e : c = b
    · subst e
      have h3 := unset_same (u := u ||| 2 ^ c) (v := u) m (c + 1) (fun j hj => by
        rw [Nat.testBit_or, Nat.testBit_two_pow]
        have : ¬ c = j := by omega
        simp [this])
      rw [unset, unset, h3]
      simp [Nat.testBit_or, Nat.testBit_two_pow, hu]
      omega
    · have ih := unset_or hu m (b + 1) (by omega) (by omega)
      rw [unset, unset, Nat.testBit_or, Nat.testBit_two_pow]
      simp only [e, decide_false, Bool.or_false]
      omega
def fct : Nat → Nat
  | 0 => 1
  | n + 1 => (n + 1) * fct n
theorem fct_pos : ∀ n, 1 ≤ fct n
  | 0 => Nat.le_refl _
  | n + 1 => by
    have := fct_pos n
    rw [fct]
    exact Nat.le_trans this (Nat.le_mul_of_pos_left _ (Nat.succ_pos n))
theorem extsLoop_len {recE : List Int → Nat → List (List Int)} {hole shift : Int} {row : List Int} {used a B : Nat} {from_ : Int} {N : Nat} (hf : 1 ≤ from_) (hB : ∀ i, i < N → used.testBit (from_.toNat + i) = false → ∀ row', (recE row' (used ||| 2 ^ (from_.toNat + i))).length ≤ B) : ∀ (m i : Nat), i + m = N → (extsLoop recE hole shift row used a m (from_ + (i : Int))).length ≤ unset used (from_.toNat + i) m * B
  | 0, i, h => by simp [extsLoop]
  | m + 1, i, h => by
    have ih := extsLoop_len (recE := recE) (hole := hole) (shift := shift) (row := row) (a := a) hf hB m (i + 1) (by omega)
    have hnx : from_ + (i : Int) + 1 = from_ + ((i + 1 : Nat) : Int) := by omega
    have hb : (from_ + (i : Int)).toNat = from_.toNat + i := by omega
    rw [extsLoop, unset, List.length_append, hnx]
    rw [show from_.toNat + (i + 1) = from_.toNat + i + 1 by omega] at ih
    by_cases hbit : used.testBit (from_.toNat + i) = true
    · rw [if_pos hbit, if_pos (.inl (by rw [hb]; exact hbit))]
      simpa using ih
    · rw [if_neg hbit, Nat.add_mul, Nat.one_mul]
      refine Nat.add_le_add ?_ ih
      split
      · exact Nat.zero_le _
      · rw [hb]
        exact hB i (by omega) (Bool.eq_false_iff.mpr hbit) _
theorem exts_len (from_ : Int) (N : Nat) (shift hole : Int) (hf : 1 ≤ from_) : ∀ (k : Nat) (row : List Int) (used : Nat), (exts from_ N shift hole k row used).length ≤ fct (unset used from_.toNat N)
  | 0, row, used => Nat.zero_le _
  | k + 1, row, used => by
    rw [exts]
    split
    · exact fct_pos _
    · have h := extsLoop_len (recE := exts from_ N shift hole k) (hole := hole) (shift := shift) (row := row) (used := used) (a := seAt hole row) (B := fct (unset used from_.toNat N - 1)) (N := N) hf (fun i hi hb row' => by
        have h1 := exts_len from_ N shift hole hf k row' (used ||| 2 ^ (from_.toNat + i))
        have h2 := unset_or hb N from_.toNat (by omega) (by omega)
        have h3 : unset (used ||| 2 ^ (from_.toNat + i)) from_.toNat N = unset used from_.toNat N - 1 := by omega
        rw [h3] at h1
        exact h1) N 0 (by omega)
      have e0 : from_ + ((0 : Nat) : Int) = from_ := by simp
      rw [e0, Nat.add_zero] at h
      refine Nat.le_trans h ?_
      generalize unset used from_.toNat N = U
      cases U with
      | zero => simp
      | succ U => exact Nat.le_refl _
theorem unset_zero : ∀ (m b : Nat), unset 0 b m = m
  | 0, _ => rfl
  | m + 1, b => by
    rw [unset, unset_zero m (b + 1), Nat.zero_testBit]
    simp
    omega
theorem fct_small {n : Nat} (h : n ≤ 7) : fct n ≤ 5040 := by
  have : n = 0 ∨ n = 1 ∨ n = 2 ∨ n = 3 ∨ n = 4 ∨ n = 5 ∨ n = 6 ∨ n = 7 := by omega
  rcases this with rfl | rfl | rfl | rfl | rfl | rfl | rfl | rfl <;> decide
end Go.Proofs.Ytmhcgihkijiecaa.Fn
namespace Go.Proofs.Ytmhcgihkijiecaa.Fn
open Go.RowKit Go.Proofs.YtmhcgihkijiecaaW.PrintWords Go.Proofs.YtmhcgihkijiecaaW.PrintLast Go.Proofs.YtmhcgihkijiecaaW.PrintMore
set_option linter.unusedVariables false
set_option linter.unusedSimpArgs false
def extRows (n hole : Int) : List (List Int) := exts 1 n.toNat 0 hole (2 * n.toNat + 1 + 1) (List.replicate (2 * n.toNat + 1) 0) 0
theorem replicate_rd (p : Nat) (v : Int) (j : Nat) (h : j < p) : rd (List.replicate p v) j = v := by
  rw [rd_nat _ j (by simpa using h)]
  simp
theorem extRun_exts {n hole : Int} (h : extOk n hole = true) {σ : Type} (each : σ → List Int → Option (σ × Bool)) (s : σ) : extRun n hole each s = foldE each s (extRows n hole) := by
  have hd := of_decide_eq_true h
  have e1 : rowStart (2 * n.toNat + 1) hole = freeH hole (List.replicate (2 * n.toNat + 1) 0) := by
    refine ext_rd (by rw [rowStart_len, freeH_len, List.length_replicate]) (fun j hj => ?_)
    rw [rowStart_len] at hj
    rw [freeH_rd j (by simpa using hj), replicate_rd _ _ j hj]
    unfold rowStart
    rw [if_pos hd.2.2.1, rd_set _ _ _ _ (by simpa using hj), replicate_rd _ _ j hj]
    by_cases e : hole.toNat = j
    · have e2 : (j : Int) = hole := by omega
      simp [e, e2]
    · have e2 : ¬ (j : Int) = hole := by omega
      simp [e, e2]
  have e2 : numbersUp 1 n.toNat = leftH 1 n.toNat 0 := by simp [numbersUp, leftH]
  rw [extRun, if_pos h, rowsRun, e1, e2, fillF_exts each _ 1 0 hole n.toNat (fun j => by
    unfold rd
    rw [List.getD_eq_getElem?_getD, List.getElem?_replicate]
    split <;> rfl) (by omega) (by omega) _ s _ 0 (by
      have := List.count_le_length (a := (-1 : Int)) (l := freeH hole (List.replicate (2 * n.toNat + 1) 0))
      rw [freeH_len, List.length_replicate] at this
      omega) (fun j hj => by rw [replicate_rd _ _ j (by simpa using hj)]; omega)]
  rfl
theorem extRows_len {n hole : Int} (h : extOk n hole = true) : (extRows n hole).length ≤ 5040 := by
  have hd := of_decide_eq_true h
  have h1 := exts_len 1 n.toNat 0 hole (by omega) (2 * n.toNat + 1 + 1) (List.replicate (2 * n.toNat + 1) 0) 0
  rw [unset_zero] at h1
  exact Nat.le_trans h1 (fct_small (by omega))
theorem seF_rows {n hole : Int} (h : extOk n hole = true) (most : Nat) (hm : most ≤ 1000000) : seF 1 n 0 hole (most : Int) (2 * n.toNat + 1 + 1) (0, []) (List.replicate (2 * n.toNat + 1) 0) 0 = some ((extRows n hole).length, (extRows n hole).take most) := by
  have hl := extRows_len h
  unfold extRows at hl ⊢
  have e : (n + 1 - 1).toNat = n.toNat := by omega
  have := seF_exts 1 n 0 hole most hm (by omega) (by omega) (2 * n.toNat + 1 + 1) 0 [] (List.replicate (2 * n.toNat + 1) 0) 0 (by
      have := List.count_le_length (a := (-1 : Int)) (l := freeH hole (List.replicate (2 * n.toNat + 1) 0))
      rw [freeH_len, List.length_replicate] at this
      omega) (fun j hj => by rw [replicate_rd _ _ j (by simpa using hj)]; omega) (Nat.zero_le _) (by rw [e]; omega)
  rw [e] at this
  simpa using this
theorem spec_hoAsked.f_val (n hole : Int) : spec_hoAsked.f n 7 hole = some (extOk n hole) := by
  unfold spec_hoAsked.f extOk
  rw [spec_l1In.f_val]
  simp only [Option.bind_some]
  by_cases h : 1 ≤ n ∧ n ≤ 7
  · rw [if_pos (by simp [h]), spec_l1In.f_val, wrap_in (by omega) (by omega)]
    simp [h]
  · rw [if_neg (by simpa using h), decide_eq_false (fun e => h ⟨e.1, e.2.1⟩)]
end Go.Proofs.Ytmhcgihkijiecaa.Fn
namespace Go.Proofs.Ytmhcgihkijiecaa.Fn
open Go.RowKit Go.Proofs.YtmhcgihkijiecaaW.PrintWords Go.Proofs.YtmhcgihkijiecaaW.PrintLast Go.Proofs.YtmhcgihkijiecaaW.PrintMore
set_option linter.unusedVariables false
set_option linter.unusedSimpArgs false
theorem extsLoop_mem {rec : List Int → Nat → List (List Int)} {hole shift : Int} {row : List Int} {used a L : Nat} (hrec : ∀ row' used' x, row'.length = L → x ∈ rec row' used' → x.length = L) (hL : row.length = L) : ∀ (m : Nat) (n : Int) (x : List Int), x ∈ extsLoop rec hole shift row used a m n → x.length = L
  | 0, n, x, h => by simp [extsLoop] at h
  | m + 1, n, x, h => by
    rw [extsLoop] at h
    rcases List.mem_append.1 h with h | h
    · split at h
      · simp at h
      · exact hrec _ _ x (by simpa using hL) h
    · exact extsLoop_mem hrec hL m (n + 1) x h
theorem exts_mem (from_ : Int) (N : Nat) (shift hole : Int) : ∀ (k : Nat) (row : List Int) (used : Nat) (x : List Int), x ∈ exts from_ N shift hole k row used → x.length = row.length
  | 0, row, used, x, h => by simp [exts] at h
  | k + 1, row, used, x, h => by
    rw [exts] at h
    split at h
    · rw [List.mem_singleton.1 h]
    · exact extsLoop_mem (L := row.length) (fun row' used' x h1 h2 => (exts_mem from_ N shift hole k row' used' x h2).trans h1) rfl _ _ x h
theorem extRows_mem {n hole : Int} {x : List Int} (h : x ∈ extRows n hole) : x.length = 2 * n.toNat + 1 := by
  have := exts_mem _ _ _ _ _ _ _ _ h
  simpa using this
def firstExtended (n hole : Int) : List Int × Bool := if extOk n hole = true then (match extRows n hole with | [] => ([], false) | x :: _ => (x, true)) else ([], false)
theorem firstExtended_len (n hole : Int) : (firstExtended n hole).1.length ≤ 15 := by
  unfold firstExtended
  split
  · rename_i h
    have hd := of_decide_eq_true h
    have hm := fun x => extRows_mem (n := n) (hole := hole) (x := x)
    cases hL : extRows n hole with
    | nil => simp
    | cons x l =>
      have h5 : x.length = 2 * n.toNat + 1 := hm x (by rw [hL]; simp)
      show x.length ≤ 15
      omega
  · simp
theorem impl_FirstExtended.f_val (n hole : Int) : impl_FirstExtended.f n hole = some (firstExtended n hole) := by
  unfold impl_FirstExtended.f firstExtended
  by_cases h : extOk n hole = true
  · have hm := fun x => extRows_mem (n := n) (hole := hole) (x := x)
    rw [extRun_exts h, if_pos h]
    cases hL : extRows n hole with
    | nil => rfl
    | cons x l =>
      have h5 : x.length = 2 * n.toNat + 1 := hm x (by rw [hL]; simp)
      have e : decide ((0 : Int) < (x.length : Int)) = true := decide_eq_true (by omega)
      simp only [foldE, eachFirst, Option.bind_some, if_true, e]
  · rw [extRun, if_neg h, if_neg h]
    rfl
theorem spec_FirstExtended.f_val (n hole : Int) : spec_FirstExtended.f n hole = some (firstExtended n hole) := by
  unfold spec_FirstExtended.f firstExtended
  rw [spec_hoAsked.f_val]
  simp only [Option.bind_some]
  by_cases h : extOk n hole = true
  · have hd := of_decide_eq_true h
    have hs := seF_rows h 1 (by omega)
    rw [if_pos h, if_pos h, if_pos (by omega)]
    rw [show ((1 : Nat) : Int) = 1 from rfl] at hs
    rw [hs]
    cases extRows n hole with
    | nil => rfl
    | cons x l => simp [seFirstOf]
  · rw [if_neg h, if_neg h]
end Go.Proofs.Ytmhcgihkijiecaa.Fn
namespace Go.Proofs.Ytmhcgihkijiecaa.Pure
open Go.RowKit Go.Proofs.Ytmhcgihkijiecaa.Fn Go.Proofs.YtmhcgihkijiecaaW.PrintWords Go.Proofs.YtmhcgihkijiecaaW.PrintLast Go.Proofs.YtmhcgihkijiecaaW.PrintMore
set_option linter.unusedVariables false
set_option linter.unusedSimpArgs false
theorem FnExactFirstExtended : laws_FnExactFirstExtended.Pure := by
  intro a0 a1 _ _
  refine Lim.rounds (laws_FnExactFirstExtended.F_lim a0 a1) ?_
  rw [laws_FnExactFirstExtended.F_eq]
  have s := spec_FirstExtended.f_val a0 a1
  have i := impl_FirstExtended.f_val a0 a1
  have hl := firstExtended_len a0 a1
  generalize firstExtended a0 a1 = p at s i hl
  obtain ⟨x, b⟩ := p
  have hl' : x.length ≤ 15 := hl
  have q := laws_eqIntS.F_same x (by omega)
  have m := laws_markIntS.F_val x 1 (by omega) (by omega)
  have hh := laws_heldIntS.F_val x.length 1 (by omega) (by omega)
  have n0 : ¬ ((1 : Int) + (x.length : Int) < 0) := by omega
  simp only [s, i, q, m, hh, n0, Option.bind_some, if_true, bne_self_eq_false, if_false, Bool.false_eq_true, laws_FnExactFirstExtended.J0_eq, laws_FnExactFirstExtended.J1_eq]
end Go.Proofs.Ytmhcgihkijiecaa.Pure
