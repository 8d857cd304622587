/- The machine's side and plain lemmas for FnDotsTurned: texts of this session, merged by its program (part 2). -/
import Derived.Test.YtadhfbchilaklaaMFnDotsTurned0
import Derived.Test.YtadhfbchilaklaaMFnDotsTurned1
namespace Go.Proofs.Ytadhfbchilaklaa.Fn
open Go.RowKit Go.Proofs.YtadhfbchilaklaaW.PrintWords Go.Proofs.YtadhfbchilaklaaW.PrintLast Go.Proofs.YtadhfbchilaklaaW.PrintMore
attribute [local go_sem] max2_int min2_int max_two min_two max_three min_three max_four min_four   -- for this text's walks alone
set_option linter.unusedVariables false
set_option linter.unusedSimpArgs false

/-! ### spec_l1Cur_dots: function 193 -/
mutual
def spec_l1Cur_dots.l0 : Nat → Int → List Int → Int → List Int → Int → Int → Option (List Int × Int × Int)
 | 0, _, _, _, _, _, _ => none
 | k + 1, x5, x6, x7, x1000, x1001, x1002 => if x7 < x5 then ((spec_l1Cur_pick.f x1000 x1001 x1002 (wrap64 (x7 + 1))).bind fun bt382 => ((insAt.f x6 bt382.1 x7).bind fun t385 => (spec_l1Cur_dots.l0 k x5 t385 (wrap64 (x7 + 1)) x1000 bt382.2.1 bt382.2.2))) else ((spec_l1Cur_pick.f x1000 x1001 x1002 12).bind fun bt388 => (if bt388.1 = 0 then ((spec_l1Cur_pick.f x1000 bt388.2.1 bt388.2.2 x5).bind fun bt391 => ((spec_l1Cur_among.f x1000 bt391.2.1 bt391.2.2 (([(-1), x5, 0, 4611686018427387904] : List Int))).bind fun bt397 => (if 0 ≤ bt391.1 then (if bt391.1 < (x6.length : Int) then (if (x6.length : Int) = 0 then (some ((([0, 1, 3, 2] : List Int)), bt397.2.1, bt397.2.2)) else (some ((x6.set (bt391.1 : Int).toNat bt397.1), bt397.2.1, bt397.2.2))) else (none)) else (none)))) else (if bt388.1 = 1 then (some (([] : List Int), bt388.2.1, bt388.2.2)) else (if bt388.1 = 2 then (spec_l1Cur_dots.j1 k x5 x6 bt388.1 (bt388.1 == 2) x1000 bt388.2.1 bt388.2.2) else (if bt388.1 = 3 then (spec_l1Cur_dots.j1 k x5 x6 bt388.1 (bt388.1 == 3) x1000 bt388.2.1 bt388.2.2) else (spec_l1Cur_dots.j1 k x5 x6 bt388.1 (bt388.1 == 4) x1000 bt388.2.1 bt388.2.2))))))
def spec_l1Cur_dots.j1 : Nat → Int → List Int → Int → Bool → List Int → Int → Int → Option (List Int × Int × Int)
 | 0, _, _, _, _, _, _, _ => none
 | k + 1, x5, x6, x35, x49, x1000, x1001, x1002 => if x49 = true then ((spec_l1Cur_among.f x1000 x1001 x1002 (([3, 5, 7, 11] : List Int))).bind fun bt407 => ((spec_PowersDots.f k bt407.1 2).bind fun bt410 => (if (bt410.1.length : Int) = 0 then (some ((([0, 1, 3, 2] : List Int)), bt407.2.1, bt407.2.2)) else (some (bt410.1, bt407.2.1, bt407.2.2))))) else (if x35 = 5 then (spec_l1Cur_dots.j2 k x5 x6 x35 (x35 == 5) x1000 x1001 x1002) else (spec_l1Cur_dots.j2 k x5 x6 x35 (x35 == 6) x1000 x1001 x1002))
def spec_l1Cur_dots.j2 : Nat → Int → List Int → Int → Bool → List Int → Int → Int → Option (List Int × Int × Int)
 | 0, _, _, _, _, _, _, _ => none
 | k + 1, x5, x6, x35, x60, x1000, x1001, x1002 => if x60 = true then ((spec_l1Cur_among.f x1000 x1001 x1002 (([2, 3] : List Int))).bind fun bt420 => ((spec_l1Cur_among.f x1000 bt420.2.1 bt420.2.2 (([2, 3] : List Int))).bind fun bt426 => ((spec_LogsDots.f k 5 bt420.1 bt426.1).bind fun bt429 => (if (bt429.1.length : Int) = 0 then (some ((([0, 1, 3, 2] : List Int)), bt426.2.1, bt426.2.2)) else (some (bt429.1, bt426.2.1, bt426.2.2)))))) else (if x35 = 7 then ((some (([0] : List Int) : List Int)).bind fun y436 => ((spec_l1Cur_dotsUp.f k x1000 x1001 x1002 x5).bind fun bt439 => (if y436.length + bt439.1.length < 17592186044416 then (some ((y436 ++ bt439.1), bt439.2.1, bt439.2.2)) else (none)))) else (if (x6.length : Int) = 0 then (some ((([0, 1, 3, 2] : List Int)), x1001, x1002)) else (some (x6, x1001, x1002))))
end
def spec_l1Cur_dots.f (k : Nat) (s0_0 : List Int) (s0_1 : Int) (s0_2 : Int) (a1 : Int) : Option (List Int × Int × Int) := (spec_l1Cur_pick.f s0_0 s0_1 s0_2 a1).bind fun bt379 => (spec_l1Cur_dots.l0 k (wrap64 (1 + bt379.1)) ([] : List Int) 0 s0_0 bt379.2.1 bt379.2.2)
theorem spec_l1Cur_dots.mono_l : ∀ k, (∀ y0 y1 y2 y3 y4 y5, LeO (spec_l1Cur_dots.l0 k y0 y1 y2 y3 y4 y5) (spec_l1Cur_dots.l0 (k + 1) y0 y1 y2 y3 y4 y5)) ∧ (∀ y0 y1 y2 y3 y4 y5 y6, LeO (spec_l1Cur_dots.j1 k y0 y1 y2 y3 y4 y5 y6) (spec_l1Cur_dots.j1 (k + 1) y0 y1 y2 y3 y4 y5 y6)) ∧ (∀ y0 y1 y2 y3 y4 y5 y6, LeO (spec_l1Cur_dots.j2 k y0 y1 y2 y3 y4 y5 y6) (spec_l1Cur_dots.j2 (k + 1) y0 y1 y2 y3 y4 y5 y6))
 | 0 => ⟨fun _ _ _ _ _ _ r h => by simp [spec_l1Cur_dots.l0] at h, fun _ _ _ _ _ _ _ r h => by simp [spec_l1Cur_dots.j1] at h, fun _ _ _ _ _ _ _ r h => by simp [spec_l1Cur_dots.j2] at h⟩
 | k + 1 => by
  obtain ⟨ih0, ih1, ih2⟩ := spec_l1Cur_dots.mono_l k
  refine ⟨?_, ?_, ?_⟩
  ·intro y0 y1 y2 y3 y4 y5
   unfold spec_l1Cur_dots.l0
   repeat' (first | (with_reducible first | exact ih0 _ _ _ _ _ _ | exact ih1 _ _ _ _ _ _ _ | exact LeO.refl _ | exact LeO.none _ | refine LeO.ite ?_ ?_ | refine LeO.bind ?_ (fun _ => ?_)) | exact ih0 _ _ _ _ _ _ | exact ih1 _ _ _ _ _ _ _ | exact LeO.none _ | refine LeO.ite ?_ ?_ | refine LeO.bind ?_ (fun _ => ?_))
  ·intro y0 y1 y2 y3 y4 y5 y6
   unfold spec_l1Cur_dots.j1
   repeat' (first | (with_reducible first | exact ih2 _ _ _ _ _ _ _ | exact spec_PowersDots.mono _ _ _ | exact LeO.refl _ | exact LeO.none _ | refine LeO.ite ?_ ?_ | refine LeO.bind ?_ (fun _ => ?_)) | exact ih2 _ _ _ _ _ _ _ | exact spec_PowersDots.mono _ _ _ | exact LeO.none _ | refine LeO.ite ?_ ?_ | refine LeO.bind ?_ (fun _ => ?_))
  ·intro y0 y1 y2 y3 y4 y5 y6
   unfold spec_l1Cur_dots.j2
   repeat' (first | (with_reducible first | exact spec_LogsDots.mono _ _ _ _ | exact spec_l1Cur_dotsUp.mono _ _ _ _ _ | exact LeO.refl _ | exact LeO.none _ | refine LeO.ite ?_ ?_ | refine LeO.bind ?_ (fun _ => ?_)) | exact spec_LogsDots.mono _ _ _ _ | exact spec_l1Cur_dotsUp.mono _ _ _ _ _ | exact LeO.none _ | refine LeO.ite ?_ ?_ | refine LeO.bind ?_ (fun _ => ?_))
theorem spec_l1Cur_dots.mono : ∀ a0 a1 a2 a3 k, LeO (spec_l1Cur_dots.f k a0 a1 a2 a3) (spec_l1Cur_dots.f (k + 1) a0 a1 a2 a3) := by
 intro a0 a1 a2 a3 k
 obtain ⟨ih0, ih1, ih2⟩ := spec_l1Cur_dots.mono_l k
 unfold spec_l1Cur_dots.f
 repeat' (first | (with_reducible first | exact ih0 _ _ _ _ _ _ | exact LeO.refl _ | exact LeO.none _ | refine LeO.ite ?_ ?_ | refine LeO.bind ?_ (fun _ => ?_)) | exact ih0 _ _ _ _ _ _ | exact LeO.none _ | refine LeO.ite ?_ ?_ | refine LeO.bind ?_ (fun _ => ?_))
set_option maxHeartbeats 8000000 in
set_option maxRecDepth 100000 in
theorem spec_l1Cur_dots.calls (k : Nat) (g : Nat) (s0_0 : List Int) (s0_1 : Int) (s0_2 : Int) (a1 : Int) (r1 : List Int) (r2 : Int) (r3 : Int) (w0 w : World) (hI : IsS83 w0 w g s0_0 s0_1 s0_2) (hB : Below w0.heap.size w0 w) (h : spec_l1Cur_dots.f k s0_0 s0_1 s0_2 a1 = some (r1, r2, r3)) :
  Calls Try.prog 193 #[.pointer (some ⟨g, 0, none⟩), .int .i64 a1] w fun e w' => ∃ v0_ : Value, e = .returned (v0_) ∧ Kd.R (Kd.int .i64) 3 w' w.heap.size (fun _ => True) v0_ r1 ∧ IsS83 w0 w' g s0_0 r2 r3 ∧ Below w0.heap.size w0 w' ∧ KeepBut w w' g none := by
 have HI0 := Aside0.mk hI
 have HK := Aside0.mk (KeepBut.refl w g none)
 have HL := Aside0.mk hB.size
 clear hI
 have HW0 := Aside0.mk hB.size
 have HB := Aside0.mk hB
 clear hB
 have H := h
 unfold spec_l1Cur_dots.f at H
 clear h
 replace H := Option.bind_eq_some_iff.mp H
 obtain ⟨⟨t379, t380, t381⟩, A30, H⟩ := H
 replace H : (spec_l1Cur_dots.l0 k (wrap64 (1 + t379)) ([] : List Int) 0 s0_0 t380 t381) = some (r1, r2, r3) := H
 have A3 := Aside0.mk A30
 clear A30
 have H' := Aside0.mk H
 clear H
 go_enter Try.func193, Try.ntmps193
 go_wp2_with (first | ((with_reducible refine gate_callee (f := 177) rfl ?_); refine goesA (some 11) Try.func177 #[.pointer (some ⟨g, 0, none⟩), .int .i64 a1] ?_; (with_reducible refine (spec_l1Cur_pick.calls g s0_0 s0_1 s0_2 a1 t379 t380 t381 w0 _ ?side1 ?side2 A3.out).mono ?_); (case side1 => exact IsS83.at HI0); (case side2 => exact atB HB); rintro e w4 ⟨rfl, hi, hb, hk⟩; refine ⟨_, rfl, ?_⟩; replace HK := upK HK hk; replace HB := Aside0.mk (hb); replace HI0 := Aside0.mk (hi); (try clear hb); (try clear hb2); (try clear hk); (try clear hi)))
 go_loopg [6, 7] k (fun kq v6 v7 w' => ∃ (x6_1 : List Int) (x7_1 : Int) (x1001_1 : Int) (x1002_1 : Int), v7 = .int .i64 x7_1 ∧ Aside0 (spec_l1Cur_dots.l0 kq (wrap64 (1 + t379)) x6_1 x7_1 s0_0 x1001_1 x1002_1 = some (r1, r2, r3)) ∧ Aside0 (kq ≤ k) ∧ Aside0 (Kd.R (Kd.int .i64) 3 w' w.heap.size (fun _ => True) v6 x6_1) ∧ Aside0 (IsS83 w0 w' g s0_0 x1001_1 x1002_1) ∧ Aside0 (KeepBut w w' g none) ∧ Aside0 (Below w0.heap.size w0 w'))
 case atStart => exact ⟨(([] : List Int)), (0), (t380), (t381), eqd, H', ⟨Nat.le_refl _⟩, ⟨by first | exact Kd.R_nil _ _ _ _ _ | exact Kd.N_nil _ _ _ _ _ | exact Kd.V_nil _ _ _ _ _ | exact Kd.Q_nil _ _ _ _ _ | exact Kd.S_nil _ _ _ _ _⟩, ⟨IsS83.at HI0⟩, ⟨atK HK⟩, ⟨atB HB⟩⟩
 case round =>
  clear H'
  try clear c1
  try clear p2
  obtain ⟨x6_1, x7_1, x1001_1, x1002_1, rfl, HA, HK1, HO_6, HI0, HK, HB⟩ := hrel
  cases gk with
  | zero => exact absurd HA.out (by simp [spec_l1Cur_dots.l0])
  | succ k1 =>
   have H := HA.out
   clear HA
   simp only [spec_l1Cur_dots.l0] at H
   by_cases c5 : x7_1 < (wrap64 (1 + t379))
   ·rw [if_pos c5] at H
    have c5b0 : decide (x7_1 < (wrap64 (1 + t379))) = true := decide_eq_true c5
    clear c5
    replace H := Option.bind_eq_some_iff.mp H
    obtain ⟨⟨t382, t383, t384⟩, A60, H⟩ := H
    replace H : ((insAt.f x6_1 t382 x7_1).bind fun t385 => (spec_l1Cur_dots.l0 k1 (wrap64 (1 + t379)) t385 (wrap64 (x7_1 + 1)) s0_0 t383 t384)) = some (r1, r2, r3) := H
    have A6 := Aside0.mk A60
    clear A60
    replace H := Option.bind_eq_some_iff.mp H
    obtain ⟨t385, A70, H⟩ := H
    replace H : (spec_l1Cur_dots.l0 k1 (wrap64 (1 + t379)) t385 (wrap64 (x7_1 + 1)) s0_0 t383 t384) = some (r1, r2, r3) := H
    have A7 := Aside0.mk A70
    clear A70
    have H' := Aside0.mk H
    clear H
    go_wp2_with (first | ((with_reducible refine gate_callee (f := 177) rfl ?_); refine goesA (some 21) Try.func177 #[.pointer (some ⟨g, 0, none⟩), .int .i64 (wrap64 (x7_1 + 1))] ?_; (with_reducible refine (spec_l1Cur_pick.calls g s0_0 x1001_1 x1002_1 (wrap64 (x7_1 + 1)) t382 t383 t384 w0 _ ?side1 ?side2 A6.out).mono ?_); (case side1 => exact IsS83.at HI0); (case side2 => exact atB HB); rintro e w8 ⟨rfl, hi, hb, hk⟩; refine ⟨_, rfl, ?_⟩; replace HO_6 := IsS83.keepR HI0 HO_6 hk; replace HK := upK HK hk; replace HB := Aside0.mk (hb); replace HI0 := Aside0.mk (hi); (try clear hb); (try clear hb2); (try clear hk); (try clear hi); obtain ⟨Ao9, co9, eo9⟩ := Kd.R_slice HO_6.out; subst eo9))
    have hI_ := A7.out
    unfold insAt.f at hI_
    obtain ⟨i0_, i1_, i2_, hI_⟩ := insAt_parts hI_
    obtain ⟨iq_, hiq_, _, hsq_, _⟩ := info_parts info3
    have hc_ : x6_1.length ≤ co9 := by exact (Kd.R_reads' HO_6.out).2.1
    have hC0_ : Kd.C (Kd.int .i64) w8 Ao9 x6_1.length x6_1 := by repeat (first | exact (Kd.R_reads' HO_6.out).2.2 | (with_reducible refine Kd.C_alloc ?_ _) | (with_reducible refine Kd.C_drewN ?_ _) | (with_reducible refine Kd.C_drew ?_))
    obtain ⟨hcutP_, hAP_, hCP_⟩ := print_take_of (P := Try.prog) (Value.int .i64) 0 24 3 .i64 Try.underlying24 hiq_ hsq_ Ao9 co9 x6_1 t382 i0_ i1_ hc_
    obtain ⟨AD_, hcutD_, hAD_, hCD_⟩ := print_drop_of (P := Try.prog) (Value.int .i64) 0 24 3 .i64 Try.underlying24 hiq_ hsq_ Ao9 co9 x6_1 t382 i0_ i1_ hc_
    replace hCP_ := Kd.C_of_reads (h1 := fun _ => rfl) (hAP_ _ (Kd.reads_of_C hC0_))
    replace hCD_ := Kd.C_of_reads (h1 := fun _ => rfl) (hAD_ _ (Kd.reads_of_C hC0_))
    have hlP_ : (x6_1.take t382.toNat).length = t382.toNat := by rw [List.length_take]; omega
    rw [hlP_] at hCP_
    rw [List.length_drop] at hCD_
    have hbW_ : Below w8.heap.size w8 w8.drew := below_drew1 (Below.refl _ _)
    refine start_ (n := 13) (S := fun w' => True) (ds := []) #[false, false, false, false, false, false, false, false, false, false, false, false, false] (by kernel_rfl) rfl rfl trivial (fun hHeld => ?_)
    refine pure_ (i := 1) (N := some 23) (v := ?_) (a' := ?_) #[false, true, false, false, false, false, false, false, false, false, false, false, false] rfl rfl (by kernel_rfl) (fun _ _ _ h => h) (Or.inl ⟨by rfl, ?_⟩) ?_ ?_
    rotate_left
    ·intro w'
     go_simp
     with_reducible rfl
    rotate_left
    ·simp only [Act.put, List.setIfInBounds_toArray, List.set_cons_zero, List.set_cons_succ, i64_w, i32_w]
     rfl
    refine pure_ (i := 2) (N := some 24) (v := ?_) (a' := ?_) #[false, true, true, false, false, false, false, false, false, false, false, false, false] rfl rfl (by kernel_rfl) (fun _ _ _ h => h) (Or.inl ⟨by rfl, ?_⟩) ?_ ?_
    rotate_left
    ·intro w'
     go_simp
     with_reducible rfl
    rotate_left
    ·simp only [Act.put, List.setIfInBounds_toArray, List.set_cons_zero, List.set_cons_succ, i64_w, i32_w]
     rfl
    refine pure_ (i := 3) (N := some 25) (v := ?_) (a' := ?_) #[false, true, true, true, false, false, false, false, false, false, false, false, false] rfl rfl (by kernel_rfl) (fun _ _ _ h => h) (Or.inl ⟨by rfl, ?_⟩) ?_ ?_
    rotate_left
    ·intro w'
     go_simp
     with_reducible rfl
    rotate_left
    ·simp only [Act.put, List.setIfInBounds_toArray, List.set_cons_zero, List.set_cons_succ, i64_w, i32_w]
     rfl
    refine pure_ (i := 5) (N := some 27) (v := ?_) (a' := ?_) #[false, true, true, true, false, true, false, false, false, false, false, false, false] rfl rfl (by kernel_rfl) (fun _ _ _ h => h) (Or.inl ⟨by rfl, ?_⟩) ?_ ?_
    rotate_left
    ·intro w'
     go_simp
     with_reducible rfl
    rotate_left
    ·simp only [Act.put, List.setIfInBounds_toArray, List.set_cons_zero, List.set_cons_succ, i64_w, i32_w]
     rfl
    refine pure_ (i := 8) (N := some 30) (v := ?_) (a' := ?_) #[false, true, true, true, false, true, false, false, true, false, false, false, false] rfl rfl (by kernel_rfl) (fun _ _ _ h => h) (Or.inl ⟨by rfl, ?_⟩) ?_ ?_
    rotate_left
    ·intro w'
     go_simp
     with_reducible rfl
    rotate_left
    ·simp only [Act.put, List.setIfInBounds_toArray, List.set_cons_zero, List.set_cons_succ, i64_w, i32_w]
     rfl
    refine pure_ (i := 9) (N := some 31) (v := ?_) (a' := ?_) #[false, true, true, true, false, true, false, false, true, true, false, false, false] rfl rfl (by kernel_rfl) (fun _ _ _ h => h) (Or.inl ⟨by rfl, ?_⟩) ?_ ?_
    rotate_left
    ·intro w'
     go_simp
     with_reducible rfl
    rotate_left
    ·simp only [Act.put, List.setIfInBounds_toArray, List.set_cons_zero, List.set_cons_succ, i64_w, i32_w]
     rfl
    refine pure_ (i := 10) (N := some 32) (v := ?_) (a' := ?_) #[false, true, true, true, false, true, false, false, true, true, true, false, false] rfl rfl (by kernel_rfl) (fun _ _ _ h => h) (Or.inl ⟨by rfl, ?_⟩) ?_ ?_
    rotate_left
    ·intro w'
     go_simp
     with_reducible rfl
    rotate_left
    ·simp only [Act.put, List.setIfInBounds_toArray, List.set_cons_zero, List.set_cons_succ, i64_w, i32_w]
     rfl
    refine join_ (σ := Value × Value × Nat) 3 #[true, true, true, true, true, true, true, false, true, true, true, false, false] (fun s => [(22, s.1), (26, s.2.1), (28, .slice (some ⟨s.2.2, 0, none⟩) 1 1)]) (fun s w' => Kd.R (Kd.int .i64) 3 w' w8.heap.size (fun _ => True) s.2.1 ([] ++ (x6_1.take t382.toNat)) ∧ w'.heap[s.2.2]? = some (.cells #[.int .i64 x7_1] 3 (0, 0)) ∧ Below w8.heap.size w8 w') ?_ ?_
    rotate_left
    ·intro hCont
     refine two_ (i := 0) (j := 6) (Ni := some 22) (Nj := some 28) #[true, true, true, true, false, true, false, false, true, true, true, false, false] #[false, true, true, true, false, true, true, false, true, true, true, false, false] rfl rfl rfl rfl (by kernel_rfl) (by decide) (by decide) (fun K hK => ?_) (fun K hK => ?_)
     ·skip
      refine Kd.R_lit_step (Kd.int .i64) (w0 := w8) w8.heap.size 3 (by rfl) (N := 22) rfl (xs := ([] : List Int)) (inner := []) (ok := fun _ => True) (okp := fun _ => True) ?hr ?hp (fun _ hk => hk) trivial hbW_ (hbW_).size (by simp) ?_
      case hr => first | (go_simp; done) | (go_simp; rfl)
      case hp => exact Reps.none _ _
      intro vE wE hoE hbE hgE hnE
      refine hK.out _ _ trivial (fun hHeld => ?_)
      clear hK K
      refine norm_ (a' := ?_) ?_ ?_
      rotate_left
      ·show Act.put _ (some 22) _ = _
       simp only [Act.put, List.setIfInBounds_toArray, List.set_cons_zero, List.set_cons_succ, i64_w, i32_w]
       rfl
      refine two_ (i := 4) (j := 6) (Ni := some 26) (Nj := some 28) #[true, true, true, true, true, true, false, false, true, true, true, false, false] #[true, true, true, true, false, true, true, false, true, true, true, false, false] rfl rfl rfl rfl (by kernel_rfl) (by decide) (by decide) (fun K hK => ?_) (fun K hK => ?_)
      ·skip
       refine Kd.R_append_rows_step (Kd.int .i64) (w0 := w8) w8.heap.size (by rfl) (.tmp 22) (.tmp 25) 24 3 (.int .i64 0) 8 rfl Try.underlying24 info3 rfl (by decide) (by omega) vE [] (x6_1.take t382.toNat) Ao9 _ _ (fun _ => True) (fun _ => False) rfl rfl ?aO ?aR (fun _ _ h => h) (fun _ h => h.elim) (fun _ _ => trivial) ?aB ?aS ?aL ?_
       case aO => exact hoE
       case aR => exact (Kd.C_below hCP_ hbE)
       case aB => exact hbE
       case aS => exact (hbE).size
       case aL => simp only [List.length_append, List.length_cons, List.length_nil, List.length_take, List.length_drop]; omega
       intro vA wA hoA hbA hgA haA
       refine hK.out _ _ trivial (fun hHeld => ?_)
       clear hK K
       refine norm_ (a' := ?_) ?_ ?_
       rotate_left
       ·show Act.put _ (some 26) _ = _
        simp only [Act.put, List.setIfInBounds_toArray, List.set_cons_zero, List.set_cons_succ, i64_w, i32_w]
        rfl
       refine one_ (i := 6) (N := some 28) #[true, true, true, true, true, true, true, false, true, true, true, false, false] rfl rfl (by kernel_rfl) (by decide) (fun K hK => ?_)
       refine value_ (w1 := ?_) (v := ?_) (by rfl) rfl ?_ ?_
       rotate_left 2
       ·go_simp
        constructor
        ·rfl
        ·rfl
       refine hK.out _ _ trivial (fun hHeld => ?_)
       clear hK K
       refine norm_ (a' := ?_) ?_ ?_
       rotate_left
       ·show Act.put _ (some 28) _ = _
        simp only [Act.put, List.setIfInBounds_toArray, List.set_cons_zero, List.set_cons_succ, i64_w, i32_w]
        rfl
       exact norm_ (by simp only [putAll, Act.put, List.setIfInBounds_toArray, List.set_cons_zero, List.set_cons_succ]) (hCont (vE, vA, wA.heap.size) _ ⟨Kd.R_alloc hoA _, heap_alloc_new wA _, below_alloc hbA _⟩)
      ·skip
       refine value_ (w1 := ?_) (v := ?_) (by rfl) rfl ?_ ?_
       rotate_left 2
       ·go_simp
        constructor
        ·rfl
        ·rfl
       refine hK.out _ _ trivial (fun hHeld => ?_)
       clear hK K
       refine norm_ (a' := ?_) ?_ ?_
       rotate_left
       ·show Act.put _ (some 28) _ = _
        simp only [Act.put, List.setIfInBounds_toArray, List.set_cons_zero, List.set_cons_succ, i64_w, i32_w]
        rfl
       refine one_ (i := 4) (N := some 26) #[true, true, true, true, true, true, true, false, true, true, true, false, false] rfl rfl (by kernel_rfl) (by decide) (fun K hK => ?_)
       refine Kd.R_append_rows_step (Kd.int .i64) (w0 := w8) w8.heap.size (by rfl) (.tmp 22) (.tmp 25) 24 3 (.int .i64 0) 8 rfl Try.underlying24 info3 rfl (by decide) (by omega) vE [] (x6_1.take t382.toNat) Ao9 _ _ (fun _ => True) (fun _ => False) rfl rfl ?aO ?aR (fun _ _ h => h) (fun _ h => h.elim) (fun _ _ => trivial) ?aB ?aS ?aL ?_
       case aO => exact (Kd.R_alloc hoE _)
       case aR => exact (Kd.C_below hCP_ (below_alloc hbE _))
       case aB => exact (below_alloc hbE _)
       case aS => exact ((below_alloc hbE _)).size
       case aL => simp only [List.length_append, List.length_cons, List.length_nil, List.length_take, List.length_drop]; omega
       intro vA wA hoA hbA hgA haA
       have hx2_ := (hgA.block wE.heap.size (heap_lt_alloc _ _) (new_ne hoE)).trans (heap_alloc_new wE (.cells #[.int .i64 x7_1] 3))
       refine hK.out _ _ trivial (fun hHeld => ?_)
       clear hK K
       refine norm_ (a' := ?_) ?_ ?_
       rotate_left
       ·show Act.put _ (some 26) _ = _
        simp only [Act.put, List.setIfInBounds_toArray, List.set_cons_zero, List.set_cons_succ, i64_w, i32_w]
        rfl
       exact norm_ (by simp only [putAll, Act.put, List.setIfInBounds_toArray, List.set_cons_zero, List.set_cons_succ]) (hCont (vE, vA, wE.heap.size) _ ⟨hoA, hx2_, hbA⟩)
     ·skip
      refine value_ (w1 := ?_) (v := ?_) (by rfl) rfl ?_ ?_
      rotate_left 2
      ·go_simp
       constructor
       ·rfl
       ·rfl
      refine hK.out _ _ trivial (fun hHeld => ?_)
      clear hK K
      refine norm_ (a' := ?_) ?_ ?_
      rotate_left
      ·show Act.put _ (some 28) _ = _
       simp only [Act.put, List.setIfInBounds_toArray, List.set_cons_zero, List.set_cons_succ, i64_w, i32_w]
       rfl
      refine one_ (i := 0) (N := some 22) #[true, true, true, true, false, true, true, false, true, true, true, false, false] rfl rfl (by kernel_rfl) (by decide) (fun K hK => ?_)
      refine Kd.R_lit_step (Kd.int .i64) (w0 := w8) w8.heap.size 3 (by rfl) (N := 22) rfl (xs := ([] : List Int)) (inner := []) (ok := fun _ => True) (okp := fun _ => True) ?hr ?hp (fun _ hk => hk) trivial (below_alloc hbW_ (.cells #[.int .i64 x7_1] 3)) ((below_alloc hbW_ (.cells #[.int .i64 x7_1] 3))).size (by simp) ?_
      case hr => first | (go_simp; done) | (go_simp; rfl)
      case hp => exact Reps.none _ _
      intro vE wE hoE hbE hgE hnE
      have hx1_ := (hgE.block w8.drew.heap.size (heap_lt_alloc _ _) (by simp)).trans (heap_alloc_new w8.drew (.cells #[.int .i64 x7_1] 3))
      refine hK.out _ _ trivial (fun hHeld => ?_)
      clear hK K
      refine norm_ (a' := ?_) ?_ ?_
      rotate_left
      ·show Act.put _ (some 22) _ = _
       simp only [Act.put, List.setIfInBounds_toArray, List.set_cons_zero, List.set_cons_succ, i64_w, i32_w]
       rfl
      refine one_ (i := 4) (N := some 26) #[true, true, true, true, true, true, true, false, true, true, true, false, false] rfl rfl (by kernel_rfl) (by decide) (fun K hK => ?_)
      refine Kd.R_append_rows_step (Kd.int .i64) (w0 := w8) w8.heap.size (by rfl) (.tmp 22) (.tmp 25) 24 3 (.int .i64 0) 8 rfl Try.underlying24 info3 rfl (by decide) (by omega) vE [] (x6_1.take t382.toNat) Ao9 _ _ (fun _ => True) (fun _ => False) rfl rfl ?aO ?aR (fun _ _ h => h) (fun _ h => h.elim) (fun _ _ => trivial) ?aB ?aS ?aL ?_
      case aO => exact hoE
      case aR => exact (Kd.C_below hCP_ hbE)
      case aB => exact hbE
      case aS => exact (hbE).size
      case aL => simp only [List.length_append, List.length_cons, List.length_nil, List.length_take, List.length_drop]; omega
      intro vA wA hoA hbA hgA haA
      have hx2_ := (hgA.block w8.drew.heap.size (lt_of_cells hx1_) (elder_ne hnE (heap_lt_alloc _ _))).trans hx1_
      refine hK.out _ _ trivial (fun hHeld => ?_)
      clear hK K
      refine norm_ (a' := ?_) ?_ ?_
      rotate_left
      ·show Act.put _ (some 26) _ = _
       simp only [Act.put, List.setIfInBounds_toArray, List.set_cons_zero, List.set_cons_succ, i64_w, i32_w]
       rfl
      exact norm_ (by simp only [putAll, Act.put, List.setIfInBounds_toArray, List.set_cons_zero, List.set_cons_succ]) (hCont (vE, vA, w8.heap.size) _ ⟨hoA, hx2_, hbA⟩)
    rintro ⟨v16_, v20_, b_⟩ w20_ ⟨hoT_, hbx_, hbT_⟩
    have hHeld : True := trivial
    refine norm_ (a' := ?_) ?_ ?_
    rotate_left
    ·simp only [putAll, Act.put, List.setIfInBounds_toArray, List.set_cons_zero, List.set_cons_succ]
     rfl
    refine one_ (i := 7) (N := some 29) #[true, true, true, true, true, true, true, true, true, true, true, false, false] rfl rfl (by kernel_rfl) (by decide) (fun K hK => ?_)
    refine Kd.R_append_rows_step (Kd.int .i64) (w0 := w8) w8.heap.size (by rfl) (.tmp 26) (.tmp 28) 24 3 (.int .i64 0) 8 rfl Try.underlying24 info3 rfl (by decide) (by omega) v20_ ([] ++ (x6_1.take t382.toNat)) [x7_1] (some ⟨b_, 0, none⟩) 1 1 (fun _ => True) (fun _ => False) rfl rfl ?aO ?aR (fun _ _ h => h) (fun _ h => h.elim) (fun _ _ => trivial) ?aB ?aS ?aL ?_
    case aO => exact hoT_
    case aR => exact (C_box hbx_)
    case aB => exact hbT_
    case aS => exact (hbT_).size
    case aL => simp only [List.length_append, List.length_cons, List.length_nil, List.length_take, List.length_drop]; omega
    intro v23_ w23_ hoT2_ hbT2_ hgT2_ haT2_
    refine hK.out _ _ trivial (fun hHeld => ?_)
    clear hK K
    refine norm_ (a' := ?_) ?_ ?_
    rotate_left
    ·show Act.put _ (some 29) _ = _
     simp only [Act.put, List.setIfInBounds_toArray, List.set_cons_zero, List.set_cons_succ, i64_w, i32_w]
     rfl
    refine one_ (i := 11) (N := some 33) #[true, true, true, true, true, true, true, true, true, true, true, true, false] rfl rfl (by kernel_rfl) (by decide) (fun K hK => ?_)
    refine Kd.R_append_rows_step (Kd.int .i64) (w0 := w8) w8.heap.size (by rfl) (.tmp 29) (.tmp 32) 24 3 (.int .i64 0) 8 rfl Try.underlying24 info3 rfl (by decide) (by omega) v23_ ([] ++ (x6_1.take t382.toNat) ++ [x7_1]) (x6_1.drop t382.toNat) AD_ _ _ (fun _ => True) (fun _ => False) rfl rfl ?aO ?aR (fun _ _ h => h) (fun _ h => h.elim) (fun _ _ => trivial) ?aB ?aS ?aL ?_
    case aO => exact hoT2_
    case aR => exact (Kd.C_below hCD_ hbT2_)
    case aB => exact hbT2_
    case aS => exact (hbT2_).size
    case aL => simp only [List.length_append, List.length_cons, List.length_nil, List.length_take, List.length_drop]; omega
    intro v386 w10 hoZ_ hbZ_ hgZ_ haZ_
    refine hK.out _ _ trivial (fun hHeld => ?_)
    clear hK K
    refine norm_ (a' := ?_) ?_ ?_
    rotate_left
    ·show Act.put _ (some 33) _ = _
     simp only [Act.put, List.setIfInBounds_toArray, List.set_cons_zero, List.set_cons_succ, i64_w, i32_w]
     rfl
    refine pure_ (i := 12) (N := some 6) (v := ?_) (a' := ?_) #[true, true, true, true, true, true, true, true, true, true, true, true, true] rfl rfl (by kernel_rfl) (fun _ _ _ h => h) (Or.inl ⟨by rfl, ?_⟩) ?_ ?_
    rotate_left
    ·intro w'
     go_simp
     with_reducible rfl
    rotate_left
    ·simp only [Act.put, List.setIfInBounds_toArray, List.set_cons_zero, List.set_cons_succ, i64_w, i32_w]
     rfl
    refine done_ (by kernel_rfl) ?_
    have ho0 : Kd.R (Kd.int .i64) 3 w10 w8.heap.size (fun _ => True) v386 t385 := by have h_ := hoZ_; rw [List.nil_append] at h_; rw [← hI_]; exact h_
    have hb := hbZ_
    have HO387 := Aside0.mk (Kd.R_lower (Kd.R_new' ho0 (ltR HO_6)) (szK HK)); replace HO_6 := eldRR HO_6 ho0 hb; replace HI0 := IsS83.up HI0 hb; replace HK := upKB HK hb; replace HB := upB HB hb; (try clear hb); (try clear hb2); (try clear hk); (try clear hi); (try clear ho0)
    (try clear hoZ_ hbZ_ hgZ_ haZ_ hoT_ hoT2_)
    try go_wp2
    go_roundg k1
    case measure => have := HK1.out; omega
    case rel => exact ⟨(t385), (wrap64 (x7_1 + 1)), (t383), (t384), eqd, H', ⟨by have := HK1.out; omega⟩, ⟨by (with_reducible repeat (first | apply Kd.R_alloc | apply Kd.R_drewN | apply Kd.R_drew)); exact Kd.R_mono HO387.out (fun _ hk => trivial)⟩, ⟨IsS83.at HI0⟩, ⟨atK HK⟩, ⟨atB HB⟩⟩
   ·rw [if_neg c5] at H
    have c5b0 : decide (x7_1 < (wrap64 (1 + t379))) = false := decide_eq_false c5
    clear c5
    replace H := Option.bind_eq_some_iff.mp H
    obtain ⟨⟨t388, t389, t390⟩, A110, H⟩ := H
    replace H : (if t388 = 0 then ((spec_l1Cur_pick.f s0_0 t389 t390 (wrap64 (1 + t379))).bind fun bt391 => ((spec_l1Cur_among.f s0_0 bt391.2.1 bt391.2.2 (([(-1), (wrap64 (1 + t379)), 0, 4611686018427387904] : List Int))).bind fun bt397 => (if 0 ≤ bt391.1 then (if bt391.1 < (x6_1.length : Int) then (if (x6_1.length : Int) = 0 then (some ((([0, 1, 3, 2] : List Int)), bt397.2.1, bt397.2.2)) else (some ((x6_1.set (bt391.1 : Int).toNat bt397.1), bt397.2.1, bt397.2.2))) else (none)) else (none)))) else (if t388 = 1 then (some (([] : List Int), t389, t390)) else (if t388 = 2 then (spec_l1Cur_dots.j1 k1 (wrap64 (1 + t379)) x6_1 t388 (t388 == 2) s0_0 t389 t390) else (if t388 = 3 then (spec_l1Cur_dots.j1 k1 (wrap64 (1 + t379)) x6_1 t388 (t388 == 3) s0_0 t389 t390) else (spec_l1Cur_dots.j1 k1 (wrap64 (1 + t379)) x6_1 t388 (t388 == 4) s0_0 t389 t390))))) = some (r1, r2, r3) := H
    have A11 := Aside0.mk A110
    clear A110
    by_cases c12 : t388 = 0
    ·rw [if_pos c12] at H
     have c12b0 : (t388 == 0) = true := beq_iff_eq.mpr c12
     have c12b1 : (t388 != 0) = false := bne_eq_false_iff_eq.mpr c12
     clear c12
     replace H := Option.bind_eq_some_iff.mp H
     obtain ⟨⟨t391, t392, t393⟩, A130, H⟩ := H
     replace H : ((spec_l1Cur_among.f s0_0 t392 t393 (([(-1), (wrap64 (1 + t379)), 0, 4611686018427387904] : List Int))).bind fun bt397 => (if 0 ≤ t391 then (if t391 < (x6_1.length : Int) then (if (x6_1.length : Int) = 0 then (some ((([0, 1, 3, 2] : List Int)), bt397.2.1, bt397.2.2)) else (some ((x6_1.set (t391 : Int).toNat bt397.1), bt397.2.1, bt397.2.2))) else (none)) else (none))) = some (r1, r2, r3) := H
     have A13 := Aside0.mk A130
     clear A130
     obtain ⟨y394, hy394⟩ : ∃ y_ : List Int, y_ = (([(-1), (wrap64 (1 + t379)), 0, 4611686018427387904] : List Int)) := ⟨_, rfl⟩
     replace H : ((spec_l1Cur_among.f s0_0 t392 t393 y394).bind fun bt397 => (if 0 ≤ t391 then (if t391 < (x6_1.length : Int) then (if (x6_1.length : Int) = 0 then (some ((([0, 1, 3, 2] : List Int)), bt397.2.1, bt397.2.2)) else (some ((x6_1.set (t391 : Int).toNat bt397.1), bt397.2.1, bt397.2.2))) else (none)) else (none))) = some (r1, r2, r3) := by first | (rw [hy394]; with_reducible exact H) | (have H2_ := (Option.bind_some _ _).symm.trans H; rw [hy394]; with_reducible exact H2_) | (have H2_ := (Option.bind_some _ _).symm.trans H; with_reducible exact H2_) | with_reducible exact H | (rw [hy394]; exact H) | exact H
     have Ny394 := Aside0.mk hy394
     clear hy394
     replace H := Option.bind_eq_some_iff.mp H
     obtain ⟨⟨t397, t398, t399⟩, A140, H⟩ := H
     replace H : (if 0 ≤ t391 then (if t391 < (x6_1.length : Int) then (if (x6_1.length : Int) = 0 then (some ((([0, 1, 3, 2] : List Int)), t398, t399)) else (some ((x6_1.set (t391 : Int).toNat t397), t398, t399))) else (none)) else (none)) = some (r1, r2, r3) := H
     have A14 := Aside0.mk A140
     clear A140
     by_cases c15 : 0 ≤ t391
     ·rw [if_pos c15] at H
      have c15b0 : decide (0 ≤ t391) = true := decide_eq_true c15
      clear c15
      by_cases c16 : t391 < (x6_1.length : Int)
      ·rw [if_pos c16] at H
       have c16b0 : decide (t391 < (x6_1.length : Int)) = true := decide_eq_true c16
       clear c16
       obtain ⟨y400, hy400⟩ : ∃ y_ : List Int, y_ = (x6_1.set (t391 : Int).toNat t397) := ⟨_, rfl⟩
       replace H : (if (x6_1.length : Int) = 0 then (some ((([0, 1, 3, 2] : List Int)), t398, t399)) else (some (y400, t398, t399))) = some (r1, r2, r3) := by first | (rw [hy400]; with_reducible exact H) | (have H2_ := (Option.bind_some _ _).symm.trans H; rw [hy400]; with_reducible exact H2_) | (have H2_ := (Option.bind_some _ _).symm.trans H; with_reducible exact H2_) | with_reducible exact H | (rw [hy400]; exact H) | exact H
       have Ny400 := Aside0.mk hy400
       clear hy400
       by_cases c18 : (x6_1.length : Int) = 0
       ·rw [if_pos c18] at H
        have c18b0 : ((x6_1.length : Int) == 0) = true := beq_iff_eq.mpr c18
        have c18b1 : ((x6_1.length : Int) != 0) = false := bne_eq_false_iff_eq.mpr c18
        clear c18
        obtain ⟨y401, hy401⟩ : ∃ y_ : List Int, y_ = (([0, 1, 3, 2] : List Int)) := ⟨_, rfl⟩
        replace H : (some (y401, t398, t399)) = some (r1, r2, r3) := by first | (rw [hy401]; with_reducible exact H) | (have H2_ := (Option.bind_some _ _).symm.trans H; rw [hy401]; with_reducible exact H2_) | (have H2_ := (Option.bind_some _ _).symm.trans H; with_reducible exact H2_) | with_reducible exact H | (rw [hy401]; exact H) | exact H
        have Ny401 := Aside0.mk hy401
        clear hy401
        simp only [Option.some.injEq, Prod.mk.injEq] at H
        obtain ⟨rfl, rfl, rfl⟩ := H
        go_wp2_with (first | ((with_reducible refine gate_callee (f := 177) rfl ?_); refine goesA (some 35) Try.func177 #[.pointer (some ⟨g, 0, none⟩), .int .i64 12] ?_; (with_reducible refine (spec_l1Cur_pick.calls g s0_0 x1001_1 x1002_1 12 t388 t389 t390 w0 _ ?side1 ?side2 A11.out).mono ?_); (case side1 => exact IsS83.at HI0); (case side2 => exact atB HB); rintro e w19 ⟨rfl, hi, hb, hk⟩; refine ⟨_, rfl, ?_⟩; replace HO_6 := IsS83.keepR HI0 HO_6 hk; replace HK := upK HK hk; replace HB := Aside0.mk (hb); replace HI0 := Aside0.mk (hi); (try clear hb); (try clear hb2); (try clear hk); (try clear hi)) | ((with_reducible refine gate_callee (f := 177) rfl ?_); refine goesA (some 41) Try.func177 #[.pointer (some ⟨g, 0, none⟩), .int .i64 (wrap64 (1 + t379))] ?_; (with_reducible refine (spec_l1Cur_pick.calls g s0_0 t389 t390 (wrap64 (1 + t379)) t391 t392 t393 w0 _ ?side1 ?side2 A13.out).mono ?_); (case side1 => exact IsS83.at HI0); (case side2 => exact atB HB); rintro e w20 ⟨rfl, hi, hb, hk⟩; refine ⟨_, rfl, ?_⟩; replace HO_6 := IsS83.keepR HI0 HO_6 hk; replace HK := upK HK hk; replace HB := Aside0.mk (hb); replace HI0 := Aside0.mk (hi); (try clear hb); (try clear hb2); (try clear hk); (try clear hi)) | ((with_reducible refine gate_dst (N := 44) rfl ?_); refine Kd.R_lit (Kd.int .i64) _ 3 ?hg (N := 44) ?hd (xs := ([(-1), (wrap64 (1 + t379)), 0, 4611686018427387904] : List Int)) (inner := [.int .i64 (-1), .int .i64 (wrap64 (1 + t379)), .int .i64 0, .int .i64 4611686018427387904]) (ok := fun _ => True) (okp := fun _ => True) ?hr ?hp (fun _ hk => hk) trivial (Below.refl _ _) (Nat.le_refl _) (by simp) ?_; (case hd => rfl); (case hg => rfl); (case hr => first | (go_simp; done) | (go_simp; rfl)); (case hp => exact repsI _); intro v395 w21 ho22 hb hg_ hnew_; clear hg_ hnew_; (first | rw [← Ny394.out] at ho22 | (simp only [Int.reduceToNat] at ho22; rw [← Ny394.out] at ho22)); have HO396 := Aside0.mk (Kd.R_lower (Kd.R_new' ho22 (ltR HO_6)) (szK HK)); replace HO_6 := eldRR HO_6 ho22 hb; replace HI0 := IsS83.up HI0 hb; replace HK := upKB HK hb; replace HB := upB HB hb; clear hb ho22; obtain ⟨Ao23, co23, eo23⟩ := Kd.R_slice HO396.out; subst eo23) | ((with_reducible refine gate_callee (f := 178) rfl ?_); refine goesA (some 45) Try.func178 #[.pointer (some ⟨g, 0, none⟩), .slice Ao23 y394.length co23] ?_; (with_reducible refine (spec_l1Cur_among.calls g s0_0 t392 t393 _ _ y394 t397 t398 t399 w0 _ ?side1 ?side2 ?side3 ?side4 ?side5 A14.out).mono ?_); (case side1 => exact IsS83.at HI0); (case side2 => exact atB HB); (case side3 => exact atRC HO396); (case side4 => exact (Kd.R_reads' HO396.out).2.1); (case side5 => exact far_slice (IsS83.own_ne HI0.out HO396.out (by decide))); rintro e w24 ⟨rfl, hi, hb, hk⟩; refine ⟨_, rfl, ?_⟩; replace HO_6 := IsS83.keepR HI0 HO_6 hk; replace HO396 := IsS83.keepR HI0 HO396 hk; replace HK := upK HK hk; replace HB := Aside0.mk (hb); replace HI0 := Aside0.mk (hi); (try clear hb); (try clear hb2); (try clear hk); (try clear hi); have p17 : 0 ≤ (t391 : Int) := ofd; have q17 : (t391 : Int) < ((x6_1.length : Int) : Int) := ofd; obtain ⟨go17, co17, eo17, gb17, gl17, cl17, HG17⟩ := Kd.R_form HO_6.out (by omega); (first | cases eo17 | (injection eo17 with ea_ en_ ec_; (first | subst ea_ | (injection ea_ with ea_; subst ea_)); subst ec_; clear en_)); have GB17 := Aside0.mk gb17; have GG17 := Aside0.mk HG17; clear gb17 gl17 HG17; obtain ⟨hx17_0, hf17_0⟩ := Kd.R_celln 0 HO_6.out (t391 : Int) p17 q17; replace p17 := eq_true p17; replace q17 := eq_true q17; have n_ := Aside0.mk (Kd.R_mono (ok' := (fun k_ => some k_ ≠ (.slice Ao23 y394.length co23 : Value).ownBlock)) HO_6.out (fun k_ hk => hk.2)); clear HO_6; have HO_6 := n_; clear n_; obtain ⟨hy25_, hz25_⟩ := Kd.R_celln 0 HO_6.out (t391 : Int) (of_decide_eq_true (by first | (with_reducible assumption) | assumption)) (of_decide_eq_true (by first | (with_reducible assumption) | assumption)); have HP25 := Kd.R_putg HO_6.out (t391 : Int) t397) | ((with_reducible refine gate_store (t := 3) (p := 46) rfl ?_); refine store_event (t := 3) (p := 46) (v := ?vo_w26) (w1 := (w24.setCell ⟨go17, (t391 : Int).toNat, none⟩ (.int .i64 t397))) ?hg ?ho ?hn ?hr ?_; (case ho => rfl); (case hg => rfl); (case hn => rfl); (case hr => first | (go_simp; done) | (go_simp; rfl)); intro w26 hw; have hg : w24.grownBy w26 (some go17) := (by rw [hw]; exact HP25.2); have hp_ : Kd.R (Kd.int .i64) 3 w26 w.heap.size (fun k_ => some k_ ≠ (.slice Ao23 y394.length co23 : Value).ownBlock) (.slice (some ⟨go17, 0, none⟩) x6_1.length co17) y400 := (by rw [hw, Ny400.out]; exact HP25.1); clear HP25; replace HI0 := Aside0.mk (IsS83.grown (IsS83.at HI0) hg (IsS83.own_ne HI0.out HO_6.out (by decide))); replace HO396 := Aside0.mk (Kd.R_after (v := (.slice (some ⟨go17, 0, none⟩) x6_1.length co17)) (v1 := (.slice (some ⟨go17, 0, none⟩) x6_1.length co17)) (ok := (fun _ => True)) (atR HO396) hg (.inl rfl)); replace HB := Aside0.mk ((by rw [hw]; exact below_set (HB.out) (Nat.le_trans HL.out GB17.out) : Below w0.heap.size w0 w26)); replace HK := Aside0.mk (KeepBut.trans (atK HK) (KeepBut.of_grown hg g) (Kd.R_base2 HO_6.out)); replace HO_6 := Aside0.mk (hp_); clear hg hw hp_) | ((with_reducible refine gate_dst (N := 83) rfl ?_); refine Kd.R_lit (Kd.int .i64) _ 3 ?hg (N := 83) ?hd (xs := ([0, 1, 3, 2] : List Int)) (inner := [.int .i64 0, .int .i64 1, .int .i64 3, .int .i64 2]) (ok := fun _ => True) (okp := fun _ => True) ?hr ?hp (fun _ hk => hk) trivial (Below.refl _ _) (Nat.le_refl _) (by simp) ?_; (case hd => rfl); (case hg => rfl); (case hr => first | (go_simp; done) | (go_simp; rfl)); (case hp => exact repsI _); intro v402 w27 ho28 hb hg_ hnew_; clear hg_ hnew_; (first | rw [← Ny401.out] at ho28 | (simp only [Int.reduceToNat] at ho28; rw [← Ny401.out] at ho28)); have HO403 := Aside0.mk (Kd.R_lower (Kd.R_new' (Kd.R_new' ho28 (ltR HO_6)) (ltR HO396)) (szK HK)); replace HO_6 := eldRR HO_6 ho28 hb; replace HO396 := eldRR HO396 ho28 hb; replace HI0 := IsS83.up HI0 hb; replace HK := upKB HK hb; replace HB := upB HB hb; clear hb ho28))
        go_ret
        exact ⟨_, eqr, by (with_reducible repeat (first | apply Kd.R_alloc | apply Kd.R_drewN | apply Kd.R_drew)); exact Kd.R_mono HO403.out (fun _ hk => trivial), IsS83.at HI0, atB HB, atK HK⟩
       ·rw [if_neg c18] at H
        have c18b0 : ((x6_1.length : Int) == 0) = false := beq_eq_false_iff_ne.mpr c18
        have c18b1 : ((x6_1.length : Int) != 0) = true := bne_iff_ne.mpr c18
        have c18b2 : ¬ (x6_1 = []) := fun h_ => c18 (by rw [h_]; rfl)
        simp only [Option.some.injEq, Prod.mk.injEq] at H
        obtain ⟨rfl, rfl, rfl⟩ := H
        go_wp2_with (first | ((with_reducible refine gate_callee (f := 177) rfl ?_); refine goesA (some 35) Try.func177 #[.pointer (some ⟨g, 0, none⟩), .int .i64 12] ?_; (with_reducible refine (spec_l1Cur_pick.calls g s0_0 x1001_1 x1002_1 12 t388 t389 t390 w0 _ ?side1 ?side2 A11.out).mono ?_); (case side1 => exact IsS83.at HI0); (case side2 => exact atB HB); rintro e w29 ⟨rfl, hi, hb, hk⟩; refine ⟨_, rfl, ?_⟩; replace HO_6 := IsS83.keepR HI0 HO_6 hk; replace HK := upK HK hk; replace HB := Aside0.mk (hb); replace HI0 := Aside0.mk (hi); (try clear hb); (try clear hb2); (try clear hk); (try clear hi)) | ((with_reducible refine gate_callee (f := 177) rfl ?_); refine goesA (some 41) Try.func177 #[.pointer (some ⟨g, 0, none⟩), .int .i64 (wrap64 (1 + t379))] ?_; (with_reducible refine (spec_l1Cur_pick.calls g s0_0 t389 t390 (wrap64 (1 + t379)) t391 t392 t393 w0 _ ?side1 ?side2 A13.out).mono ?_); (case side1 => exact IsS83.at HI0); (case side2 => exact atB HB); rintro e w30 ⟨rfl, hi, hb, hk⟩; refine ⟨_, rfl, ?_⟩; replace HO_6 := IsS83.keepR HI0 HO_6 hk; replace HK := upK HK hk; replace HB := Aside0.mk (hb); replace HI0 := Aside0.mk (hi); (try clear hb); (try clear hb2); (try clear hk); (try clear hi)) | ((with_reducible refine gate_dst (N := 44) rfl ?_); refine Kd.R_lit (Kd.int .i64) _ 3 ?hg (N := 44) ?hd (xs := ([(-1), (wrap64 (1 + t379)), 0, 4611686018427387904] : List Int)) (inner := [.int .i64 (-1), .int .i64 (wrap64 (1 + t379)), .int .i64 0, .int .i64 4611686018427387904]) (ok := fun _ => True) (okp := fun _ => True) ?hr ?hp (fun _ hk => hk) trivial (Below.refl _ _) (Nat.le_refl _) (by simp) ?_; (case hd => rfl); (case hg => rfl); (case hr => first | (go_simp; done) | (go_simp; rfl)); (case hp => exact repsI _); intro v395 w31 ho32 hb hg_ hnew_; clear hg_ hnew_; (first | rw [← Ny394.out] at ho32 | (simp only [Int.reduceToNat] at ho32; rw [← Ny394.out] at ho32)); have HO396 := Aside0.mk (Kd.R_lower (Kd.R_new' ho32 (ltR HO_6)) (szK HK)); replace HO_6 := eldRR HO_6 ho32 hb; replace HI0 := IsS83.up HI0 hb; replace HK := upKB HK hb; replace HB := upB HB hb; clear hb ho32; obtain ⟨Ao33, co33, eo33⟩ := Kd.R_slice HO396.out; subst eo33) | ((with_reducible refine gate_callee (f := 178) rfl ?_); refine goesA (some 45) Try.func178 #[.pointer (some ⟨g, 0, none⟩), .slice Ao33 y394.length co33] ?_; (with_reducible refine (spec_l1Cur_among.calls g s0_0 t392 t393 _ _ y394 t397 t398 t399 w0 _ ?side1 ?side2 ?side3 ?side4 ?side5 A14.out).mono ?_); (case side1 => exact IsS83.at HI0); (case side2 => exact atB HB); (case side3 => exact atRC HO396); (case side4 => exact (Kd.R_reads' HO396.out).2.1); (case side5 => exact far_slice (IsS83.own_ne HI0.out HO396.out (by decide))); rintro e w34 ⟨rfl, hi, hb, hk⟩; refine ⟨_, rfl, ?_⟩; replace HO_6 := IsS83.keepR HI0 HO_6 hk; replace HO396 := IsS83.keepR HI0 HO396 hk; replace HK := upK HK hk; replace HB := Aside0.mk (hb); replace HI0 := Aside0.mk (hi); (try clear hb); (try clear hb2); (try clear hk); (try clear hi); have p17 : 0 ≤ (t391 : Int) := ofd; have q17 : (t391 : Int) < ((x6_1.length : Int) : Int) := ofd; obtain ⟨go17, co17, eo17, gb17, gl17, cl17, HG17⟩ := Kd.R_form HO_6.out (by omega); (first | cases eo17 | (injection eo17 with ea_ en_ ec_; (first | subst ea_ | (injection ea_ with ea_; subst ea_)); subst ec_; clear en_)); have GB17 := Aside0.mk gb17; have GG17 := Aside0.mk HG17; clear gb17 gl17 HG17; obtain ⟨hx17_0, hf17_0⟩ := Kd.R_celln 0 HO_6.out (t391 : Int) p17 q17; replace p17 := eq_true p17; replace q17 := eq_true q17; have n_ := Aside0.mk (Kd.R_mono (ok' := (fun k_ => some k_ ≠ (.slice Ao33 y394.length co33 : Value).ownBlock)) HO_6.out (fun k_ hk => hk.2)); clear HO_6; have HO_6 := n_; clear n_; obtain ⟨hy35_, hz35_⟩ := Kd.R_celln 0 HO_6.out (t391 : Int) (of_decide_eq_true (by first | (with_reducible assumption) | assumption)) (of_decide_eq_true (by first | (with_reducible assumption) | assumption)); have HP35 := Kd.R_putg HO_6.out (t391 : Int) t397) | ((with_reducible refine gate_store (t := 3) (p := 46) rfl ?_); refine store_event (t := 3) (p := 46) (v := ?vo_w36) (w1 := (w34.setCell ⟨go17, (t391 : Int).toNat, none⟩ (.int .i64 t397))) ?hg ?ho ?hn ?hr ?_; (case ho => rfl); (case hg => rfl); (case hn => rfl); (case hr => first | (go_simp; done) | (go_simp; rfl)); intro w36 hw; have hg : w34.grownBy w36 (some go17) := (by rw [hw]; exact HP35.2); have hp_ : Kd.R (Kd.int .i64) 3 w36 w.heap.size (fun k_ => some k_ ≠ (.slice Ao33 y394.length co33 : Value).ownBlock) (.slice (some ⟨go17, 0, none⟩) x6_1.length co17) y400 := (by rw [hw, Ny400.out]; exact HP35.1); clear HP35; replace HI0 := Aside0.mk (IsS83.grown (IsS83.at HI0) hg (IsS83.own_ne HI0.out HO_6.out (by decide))); replace HO396 := Aside0.mk (Kd.R_after (v := (.slice (some ⟨go17, 0, none⟩) x6_1.length co17)) (v1 := (.slice (some ⟨go17, 0, none⟩) x6_1.length co17)) (ok := (fun _ => True)) (atR HO396) hg (.inl rfl)); replace HB := Aside0.mk ((by rw [hw]; exact below_set (HB.out) (Nat.le_trans HL.out GB17.out) : Below w0.heap.size w0 w36)); replace HK := Aside0.mk (KeepBut.trans (atK HK) (KeepBut.of_grown hg g) (Kd.R_base2 HO_6.out)); replace HO_6 := Aside0.mk (hp_); clear hg hw hp_))
        go_ret
        exact ⟨_, eqr, by (with_reducible repeat (first | apply Kd.R_alloc | apply Kd.R_drewN | apply Kd.R_drew)); exact Kd.R_mono HO_6.out (fun _ hk => trivial), IsS83.at HI0, atB HB, atK HK⟩
      ·rw [if_neg c16] at H
       exact absurd H (by simp)
     ·rw [if_neg c15] at H
      exact absurd H (by simp)
    ·rw [if_neg c12] at H
     have c12b0 : (t388 == 0) = false := beq_eq_false_iff_ne.mpr c12
     have c12b1 : (t388 != 0) = true := bne_iff_ne.mpr c12
     by_cases c37 : t388 = 1
     ·rw [if_pos c37] at H
      have c37b0 : (t388 == 1) = true := beq_iff_eq.mpr c37
      have c37b1 : (t388 != 1) = false := bne_eq_false_iff_eq.mpr c37
      clear c37
      simp only [Option.some.injEq, Prod.mk.injEq] at H
      obtain ⟨rfl, rfl, rfl⟩ := H
      go_wp2_with (first | ((with_reducible refine gate_callee (f := 177) rfl ?_); refine goesA (some 35) Try.func177 #[.pointer (some ⟨g, 0, none⟩), .int .i64 12] ?_; (with_reducible refine (spec_l1Cur_pick.calls g s0_0 x1001_1 x1002_1 12 t388 t389 t390 w0 _ ?side1 ?side2 A11.out).mono ?_); (case side1 => exact IsS83.at HI0); (case side2 => exact atB HB); rintro e w38 ⟨rfl, hi, hb, hk⟩; refine ⟨_, rfl, ?_⟩; replace HO_6 := IsS83.keepR HI0 HO_6 hk; replace HK := upK HK hk; replace HB := Aside0.mk (hb); replace HI0 := Aside0.mk (hi); (try clear hb); (try clear hb2); (try clear hk); (try clear hi)))
      go_ret
      exact ⟨_, eqr, by first | exact Kd.R_nil _ _ _ _ _ | exact Kd.N_nil _ _ _ _ _ | exact Kd.V_nil _ _ _ _ _ | exact Kd.Q_nil _ _ _ _ _ | exact Kd.S_nil _ _ _ _ _, IsS83.at HI0, atB HB, atK HK⟩
     ·rw [if_neg c37] at H
      have c37b0 : (t388 == 1) = false := beq_eq_false_iff_ne.mpr c37
      have c37b1 : (t388 != 1) = true := bne_iff_ne.mpr c37
      have HC39 := Aside0.mk H
      clear H
      go_upto_if 49 with (first | ((with_reducible refine gate_callee (f := 177) rfl ?_); refine goesA (some 35) Try.func177 #[.pointer (some ⟨g, 0, none⟩), .int .i64 12] ?_; (with_reducible refine (spec_l1Cur_pick.calls g s0_0 x1001_1 x1002_1 12 t388 t389 t390 w0 _ ?side1 ?side2 A11.out).mono ?_); (case side1 => exact IsS83.at HI0); (case side2 => exact atB HB); rintro e w40 ⟨rfl, hi, hb, hk⟩; refine ⟨_, rfl, ?_⟩; replace HO_6 := IsS83.keepR HI0 HO_6 hk; replace HK := upK HK hk; replace HB := Aside0.mk (hb); replace HI0 := Aside0.mk (hi); (try clear hb); (try clear hb2); (try clear hk); (try clear hi)))
      (try simp only [Act.put, List.setIfInBounds_toArray, List.set_cons_zero, List.set_cons_succ])
      go_cut [49] (fun v49 wc => ∃ (kq : Nat) (x49_38 : Bool), v49 = .bool x49_38 ∧ Aside0 (spec_l1Cur_dots.j1 kq (wrap64 (1 + t379)) x6_1 t388 x49_38 s0_0 t389 t390 = some (r1, r2, r3)) ∧ Aside0 (kq ≤ k1) ∧ Aside0 (Kd.R (Kd.int .i64) 3 wc w.heap.size (fun _ => True) u6 x6_1) ∧ Aside0 (IsS83 w0 wc g s0_0 t389 t390) ∧ Aside0 (KeepBut w wc g none) ∧ Aside0 (Below w0.heap.size w0 wc))
      case first =>
       have H := HC39.out
       clear HC39
       by_cases c41 : t388 = 2
       ·rw [if_pos c41] at H
        have c41b0 : (t388 == 2) = true := beq_iff_eq.mpr c41
        have c41b1 : (t388 != 2) = false := bne_eq_false_iff_eq.mpr c41
        clear c41
        (first | rw [c41b0] | (simp only [i64_w, i32_w]; rw [c41b0]) | skip)
        have H' := Aside0.mk H
        clear H
        go_wp2
        go_meet
        case rel => exact ⟨_, ((t388 == 2)), eqd, H', ⟨by have := HK1.out; first | omega | exact Nat.le_refl _⟩, ⟨atR HO_6⟩, ⟨IsS83.at HI0⟩, ⟨atK HK⟩, ⟨atB HB⟩⟩
       ·rw [if_neg c41] at H
        have c41b0 : (t388 == 2) = false := beq_eq_false_iff_ne.mpr c41
        have c41b1 : (t388 != 2) = true := bne_iff_ne.mpr c41
        (first | rw [c41b0] | (simp only [i64_w, i32_w]; rw [c41b0]) | skip)
        by_cases c42 : t388 = 3
        ·rw [if_pos c42] at H
         have c42b0 : (t388 == 3) = true := beq_iff_eq.mpr c42
         have c42b1 : (t388 != 3) = false := bne_eq_false_iff_eq.mpr c42
         clear c42
         have H' := Aside0.mk H
         clear H
         go_wp2
         go_meet
         case rel => exact ⟨_, ((t388 == 3)), eqd, H', ⟨by have := HK1.out; first | omega | exact Nat.le_refl _⟩, ⟨atR HO_6⟩, ⟨IsS83.at HI0⟩, ⟨atK HK⟩, ⟨atB HB⟩⟩
        ·rw [if_neg c42] at H
         have c42b0 : (t388 == 3) = false := beq_eq_false_iff_ne.mpr c42
         have c42b1 : (t388 != 3) = true := bne_iff_ne.mpr c42
         have H' := Aside0.mk H
         clear H
         go_wp2
         go_meet
         case rel => exact ⟨_, ((t388 == 4)), eqd, H', ⟨by have := HK1.out; first | omega | exact Nat.le_refl _⟩, ⟨atR HO_6⟩, ⟨IsS83.at HI0⟩, ⟨atK HK⟩, ⟨atB HB⟩⟩
      case rest =>
       clear HC39
       try clear c1
       try clear p1
       try clear q1
       try clear hx1
       try clear p2
       try clear c3
       try clear c4
       try clear c5
       try clear c5b0
       try clear p6
       try clear c9
       try clear c12
       try clear c12b0
       try clear c12b1
       try clear c15
       try clear c15b0
       try clear c16
       try clear c16b0
       try clear c17
       try clear p17
       try clear q17
       try clear hx17
       try clear hf17
       try clear c18
       try clear c18b0
       try clear c18b1
       try clear c18b2
       try clear c19
       try clear c37
       try clear c37b0
       try clear c37b1
       try clear c41
       try clear c41b0
       try clear c41b1
       try clear c42
       try clear c42b0
       try clear c42b1
       try clear hx17_0
       try clear p17
       try clear p2
       try clear q17
       obtain ⟨kq, x49_38, rfl, HA, HJ38, HO_6, HI0, HK, HB⟩ := hcut
       cases kq with
       | zero => exact absurd HA.out (by simp [spec_l1Cur_dots.j1])
       | succ kj38 =>
        have H := HA.out
        clear HA
        simp only [spec_l1Cur_dots.j1] at H
        by_cases c43 : x49_38 = true
        ·subst c43
         have H1 : ((spec_l1Cur_among.f s0_0 t389 t390 (([3, 5, 7, 11] : List Int))).bind fun bt407 => ((spec_PowersDots.f kj38 bt407.1 2).bind fun bt410 => (if (bt410.1.length : Int) = 0 then (some ((([0, 1, 3, 2] : List Int)), bt407.2.1, bt407.2.2)) else (some (bt410.1, bt407.2.1, bt407.2.2))))) = some (r1, r2, r3) := by rw [if_pos rfl] at H; exact H
         clear H
         have H := H1
         clear H1
         obtain ⟨y404, hy404⟩ : ∃ y_ : List Int, y_ = (([3, 5, 7, 11] : List Int)) := ⟨_, rfl⟩
         replace H : ((spec_l1Cur_among.f s0_0 t389 t390 y404).bind fun bt407 => ((spec_PowersDots.f kj38 bt407.1 2).bind fun bt410 => (if (bt410.1.length : Int) = 0 then (some ((([0, 1, 3, 2] : List Int)), bt407.2.1, bt407.2.2)) else (some (bt410.1, bt407.2.1, bt407.2.2))))) = some (r1, r2, r3) := by first | (rw [hy404]; with_reducible exact H) | (have H2_ := (Option.bind_some _ _).symm.trans H; rw [hy404]; with_reducible exact H2_) | (have H2_ := (Option.bind_some _ _).symm.trans H; with_reducible exact H2_) | with_reducible exact H | (rw [hy404]; exact H) | exact H
         have Ny404 := Aside0.mk hy404
         clear hy404
         replace H := Option.bind_eq_some_iff.mp H
         obtain ⟨⟨t407, t408, t409⟩, A440, H⟩ := H
         replace H : ((spec_PowersDots.f kj38 t407 2).bind fun bt410 => (if (bt410.1.length : Int) = 0 then (some ((([0, 1, 3, 2] : List Int)), t408, t409)) else (some (bt410.1, t408, t409)))) = some (r1, r2, r3) := H
         have A44 := Aside0.mk A440
         clear A440
         replace H := Option.bind_eq_some_iff.mp H
         obtain ⟨⟨t410, t411⟩, A450, H⟩ := H
         replace H : (if (t410.length : Int) = 0 then (some ((([0, 1, 3, 2] : List Int)), t408, t409)) else (some (t410, t408, t409))) = some (r1, r2, r3) := H
         have A45 := Aside0.mk A450
         clear A450
         by_cases c46 : (t410.length : Int) = 0
         ·rw [if_pos c46] at H
          have c46b0 : ((t410.length : Int) == 0) = true := beq_iff_eq.mpr c46
          have c46b1 : ((t410.length : Int) != 0) = false := bne_eq_false_iff_eq.mpr c46
          clear c46
          obtain ⟨y414, hy414⟩ : ∃ y_ : List Int, y_ = (([0, 1, 3, 2] : List Int)) := ⟨_, rfl⟩
          replace H : (some (y414, t408, t409)) = some (r1, r2, r3) := by first | (rw [hy414]; with_reducible exact H) | (have H2_ := (Option.bind_some _ _).symm.trans H; rw [hy414]; with_reducible exact H2_) | (have H2_ := (Option.bind_some _ _).symm.trans H; with_reducible exact H2_) | with_reducible exact H | (rw [hy414]; exact H) | exact H
          have Ny414 := Aside0.mk hy414
          clear hy414
          simp only [Option.some.injEq, Prod.mk.injEq] at H
          obtain ⟨rfl, rfl, rfl⟩ := H
          go_wp2_with (first | ((with_reducible refine gate_dst (N := 55) rfl ?_); refine Kd.R_lit (Kd.int .i64) _ 3 ?hg (N := 55) ?hd (xs := ([3, 5, 7, 11] : List Int)) (inner := [.int .i64 3, .int .i64 5, .int .i64 7, .int .i64 11]) (ok := fun _ => True) (okp := fun _ => True) ?hr ?hp (fun _ hk => hk) trivial (Below.refl _ _) (Nat.le_refl _) (by simp) ?_; (case hd => rfl); (case hg => rfl); (case hr => first | (go_simp; done) | (go_simp; rfl)); (case hp => exact repsI _); intro v405 w47 ho48 hb hg_ hnew_; clear hg_ hnew_; (first | rw [← Ny404.out] at ho48 | (simp only [Int.reduceToNat] at ho48; rw [← Ny404.out] at ho48)); have HO406 := Aside0.mk (Kd.R_lower (Kd.R_new' ho48 (ltR HO_6)) (szK HK)); replace HO_6 := eldRR HO_6 ho48 hb; replace HI0 := IsS83.up HI0 hb; replace HK := upKB HK hb; replace HB := upB HB hb; clear hb ho48; obtain ⟨Ao49, co49, eo49⟩ := Kd.R_slice HO406.out; subst eo49) | ((with_reducible refine gate_callee (f := 178) rfl ?_); refine goesA (some 56) Try.func178 #[.pointer (some ⟨g, 0, none⟩), .slice Ao49 y404.length co49] ?_; (with_reducible refine (spec_l1Cur_among.calls g s0_0 t389 t390 _ _ y404 t407 t408 t409 w0 _ ?side1 ?side2 ?side3 ?side4 ?side5 A44.out).mono ?_); (case side1 => exact IsS83.at HI0); (case side2 => exact atB HB); (case side3 => exact atRC HO406); (case side4 => exact (Kd.R_reads' HO406.out).2.1); (case side5 => exact far_slice (IsS83.own_ne HI0.out HO406.out (by decide))); rintro e w50 ⟨rfl, hi, hb, hk⟩; refine ⟨_, rfl, ?_⟩; replace HO_6 := IsS83.keepR HI0 HO_6 hk; replace HO406 := IsS83.keepR HI0 HO406 hk; replace HK := upK HK hk; replace HB := Aside0.mk (hb); replace HI0 := Aside0.mk (hi); (try clear hb); (try clear hb2); (try clear hk); (try clear hi)) | ((with_reducible refine gate_callee (f := 51) rfl ?_); refine goesA (some 57) Try.func51 #[.int .i64 t407, .int .i64 2] ?_; (with_reducible refine (spec_PowersDots.calls kj38 t407 2 t410 t411 _ A45.out).mono ?_); rintro e w51 ⟨v412, rfl, ho0, hb⟩; refine ⟨_, rfl, ?_⟩; have HO413 := Aside0.mk (Kd.R_lower (Kd.R_new' (Kd.R_new' ho0 (ltR HO_6)) (ltR HO406)) (szK HK)); replace HO_6 := eldRR HO_6 ho0 hb; replace HO406 := eldRR HO406 ho0 hb; replace HI0 := IsS83.up HI0 hb; replace HK := upKB HK hb; replace HB := upB HB hb; (try clear hb); (try clear hb2); (try clear hk); (try clear hi); (try clear ho0); obtain ⟨Ao52, co52, eo52⟩ := Kd.R_slice HO413.out; subst eo52) | ((with_reducible refine gate_dst (N := 83) rfl ?_); refine Kd.R_lit (Kd.int .i64) _ 3 ?hg (N := 83) ?hd (xs := ([0, 1, 3, 2] : List Int)) (inner := [.int .i64 0, .int .i64 1, .int .i64 3, .int .i64 2]) (ok := fun _ => True) (okp := fun _ => True) ?hr ?hp (fun _ hk => hk) trivial (Below.refl _ _) (Nat.le_refl _) (by simp) ?_; (case hd => rfl); (case hg => rfl); (case hr => first | (go_simp; done) | (go_simp; rfl)); (case hp => exact repsI _); intro v415 w53 ho54 hb hg_ hnew_; clear hg_ hnew_; (first | rw [← Ny414.out] at ho54 | (simp only [Int.reduceToNat] at ho54; rw [← Ny414.out] at ho54)); have HO416 := Aside0.mk (Kd.R_lower (Kd.R_new' (Kd.R_new' (Kd.R_new' ho54 (ltR HO_6)) (ltR HO406)) (ltR HO413)) (szK HK)); replace HO_6 := eldRR HO_6 ho54 hb; replace HO406 := eldRR HO406 ho54 hb; replace HO413 := eldRR HO413 ho54 hb; replace HI0 := IsS83.up HI0 hb; replace HK := upKB HK hb; replace HB := upB HB hb; clear hb ho54))
          go_ret
          exact ⟨_, eqr, by (with_reducible repeat (first | apply Kd.R_alloc | apply Kd.R_drewN | apply Kd.R_drew)); exact Kd.R_mono HO416.out (fun _ hk => trivial), IsS83.at HI0, atB HB, atK HK⟩
         ·rw [if_neg c46] at H
          have c46b0 : ((t410.length : Int) == 0) = false := beq_eq_false_iff_ne.mpr c46
          have c46b1 : ((t410.length : Int) != 0) = true := bne_iff_ne.mpr c46
          have c46b2 : ¬ (t410 = []) := fun h_ => c46 (by rw [h_]; rfl)
          simp only [Option.some.injEq, Prod.mk.injEq] at H
          obtain ⟨rfl, rfl, rfl⟩ := H
          go_wp2_with (first | ((with_reducible refine gate_dst (N := 55) rfl ?_); refine Kd.R_lit (Kd.int .i64) _ 3 ?hg (N := 55) ?hd (xs := ([3, 5, 7, 11] : List Int)) (inner := [.int .i64 3, .int .i64 5, .int .i64 7, .int .i64 11]) (ok := fun _ => True) (okp := fun _ => True) ?hr ?hp (fun _ hk => hk) trivial (Below.refl _ _) (Nat.le_refl _) (by simp) ?_; (case hd => rfl); (case hg => rfl); (case hr => first | (go_simp; done) | (go_simp; rfl)); (case hp => exact repsI _); intro v405 w55 ho56 hb hg_ hnew_; clear hg_ hnew_; (first | rw [← Ny404.out] at ho56 | (simp only [Int.reduceToNat] at ho56; rw [← Ny404.out] at ho56)); have HO406 := Aside0.mk (Kd.R_lower (Kd.R_new' ho56 (ltR HO_6)) (szK HK)); replace HO_6 := eldRR HO_6 ho56 hb; replace HI0 := IsS83.up HI0 hb; replace HK := upKB HK hb; replace HB := upB HB hb; clear hb ho56; obtain ⟨Ao57, co57, eo57⟩ := Kd.R_slice HO406.out; subst eo57) | ((with_reducible refine gate_callee (f := 178) rfl ?_); refine goesA (some 56) Try.func178 #[.pointer (some ⟨g, 0, none⟩), .slice Ao57 y404.length co57] ?_; (with_reducible refine (spec_l1Cur_among.calls g s0_0 t389 t390 _ _ y404 t407 t408 t409 w0 _ ?side1 ?side2 ?side3 ?side4 ?side5 A44.out).mono ?_); (case side1 => exact IsS83.at HI0); (case side2 => exact atB HB); (case side3 => exact atRC HO406); (case side4 => exact (Kd.R_reads' HO406.out).2.1); (case side5 => exact far_slice (IsS83.own_ne HI0.out HO406.out (by decide))); rintro e w58 ⟨rfl, hi, hb, hk⟩; refine ⟨_, rfl, ?_⟩; replace HO_6 := IsS83.keepR HI0 HO_6 hk; replace HO406 := IsS83.keepR HI0 HO406 hk; replace HK := upK HK hk; replace HB := Aside0.mk (hb); replace HI0 := Aside0.mk (hi); (try clear hb); (try clear hb2); (try clear hk); (try clear hi)) | ((with_reducible refine gate_callee (f := 51) rfl ?_); refine goesA (some 57) Try.func51 #[.int .i64 t407, .int .i64 2] ?_; (with_reducible refine (spec_PowersDots.calls kj38 t407 2 t410 t411 _ A45.out).mono ?_); rintro e w59 ⟨v412, rfl, ho0, hb⟩; refine ⟨_, rfl, ?_⟩; have HO413 := Aside0.mk (Kd.R_lower (Kd.R_new' (Kd.R_new' ho0 (ltR HO_6)) (ltR HO406)) (szK HK)); replace HO_6 := eldRR HO_6 ho0 hb; replace HO406 := eldRR HO406 ho0 hb; replace HI0 := IsS83.up HI0 hb; replace HK := upKB HK hb; replace HB := upB HB hb; (try clear hb); (try clear hb2); (try clear hk); (try clear hi); (try clear ho0); obtain ⟨Ao60, co60, eo60⟩ := Kd.R_slice HO413.out; subst eo60))
          go_ret
          exact ⟨_, eqr, by (with_reducible repeat (first | apply Kd.R_alloc | apply Kd.R_drewN | apply Kd.R_drew)); exact Kd.R_mono HO413.out (fun _ hk => trivial), IsS83.at HI0, atB HB, atK HK⟩
        ·replace c43 := Bool.eq_false_iff.mpr c43
         subst c43
         have H1 : (if t388 = 5 then (spec_l1Cur_dots.j2 kj38 (wrap64 (1 + t379)) x6_1 t388 (t388 == 5) s0_0 t389 t390) else (spec_l1Cur_dots.j2 kj38 (wrap64 (1 + t379)) x6_1 t388 (t388 == 6) s0_0 t389 t390)) = some (r1, r2, r3) := by rw [if_neg (show ¬ (false = true) by decide)] at H; exact H
         clear H
         have H := H1
         clear H1
         have HC61 := Aside0.mk H
         clear H
         go_upto_if 60 with (fail)
         go_cut [60] (fun v60 wc => ∃ (kq : Nat) (x60_60 : Bool), v60 = .bool x60_60 ∧ Aside0 (spec_l1Cur_dots.j2 kq (wrap64 (1 + t379)) x6_1 t388 x60_60 s0_0 t389 t390 = some (r1, r2, r3)) ∧ Aside0 (kq ≤ kj38) ∧ Aside0 (Kd.R (Kd.int .i64) 3 wc w.heap.size (fun _ => True) u6 x6_1) ∧ Aside0 (IsS83 w0 wc g s0_0 t389 t390) ∧ Aside0 (KeepBut w wc g none) ∧ Aside0 (Below w0.heap.size w0 wc))
         case first =>
          have H := HC61.out
          clear HC61
          by_cases c62 : t388 = 5
          ·rw [if_pos c62] at H
           have c62b0 : (t388 == 5) = true := beq_iff_eq.mpr c62
           have c62b1 : (t388 != 5) = false := bne_eq_false_iff_eq.mpr c62
           clear c62
           (first | rw [c62b0] | (simp only [i64_w, i32_w]; rw [c62b0]) | skip)
           have H' := Aside0.mk H
           clear H
           go_wp2
           go_meet
           case rel => exact ⟨_, ((t388 == 5)), eqd, H', ⟨by have := HK1.out; have := HJ38.out; first | omega | exact Nat.le_refl _⟩, ⟨atR HO_6⟩, ⟨IsS83.at HI0⟩, ⟨atK HK⟩, ⟨atB HB⟩⟩
          ·rw [if_neg c62] at H
           have c62b0 : (t388 == 5) = false := beq_eq_false_iff_ne.mpr c62
           have c62b1 : (t388 != 5) = true := bne_iff_ne.mpr c62
           (first | rw [c62b0] | (simp only [i64_w, i32_w]; rw [c62b0]) | skip)
           have H' := Aside0.mk H
           clear H
           go_wp2
           go_meet
           case rel => exact ⟨_, ((t388 == 6)), eqd, H', ⟨by have := HK1.out; have := HJ38.out; first | omega | exact Nat.le_refl _⟩, ⟨atR HO_6⟩, ⟨IsS83.at HI0⟩, ⟨atK HK⟩, ⟨atB HB⟩⟩
         case rest =>
          clear HC61
          try clear c1
          try clear p1
          try clear q1
          try clear hx1
          try clear p2
          try clear c3
          try clear c4
          try clear c5
          try clear c5b0
          try clear c6
          try clear p6
          try clear c9
          try clear c12
          try clear c12b0
          try clear c12b1
          try clear c15
          try clear c15b0
          try clear c16
          try clear c16b0
          try clear c17
          try clear p17
          try clear q17
          try clear hx17
          try clear hf17
          try clear c18
          try clear c18b0
          try clear c18b1
          try clear c18b2
          try clear c19
          try clear c37
          try clear c37b0
          try clear c37b1
          try clear c41
          try clear c41b0
          try clear c41b1
          try clear c42
          try clear c42b0
          try clear c42b1
          try clear c43
          try clear c46
          try clear c46b0
          try clear c46b1
          try clear c46b2
          try clear c51
          try clear c62
          try clear c62b0
          try clear c62b1
          try clear hx17_0
          try clear p1
          try clear p17
          try clear p2
          try clear p6
          try clear q1
          try clear q17
          obtain ⟨kq, x60_60, rfl, HA, HJ60, HO_6, HI0, HK, HB⟩ := hcut
          cases kq with
          | zero => exact absurd HA.out (by simp [spec_l1Cur_dots.j2])
          | succ kj60 =>
           have H := HA.out
           clear HA
           simp only [spec_l1Cur_dots.j2] at H
           by_cases c63 : x60_60 = true
           ·subst c63
            have H1 : ((spec_l1Cur_among.f s0_0 t389 t390 (([2, 3] : List Int))).bind fun bt420 => ((spec_l1Cur_among.f s0_0 bt420.2.1 bt420.2.2 (([2, 3] : List Int))).bind fun bt426 => ((spec_LogsDots.f kj60 5 bt420.1 bt426.1).bind fun bt429 => (if (bt429.1.length : Int) = 0 then (some ((([0, 1, 3, 2] : List Int)), bt426.2.1, bt426.2.2)) else (some (bt429.1, bt426.2.1, bt426.2.2)))))) = some (r1, r2, r3) := by rw [if_pos rfl] at H; exact H
            clear H
            have H := H1
            clear H1
            obtain ⟨y417, hy417⟩ : ∃ y_ : List Int, y_ = (([2, 3] : List Int)) := ⟨_, rfl⟩
            replace H : ((spec_l1Cur_among.f s0_0 t389 t390 y417).bind fun bt420 => ((spec_l1Cur_among.f s0_0 bt420.2.1 bt420.2.2 (([2, 3] : List Int))).bind fun bt426 => ((spec_LogsDots.f kj60 5 bt420.1 bt426.1).bind fun bt429 => (if (bt429.1.length : Int) = 0 then (some ((([0, 1, 3, 2] : List Int)), bt426.2.1, bt426.2.2)) else (some (bt429.1, bt426.2.1, bt426.2.2)))))) = some (r1, r2, r3) := by first | (rw [hy417]; with_reducible exact H) | (have H2_ := (Option.bind_some _ _).symm.trans H; rw [hy417]; with_reducible exact H2_) | (have H2_ := (Option.bind_some _ _).symm.trans H; with_reducible exact H2_) | with_reducible exact H | (rw [hy417]; exact H) | exact H
            have Ny417 := Aside0.mk hy417
            clear hy417
            replace H := Option.bind_eq_some_iff.mp H
            obtain ⟨⟨t420, t421, t422⟩, A640, H⟩ := H
            replace H : ((spec_l1Cur_among.f s0_0 t421 t422 (([2, 3] : List Int))).bind fun bt426 => ((spec_LogsDots.f kj60 5 t420 bt426.1).bind fun bt429 => (if (bt429.1.length : Int) = 0 then (some ((([0, 1, 3, 2] : List Int)), bt426.2.1, bt426.2.2)) else (some (bt429.1, bt426.2.1, bt426.2.2))))) = some (r1, r2, r3) := H
            have A64 := Aside0.mk A640
            clear A640
            obtain ⟨y423, hy423⟩ : ∃ y_ : List Int, y_ = (([2, 3] : List Int)) := ⟨_, rfl⟩
            replace H : ((spec_l1Cur_among.f s0_0 t421 t422 y423).bind fun bt426 => ((spec_LogsDots.f kj60 5 t420 bt426.1).bind fun bt429 => (if (bt429.1.length : Int) = 0 then (some ((([0, 1, 3, 2] : List Int)), bt426.2.1, bt426.2.2)) else (some (bt429.1, bt426.2.1, bt426.2.2))))) = some (r1, r2, r3) := by first | (rw [hy423]; with_reducible exact H) | (have H2_ := (Option.bind_some _ _).symm.trans H; rw [hy423]; with_reducible exact H2_) | (have H2_ := (Option.bind_some _ _).symm.trans H; with_reducible exact H2_) | with_reducible exact H | (rw [hy423]; exact H) | exact H
            have Ny423 := Aside0.mk hy423
            clear hy423
            replace H := Option.bind_eq_some_iff.mp H
            obtain ⟨⟨t426, t427, t428⟩, A650, H⟩ := H
            replace H : ((spec_LogsDots.f kj60 5 t420 t426).bind fun bt429 => (if (bt429.1.length : Int) = 0 then (some ((([0, 1, 3, 2] : List Int)), t427, t428)) else (some (bt429.1, t427, t428)))) = some (r1, r2, r3) := H
            have A65 := Aside0.mk A650
            clear A650
            replace H := Option.bind_eq_some_iff.mp H
            obtain ⟨⟨t429, t430⟩, A660, H⟩ := H
            replace H : (if (t429.length : Int) = 0 then (some ((([0, 1, 3, 2] : List Int)), t427, t428)) else (some (t429, t427, t428))) = some (r1, r2, r3) := H
            have A66 := Aside0.mk A660
            clear A660
            by_cases c67 : (t429.length : Int) = 0
            ·rw [if_pos c67] at H
             have c67b0 : ((t429.length : Int) == 0) = true := beq_iff_eq.mpr c67
             have c67b1 : ((t429.length : Int) != 0) = false := bne_eq_false_iff_eq.mpr c67
             clear c67
             obtain ⟨y433, hy433⟩ : ∃ y_ : List Int, y_ = (([0, 1, 3, 2] : List Int)) := ⟨_, rfl⟩
             replace H : (some (y433, t427, t428)) = some (r1, r2, r3) := by first | (rw [hy433]; with_reducible exact H) | (have H2_ := (Option.bind_some _ _).symm.trans H; rw [hy433]; with_reducible exact H2_) | (have H2_ := (Option.bind_some _ _).symm.trans H; with_reducible exact H2_) | with_reducible exact H | (rw [hy433]; exact H) | exact H
             have Ny433 := Aside0.mk hy433
             clear hy433
             simp only [Option.some.injEq, Prod.mk.injEq] at H
             obtain ⟨rfl, rfl, rfl⟩ := H
             go_wp2_with (first | ((with_reducible refine gate_dst (N := 65) rfl ?_); refine Kd.R_lit (Kd.int .i64) _ 3 ?hg (N := 65) ?hd (xs := ([2, 3] : List Int)) (inner := [.int .i64 2, .int .i64 3]) (ok := fun _ => True) (okp := fun _ => True) ?hr ?hp (fun _ hk => hk) trivial (Below.refl _ _) (Nat.le_refl _) (by simp) ?_; (case hd => rfl); (case hg => rfl); (case hr => first | (go_simp; done) | (go_simp; rfl)); (case hp => exact repsI _); intro v418 w68 ho69 hb hg_ hnew_; clear hg_ hnew_; (first | rw [← Ny417.out] at ho69 | (simp only [Int.reduceToNat] at ho69; rw [← Ny417.out] at ho69)); have HO419 := Aside0.mk (Kd.R_lower (Kd.R_new' ho69 (ltR HO_6)) (szK HK)); replace HO_6 := eldRR HO_6 ho69 hb; replace HI0 := IsS83.up HI0 hb; replace HK := upKB HK hb; replace HB := upB HB hb; clear hb ho69; obtain ⟨Ao70, co70, eo70⟩ := Kd.R_slice HO419.out; subst eo70) | ((with_reducible refine gate_callee (f := 178) rfl ?_); refine goesA (some 66) Try.func178 #[.pointer (some ⟨g, 0, none⟩), .slice Ao70 y417.length co70] ?_; (with_reducible refine (spec_l1Cur_among.calls g s0_0 t389 t390 _ _ y417 t420 t421 t422 w0 _ ?side1 ?side2 ?side3 ?side4 ?side5 A64.out).mono ?_); (case side1 => exact IsS83.at HI0); (case side2 => exact atB HB); (case side3 => exact atRC HO419); (case side4 => exact (Kd.R_reads' HO419.out).2.1); (case side5 => exact far_slice (IsS83.own_ne HI0.out HO419.out (by decide))); rintro e w71 ⟨rfl, hi, hb, hk⟩; refine ⟨_, rfl, ?_⟩; replace HO_6 := IsS83.keepR HI0 HO_6 hk; replace HO419 := IsS83.keepR HI0 HO419 hk; replace HK := upK HK hk; replace HB := Aside0.mk (hb); replace HI0 := Aside0.mk (hi); (try clear hb); (try clear hb2); (try clear hk); (try clear hi)) | ((with_reducible refine gate_dst (N := 68) rfl ?_); refine Kd.R_lit (Kd.int .i64) _ 3 ?hg (N := 68) ?hd (xs := ([2, 3] : List Int)) (inner := [.int .i64 2, .int .i64 3]) (ok := fun _ => True) (okp := fun _ => True) ?hr ?hp (fun _ hk => hk) trivial (Below.refl _ _) (Nat.le_refl _) (by simp) ?_; (case hd => rfl); (case hg => rfl); (case hr => first | (go_simp; done) | (go_simp; rfl)); (case hp => exact repsI _); intro v424 w72 ho73 hb hg_ hnew_; clear hg_ hnew_; (first | rw [← Ny423.out] at ho73 | (simp only [Int.reduceToNat] at ho73; rw [← Ny423.out] at ho73)); have HO425 := Aside0.mk (Kd.R_lower (Kd.R_new' (Kd.R_new' ho73 (ltR HO_6)) (ltR HO419)) (szK HK)); replace HO_6 := eldRR HO_6 ho73 hb; replace HO419 := eldRR HO419 ho73 hb; replace HI0 := IsS83.up HI0 hb; replace HK := upKB HK hb; replace HB := upB HB hb; clear hb ho73; obtain ⟨Ao74, co74, eo74⟩ := Kd.R_slice HO425.out; subst eo74) | ((with_reducible refine gate_callee (f := 178) rfl ?_); refine goesA (some 69) Try.func178 #[.pointer (some ⟨g, 0, none⟩), .slice Ao74 y423.length co74] ?_; (with_reducible refine (spec_l1Cur_among.calls g s0_0 t421 t422 _ _ y423 t426 t427 t428 w0 _ ?side1 ?side2 ?side3 ?side4 ?side5 A65.out).mono ?_); (case side1 => exact IsS83.at HI0); (case side2 => exact atB HB); (case side3 => exact atRC HO425); (case side4 => exact (Kd.R_reads' HO425.out).2.1); (case side5 => exact far_slice (IsS83.own_ne HI0.out HO425.out (by decide))); rintro e w75 ⟨rfl, hi, hb, hk⟩; refine ⟨_, rfl, ?_⟩; replace HO_6 := IsS83.keepR HI0 HO_6 hk; replace HO419 := IsS83.keepR HI0 HO419 hk; replace HO425 := IsS83.keepR HI0 HO425 hk; replace HK := upK HK hk; replace HB := Aside0.mk (hb); replace HI0 := Aside0.mk (hi); (try clear hb); (try clear hb2); (try clear hk); (try clear hi)) | ((with_reducible refine gate_callee (f := 56) rfl ?_); refine goesA (some 70) Try.func56 #[.int .i64 5, .int .i64 t420, .int .i64 t426] ?_; (with_reducible refine (spec_LogsDots.calls kj60 5 t420 t426 t429 t430 _ A66.out).mono ?_); rintro e w76 ⟨v431, rfl, ho0, hb⟩; refine ⟨_, rfl, ?_⟩; have HO432 := Aside0.mk (Kd.R_lower (Kd.R_new' (Kd.R_new' (Kd.R_new' ho0 (ltR HO_6)) (ltR HO419)) (ltR HO425)) (szK HK)); replace HO_6 := eldRR HO_6 ho0 hb; replace HO419 := eldRR HO419 ho0 hb; replace HO425 := eldRR HO425 ho0 hb; replace HI0 := IsS83.up HI0 hb; replace HK := upKB HK hb; replace HB := upB HB hb; (try clear hb); (try clear hb2); (try clear hk); (try clear hi); (try clear ho0); obtain ⟨Ao77, co77, eo77⟩ := Kd.R_slice HO432.out; subst eo77) | ((with_reducible refine gate_dst (N := 83) rfl ?_); refine Kd.R_lit (Kd.int .i64) _ 3 ?hg (N := 83) ?hd (xs := ([0, 1, 3, 2] : List Int)) (inner := [.int .i64 0, .int .i64 1, .int .i64 3, .int .i64 2]) (ok := fun _ => True) (okp := fun _ => True) ?hr ?hp (fun _ hk => hk) trivial (Below.refl _ _) (Nat.le_refl _) (by simp) ?_; (case hd => rfl); (case hg => rfl); (case hr => first | (go_simp; done) | (go_simp; rfl)); (case hp => exact repsI _); intro v434 w78 ho79 hb hg_ hnew_; clear hg_ hnew_; (first | rw [← Ny433.out] at ho79 | (simp only [Int.reduceToNat] at ho79; rw [← Ny433.out] at ho79)); have HO435 := Aside0.mk (Kd.R_lower (Kd.R_new' (Kd.R_new' (Kd.R_new' (Kd.R_new' ho79 (ltR HO_6)) (ltR HO419)) (ltR HO425)) (ltR HO432)) (szK HK)); replace HO_6 := eldRR HO_6 ho79 hb; replace HO419 := eldRR HO419 ho79 hb; replace HO425 := eldRR HO425 ho79 hb; replace HO432 := eldRR HO432 ho79 hb; replace HI0 := IsS83.up HI0 hb; replace HK := upKB HK hb; replace HB := upB HB hb; clear hb ho79))
             go_ret
             exact ⟨_, eqr, by (with_reducible repeat (first | apply Kd.R_alloc | apply Kd.R_drewN | apply Kd.R_drew)); exact Kd.R_mono HO435.out (fun _ hk => trivial), IsS83.at HI0, atB HB, atK HK⟩
            ·rw [if_neg c67] at H
             have c67b0 : ((t429.length : Int) == 0) = false := beq_eq_false_iff_ne.mpr c67
             have c67b1 : ((t429.length : Int) != 0) = true := bne_iff_ne.mpr c67
             have c67b2 : ¬ (t429 = []) := fun h_ => c67 (by rw [h_]; rfl)
             simp only [Option.some.injEq, Prod.mk.injEq] at H
             obtain ⟨rfl, rfl, rfl⟩ := H
             go_wp2_with (first | ((with_reducible refine gate_dst (N := 65) rfl ?_); refine Kd.R_lit (Kd.int .i64) _ 3 ?hg (N := 65) ?hd (xs := ([2, 3] : List Int)) (inner := [.int .i64 2, .int .i64 3]) (ok := fun _ => True) (okp := fun _ => True) ?hr ?hp (fun _ hk => hk) trivial (Below.refl _ _) (Nat.le_refl _) (by simp) ?_; (case hd => rfl); (case hg => rfl); (case hr => first | (go_simp; done) | (go_simp; rfl)); (case hp => exact repsI _); intro v418 w80 ho81 hb hg_ hnew_; clear hg_ hnew_; (first | rw [← Ny417.out] at ho81 | (simp only [Int.reduceToNat] at ho81; rw [← Ny417.out] at ho81)); have HO419 := Aside0.mk (Kd.R_lower (Kd.R_new' ho81 (ltR HO_6)) (szK HK)); replace HO_6 := eldRR HO_6 ho81 hb; replace HI0 := IsS83.up HI0 hb; replace HK := upKB HK hb; replace HB := upB HB hb; clear hb ho81; obtain ⟨Ao82, co82, eo82⟩ := Kd.R_slice HO419.out; subst eo82) | ((with_reducible refine gate_callee (f := 178) rfl ?_); refine goesA (some 66) Try.func178 #[.pointer (some ⟨g, 0, none⟩), .slice Ao82 y417.length co82] ?_; (with_reducible refine (spec_l1Cur_among.calls g s0_0 t389 t390 _ _ y417 t420 t421 t422 w0 _ ?side1 ?side2 ?side3 ?side4 ?side5 A64.out).mono ?_); (case side1 => exact IsS83.at HI0); (case side2 => exact atB HB); (case side3 => exact atRC HO419); (case side4 => exact (Kd.R_reads' HO419.out).2.1); (case side5 => exact far_slice (IsS83.own_ne HI0.out HO419.out (by decide))); rintro e w83 ⟨rfl, hi, hb, hk⟩; refine ⟨_, rfl, ?_⟩; replace HO_6 := IsS83.keepR HI0 HO_6 hk; replace HO419 := IsS83.keepR HI0 HO419 hk; replace HK := upK HK hk; replace HB := Aside0.mk (hb); replace HI0 := Aside0.mk (hi); (try clear hb); (try clear hb2); (try clear hk); (try clear hi)) | ((with_reducible refine gate_dst (N := 68) rfl ?_); refine Kd.R_lit (Kd.int .i64) _ 3 ?hg (N := 68) ?hd (xs := ([2, 3] : List Int)) (inner := [.int .i64 2, .int .i64 3]) (ok := fun _ => True) (okp := fun _ => True) ?hr ?hp (fun _ hk => hk) trivial (Below.refl _ _) (Nat.le_refl _) (by simp) ?_; (case hd => rfl); (case hg => rfl); (case hr => first | (go_simp; done) | (go_simp; rfl)); (case hp => exact repsI _); intro v424 w84 ho85 hb hg_ hnew_; clear hg_ hnew_; (first | rw [← Ny423.out] at ho85 | (simp only [Int.reduceToNat] at ho85; rw [← Ny423.out] at ho85)); have HO425 := Aside0.mk (Kd.R_lower (Kd.R_new' (Kd.R_new' ho85 (ltR HO_6)) (ltR HO419)) (szK HK)); replace HO_6 := eldRR HO_6 ho85 hb; replace HO419 := eldRR HO419 ho85 hb; replace HI0 := IsS83.up HI0 hb; replace HK := upKB HK hb; replace HB := upB HB hb; clear hb ho85; obtain ⟨Ao86, co86, eo86⟩ := Kd.R_slice HO425.out; subst eo86) | ((with_reducible refine gate_callee (f := 178) rfl ?_); refine goesA (some 69) Try.func178 #[.pointer (some ⟨g, 0, none⟩), .slice Ao86 y423.length co86] ?_; (with_reducible refine (spec_l1Cur_among.calls g s0_0 t421 t422 _ _ y423 t426 t427 t428 w0 _ ?side1 ?side2 ?side3 ?side4 ?side5 A65.out).mono ?_); (case side1 => exact IsS83.at HI0); (case side2 => exact atB HB); (case side3 => exact atRC HO425); (case side4 => exact (Kd.R_reads' HO425.out).2.1); (case side5 => exact far_slice (IsS83.own_ne HI0.out HO425.out (by decide))); rintro e w87 ⟨rfl, hi, hb, hk⟩; refine ⟨_, rfl, ?_⟩; replace HO_6 := IsS83.keepR HI0 HO_6 hk; replace HO419 := IsS83.keepR HI0 HO419 hk; replace HO425 := IsS83.keepR HI0 HO425 hk; replace HK := upK HK hk; replace HB := Aside0.mk (hb); replace HI0 := Aside0.mk (hi); (try clear hb); (try clear hb2); (try clear hk); (try clear hi)) | ((with_reducible refine gate_callee (f := 56) rfl ?_); refine goesA (some 70) Try.func56 #[.int .i64 5, .int .i64 t420, .int .i64 t426] ?_; (with_reducible refine (spec_LogsDots.calls kj60 5 t420 t426 t429 t430 _ A66.out).mono ?_); rintro e w88 ⟨v431, rfl, ho0, hb⟩; refine ⟨_, rfl, ?_⟩; have HO432 := Aside0.mk (Kd.R_lower (Kd.R_new' (Kd.R_new' (Kd.R_new' ho0 (ltR HO_6)) (ltR HO419)) (ltR HO425)) (szK HK)); replace HO_6 := eldRR HO_6 ho0 hb; replace HO419 := eldRR HO419 ho0 hb; replace HO425 := eldRR HO425 ho0 hb; replace HI0 := IsS83.up HI0 hb; replace HK := upKB HK hb; replace HB := upB HB hb; (try clear hb); (try clear hb2); (try clear hk); (try clear hi); (try clear ho0); obtain ⟨Ao89, co89, eo89⟩ := Kd.R_slice HO432.out; subst eo89))
             go_ret
             exact ⟨_, eqr, by (with_reducible repeat (first | apply Kd.R_alloc | apply Kd.R_drewN | apply Kd.R_drew)); exact Kd.R_mono HO432.out (fun _ hk => trivial), IsS83.at HI0, atB HB, atK HK⟩
           ·replace c63 := Bool.eq_false_iff.mpr c63
            subst c63
            have H1 : (if t388 = 7 then ((some (([0] : List Int) : List Int)).bind fun y436 => ((spec_l1Cur_dotsUp.f kj60 s0_0 t389 t390 (wrap64 (1 + t379))).bind fun bt439 => (if y436.length + bt439.1.length < 17592186044416 then (some ((y436 ++ bt439.1), bt439.2.1, bt439.2.2)) else (none)))) else (if (x6_1.length : Int) = 0 then (some ((([0, 1, 3, 2] : List Int)), t389, t390)) else (some (x6_1, t389, t390)))) = some (r1, r2, r3) := by rw [if_neg (show ¬ (false = true) by decide)] at H; exact H
            clear H
            have H := H1
            clear H1
            by_cases c90 : t388 = 7
            ·rw [if_pos c90] at H
             have c90b0 : (t388 == 7) = true := beq_iff_eq.mpr c90
             have c90b1 : (t388 != 7) = false := bne_eq_false_iff_eq.mpr c90
             clear c90
             obtain ⟨y436, hy436⟩ : ∃ y_ : List Int, y_ = (([0] : List Int)) := ⟨_, rfl⟩
             replace H : ((spec_l1Cur_dotsUp.f kj60 s0_0 t389 t390 (wrap64 (1 + t379))).bind fun bt439 => (if y436.length + bt439.1.length < 17592186044416 then (some ((y436 ++ bt439.1), bt439.2.1, bt439.2.2)) else (none))) = some (r1, r2, r3) := by first | (rw [hy436]; with_reducible exact H) | (have H2_ := (Option.bind_some _ _).symm.trans H; rw [hy436]; with_reducible exact H2_) | (have H2_ := (Option.bind_some _ _).symm.trans H; with_reducible exact H2_) | with_reducible exact H | (rw [hy436]; exact H) | exact H
             have Ny436 := Aside0.mk hy436
             clear hy436
             replace H := Option.bind_eq_some_iff.mp H
             obtain ⟨⟨t439, t442, t443⟩, A910, H⟩ := H
             replace H : (if y436.length + t439.length < 17592186044416 then (some ((y436 ++ t439), t442, t443)) else (none)) = some (r1, r2, r3) := H
             have A91 := Aside0.mk A910
             clear A910
             by_cases c92 : y436.length + t439.length < 17592186044416
             ·rw [if_pos c92] at H
              have LMc92 := Aside0.mk c92
              clear c92
              obtain ⟨y444, hy444⟩ : ∃ y_ : List Int, y_ = (y436 ++ t439) := ⟨_, rfl⟩
              replace H : (some (y444, t442, t443)) = some (r1, r2, r3) := by first | (rw [hy444]; with_reducible exact H) | (have H2_ := (Option.bind_some _ _).symm.trans H; rw [hy444]; with_reducible exact H2_) | (have H2_ := (Option.bind_some _ _).symm.trans H; with_reducible exact H2_) | with_reducible exact H | (rw [hy444]; exact H) | exact H
              have Ny444 := Aside0.mk hy444
              clear hy444
              simp only [Option.some.injEq, Prod.mk.injEq] at H
              obtain ⟨rfl, rfl, rfl⟩ := H
              go_wp2_with (first | ((with_reducible refine gate_dst (N := 75) rfl ?_); refine Kd.R_lit (Kd.int .i64) _ 3 ?hg (N := 75) ?hd (xs := ([0] : List Int)) (inner := [.int .i64 0]) (ok := fun _ => True) (okp := fun _ => True) ?hr ?hp (fun _ hk => hk) trivial (Below.refl _ _) (Nat.le_refl _) (by simp) ?_; (case hd => rfl); (case hg => rfl); (case hr => first | (go_simp; done) | (go_simp; rfl)); (case hp => exact repsI _); intro v437 w93 ho94 hb hg_ hnew_; clear hg_ hnew_; (first | rw [← Ny436.out] at ho94 | (simp only [Int.reduceToNat] at ho94; rw [← Ny436.out] at ho94)); have HO438 := Aside0.mk (Kd.R_lower (Kd.R_new' ho94 (ltR HO_6)) (szK HK)); replace HO_6 := eldRR HO_6 ho94 hb; replace HI0 := IsS83.up HI0 hb; replace HK := upKB HK hb; replace HB := upB HB hb; clear hb ho94) | ((with_reducible refine gate_callee (f := 257) rfl ?_); refine goesA (some 78) Try.func257 #[.pointer (some ⟨g, 0, none⟩), .int .i64 (wrap64 (1 + t379))] ?_; (with_reducible refine (spec_l1Cur_dotsUp.calls kj60 g s0_0 t389 t390 (wrap64 (1 + t379)) t439 t442 t443 w0 _ ?side1 ?side2 A91.out).mono ?_); (case side1 => exact IsS83.at HI0); (case side2 => exact atB HB); rintro e w95 ⟨v440, rfl, ho0, hi, hb, hk⟩; refine ⟨_, rfl, ?_⟩; have HO441 := Aside0.mk (Kd.R_lower (Kd.R_new' (Kd.R_new' ho0 (ltR HO_6)) (ltR HO438)) (szK HK)); replace HO_6 := Aside0.mk (Kd.R_mono (Kd.R_told (Kd.R_oldK (IsS83.apart (show IsS83 w0 _ g s0_0 t389 t390 from IsS83.at HI0) (atR HO_6) (by decide)) hk) (Kd.R_base ho0)) (fun _ h_ => h_.1)); replace HO438 := Aside0.mk (Kd.R_mono (Kd.R_told (Kd.R_oldK (IsS83.apart (show IsS83 w0 _ g s0_0 t389 t390 from IsS83.at HI0) (atR HO438) (by decide)) hk) (Kd.R_base ho0)) (fun _ h_ => h_.1)); replace HK := upK HK hk; replace HB := Aside0.mk (hb); replace HI0 := Aside0.mk (hi); (try clear hb); (try clear hb2); (try clear hk); (try clear hi); (try clear ho0); obtain ⟨Ao97, co97, eo97⟩ := Kd.R_slice HO441.out; subst eo97) | ((with_reducible refine gate_builtin (b := .append) (xs := #[.tmp 75, .tmp 78]) rfl ?_); at_builtin; refine Kd.R_append_rows (Kd.int .i64) w.heap.size rfl (.tmp 75) (.tmp 78) 24 3 (.int .i64 0) 8 rfl Try.underlying24 info3 rfl (by decide) (by omega) v437 y436 t439 _ _ _ (fun k_ => some k_ ≠ (u6 : Value).ownBlock ∧ some k_ ≠ (.slice Ao97 t439.length co97 : Value).ownBlock) (fun _ => False) rfl rfl ?aO ?aR (fun _ _ h => h) (fun _ h => h.elim) ?aF (Below.refl _ _) ?aS ?aL ?_; (case aR => exact atRC HO441); (case aF => exact (fun k_ hk => ⟨Kd.fresh' (ltR HO_6) k_ hk, Kd.fresh' (ltR HO441) k_ hk⟩)); (case aO => exact (by (with_reducible repeat (first | apply Kd.R_alloc | apply Kd.R_drewN | apply Kd.R_drew)); exact Kd.R_mono HO438.out (fun _ hk => ⟨hk.1.2, hk.2⟩))); (case aS => exact (szK HK)); (case aL => have := LMc92.out; omega); intro v445 w96 ho hb hg hat; rw [← Ny444.out] at ho; have HO446 := Aside0.mk (ho); replace HO_6 := Aside0.mk (Kd.R_after (ok := (fun k_ => some k_ ≠ (.slice Ao97 t439.length co97 : Value).ownBlock)) (by (with_reducible repeat (first | apply Kd.R_alloc | apply Kd.R_drewN | apply Kd.R_drew)); exact Kd.R_mono HO_6.out (fun _ hk => ⟨hk.2, hk.1.2⟩)) hg hat); replace HI0 := Aside0.mk (IsS83.grown (IsS83.at HI0) hg (IsS83.own_ne HI0.out HO438.out (by decide))); replace HO441 := Aside0.mk (Kd.R_after (ok := (fun k_ => some k_ ≠ (u6 : Value).ownBlock)) (by (with_reducible repeat (first | apply Kd.R_alloc | apply Kd.R_drewN | apply Kd.R_drew)); exact Kd.R_mono HO441.out (fun _ hk => ⟨hk.1.2, hk.2⟩)) hg hat); replace HB := Aside0.mk (below_weaken (atB HB) HL.out hb); replace HK := Aside0.mk (KeepBut.trans (atK HK) (KeepBut.of_grown hg g) (Kd.R_base2 HO438.out)); clear HO438; clear ho hb hg hat))
              go_ret
              exact ⟨_, eqr, by (with_reducible repeat (first | apply Kd.R_alloc | apply Kd.R_drewN | apply Kd.R_drew)); exact Kd.R_mono HO446.out (fun _ hk => trivial), IsS83.at HI0, atB HB, atK HK⟩
             ·rw [if_neg c92] at H
              exact absurd H (by simp)
            ·rw [if_neg c90] at H
             have c90b0 : (t388 == 7) = false := beq_eq_false_iff_ne.mpr c90
             have c90b1 : (t388 != 7) = true := bne_iff_ne.mpr c90
             by_cases c98 : (x6_1.length : Int) = 0
             ·rw [if_pos c98] at H
              have c98b0 : ((x6_1.length : Int) == 0) = true := beq_iff_eq.mpr c98
              have c98b1 : ((x6_1.length : Int) != 0) = false := bne_eq_false_iff_eq.mpr c98
              clear c98
              obtain ⟨y447, hy447⟩ : ∃ y_ : List Int, y_ = (([0, 1, 3, 2] : List Int)) := ⟨_, rfl⟩
              replace H : (some (y447, t389, t390)) = some (r1, r2, r3) := by first | (rw [hy447]; with_reducible exact H) | (have H2_ := (Option.bind_some _ _).symm.trans H; rw [hy447]; with_reducible exact H2_) | (have H2_ := (Option.bind_some _ _).symm.trans H; with_reducible exact H2_) | with_reducible exact H | (rw [hy447]; exact H) | exact H
              have Ny447 := Aside0.mk hy447
              clear hy447
              simp only [Option.some.injEq, Prod.mk.injEq] at H
              obtain ⟨rfl, rfl, rfl⟩ := H
              obtain ⟨Ao99, co99, eo99⟩ := Kd.R_slice HO_6.out
              subst eo99
              go_wp2_with (first | ((with_reducible refine gate_dst (N := 83) rfl ?_); refine Kd.R_lit (Kd.int .i64) _ 3 ?hg (N := 83) ?hd (xs := ([0, 1, 3, 2] : List Int)) (inner := [.int .i64 0, .int .i64 1, .int .i64 3, .int .i64 2]) (ok := fun _ => True) (okp := fun _ => True) ?hr ?hp (fun _ hk => hk) trivial (Below.refl _ _) (Nat.le_refl _) (by simp) ?_; (case hd => rfl); (case hg => rfl); (case hr => first | (go_simp; done) | (go_simp; rfl)); (case hp => exact repsI _); intro v448 w100 ho101 hb hg_ hnew_; clear hg_ hnew_; (first | rw [← Ny447.out] at ho101 | (simp only [Int.reduceToNat] at ho101; rw [← Ny447.out] at ho101)); have HO449 := Aside0.mk (Kd.R_lower (Kd.R_new' ho101 (ltR HO_6)) (szK HK)); replace HO_6 := eldRR HO_6 ho101 hb; replace HI0 := IsS83.up HI0 hb; replace HK := upKB HK hb; replace HB := upB HB hb; clear hb ho101))
              go_ret
              exact ⟨_, eqr, by (with_reducible repeat (first | apply Kd.R_alloc | apply Kd.R_drewN | apply Kd.R_drew)); exact Kd.R_mono HO449.out (fun _ hk => trivial), IsS83.at HI0, atB HB, atK HK⟩
             ·rw [if_neg c98] at H
              have c98b0 : ((x6_1.length : Int) == 0) = false := beq_eq_false_iff_ne.mpr c98
              have c98b1 : ((x6_1.length : Int) != 0) = true := bne_iff_ne.mpr c98
              have c98b2 : ¬ (x6_1 = []) := fun h_ => c98 (by rw [h_]; rfl)
              simp only [Option.some.injEq, Prod.mk.injEq] at H
              obtain ⟨rfl, rfl, rfl⟩ := H
              obtain ⟨Ao102, co102, eo102⟩ := Kd.R_slice HO_6.out
              subst eo102
              go_wp2
              go_ret
              exact ⟨_, eqr, atR HO_6, IsS83.at HI0, atB HB, atK HK⟩

noncomputable def spec_l1Cur_dots.L0 (x5 : Int) (x6 : List Int) (x7 : Int) (x1000 : List Int) (x1001 : Int) (x1002 : Int) : Option (List Int × Int × Int) := lim fun k => spec_l1Cur_dots.l0 k x5 x6 x7 x1000 x1001 x1002
theorem spec_l1Cur_dots.L0_lim (x5 : Int) (x6 : List Int) (x7 : Int) (x1000 : List Int) (x1001 : Int) (x1002 : Int) : Lim (fun k => spec_l1Cur_dots.l0 k x5 x6 x7 x1000 x1001 x1002) (spec_l1Cur_dots.L0 x5 x6 x7 x1000 x1001 x1002) := Lim.of fun k => (spec_l1Cur_dots.mono_l k).1 x5 x6 x7 x1000 x1001 x1002
noncomputable def spec_l1Cur_dots.J1 (x5 : Int) (x6 : List Int) (x35 : Int) (x49 : Bool) (x1000 : List Int) (x1001 : Int) (x1002 : Int) : Option (List Int × Int × Int) := lim fun k => spec_l1Cur_dots.j1 k x5 x6 x35 x49 x1000 x1001 x1002
theorem spec_l1Cur_dots.J1_lim (x5 : Int) (x6 : List Int) (x35 : Int) (x49 : Bool) (x1000 : List Int) (x1001 : Int) (x1002 : Int) : Lim (fun k => spec_l1Cur_dots.j1 k x5 x6 x35 x49 x1000 x1001 x1002) (spec_l1Cur_dots.J1 x5 x6 x35 x49 x1000 x1001 x1002) := Lim.of fun k => (spec_l1Cur_dots.mono_l k).2.1 x5 x6 x35 x49 x1000 x1001 x1002
noncomputable def spec_l1Cur_dots.J2 (x5 : Int) (x6 : List Int) (x35 : Int) (x60 : Bool) (x1000 : List Int) (x1001 : Int) (x1002 : Int) : Option (List Int × Int × Int) := lim fun k => spec_l1Cur_dots.j2 k x5 x6 x35 x60 x1000 x1001 x1002
theorem spec_l1Cur_dots.J2_lim (x5 : Int) (x6 : List Int) (x35 : Int) (x60 : Bool) (x1000 : List Int) (x1001 : Int) (x1002 : Int) : Lim (fun k => spec_l1Cur_dots.j2 k x5 x6 x35 x60 x1000 x1001 x1002) (spec_l1Cur_dots.J2 x5 x6 x35 x60 x1000 x1001 x1002) := Lim.of fun k => (spec_l1Cur_dots.mono_l k).2.2 x5 x6 x35 x60 x1000 x1001 x1002
noncomputable def spec_l1Cur_dots.F (s0_0 : List Int) (s0_1 : Int) (s0_2 : Int) (a1 : Int) : Option (List Int × Int × Int) := lim fun k => spec_l1Cur_dots.f k s0_0 s0_1 s0_2 a1
theorem spec_l1Cur_dots.F_lim (s0_0 : List Int) (s0_1 : Int) (s0_2 : Int) (a1 : Int) : Lim (fun k => spec_l1Cur_dots.f k s0_0 s0_1 s0_2 a1) (spec_l1Cur_dots.F s0_0 s0_1 s0_2 a1) := Lim.of fun k => spec_l1Cur_dots.mono s0_0 s0_1 s0_2 a1 k
theorem spec_l1Cur_dots.L0_eq (x5 : Int) (x6 : List Int) (x7 : Int) (x1000 : List Int) (x1001 : Int) (x1002 : Int) : spec_l1Cur_dots.L0 x5 x6 x7 x1000 x1001 x1002 = (if x7 < x5 then ((spec_l1Cur_pick.f x1000 x1001 x1002 (wrap64 (x7 + 1))).bind fun bt382 => ((insAt.f x6 bt382.1 x7).bind fun t385 => (spec_l1Cur_dots.L0 x5 t385 (wrap64 (x7 + 1)) x1000 bt382.2.1 bt382.2.2))) else ((spec_l1Cur_pick.f x1000 x1001 x1002 12).bind fun bt388 => (if bt388.1 = 0 then ((spec_l1Cur_pick.f x1000 bt388.2.1 bt388.2.2 x5).bind fun bt391 => ((spec_l1Cur_among.f x1000 bt391.2.1 bt391.2.2 (([(-1), x5, 0, 4611686018427387904] : List Int))).bind fun bt397 => (if 0 ≤ bt391.1 then (if bt391.1 < (x6.length : Int) then (if (x6.length : Int) = 0 then (some ((([0, 1, 3, 2] : List Int)), bt397.2.1, bt397.2.2)) else (some ((x6.set (bt391.1 : Int).toNat bt397.1), bt397.2.1, bt397.2.2))) else (none)) else (none)))) else (if bt388.1 = 1 then (some (([] : List Int), bt388.2.1, bt388.2.2)) else (if bt388.1 = 2 then (spec_l1Cur_dots.J1 x5 x6 bt388.1 (bt388.1 == 2) x1000 bt388.2.1 bt388.2.2) else (if bt388.1 = 3 then (spec_l1Cur_dots.J1 x5 x6 bt388.1 (bt388.1 == 3) x1000 bt388.2.1 bt388.2.2) else (spec_l1Cur_dots.J1 x5 x6 bt388.1 (bt388.1 == 4) x1000 bt388.2.1 bt388.2.2))))))) :=
 Lim.step (f := fun k => spec_l1Cur_dots.l0 (k + 1) x5 x6 x7 x1000 x1001 x1002) (spec_l1Cur_dots.L0_lim x5 x6 x7 x1000 x1001 x1002) (fun _ => rfl) (by
  simp only [spec_l1Cur_dots.l0]
  repeat' (first | (with_reducible first | exact Lim.const _ | exact spec_l1Cur_dots.J1_lim _ _ _ _ _ _ _ | exact spec_l1Cur_dots.L0_lim _ _ _ _ _ _ | refine Lim.ite ?_ ?_ | refine Lim.bind ?_ (fun _ => ?_))))
theorem spec_l1Cur_dots.J1_eq (x5 : Int) (x6 : List Int) (x35 : Int) (x49 : Bool) (x1000 : List Int) (x1001 : Int) (x1002 : Int) : spec_l1Cur_dots.J1 x5 x6 x35 x49 x1000 x1001 x1002 = (if x49 = true then ((spec_l1Cur_among.f x1000 x1001 x1002 (([3, 5, 7, 11] : List Int))).bind fun bt407 => ((spec_PowersDots.F bt407.1 2).bind fun bt410 => (if (bt410.1.length : Int) = 0 then (some ((([0, 1, 3, 2] : List Int)), bt407.2.1, bt407.2.2)) else (some (bt410.1, bt407.2.1, bt407.2.2))))) else (if x35 = 5 then (spec_l1Cur_dots.J2 x5 x6 x35 (x35 == 5) x1000 x1001 x1002) else (spec_l1Cur_dots.J2 x5 x6 x35 (x35 == 6) x1000 x1001 x1002))) :=
 Lim.step (f := fun k => spec_l1Cur_dots.j1 (k + 1) x5 x6 x35 x49 x1000 x1001 x1002) (spec_l1Cur_dots.J1_lim x5 x6 x35 x49 x1000 x1001 x1002) (fun _ => rfl) (by
  simp only [spec_l1Cur_dots.j1]
  repeat' (first | (with_reducible first | exact Lim.const _ | exact spec_PowersDots.F_lim _ _ | exact spec_l1Cur_dots.J2_lim _ _ _ _ _ _ _ | refine Lim.ite ?_ ?_ | refine Lim.bind ?_ (fun _ => ?_))))
theorem spec_l1Cur_dots.J2_eq (x5 : Int) (x6 : List Int) (x35 : Int) (x60 : Bool) (x1000 : List Int) (x1001 : Int) (x1002 : Int) : spec_l1Cur_dots.J2 x5 x6 x35 x60 x1000 x1001 x1002 = (if x60 = true then ((spec_l1Cur_among.f x1000 x1001 x1002 (([2, 3] : List Int))).bind fun bt420 => ((spec_l1Cur_among.f x1000 bt420.2.1 bt420.2.2 (([2, 3] : List Int))).bind fun bt426 => ((spec_LogsDots.F 5 bt420.1 bt426.1).bind fun bt429 => (if (bt429.1.length : Int) = 0 then (some ((([0, 1, 3, 2] : List Int)), bt426.2.1, bt426.2.2)) else (some (bt429.1, bt426.2.1, bt426.2.2)))))) else (if x35 = 7 then ((some (([0] : List Int) : List Int)).bind fun y436 => ((spec_l1Cur_dotsUp.F x1000 x1001 x1002 x5).bind fun bt439 => (if y436.length + bt439.1.length < 17592186044416 then (some ((y436 ++ bt439.1), bt439.2.1, bt439.2.2)) else (none)))) else (if (x6.length : Int) = 0 then (some ((([0, 1, 3, 2] : List Int)), x1001, x1002)) else (some (x6, x1001, x1002))))) :=
 Lim.step (f := fun k => spec_l1Cur_dots.j2 (k + 1) x5 x6 x35 x60 x1000 x1001 x1002) (spec_l1Cur_dots.J2_lim x5 x6 x35 x60 x1000 x1001 x1002) (fun _ => rfl) (by
  simp only [spec_l1Cur_dots.j2]
  repeat' (first | (with_reducible first | exact Lim.const _ | exact spec_LogsDots.F_lim _ _ _ | exact spec_l1Cur_dotsUp.F_lim _ _ _ _ | refine Lim.ite ?_ ?_ | refine Lim.bind ?_ (fun _ => ?_))))
theorem spec_l1Cur_dots.F_eq (s0_0 : List Int) (s0_1 : Int) (s0_2 : Int) (a1 : Int) : spec_l1Cur_dots.F s0_0 s0_1 s0_2 a1 = ((spec_l1Cur_pick.f s0_0 s0_1 s0_2 a1).bind fun bt379 => (spec_l1Cur_dots.L0 (wrap64 (1 + bt379.1)) ([] : List Int) 0 s0_0 bt379.2.1 bt379.2.2)) :=
 Lim.unique (spec_l1Cur_dots.F_lim s0_0 s0_1 s0_2 a1) (by
  unfold spec_l1Cur_dots.f
  repeat' (first | (with_reducible first | exact Lim.const _ | exact spec_l1Cur_dots.L0_lim _ _ _ _ _ _ | refine Lim.ite ?_ ?_ | refine Lim.bind ?_ (fun _ => ?_))))

end Go.Proofs.Ytadhfbchilaklaa.Fn
namespace Go.Proofs.Ytadhfbchilaklaa.Fn
open Go.RowKit Go.Proofs.YtadhfbchilaklaaW.PrintWords Go.Proofs.YtadhfbchilaklaaW.PrintLast Go.Proofs.YtadhfbchilaklaaW.PrintMore
attribute [local go_sem] max2_int min2_int max_two min_two max_three min_three max_four min_four   -- for this text's walks alone
set_option linter.unusedVariables false
set_option linter.unusedSimpArgs false

/-! ### spec_DrawIsDots: function 159 -/
def spec_DrawIsDots.f (k : Nat) (l0 : List Int) : Option (List Int) := (spec_l1Cur_dots.f k l0 0 0 9).bind fun bt451 => (some bt451.1)
theorem spec_DrawIsDots.mono : ∀ a0 k, LeO (spec_DrawIsDots.f k a0) (spec_DrawIsDots.f (k + 1) a0) := by
 intro a0 k
 unfold spec_DrawIsDots.f
 repeat' (first | (with_reducible first | exact spec_l1Cur_dots.mono _ _ _ _ _ | exact LeO.refl _ | exact LeO.none _ | refine LeO.ite ?_ ?_ | refine LeO.bind ?_ (fun _ => ?_)) | exact spec_l1Cur_dots.mono _ _ _ _ _ | exact LeO.none _ | refine LeO.ite ?_ ?_ | refine LeO.bind ?_ (fun _ => ?_))
set_option maxHeartbeats 8000000 in
set_option maxRecDepth 100000 in
theorem spec_DrawIsDots.calls (k : Nat) (A0 : Option Addr) (c0 : Nat) (l0 : List Int) (r : List Int) (w : World) (hr0 : Kd.C (Kd.int .u8) w A0 l0.length l0) (hc0 : l0.length ≤ c0) (h : spec_DrawIsDots.f k l0 = some r) :
  Calls Try.prog 159 #[.slice A0 l0.length c0] w fun e w' => ∃ v0_ : Value, e = .returned (v0_) ∧ Kd.R (Kd.int .i64) 3 w' w.heap.size (fun _ => True) v0_ r ∧ Below w.heap.size w w' := by
 have hu83 := Try.underlying83
 have HR0 := Aside0.mk hr0
 have HC0 := Aside0.mk hc0
 clear hr0 hc0
 have HB := Aside0.mk (Below.refl w.heap.size w)
 have H := h
 unfold spec_DrawIsDots.f at H
 clear h
 replace H := Option.bind_eq_some_iff.mp H
 obtain ⟨⟨t451, t454, t455⟩, A20, H⟩ := H
 replace H : (some t451) = some r := H
 have A2 := Aside0.mk A20
 clear A20
 obtain rfl := Option.some.inj H
 go_enter Try.func159, Try.ntmps159
 go_wp2_with (first | ((with_reducible refine gate_dst (N := 6) rfl ?_); refine box_event ?hg (N := 6) ?hd (cs := #[.slice A0 l0.length c0, .int .i64 0, .int .u64 0]) (t := 83) ?hr ?_; (case hd => rfl); (case hg => rfl); (case hr => first | (go_simp; done) | (go_simp; rfl)); intro gb450 hg w3 hbox hb; have HI450 := Aside0.mk ((⟨_, _, hbox, (by rw [hg]; exact (szB HB) : w.heap.size ≤ gb450), HR0.out⟩ : IsS83 w w3 gb450 l0 0 0)); replace HB := upB HB hb; clear hb hbox hg) | ((with_reducible refine gate_callee (f := 193) rfl ?_); refine goesA (some 8) Try.func193 #[.pointer (some ⟨gb450, 0, none⟩), .int .i64 9] ?_; (with_reducible refine (spec_l1Cur_dots.calls k gb450 l0 0 0 9 t451 t454 t455 w _ ?side1 ?side2 A2.out).mono ?_); (case side1 => exact IsS83.at HI450); (case side2 => exact atB HB); rintro e w4 ⟨v452, rfl, ho0, hi, hb, hk⟩; refine ⟨_, rfl, ?_⟩; have HO453 := lowR ho0 HB; replace HB := Aside0.mk (hb); replace HI450 := Aside0.mk (hi); (try clear hb); (try clear hb2); (try clear hk); (try clear hi); (try clear ho0)))
 go_ret
 exact ⟨_, eqr, atR HO453, atB HB⟩

noncomputable def spec_DrawIsDots.F (l0 : List Int) : Option (List Int) := lim fun k => spec_DrawIsDots.f k l0
theorem spec_DrawIsDots.F_lim (l0 : List Int) : Lim (fun k => spec_DrawIsDots.f k l0) (spec_DrawIsDots.F l0) := Lim.of fun k => spec_DrawIsDots.mono l0 k
theorem spec_DrawIsDots.F_eq (l0 : List Int) : spec_DrawIsDots.F l0 = ((spec_l1Cur_dots.F l0 0 0 9).bind fun bt451 => (some bt451.1)) :=
 Lim.unique (spec_DrawIsDots.F_lim l0) (by
  unfold spec_DrawIsDots.f
  repeat' (first | (with_reducible first | exact Lim.const _ | exact spec_l1Cur_dots.F_lim _ _ _ _ | refine Lim.ite ?_ ?_ | refine Lim.bind ?_ (fun _ => ?_))))

end Go.Proofs.Ytadhfbchilaklaa.Fn
namespace Go.Proofs.Ytadhfbchilaklaa.Fn
open Go.RowKit Go.Proofs.YtadhfbchilaklaaW.PrintWords Go.Proofs.YtadhfbchilaklaaW.PrintLast Go.Proofs.YtadhfbchilaklaaW.PrintMore
attribute [local go_sem] max2_int min2_int max_two min_two max_three min_three max_four min_four   -- for this text's walks alone
set_option linter.unusedVariables false
set_option linter.unusedSimpArgs false

/-! ### spec_DrawTurnDots: function 34 -/
def spec_DrawTurnDots.f (k : Nat) (l0 : List Int) : Option (List Int) := (spec_DrawIsDots.f k l0).bind fun t456 => (some t456)
theorem spec_DrawTurnDots.mono : ∀ a0 k, LeO (spec_DrawTurnDots.f k a0) (spec_DrawTurnDots.f (k + 1) a0) := by
 intro a0 k
 unfold spec_DrawTurnDots.f
 repeat' (first | (with_reducible first | exact spec_DrawIsDots.mono _ _ | exact LeO.refl _ | exact LeO.none _ | refine LeO.ite ?_ ?_ | refine LeO.bind ?_ (fun _ => ?_)) | exact spec_DrawIsDots.mono _ _ | exact LeO.none _ | refine LeO.ite ?_ ?_ | refine LeO.bind ?_ (fun _ => ?_))
set_option maxHeartbeats 8000000 in
set_option maxRecDepth 100000 in
theorem spec_DrawTurnDots.calls (k : Nat) (A0 : Option Addr) (c0 : Nat) (l0 : List Int) (r : List Int) (w : World) (hr0 : Kd.C (Kd.int .u8) w A0 l0.length l0) (hc0 : l0.length ≤ c0) (h : spec_DrawTurnDots.f k l0 = some r) :
  Calls Try.prog 34 #[.slice A0 l0.length c0] w fun e w' => ∃ v0_ : Value, e = .returned (v0_) ∧ Kd.R (Kd.int .i64) 3 w' w.heap.size (fun _ => True) v0_ r ∧ Below w.heap.size w w' := by
 have HR0 := Aside0.mk hr0
 have HC0 := Aside0.mk hc0
 clear hr0 hc0
 have HB := Aside0.mk (Below.refl w.heap.size w)
 have H := h
 unfold spec_DrawTurnDots.f at H
 clear h
 replace H := Option.bind_eq_some_iff.mp H
 obtain ⟨t456, A20, H⟩ := H
 replace H : (some t456) = some r := H
 have A2 := Aside0.mk A20
 clear A20
 obtain rfl := Option.some.inj H
 go_enter Try.func34, Try.ntmps34
 go_wp2_with (first | ((with_reducible refine gate_callee (f := 159) rfl ?_); refine goesA (some 4) Try.func159 #[.slice A0 l0.length c0] ?_; (with_reducible refine (spec_DrawIsDots.calls k _ _ l0 t456 _ ?side1 ?side2 A2.out).mono ?_); (case side1 => repeat (first | exact HR0.out | (with_reducible refine Kd.C_alloc ?_ _) | (with_reducible refine Kd.C_drewN ?_ _) | (with_reducible refine Kd.C_drew ?_))); (case side2 => exact HC0.out); rintro e w3 ⟨v457, rfl, ho0, hb⟩; refine ⟨_, rfl, ?_⟩; have HO458 := lowR ho0 HB; replace HB := upB HB hb; (try clear hb); (try clear hb2); (try clear hk); (try clear hi); (try clear ho0)))
 go_ret
 exact ⟨_, eqr, atR HO458, atB HB⟩

noncomputable def spec_DrawTurnDots.F (l0 : List Int) : Option (List Int) := lim fun k => spec_DrawTurnDots.f k l0
theorem spec_DrawTurnDots.F_lim (l0 : List Int) : Lim (fun k => spec_DrawTurnDots.f k l0) (spec_DrawTurnDots.F l0) := Lim.of fun k => spec_DrawTurnDots.mono l0 k
theorem spec_DrawTurnDots.F_eq (l0 : List Int) : spec_DrawTurnDots.F l0 = ((spec_DrawIsDots.F l0).bind fun t456 => (some t456)) :=
 Lim.unique (spec_DrawTurnDots.F_lim l0) (by
  unfold spec_DrawTurnDots.f
  repeat' (first | (with_reducible first | exact Lim.const _ | exact spec_DrawIsDots.F_lim _ | refine Lim.ite ?_ ?_ | refine Lim.bind ?_ (fun _ => ?_))))

end Go.Proofs.Ytadhfbchilaklaa.Fn
namespace Go.Proofs.Ytadhfbchilaklaa.Fn
open Go.RowKit Go.Proofs.YtadhfbchilaklaaW.PrintWords Go.Proofs.YtadhfbchilaklaaW.PrintLast Go.Proofs.YtadhfbchilaklaaW.PrintMore
attribute [local go_sem] max2_int min2_int max_two min_two max_three min_three max_four min_four   -- for this text's walks alone
set_option linter.unusedVariables false
set_option linter.unusedSimpArgs false

/-! ### spec_doGood: function 161 -/
def spec_doGood.l0 : Nat → List Int → List Int → Int → Int → Option (Bool)
 | 0, _, _, _, _ => none
 | k + 1, x0, x9, x10, x11 => if x11 < x10 then (if 0 ≤ x11 then (if x11 < (x9.length : Int) then ((spec_l1In.f (rd x9 x11) 0 (wrap64 ((x0.length : Int) - 1))).bind fun t473 => (if t473 = true then (if x11 ≤ (x0.length : Int) then ((spec_l1Has.f k (x0.take (x11 : Int).toNat) (rd x9 x11)).bind fun t475 => (if t475 = true then (some false) else (spec_doGood.l0 k x0 x9 x10 (wrap64 (x11 + 1))))) else (none)) else (some false))) else (none)) else (none)) else (some true)
def spec_doGood.f (k : Nat) (l0 : List Int) : Option (Bool) := (spec_l1In.f (l0.length : Int) 1 12).bind fun t471 => (if t471 = true then (spec_doGood.l0 k l0 l0 (l0.length : Int) 0) else (some false))
theorem spec_doGood.mono_l : ∀ k, (∀ y0 y1 y2 y3, LeO (spec_doGood.l0 k y0 y1 y2 y3) (spec_doGood.l0 (k + 1) y0 y1 y2 y3))
 | 0 => fun _ _ _ _ r h => by simp [spec_doGood.l0] at h
 | k + 1 => by
  have ih0 := spec_doGood.mono_l k
  ·intro y0 y1 y2 y3
   unfold spec_doGood.l0
   repeat' (first | (with_reducible first | exact ih0 _ _ _ _ | exact spec_l1Has.mono _ _ _ | exact LeO.refl _ | exact LeO.none _ | refine LeO.ite ?_ ?_ | refine LeO.bind ?_ (fun _ => ?_)) | exact ih0 _ _ _ _ | exact spec_l1Has.mono _ _ _ | exact LeO.none _ | refine LeO.ite ?_ ?_ | refine LeO.bind ?_ (fun _ => ?_))
theorem spec_doGood.mono : ∀ a0 k, LeO (spec_doGood.f k a0) (spec_doGood.f (k + 1) a0) := by
 intro a0 k
 have ih0 := spec_doGood.mono_l k
 unfold spec_doGood.f
 repeat' (first | (with_reducible first | exact ih0 _ _ _ _ | exact LeO.refl _ | exact LeO.none _ | refine LeO.ite ?_ ?_ | refine LeO.bind ?_ (fun _ => ?_)) | exact ih0 _ _ _ _ | exact LeO.none _ | refine LeO.ite ?_ ?_ | refine LeO.bind ?_ (fun _ => ?_))
set_option maxHeartbeats 8000000 in
set_option maxRecDepth 100000 in
theorem spec_doGood.calls (k : Nat) (A0 : Option Addr) (c0 : Nat) (l0 : List Int) (r : Bool) (w : World) (hr0 : Kd.C (Kd.int .i64) w A0 l0.length l0) (hc0 : l0.length ≤ c0) (h : spec_doGood.f k l0 = some r) :
  Calls Try.prog 161 #[.slice A0 l0.length c0] w fun e w' => e = .returned (.bool r) ∧ Drawn0 w w' := by
 have HR0 := Aside0.mk hr0
 have HC0 := Aside0.mk hc0
 clear hr0 hc0
 have H := h
 unfold spec_doGood.f at H
 clear h
 replace H := Option.bind_eq_some_iff.mp H
 obtain ⟨t471, A20, H⟩ := H
 replace H : (if t471 = true then (spec_doGood.l0 k l0 l0 (l0.length : Int) 0) else (some false)) = some r := H
 have A2 := Aside0.mk A20
 clear A20
 by_cases c3 : t471 = true
 ·subst c3
  have H1 : (spec_doGood.l0 k l0 l0 (l0.length : Int) 0) = some r := by rw [if_pos rfl] at H; exact H
  clear H
  have H := H1
  clear H1
  have H' := Aside0.mk H
  clear H
  go_enter Try.func161, Try.ntmps161
  go_wp2_with (first | ((with_reducible refine gate_callee (f := 176) rfl ?_); refine goesA (some 7) Try.func176 #[.int .i64 (l0.length : Int), .int .i64 1, .int .i64 12] ?_; (with_reducible refine (spec_l1In.calls (l0.length : Int) 1 12 true _ A2.out).mono ?_); rintro e w' ⟨rfl, ⟨nd, rfl⟩⟩; refine ⟨_, rfl, ?_⟩))
  go_loopg [11] k (fun kq v11 w' => ∃ (x11_1 : Int), v11 = .int .i64 x11_1 ∧ Aside0 (spec_doGood.l0 kq l0 l0 (l0.length : Int) x11_1 = some r) ∧ Aside0 (kq ≤ k) ∧ Drawn0 w w')
  case atStart => exact ⟨(0), eqd, H', ⟨Nat.le_refl _⟩, by repeat (first | exact Drawn0.refl _ | apply Drawn0.step)⟩
  case round =>
   clear H'
   try clear c1
   try clear p2
   try clear c3
   obtain ⟨x11_1, rfl, HA, HK1, ⟨m1, rfl⟩⟩ := hrel
   cases gk with
   | zero => exact absurd HA.out (by simp [spec_doGood.l0])
   | succ k1 =>
    have H := HA.out
    clear HA
    simp only [spec_doGood.l0] at H
    by_cases c4 : x11_1 < (l0.length : Int)
    ·rw [if_pos c4] at H
     have c4b0 : decide (x11_1 < (l0.length : Int)) = true := decide_eq_true c4
     clear c4
     by_cases c5 : 0 ≤ x11_1
     ·rw [if_pos c5] at H
      have c5b0 : decide (0 ≤ x11_1) = true := decide_eq_true c5
      clear c5
      by_cases c6 : x11_1 < (l0.length : Int)
      ·rw [if_pos c6] at H
       have c6b0 : decide (x11_1 < (l0.length : Int)) = true := decide_eq_true c6
       clear c6
       replace H := Option.bind_eq_some_iff.mp H
       obtain ⟨t473, A70, H⟩ := H
       replace H : (if t473 = true then (if x11_1 ≤ (l0.length : Int) then ((spec_l1Has.f k1 (l0.take (x11_1 : Int).toNat) (rd l0 x11_1)).bind fun t475 => (if t475 = true then (some false) else (spec_doGood.l0 k1 l0 l0 (l0.length : Int) (wrap64 (x11_1 + 1))))) else (none)) else (some false)) = some r := H
       have A7 := Aside0.mk A70
       clear A70
       by_cases c8 : t473 = true
       ·subst c8
        have H1 : (if x11_1 ≤ (l0.length : Int) then ((spec_l1Has.f k1 (l0.take (x11_1 : Int).toNat) (rd l0 x11_1)).bind fun t475 => (if t475 = true then (some false) else (spec_doGood.l0 k1 l0 l0 (l0.length : Int) (wrap64 (x11_1 + 1))))) else (none)) = some r := by rw [if_pos rfl] at H; exact H
        clear H
        have H := H1
        clear H1
        have c9b0 := eq_true (of_decide_eq_true (by first | (with_reducible assumption) | assumption) : 0 ≤ x11_1)
        by_cases c10 : x11_1 ≤ (l0.length : Int)
        ·rw [if_pos c10] at H
         have c10b0 := eq_true c10
         have c10b1 : decide (x11_1 ≤ (l0.length : Int)) = true := decide_eq_true c10
         clear c10
         replace H := Option.bind_eq_some_iff.mp H
         obtain ⟨t475, A110, H⟩ := H
         replace H : (if t475 = true then (some false) else (spec_doGood.l0 k1 l0 l0 (l0.length : Int) (wrap64 (x11_1 + 1)))) = some r := H
         have A11 := Aside0.mk A110
         clear A110
         by_cases c12 : t475 = true
         ·subst c12
          have H1 : (some false) = some r := by rw [if_pos rfl] at H; exact H
          clear H
          have H := H1
          clear H1
          obtain rfl := Option.some.inj H
          have p472 : 0 ≤ (x11_1 : Int) := ofd
          have q472 : x11_1 < (l0.length : Int) := ofd
          obtain ⟨ad472, e472, hx472_0⟩ := Kd.at_int HR0.out x11_1 p472 q472
          cases e472
          replace p472 := eq_true p472
          replace q472 := eq_true q472
          go_wp2_with (first | ((with_reducible refine gate_callee (f := 176) rfl ?_); refine goesA (some 20) Try.func176 #[.int .i64 (rd l0 x11_1), .int .i64 0, .int .i64 (wrap64 ((l0.length : Int) - 1))] ?_; (with_reducible refine (spec_l1In.calls (rd l0 x11_1) 0 (wrap64 ((l0.length : Int) - 1)) true _ A7.out).mono ?_); rintro e w' ⟨rfl, ⟨nd, rfl⟩⟩; refine ⟨_, rfl, ?_⟩; obtain ⟨i013, hi013, _, hsz13, _⟩ := info_parts info3; obtain ⟨hcut13, hA13, hC13⟩ := print_take_of (P := Try.prog) (Value.int .i64) 0 24 3 .i64 Try.underlying24 hi013 hsz13 (some ad472) c0 l0 x11_1 (of_decide_eq_true (by first | (with_reducible assumption) | assumption)) (of_decide_eq_true (by first | (with_reducible assumption) | assumption)) HC0.out; have HR474 := Aside0.mk (Kd.C_of_reads (h1 := fun _ => rfl) (hA13 _ (Kd.reads_of_C HR0.out))); have HC474 := Aside0.mk hC13; clear hA13 hC13 hi013 hsz13) | (go_at_call 241; (try rw [show (Value.slice (some ad472) x11_1.toNat c0) = Value.slice (some ad472) (l0.take (x11_1 : Int).toNat).length c0 from (by rw [List.length_take]; have h_ : (x11_1 : Int) ≤ (l0.length : Int) := (by first | exact ofd | exact Int.le_of_lt ofd); rw [Nat.min_eq_left (by omega)])]); (with_reducible refine (spec_l1Has.calls k1 _ _ (l0.take (x11_1 : Int).toNat) (rd l0 x11_1) true _ ?side1 ?side2 A11.out).mono ?_); (case side1 => repeat (first | exact HR474.out | (with_reducible refine Kd.C_alloc ?_ _) | (with_reducible refine Kd.C_drewN ?_ _) | (with_reducible refine Kd.C_drew ?_))); (case side2 => exact HC474.out); rintro e w' ⟨rfl, ⟨nd, rfl⟩⟩))
          go_ret
          exact ⟨by first | rfl | (simp; done) | (simp [*]; done), by repeat (first | exact Drawn0.refl _ | apply Drawn0.step)⟩
         ·replace c12 := Bool.eq_false_iff.mpr c12
          subst c12
          have H1 : (spec_doGood.l0 k1 l0 l0 (l0.length : Int) (wrap64 (x11_1 + 1))) = some r := by rw [if_neg (show ¬ (false = true) by decide)] at H; exact H
          clear H
          have H := H1
          clear H1
          have H' := Aside0.mk H
          clear H
          have p472 : 0 ≤ (x11_1 : Int) := ofd
          have q472 : x11_1 < (l0.length : Int) := ofd
          obtain ⟨ad472, e472, hx472_0⟩ := Kd.at_int HR0.out x11_1 p472 q472
          cases e472
          replace p472 := eq_true p472
          replace q472 := eq_true q472
          go_wp2_with (first | ((with_reducible refine gate_callee (f := 176) rfl ?_); refine goesA (some 20) Try.func176 #[.int .i64 (rd l0 x11_1), .int .i64 0, .int .i64 (wrap64 ((l0.length : Int) - 1))] ?_; (with_reducible refine (spec_l1In.calls (rd l0 x11_1) 0 (wrap64 ((l0.length : Int) - 1)) true _ A7.out).mono ?_); rintro e w' ⟨rfl, ⟨nd, rfl⟩⟩; refine ⟨_, rfl, ?_⟩; obtain ⟨i014, hi014, _, hsz14, _⟩ := info_parts info3; obtain ⟨hcut14, hA14, hC14⟩ := print_take_of (P := Try.prog) (Value.int .i64) 0 24 3 .i64 Try.underlying24 hi014 hsz14 (some ad472) c0 l0 x11_1 (of_decide_eq_true (by first | (with_reducible assumption) | assumption)) (of_decide_eq_true (by first | (with_reducible assumption) | assumption)) HC0.out; have HR474 := Aside0.mk (Kd.C_of_reads (h1 := fun _ => rfl) (hA14 _ (Kd.reads_of_C HR0.out))); have HC474 := Aside0.mk hC14; clear hA14 hC14 hi014 hsz14) | (go_at_call 241; (try rw [show (Value.slice (some ad472) x11_1.toNat c0) = Value.slice (some ad472) (l0.take (x11_1 : Int).toNat).length c0 from (by rw [List.length_take]; have h_ : (x11_1 : Int) ≤ (l0.length : Int) := (by first | exact ofd | exact Int.le_of_lt ofd); rw [Nat.min_eq_left (by omega)])]); (with_reducible refine (spec_l1Has.calls k1 _ _ (l0.take (x11_1 : Int).toNat) (rd l0 x11_1) false _ ?side1 ?side2 A11.out).mono ?_); (case side1 => repeat (first | exact HR474.out | (with_reducible refine Kd.C_alloc ?_ _) | (with_reducible refine Kd.C_drewN ?_ _) | (with_reducible refine Kd.C_drew ?_))); (case side2 => exact HC474.out); rintro e w' ⟨rfl, ⟨nd, rfl⟩⟩))
          go_roundg k1
          case measure => have := HK1.out; omega
          case rel => exact ⟨(wrap64 (x11_1 + 1)), eqd, H', ⟨by have := HK1.out; omega⟩, by repeat (first | exact Drawn0.refl _ | apply Drawn0.step)⟩
        ·rw [if_neg c10] at H
         exact absurd H (by simp)
       ·replace c8 := Bool.eq_false_iff.mpr c8
        subst c8
        have H1 : (some false) = some r := by rw [if_neg (show ¬ (false = true) by decide)] at H; exact H
        clear H
        have H := H1
        clear H1
        obtain rfl := Option.some.inj H
        have p472 : 0 ≤ (x11_1 : Int) := ofd
        have q472 : x11_1 < (l0.length : Int) := ofd
        obtain ⟨ad472, e472, hx472_0⟩ := Kd.at_int HR0.out x11_1 p472 q472
        cases e472
        replace p472 := eq_true p472
        replace q472 := eq_true q472
        go_wp2_with (first | ((with_reducible refine gate_callee (f := 176) rfl ?_); refine goesA (some 20) Try.func176 #[.int .i64 (rd l0 x11_1), .int .i64 0, .int .i64 (wrap64 ((l0.length : Int) - 1))] ?_; (with_reducible refine (spec_l1In.calls (rd l0 x11_1) 0 (wrap64 ((l0.length : Int) - 1)) false _ A7.out).mono ?_); rintro e w' ⟨rfl, ⟨nd, rfl⟩⟩; refine ⟨_, rfl, ?_⟩))
        go_ret
        exact ⟨by first | rfl | (simp; done) | (simp [*]; done), by repeat (first | exact Drawn0.refl _ | apply Drawn0.step)⟩
      ·rw [if_neg c6] at H
       exact absurd H (by simp)
     ·rw [if_neg c5] at H
      exact absurd H (by simp)
    ·rw [if_neg c4] at H
     have c4b0 : decide (x11_1 < (l0.length : Int)) = false := decide_eq_false c4
     clear c4
     obtain rfl := Option.some.inj H
     go_wp2
     go_ret
     exact ⟨by first | rfl | (simp; done) | (simp [*]; done), by repeat (first | exact Drawn0.refl _ | apply Drawn0.step)⟩
 ·replace c3 := Bool.eq_false_iff.mpr c3
  subst c3
  have H1 : (some false) = some r := by rw [if_neg (show ¬ (false = true) by decide)] at H; exact H
  clear H
  have H := H1
  clear H1
  obtain rfl := Option.some.inj H
  go_enter Try.func161, Try.ntmps161
  go_wp2_with (first | ((with_reducible refine gate_callee (f := 176) rfl ?_); refine goesA (some 7) Try.func176 #[.int .i64 (l0.length : Int), .int .i64 1, .int .i64 12] ?_; (with_reducible refine (spec_l1In.calls (l0.length : Int) 1 12 false _ A2.out).mono ?_); rintro e w' ⟨rfl, ⟨nd, rfl⟩⟩; refine ⟨_, rfl, ?_⟩))
  go_ret
  exact ⟨by first | rfl | (simp; done) | (simp [*]; done), by repeat (first | exact Drawn0.refl _ | apply Drawn0.step)⟩

noncomputable def spec_doGood.L0 (x0 : List Int) (x9 : List Int) (x10 : Int) (x11 : Int) : Option (Bool) := lim fun k => spec_doGood.l0 k x0 x9 x10 x11
theorem spec_doGood.L0_lim (x0 : List Int) (x9 : List Int) (x10 : Int) (x11 : Int) : Lim (fun k => spec_doGood.l0 k x0 x9 x10 x11) (spec_doGood.L0 x0 x9 x10 x11) := Lim.of fun k => (spec_doGood.mono_l k) x0 x9 x10 x11
noncomputable def spec_doGood.F (l0 : List Int) : Option (Bool) := lim fun k => spec_doGood.f k l0
theorem spec_doGood.F_lim (l0 : List Int) : Lim (fun k => spec_doGood.f k l0) (spec_doGood.F l0) := Lim.of fun k => spec_doGood.mono l0 k
theorem spec_doGood.L0_eq (x0 : List Int) (x9 : List Int) (x10 : Int) (x11 : Int) : spec_doGood.L0 x0 x9 x10 x11 = (if x11 < x10 then (if 0 ≤ x11 then (if x11 < (x9.length : Int) then ((spec_l1In.f (rd x9 x11) 0 (wrap64 ((x0.length : Int) - 1))).bind fun t473 => (if t473 = true then (if x11 ≤ (x0.length : Int) then ((spec_l1Has.F (x0.take (x11 : Int).toNat) (rd x9 x11)).bind fun t475 => (if t475 = true then (some false) else (spec_doGood.L0 x0 x9 x10 (wrap64 (x11 + 1))))) else (none)) else (some false))) else (none)) else (none)) else (some true)) :=
 Lim.step (f := fun k => spec_doGood.l0 (k + 1) x0 x9 x10 x11) (spec_doGood.L0_lim x0 x9 x10 x11) (fun _ => rfl) (by
  simp only [spec_doGood.l0]
  repeat' (first | (with_reducible first | exact Lim.const _ | exact spec_doGood.L0_lim _ _ _ _ | exact spec_l1Has.F_lim _ _ | refine Lim.ite ?_ ?_ | refine Lim.bind ?_ (fun _ => ?_))))
theorem spec_doGood.F_eq (l0 : List Int) : spec_doGood.F l0 = ((spec_l1In.f (l0.length : Int) 1 12).bind fun t471 => (if t471 = true then (spec_doGood.L0 l0 l0 (l0.length : Int) 0) else (some false))) :=
 Lim.unique (spec_doGood.F_lim l0) (by
  unfold spec_doGood.f
  repeat' (first | (with_reducible first | exact Lim.const _ | exact spec_doGood.L0_lim _ _ _ _ | refine Lim.ite ?_ ?_ | refine Lim.bind ?_ (fun _ => ?_))))

end Go.Proofs.Ytadhfbchilaklaa.Fn
namespace Go.Proofs.Ytadhfbchilaklaa.Fn
open Go.RowKit Go.Proofs.YtadhfbchilaklaaW.PrintWords Go.Proofs.YtadhfbchilaklaaW.PrintLast Go.Proofs.YtadhfbchilaklaaW.PrintMore
attribute [local go_sem] max2_int min2_int max_two min_two max_three min_three max_four min_four   -- for this text's walks alone
set_option linter.unusedVariables false
set_option linter.unusedSimpArgs false

/-! ### spec_doTurn: function 162 -/
def spec_doTurn.l0 : Nat → List Int → List Int → List Int → Int → Int → Option (List Int)
 | 0, _, _, _, _, _ => none
 | k + 1, x0, x3, x9, x10, x11 => if x11 < x10 then (if 0 ≤ x11 then (if x11 < (x9.length : Int) then (if 0 ≤ (rd x9 x11) then (if (rd x9 x11) < (x3.length : Int) then (spec_doTurn.l0 k x0 (x3.set ((rd x9 x11) : Int).toNat (wrap64 ((wrap64 ((x0.length : Int) - 1)) - x11))) x9 x10 (wrap64 (x11 + 1))) else (none)) else (none)) else (none)) else (none)) else (some x3)
def spec_doTurn.f (k : Nat) (l0 : List Int) : Option (List Int) := if 0 ≤ (l0.length : Int) then (if ((l0.length : Int) : Int).toNat ≤ 35184372088832 then (spec_doTurn.l0 k l0 (List.replicate ((l0.length : Int) : Int).toNat 0) l0 (l0.length : Int) 0) else (none)) else (none)
theorem spec_doTurn.mono_l : ∀ k, (∀ y0 y1 y2 y3 y4, LeO (spec_doTurn.l0 k y0 y1 y2 y3 y4) (spec_doTurn.l0 (k + 1) y0 y1 y2 y3 y4))
 | 0 => fun _ _ _ _ _ r h => by simp [spec_doTurn.l0] at h
 | k + 1 => by
  have ih0 := spec_doTurn.mono_l k
  ·intro y0 y1 y2 y3 y4
   unfold spec_doTurn.l0
   repeat' (first | (with_reducible first | exact ih0 _ _ _ _ _ | exact LeO.refl _ | exact LeO.none _ | refine LeO.ite ?_ ?_ | refine LeO.bind ?_ (fun _ => ?_)) | exact ih0 _ _ _ _ _ | exact LeO.none _ | refine LeO.ite ?_ ?_ | refine LeO.bind ?_ (fun _ => ?_))
theorem spec_doTurn.mono : ∀ a0 k, LeO (spec_doTurn.f k a0) (spec_doTurn.f (k + 1) a0) := by
 intro a0 k
 have ih0 := spec_doTurn.mono_l k
 unfold spec_doTurn.f
 repeat' (first | (with_reducible first | exact ih0 _ _ _ _ _ | exact LeO.refl _ | exact LeO.none _ | refine LeO.ite ?_ ?_ | refine LeO.bind ?_ (fun _ => ?_)) | exact ih0 _ _ _ _ _ | exact LeO.none _ | refine LeO.ite ?_ ?_ | refine LeO.bind ?_ (fun _ => ?_))
set_option maxHeartbeats 8000000 in
set_option maxRecDepth 100000 in
theorem spec_doTurn.calls (k : Nat) (A0 : Option Addr) (c0 : Nat) (l0 : List Int) (r : List Int) (w : World) (hr0 : Kd.C (Kd.int .i64) w A0 l0.length l0) (hc0 : l0.length ≤ c0) (h : spec_doTurn.f k l0 = some r) :
  Calls Try.prog 162 #[.slice A0 l0.length c0] w fun e w' => ∃ v0_ : Value, e = .returned (v0_) ∧ Kd.R (Kd.int .i64) 3 w' w.heap.size (fun _ => True) v0_ r ∧ Below w.heap.size w w' := by
 have HR0 := Aside0.mk hr0
 have HC0 := Aside0.mk hc0
 clear hr0 hc0
 have HB := Aside0.mk (Below.refl w.heap.size w)
 have H := h
 unfold spec_doTurn.f at H
 clear h
 by_cases c2 : 0 ≤ (l0.length : Int)
 ·rw [if_pos c2] at H
  have c2b0 := eq_true c2
  have c2b1 : decide (0 ≤ (l0.length : Int)) = true := decide_eq_true c2
  clear c2
  by_cases c3 : ((l0.length : Int) : Int).toNat ≤ 35184372088832
  ·rw [if_pos c3] at H
   have c3b0 := eq_true c3
   have c3b1 : decide (((l0.length : Int) : Int).toNat ≤ 35184372088832) = true := decide_eq_true c3
   clear c3
   obtain ⟨y476, hy476⟩ : ∃ y_ : List Int, y_ = (List.replicate ((l0.length : Int) : Int).toNat 0) := ⟨_, rfl⟩
   replace H : (spec_doTurn.l0 k l0 y476 l0 (l0.length : Int) 0) = some r := by first | (rw [hy476]; with_reducible exact H) | (have H2_ := (Option.bind_some _ _).symm.trans H; rw [hy476]; with_reducible exact H2_) | (have H2_ := (Option.bind_some _ _).symm.trans H; with_reducible exact H2_) | with_reducible exact H | (rw [hy476]; exact H) | exact H
   have Ny476 := Aside0.mk hy476
   clear hy476
   have H' := Aside0.mk H
   clear H
   go_enter Try.func162, Try.ntmps162
   go_wp2_with (first | ((with_reducible refine gate_dst (N := 8) rfl ?_); refine Kd.R_make (Kd.int .i64) _ 3 rfl (N := 8) rfl 24 _ _ rfl (l0.length : Int) rfl rfl Try.underlying24 (.int .i64 0) 8 info3 rfl (by decide) (by omega) 0 (ok := fun _ => True) (okp := fun _ => True) rfl (fun _ hk => hk) trivial (of_decide_eq_true (by first | (with_reducible assumption) | assumption)) (Nat.le_trans (Nat.mul_le_mul_right _ (of_decide_eq_true (by first | (with_reducible assumption) | assumption) : (l0.length : Int).toNat ≤ 35184372088832)) (by omega)) (Below.refl _ _) (Nat.le_refl _) ?_; intro v477 w4 ho5 hb hg_ hnew_; clear hg_ hnew_; (first | rw [← Ny476.out] at ho5 | (simp only [Int.reduceToNat] at ho5; rw [← Ny476.out] at ho5)); have HO478 := lowR ho5 HB; replace HB := upB HB hb; clear hb ho5))
   go_loopg [11] k (fun kq v11 w' => ∃ (x3_1 : List Int) (x11_1 : Int), v11 = .int .i64 x11_1 ∧ Aside0 (spec_doTurn.l0 kq l0 x3_1 l0 (l0.length : Int) x11_1 = some r) ∧ Aside0 (kq ≤ k) ∧ Aside0 (Kd.R (Kd.int .i64) 3 w' w.heap.size (fun _ => True) v477 x3_1) ∧ Aside0 (Below w.heap.size w w'))
   case atStart => exact ⟨(y476), (0), eqd, H', ⟨Nat.le_refl _⟩, ⟨atR HO478⟩, ⟨atB HB⟩⟩
   case round =>
    clear H'
    try clear c1
    try clear c2
    try clear c2b0
    try clear c2b1
    try clear p2
    try clear c3
    try clear c3b0
    try clear c3b1
    obtain ⟨x3_1, x11_1, rfl, HA, HK1, HO_3, HB⟩ := hrel
    cases gk with
    | zero => exact absurd HA.out (by simp [spec_doTurn.l0])
    | succ k1 =>
     have H := HA.out
     clear HA
     simp only [spec_doTurn.l0] at H
     by_cases c6 : x11_1 < (l0.length : Int)
     ·rw [if_pos c6] at H
      have c6b0 : decide (x11_1 < (l0.length : Int)) = true := decide_eq_true c6
      clear c6
      by_cases c7 : 0 ≤ x11_1
      ·rw [if_pos c7] at H
       have c7b0 : decide (0 ≤ x11_1) = true := decide_eq_true c7
       clear c7
       by_cases c8 : x11_1 < (l0.length : Int)
       ·rw [if_pos c8] at H
        have c8b0 : decide (x11_1 < (l0.length : Int)) = true := decide_eq_true c8
        clear c8
        by_cases c9 : 0 ≤ (rd l0 x11_1)
        ·rw [if_pos c9] at H
         have c9b0 : decide (0 ≤ (rd l0 x11_1)) = true := decide_eq_true c9
         clear c9
         by_cases c10 : (rd l0 x11_1) < (x3_1.length : Int)
         ·rw [if_pos c10] at H
          have c10b0 : decide ((rd l0 x11_1) < (x3_1.length : Int)) = true := decide_eq_true c10
          clear c10
          obtain ⟨y480, hy480⟩ : ∃ y_ : List Int, y_ = (x3_1.set ((rd l0 x11_1) : Int).toNat (wrap64 ((wrap64 ((l0.length : Int) - 1)) - x11_1))) := ⟨_, rfl⟩
          replace H : (spec_doTurn.l0 k1 l0 y480 l0 (l0.length : Int) (wrap64 (x11_1 + 1))) = some r := by first | (rw [hy480]; with_reducible exact H) | (have H2_ := (Option.bind_some _ _).symm.trans H; rw [hy480]; with_reducible exact H2_) | (have H2_ := (Option.bind_some _ _).symm.trans H; with_reducible exact H2_) | with_reducible exact H | (rw [hy480]; exact H) | exact H
          have Ny480 := Aside0.mk hy480
          clear hy480
          have H' := Aside0.mk H
          clear H
          have p479 : 0 ≤ (x11_1 : Int) := ofd
          have q479 : x11_1 < (l0.length : Int) := ofd
          obtain ⟨ad479, e479, hx479_0⟩ := Kd.at_int HR0.out x11_1 p479 q479
          cases e479
          (try replace hx479_0 := (HB.out.cell (World.block_lt_of_cell? w _ hx479_0)).trans hx479_0)
          replace p479 := eq_true p479
          replace q479 := eq_true q479
          have p11 : 0 ≤ ((rd l0 x11_1) : Int) := ofd
          have q11 : ((rd l0 x11_1) : Int) < ((x3_1.length : Int) : Int) := ofd
          obtain ⟨go11, co11, eo11, gb11, gl11, cl11, HG11⟩ := Kd.R_form HO_3.out (by omega)
          (first | cases eo11 | (injection eo11 with ea_ en_ ec_; (first | subst ea_ | (injection ea_ with ea_; subst ea_)); subst ec_; clear en_))
          have GB11 := Aside0.mk gb11
          have GG11 := Aside0.mk HG11
          clear gb11 gl11 HG11
          obtain ⟨hx11_0, hf11_0⟩ := Kd.R_celln 0 HO_3.out ((rd l0 x11_1) : Int) p11 q11
          replace p11 := eq_true p11
          replace q11 := eq_true q11
          have HP12 := Kd.R_putg HO_3.out ((rd l0 x11_1) : Int) (wrap64 ((wrap64 ((l0.length : Int) - 1)) - x11_1))
          go_wp2_with (first | ((with_reducible refine gate_store (t := 3) (p := 23) rfl ?_); refine store_event (t := 3) (p := 23) (v := ?vo_w13) (w1 := (wr.setCell ⟨go11, ((rd l0 x11_1) : Int).toNat, none⟩ (.int .i64 (wrap64 ((wrap64 ((l0.length : Int) - 1)) - x11_1))))) ?hg ?ho ?hn ?hr ?_; (case ho => rfl); (case hg => rfl); (case hn => rfl); (case hr => first | (go_simp; done) | (go_simp; rfl)); intro w13 hw; have hg : wr.grownBy w13 (some go11) := (by rw [hw]; exact HP12.2); have hp_ : Kd.R (Kd.int .i64) 3 w13 w.heap.size (fun _ => True) (.slice (some ⟨go11, 0, none⟩) x3_1.length co11) y480 := (by rw [hw, Ny480.out]; exact HP12.1); clear HP12; replace HO_3 := Aside0.mk (hp_); replace HB := Aside0.mk ((by rw [hw]; exact below_set (HB.out) GB11.out : Below w.heap.size w w13)); clear hg hw hp_))
          go_roundg k1
          case measure => have := HK1.out; omega
          case rel => exact ⟨(y480), (wrap64 (x11_1 + 1)), eqd, H', ⟨by have := HK1.out; omega⟩, ⟨atR HO_3⟩, ⟨atB HB⟩⟩
         ·rw [if_neg c10] at H
          exact absurd H (by simp)
        ·rw [if_neg c9] at H
         exact absurd H (by simp)
       ·rw [if_neg c8] at H
        exact absurd H (by simp)
      ·rw [if_neg c7] at H
       exact absurd H (by simp)
     ·rw [if_neg c6] at H
      have c6b0 : decide (x11_1 < (l0.length : Int)) = false := decide_eq_false c6
      clear c6
      obtain rfl := Option.some.inj H
      go_wp2
      go_ret
      exact ⟨_, eqr, atR HO_3, atB HB⟩
  ·rw [if_neg c3] at H
   exact absurd H (by simp)
 ·rw [if_neg c2] at H
  exact absurd H (by simp)

noncomputable def spec_doTurn.L0 (x0 : List Int) (x3 : List Int) (x9 : List Int) (x10 : Int) (x11 : Int) : Option (List Int) := lim fun k => spec_doTurn.l0 k x0 x3 x9 x10 x11
theorem spec_doTurn.L0_lim (x0 : List Int) (x3 : List Int) (x9 : List Int) (x10 : Int) (x11 : Int) : Lim (fun k => spec_doTurn.l0 k x0 x3 x9 x10 x11) (spec_doTurn.L0 x0 x3 x9 x10 x11) := Lim.of fun k => (spec_doTurn.mono_l k) x0 x3 x9 x10 x11
noncomputable def spec_doTurn.F (l0 : List Int) : Option (List Int) := lim fun k => spec_doTurn.f k l0
theorem spec_doTurn.F_lim (l0 : List Int) : Lim (fun k => spec_doTurn.f k l0) (spec_doTurn.F l0) := Lim.of fun k => spec_doTurn.mono l0 k
theorem spec_doTurn.L0_eq (x0 : List Int) (x3 : List Int) (x9 : List Int) (x10 : Int) (x11 : Int) : spec_doTurn.L0 x0 x3 x9 x10 x11 = (if x11 < x10 then (if 0 ≤ x11 then (if x11 < (x9.length : Int) then (if 0 ≤ (rd x9 x11) then (if (rd x9 x11) < (x3.length : Int) then (spec_doTurn.L0 x0 (x3.set ((rd x9 x11) : Int).toNat (wrap64 ((wrap64 ((x0.length : Int) - 1)) - x11))) x9 x10 (wrap64 (x11 + 1))) else (none)) else (none)) else (none)) else (none)) else (some x3)) :=
 Lim.step (f := fun k => spec_doTurn.l0 (k + 1) x0 x3 x9 x10 x11) (spec_doTurn.L0_lim x0 x3 x9 x10 x11) (fun _ => rfl) (by
  simp only [spec_doTurn.l0]
  repeat' (first | (with_reducible first | exact Lim.const _ | exact spec_doTurn.L0_lim _ _ _ _ _ | refine Lim.ite ?_ ?_ | refine Lim.bind ?_ (fun _ => ?_))))
theorem spec_doTurn.F_eq (l0 : List Int) : spec_doTurn.F l0 = (if 0 ≤ (l0.length : Int) then (if ((l0.length : Int) : Int).toNat ≤ 35184372088832 then (spec_doTurn.L0 l0 (List.replicate ((l0.length : Int) : Int).toNat 0) l0 (l0.length : Int) 0) else (none)) else (none)) :=
 Lim.unique (spec_doTurn.F_lim l0) (by
  unfold spec_doTurn.f
  repeat' (first | (with_reducible first | exact Lim.const _ | exact spec_doTurn.L0_lim _ _ _ _ _ | refine Lim.ite ?_ ?_ | refine Lim.bind ?_ (fun _ => ?_))))

end Go.Proofs.Ytadhfbchilaklaa.Fn
namespace Go.Proofs.Ytadhfbchilaklaa.Fn
open Go.RowKit Go.Proofs.YtadhfbchilaklaaW.PrintWords Go.Proofs.YtadhfbchilaklaaW.PrintLast Go.Proofs.YtadhfbchilaklaaW.PrintMore
attribute [local go_sem] max2_int min2_int max_two min_two max_three min_three max_four min_four   -- for this text's walks alone
set_option linter.unusedVariables false
set_option linter.unusedSimpArgs false

/-! ### spec_TurnDots: function 36 -/
def spec_TurnDots.f (k : Nat) (l0 : List Int) : Option (List Int × Bool) := (spec_doGood.f k l0).bind fun t481 => (if t481 = true then ((spec_doTurn.f k l0).bind fun t482 => (some (t482, true))) else (some (([] : List Int), false)))
theorem spec_TurnDots.mono : ∀ a0 k, LeO (spec_TurnDots.f k a0) (spec_TurnDots.f (k + 1) a0) := by
 intro a0 k
 unfold spec_TurnDots.f
 repeat' (first | (with_reducible first | exact spec_doGood.mono _ _ | exact spec_doTurn.mono _ _ | exact LeO.refl _ | exact LeO.none _ | refine LeO.ite ?_ ?_ | refine LeO.bind ?_ (fun _ => ?_)) | exact spec_doGood.mono _ _ | exact spec_doTurn.mono _ _ | exact LeO.none _ | refine LeO.ite ?_ ?_ | refine LeO.bind ?_ (fun _ => ?_))
set_option maxHeartbeats 8000000 in
set_option maxRecDepth 100000 in
theorem spec_TurnDots.calls (k : Nat) (A0 : Option Addr) (c0 : Nat) (l0 : List Int) (r1 : List Int) (r2 : Bool) (w : World) (hr0 : Kd.C (Kd.int .i64) w A0 l0.length l0) (hc0 : l0.length ≤ c0) (h : spec_TurnDots.f k l0 = some (r1, r2)) :
  Calls Try.prog 36 #[.slice A0 l0.length c0] w fun e w' => ∃ v0_ : Value, e = .returned (.tuple #[v0_, .bool r2]) ∧ Kd.R (Kd.int .i64) 3 w' w.heap.size (fun _ => True) v0_ r1 ∧ Below w.heap.size w w' := by
 have HR0 := Aside0.mk hr0
 have HC0 := Aside0.mk hc0
 clear hr0 hc0
 have HB := Aside0.mk (Below.refl w.heap.size w)
 have H := h
 unfold spec_TurnDots.f at H
 clear h
 replace H := Option.bind_eq_some_iff.mp H
 obtain ⟨t481, A20, H⟩ := H
 replace H : (if t481 = true then ((spec_doTurn.f k l0).bind fun t482 => (some (t482, true))) else (some (([] : List Int), false))) = some (r1, r2) := H
 have A2 := Aside0.mk A20
 clear A20
 by_cases c3 : t481 = true
 ·subst c3
  have H1 : ((spec_doTurn.f k l0).bind fun t482 => (some (t482, true))) = some (r1, r2) := by rw [if_pos rfl] at H; exact H
  clear H
  have H := H1
  clear H1
  replace H := Option.bind_eq_some_iff.mp H
  obtain ⟨t482, A40, H⟩ := H
  replace H : (some (t482, true)) = some (r1, r2) := H
  have A4 := Aside0.mk A40
  clear A40
  simp only [Option.some.injEq, Prod.mk.injEq] at H
  obtain ⟨rfl, rfl⟩ := H
  go_enter Try.func36, Try.ntmps36
  go_wp2_with (first | ((with_reducible refine gate_callee (f := 161) rfl ?_); refine goesA (some 5) Try.func161 #[.slice A0 l0.length c0] ?_; (with_reducible refine (spec_doGood.calls k _ _ l0 true _ ?side1 ?side2 A2.out).mono ?_); (case side1 => repeat (first | exact HR0.out | (with_reducible refine Kd.C_alloc ?_ _) | (with_reducible refine Kd.C_drewN ?_ _) | (with_reducible refine Kd.C_drew ?_))); (case side2 => exact HC0.out); rintro e w' ⟨rfl, ⟨nd, rfl⟩⟩; refine ⟨_, rfl, ?_⟩) | ((with_reducible refine gate_callee (f := 162) rfl ?_); refine goesA (some 8) Try.func162 #[.slice A0 l0.length c0] ?_; (with_reducible refine (spec_doTurn.calls k _ _ l0 t482 _ ?side1 ?side2 A4.out).mono ?_); (case side1 => repeat (first | exact HR0.out | (with_reducible refine Kd.C_alloc ?_ _) | (with_reducible refine Kd.C_drewN ?_ _) | (with_reducible refine Kd.C_drew ?_))); (case side2 => exact HC0.out); rintro e w5 ⟨v483, rfl, ho0, hb⟩; refine ⟨_, rfl, ?_⟩; have HO484 := lowR ho0 HB; replace HB := upB HB hb; (try clear hb); (try clear hb2); (try clear hk); (try clear hi); (try clear ho0)))
  go_ret2
  exact ⟨_, eqr, atR HO484, atB HB⟩
 ·replace c3 := Bool.eq_false_iff.mpr c3
  subst c3
  have H1 : (some (([] : List Int), false)) = some (r1, r2) := by rw [if_neg (show ¬ (false = true) by decide)] at H; exact H
  clear H
  have H := H1
  clear H1
  simp only [Option.some.injEq, Prod.mk.injEq] at H
  obtain ⟨rfl, rfl⟩ := H
  go_enter Try.func36, Try.ntmps36
  go_wp2_with (first | ((with_reducible refine gate_callee (f := 161) rfl ?_); refine goesA (some 5) Try.func161 #[.slice A0 l0.length c0] ?_; (with_reducible refine (spec_doGood.calls k _ _ l0 false _ ?side1 ?side2 A2.out).mono ?_); (case side1 => repeat (first | exact HR0.out | (with_reducible refine Kd.C_alloc ?_ _) | (with_reducible refine Kd.C_drewN ?_ _) | (with_reducible refine Kd.C_drew ?_))); (case side2 => exact HC0.out); rintro e w' ⟨rfl, ⟨nd, rfl⟩⟩; refine ⟨_, rfl, ?_⟩))
  go_ret2
  exact ⟨_, eqr, by first | exact Kd.R_nil _ _ _ _ _ | exact Kd.N_nil _ _ _ _ _ | exact Kd.V_nil _ _ _ _ _ | exact Kd.Q_nil _ _ _ _ _ | exact Kd.S_nil _ _ _ _ _, atB HB⟩

noncomputable def spec_TurnDots.F (l0 : List Int) : Option (List Int × Bool) := lim fun k => spec_TurnDots.f k l0
theorem spec_TurnDots.F_lim (l0 : List Int) : Lim (fun k => spec_TurnDots.f k l0) (spec_TurnDots.F l0) := Lim.of fun k => spec_TurnDots.mono l0 k
theorem spec_TurnDots.F_eq (l0 : List Int) : spec_TurnDots.F l0 = ((spec_doGood.F l0).bind fun t481 => (if t481 = true then ((spec_doTurn.F l0).bind fun t482 => (some (t482, true))) else (some (([] : List Int), false)))) :=
 Lim.unique (spec_TurnDots.F_lim l0) (by
  unfold spec_TurnDots.f
  repeat' (first | (with_reducible first | exact Lim.const _ | exact spec_doGood.F_lim _ | exact spec_doTurn.F_lim _ | refine Lim.ite ?_ ?_ | refine Lim.bind ?_ (fun _ => ?_))))

end Go.Proofs.Ytadhfbchilaklaa.Fn
namespace Go.Proofs.Ytadhfbchilaklaa.Fn
open Go.RowKit Go.Proofs.YtadhfbchilaklaaW.PrintWords Go.Proofs.YtadhfbchilaklaaW.PrintLast Go.Proofs.YtadhfbchilaklaaW.PrintMore
attribute [local go_sem] max2_int min2_int max_two min_two max_three min_three max_four min_four   -- for this text's walks alone
set_option linter.unusedVariables false
set_option linter.unusedSimpArgs false

/-! ### spec_roBack: function 164 -/
def spec_roBack.l0 : Nat → List Int → List Int → Int → Option (List Int)
 | 0, _, _, _ => none
 | k + 1, x0, x3, x4 => if x4 ≥ 0 then (if 0 ≤ x4 then (if x4 < (x0.length : Int) then (if x3.length < 17592186044416 then (spec_roBack.l0 k x0 (x3 ++ [rd x0 x4]) (wrap64 (x4 - 1))) else (none)) else (none)) else (none)) else (some x3)
def spec_roBack.f (k : Nat) (l0 : List Int) : Option (List Int) := spec_roBack.l0 k l0 ([] : List Int) (wrap64 ((l0.length : Int) - 1))
theorem spec_roBack.mono_l : ∀ k, (∀ y0 y1 y2, LeO (spec_roBack.l0 k y0 y1 y2) (spec_roBack.l0 (k + 1) y0 y1 y2))
 | 0 => fun _ _ _ r h => by simp [spec_roBack.l0] at h
 | k + 1 => by
  have ih0 := spec_roBack.mono_l k
  ·intro y0 y1 y2
   unfold spec_roBack.l0
   repeat' (first | (with_reducible first | exact ih0 _ _ _ | exact LeO.refl _ | exact LeO.none _ | refine LeO.ite ?_ ?_ | refine LeO.bind ?_ (fun _ => ?_)) | exact ih0 _ _ _ | exact LeO.none _ | refine LeO.ite ?_ ?_ | refine LeO.bind ?_ (fun _ => ?_))
theorem spec_roBack.mono : ∀ a0 k, LeO (spec_roBack.f k a0) (spec_roBack.f (k + 1) a0) := by
 intro a0 k
 have ih0 := spec_roBack.mono_l k
 unfold spec_roBack.f
 repeat' (first | (with_reducible first | exact ih0 _ _ _ | exact LeO.refl _ | exact LeO.none _ | refine LeO.ite ?_ ?_ | refine LeO.bind ?_ (fun _ => ?_)) | exact ih0 _ _ _ | exact LeO.none _ | refine LeO.ite ?_ ?_ | refine LeO.bind ?_ (fun _ => ?_))
set_option maxHeartbeats 8000000 in
set_option maxRecDepth 100000 in
theorem spec_roBack.calls (k : Nat) (A0 : Option Addr) (c0 : Nat) (l0 : List Int) (r : List Int) (w : World) (hr0 : Kd.C (Kd.int .i64) w A0 l0.length l0) (hc0 : l0.length ≤ c0) (h : spec_roBack.f k l0 = some r) :
  Calls Try.prog 164 #[.slice A0 l0.length c0] w fun e w' => ∃ v0_ : Value, e = .returned (v0_) ∧ Kd.R (Kd.int .i64) 3 w' w.heap.size (fun _ => True) v0_ r ∧ Below w.heap.size w w' := by
 have HR0 := Aside0.mk hr0
 have HC0 := Aside0.mk hc0
 clear hr0 hc0
 have HB := Aside0.mk (Below.refl w.heap.size w)
 have H := h
 unfold spec_roBack.f at H
 clear h
 have H' := Aside0.mk H
 clear H
 go_enter Try.func164, Try.ntmps164
 go_wp2
 go_loopg [3, 4] k (fun kq v3 v4 w' => ∃ (x3_1 : List Int) (x4_1 : Int), v4 = .int .i64 x4_1 ∧ Aside0 (spec_roBack.l0 kq l0 x3_1 x4_1 = some r) ∧ Aside0 (kq ≤ k) ∧ Aside0 (Kd.R (Kd.int .i64) 3 w' w.heap.size (fun _ => True) v3 x3_1) ∧ Aside0 (Below w.heap.size w w'))
 case atStart => exact ⟨(([] : List Int)), (wrap64 ((l0.length : Int) - 1)), eqd, H', ⟨Nat.le_refl _⟩, ⟨by first | exact Kd.R_nil _ _ _ _ _ | exact Kd.N_nil _ _ _ _ _ | exact Kd.V_nil _ _ _ _ _ | exact Kd.Q_nil _ _ _ _ _ | exact Kd.S_nil _ _ _ _ _⟩, ⟨atB HB⟩⟩
 case round =>
  clear H'
  try clear c1
  obtain ⟨x3_1, x4_1, rfl, HA, HK1, HO_3, HB⟩ := hrel
  cases gk with
  | zero => exact absurd HA.out (by simp [spec_roBack.l0])
  | succ k1 =>
   have H := HA.out
   clear HA
   simp only [spec_roBack.l0] at H
   by_cases c2 : x4_1 ≥ 0
   ·rw [if_pos c2] at H
    have c2b0 : decide (0 ≤ x4_1) = true := decide_eq_true c2
    clear c2
    by_cases c3 : 0 ≤ x4_1
    ·rw [if_pos c3] at H
     have c3b0 : decide (0 ≤ x4_1) = true := decide_eq_true c3
     clear c3
     by_cases c4 : x4_1 < (l0.length : Int)
     ·rw [if_pos c4] at H
      have c4b0 : decide (x4_1 < (l0.length : Int)) = true := decide_eq_true c4
      clear c4
      by_cases c5 : x3_1.length < 17592186044416
      ·rw [if_pos c5] at H
       have LMc5 := Aside0.mk c5
       clear c5
       obtain ⟨y498, hy498⟩ : ∃ y_ : List Int, y_ = (x3_1 ++ [rd l0 x4_1]) := ⟨_, rfl⟩
       replace H : (spec_roBack.l0 k1 l0 y498 (wrap64 (x4_1 - 1))) = some r := by first | (rw [hy498]; with_reducible exact H) | (have H2_ := (Option.bind_some _ _).symm.trans H; rw [hy498]; with_reducible exact H2_) | (have H2_ := (Option.bind_some _ _).symm.trans H; with_reducible exact H2_) | with_reducible exact H | (rw [hy498]; exact H) | exact H
       have Ny498 := Aside0.mk hy498
       clear hy498
       have H' := Aside0.mk H
       clear H
       have p497 : 0 ≤ (x4_1 : Int) := ofd
       have q497 : x4_1 < (l0.length : Int) := ofd
       obtain ⟨ad497, e497, hx497_0⟩ := Kd.at_int HR0.out x4_1 p497 q497
       cases e497
       (try replace hx497_0 := (HB.out.cell (World.block_lt_of_cell? w _ hx497_0)).trans hx497_0)
       replace p497 := eq_true p497
       replace q497 := eq_true q497
       go_wp2_with (first | ((with_reducible refine gate_builtin (b := .append) (xs := #[.tmp 12, .tmp 17]) rfl ?_); at_builtin; refine Kd.R_append (Kd.int .i64) (w0 := w) w.heap.size rfl (.tmp 12) (.tmp 17) 24 3 (.int .i64 0) 8 rfl Try.underlying24 info3 rfl (by decide) (by omega) u3 x3_1 (rd l0 x4_1) [.int .i64 (rd l0 x4_1)] (fun _ => True) (fun _ => False) rfl rfl ?aP (fun _ hk => hk.elim) ?aF ?aO ?aB ?aS ?aL ?_; (case aP => exact rfl); (case aB => exact (atB HB)); (case aF => exact (fun _ _ => trivial)); (case aO => exact (atR HO_3)); (case aS => exact (szB HB)); (case aL => have := LMc5.out; omega); intro v499 w6 ho hb hg hat; rw [← Ny498.out] at ho; have HO500 := Aside0.mk (ho); replace HB := Aside0.mk (hb); clear HO_3; clear ho hb hg hat))
       go_roundg k1
       case measure => have := HK1.out; omega
       case rel => exact ⟨(y498), (wrap64 (x4_1 - 1)), eqd, H', ⟨by have := HK1.out; omega⟩, ⟨atR HO500⟩, ⟨atB HB⟩⟩
      ·rw [if_neg c5] at H
       exact absurd H (by simp)
     ·rw [if_neg c4] at H
      exact absurd H (by simp)
    ·rw [if_neg c3] at H
     exact absurd H (by simp)
   ·rw [if_neg c2] at H
    have c2b0 : decide (0 ≤ x4_1) = false := decide_eq_false c2
    clear c2
    obtain rfl := Option.some.inj H
    go_wp2
    go_ret
    exact ⟨_, eqr, atR HO_3, atB HB⟩

noncomputable def spec_roBack.L0 (x0 : List Int) (x3 : List Int) (x4 : Int) : Option (List Int) := lim fun k => spec_roBack.l0 k x0 x3 x4
theorem spec_roBack.L0_lim (x0 : List Int) (x3 : List Int) (x4 : Int) : Lim (fun k => spec_roBack.l0 k x0 x3 x4) (spec_roBack.L0 x0 x3 x4) := Lim.of fun k => (spec_roBack.mono_l k) x0 x3 x4
noncomputable def spec_roBack.F (l0 : List Int) : Option (List Int) := lim fun k => spec_roBack.f k l0
theorem spec_roBack.F_lim (l0 : List Int) : Lim (fun k => spec_roBack.f k l0) (spec_roBack.F l0) := Lim.of fun k => spec_roBack.mono l0 k
theorem spec_roBack.L0_eq (x0 : List Int) (x3 : List Int) (x4 : Int) : spec_roBack.L0 x0 x3 x4 = (if x4 ≥ 0 then (if 0 ≤ x4 then (if x4 < (x0.length : Int) then (if x3.length < 17592186044416 then (spec_roBack.L0 x0 (x3 ++ [rd x0 x4]) (wrap64 (x4 - 1))) else (none)) else (none)) else (none)) else (some x3)) :=
 Lim.step (f := fun k => spec_roBack.l0 (k + 1) x0 x3 x4) (spec_roBack.L0_lim x0 x3 x4) (fun _ => rfl) (by
  simp only [spec_roBack.l0]
  repeat' (first | (with_reducible first | exact Lim.const _ | exact spec_roBack.L0_lim _ _ _ | refine Lim.ite ?_ ?_ | refine Lim.bind ?_ (fun _ => ?_))))
theorem spec_roBack.F_eq (l0 : List Int) : spec_roBack.F l0 = (spec_roBack.L0 l0 ([] : List Int) (wrap64 ((l0.length : Int) - 1))) :=
 Lim.unique (spec_roBack.F_lim l0) (by
  unfold spec_roBack.f
  repeat' (first | (with_reducible first | exact Lim.const _ | exact spec_roBack.L0_lim _ _ _ | refine Lim.ite ?_ ?_ | refine Lim.bind ?_ (fun _ => ?_))))

end Go.Proofs.Ytadhfbchilaklaa.Fn
namespace Go.Proofs.Ytadhfbchilaklaa.Fn
open Go.RowKit Go.Proofs.YtadhfbchilaklaaW.PrintWords Go.Proofs.YtadhfbchilaklaaW.PrintLast Go.Proofs.YtadhfbchilaklaaW.PrintMore
attribute [local go_sem] max2_int min2_int max_two min_two max_three min_three max_four min_four   -- for this text's walks alone
set_option linter.unusedVariables false
set_option linter.unusedSimpArgs false

/-! ### spec_MirrorDots: function 38 -/
def spec_MirrorDots.f (k : Nat) (l0 : List Int) : Option (List Int × Bool) := (spec_doGood.f k l0).bind fun t501 => (if t501 = true then ((spec_roBack.f k l0).bind fun t502 => (some (t502, true))) else (some (([] : List Int), false)))
theorem spec_MirrorDots.mono : ∀ a0 k, LeO (spec_MirrorDots.f k a0) (spec_MirrorDots.f (k + 1) a0) := by
 intro a0 k
 unfold spec_MirrorDots.f
 repeat' (first | (with_reducible first | exact spec_doGood.mono _ _ | exact spec_roBack.mono _ _ | exact LeO.refl _ | exact LeO.none _ | refine LeO.ite ?_ ?_ | refine LeO.bind ?_ (fun _ => ?_)) | exact spec_doGood.mono _ _ | exact spec_roBack.mono _ _ | exact LeO.none _ | refine LeO.ite ?_ ?_ | refine LeO.bind ?_ (fun _ => ?_))
set_option maxHeartbeats 8000000 in
set_option maxRecDepth 100000 in
theorem spec_MirrorDots.calls (k : Nat) (A0 : Option Addr) (c0 : Nat) (l0 : List Int) (r1 : List Int) (r2 : Bool) (w : World) (hr0 : Kd.C (Kd.int .i64) w A0 l0.length l0) (hc0 : l0.length ≤ c0) (h : spec_MirrorDots.f k l0 = some (r1, r2)) :
  Calls Try.prog 38 #[.slice A0 l0.length c0] w fun e w' => ∃ v0_ : Value, e = .returned (.tuple #[v0_, .bool r2]) ∧ Kd.R (Kd.int .i64) 3 w' w.heap.size (fun _ => True) v0_ r1 ∧ Below w.heap.size w w' := by
 have HR0 := Aside0.mk hr0
 have HC0 := Aside0.mk hc0
 clear hr0 hc0
 have HB := Aside0.mk (Below.refl w.heap.size w)
 have H := h
 unfold spec_MirrorDots.f at H
 clear h
 replace H := Option.bind_eq_some_iff.mp H
 obtain ⟨t501, A20, H⟩ := H
 replace H : (if t501 = true then ((spec_roBack.f k l0).bind fun t502 => (some (t502, true))) else (some (([] : List Int), false))) = some (r1, r2) := H
 have A2 := Aside0.mk A20
 clear A20
 by_cases c3 : t501 = true
 ·subst c3
  have H1 : ((spec_roBack.f k l0).bind fun t502 => (some (t502, true))) = some (r1, r2) := by rw [if_pos rfl] at H; exact H
  clear H
  have H := H1
  clear H1
  replace H := Option.bind_eq_some_iff.mp H
  obtain ⟨t502, A40, H⟩ := H
  replace H : (some (t502, true)) = some (r1, r2) := H
  have A4 := Aside0.mk A40
  clear A40
  simp only [Option.some.injEq, Prod.mk.injEq] at H
  obtain ⟨rfl, rfl⟩ := H
  go_enter Try.func38, Try.ntmps38
  go_wp2_with (first | ((with_reducible refine gate_callee (f := 161) rfl ?_); refine goesA (some 5) Try.func161 #[.slice A0 l0.length c0] ?_; (with_reducible refine (spec_doGood.calls k _ _ l0 true _ ?side1 ?side2 A2.out).mono ?_); (case side1 => repeat (first | exact HR0.out | (with_reducible refine Kd.C_alloc ?_ _) | (with_reducible refine Kd.C_drewN ?_ _) | (with_reducible refine Kd.C_drew ?_))); (case side2 => exact HC0.out); rintro e w' ⟨rfl, ⟨nd, rfl⟩⟩; refine ⟨_, rfl, ?_⟩) | ((with_reducible refine gate_callee (f := 164) rfl ?_); refine goesA (some 8) Try.func164 #[.slice A0 l0.length c0] ?_; (with_reducible refine (spec_roBack.calls k _ _ l0 t502 _ ?side1 ?side2 A4.out).mono ?_); (case side1 => repeat (first | exact HR0.out | (with_reducible refine Kd.C_alloc ?_ _) | (with_reducible refine Kd.C_drewN ?_ _) | (with_reducible refine Kd.C_drew ?_))); (case side2 => exact HC0.out); rintro e w5 ⟨v503, rfl, ho0, hb⟩; refine ⟨_, rfl, ?_⟩; have HO504 := lowR ho0 HB; replace HB := upB HB hb; (try clear hb); (try clear hb2); (try clear hk); (try clear hi); (try clear ho0)))
  go_ret2
  exact ⟨_, eqr, atR HO504, atB HB⟩
 ·replace c3 := Bool.eq_false_iff.mpr c3
  subst c3
  have H1 : (some (([] : List Int), false)) = some (r1, r2) := by rw [if_neg (show ¬ (false = true) by decide)] at H; exact H
  clear H
  have H := H1
  clear H1
  simp only [Option.some.injEq, Prod.mk.injEq] at H
  obtain ⟨rfl, rfl⟩ := H
  go_enter Try.func38, Try.ntmps38
  go_wp2_with (first | ((with_reducible refine gate_callee (f := 161) rfl ?_); refine goesA (some 5) Try.func161 #[.slice A0 l0.length c0] ?_; (with_reducible refine (spec_doGood.calls k _ _ l0 false _ ?side1 ?side2 A2.out).mono ?_); (case side1 => repeat (first | exact HR0.out | (with_reducible refine Kd.C_alloc ?_ _) | (with_reducible refine Kd.C_drewN ?_ _) | (with_reducible refine Kd.C_drew ?_))); (case side2 => exact HC0.out); rintro e w' ⟨rfl, ⟨nd, rfl⟩⟩; refine ⟨_, rfl, ?_⟩))
  go_ret2
  exact ⟨_, eqr, by first | exact Kd.R_nil _ _ _ _ _ | exact Kd.N_nil _ _ _ _ _ | exact Kd.V_nil _ _ _ _ _ | exact Kd.Q_nil _ _ _ _ _ | exact Kd.S_nil _ _ _ _ _, atB HB⟩

noncomputable def spec_MirrorDots.F (l0 : List Int) : Option (List Int × Bool) := lim fun k => spec_MirrorDots.f k l0
theorem spec_MirrorDots.F_lim (l0 : List Int) : Lim (fun k => spec_MirrorDots.f k l0) (spec_MirrorDots.F l0) := Lim.of fun k => spec_MirrorDots.mono l0 k
theorem spec_MirrorDots.F_eq (l0 : List Int) : spec_MirrorDots.F l0 = ((spec_doGood.F l0).bind fun t501 => (if t501 = true then ((spec_roBack.F l0).bind fun t502 => (some (t502, true))) else (some (([] : List Int), false)))) :=
 Lim.unique (spec_MirrorDots.F_lim l0) (by
  unfold spec_MirrorDots.f
  repeat' (first | (with_reducible first | exact Lim.const _ | exact spec_doGood.F_lim _ | exact spec_roBack.F_lim _ | refine Lim.ite ?_ ?_ | refine Lim.bind ?_ (fun _ => ?_))))

end Go.Proofs.Ytadhfbchilaklaa.Fn
namespace Go.Proofs.Ytadhfbchilaklaa.Fn
open Go.RowKit Go.Proofs.YtadhfbchilaklaaW.PrintWords Go.Proofs.YtadhfbchilaklaaW.PrintLast Go.Proofs.YtadhfbchilaklaaW.PrintMore
attribute [local go_sem] max2_int min2_int max_two min_two max_three min_three max_four min_four   -- for this text's walks alone
set_option linter.unusedVariables false
set_option linter.unusedSimpArgs false

/-! ### spec_CrossDots: function 40 -/
def spec_CrossDots.l0 : Nat → List Int → List Int → Int → Int → Option (List Int × Bool)
 | 0, _, _, _, _ => none
 | k + 1, x4, x13, x14, x15 => if x15 < x14 then (if 0 ≤ x15 then (if x15 < (x13.length : Int) then (if 0 ≤ (rd x13 x15) then (if (rd x13 x15) < (x4.length : Int) then (spec_CrossDots.l0 k (x4.set ((rd x13 x15) : Int).toNat x15) x13 x14 (wrap64 (x15 + 1))) else (none)) else (none)) else (none)) else (none)) else (some (x4, true))
def spec_CrossDots.f (k : Nat) (l0 : List Int) : Option (List Int × Bool) := (spec_doGood.f k l0).bind fun t511 => (if t511 = true then (if 0 ≤ (l0.length : Int) then (if ((l0.length : Int) : Int).toNat ≤ 35184372088832 then (spec_CrossDots.l0 k (List.replicate ((l0.length : Int) : Int).toNat 0) l0 (l0.length : Int) 0) else (none)) else (none)) else (some (([] : List Int), false)))
theorem spec_CrossDots.mono_l : ∀ k, (∀ y0 y1 y2 y3, LeO (spec_CrossDots.l0 k y0 y1 y2 y3) (spec_CrossDots.l0 (k + 1) y0 y1 y2 y3))
 | 0 => fun _ _ _ _ r h => by simp [spec_CrossDots.l0] at h
 | k + 1 => by
  have ih0 := spec_CrossDots.mono_l k
  ·intro y0 y1 y2 y3
   unfold spec_CrossDots.l0
   repeat' (first | (with_reducible first | exact ih0 _ _ _ _ | exact LeO.refl _ | exact LeO.none _ | refine LeO.ite ?_ ?_ | refine LeO.bind ?_ (fun _ => ?_)) | exact ih0 _ _ _ _ | exact LeO.none _ | refine LeO.ite ?_ ?_ | refine LeO.bind ?_ (fun _ => ?_))
theorem spec_CrossDots.mono : ∀ a0 k, LeO (spec_CrossDots.f k a0) (spec_CrossDots.f (k + 1) a0) := by
 intro a0 k
 have ih0 := spec_CrossDots.mono_l k
 unfold spec_CrossDots.f
 repeat' (first | (with_reducible first | exact ih0 _ _ _ _ | exact spec_doGood.mono _ _ | exact LeO.refl _ | exact LeO.none _ | refine LeO.ite ?_ ?_ | refine LeO.bind ?_ (fun _ => ?_)) | exact ih0 _ _ _ _ | exact spec_doGood.mono _ _ | exact LeO.none _ | refine LeO.ite ?_ ?_ | refine LeO.bind ?_ (fun _ => ?_))
set_option maxHeartbeats 8000000 in
set_option maxRecDepth 100000 in
theorem spec_CrossDots.calls (k : Nat) (A0 : Option Addr) (c0 : Nat) (l0 : List Int) (r1 : List Int) (r2 : Bool) (w : World) (hr0 : Kd.C (Kd.int .i64) w A0 l0.length l0) (hc0 : l0.length ≤ c0) (h : spec_CrossDots.f k l0 = some (r1, r2)) :
  Calls Try.prog 40 #[.slice A0 l0.length c0] w fun e w' => ∃ v0_ : Value, e = .returned (.tuple #[v0_, .bool r2]) ∧ Kd.R (Kd.int .i64) 3 w' w.heap.size (fun _ => True) v0_ r1 ∧ Below w.heap.size w w' := by
 have HR0 := Aside0.mk hr0
 have HC0 := Aside0.mk hc0
 clear hr0 hc0
 have HB := Aside0.mk (Below.refl w.heap.size w)
 have H := h
 unfold spec_CrossDots.f at H
 clear h
 replace H := Option.bind_eq_some_iff.mp H
 obtain ⟨t511, A20, H⟩ := H
 replace H : (if t511 = true then (if 0 ≤ (l0.length : Int) then (if ((l0.length : Int) : Int).toNat ≤ 35184372088832 then (spec_CrossDots.l0 k (List.replicate ((l0.length : Int) : Int).toNat 0) l0 (l0.length : Int) 0) else (none)) else (none)) else (some (([] : List Int), false))) = some (r1, r2) := H
 have A2 := Aside0.mk A20
 clear A20
 by_cases c3 : t511 = true
 ·subst c3
  have H1 : (if 0 ≤ (l0.length : Int) then (if ((l0.length : Int) : Int).toNat ≤ 35184372088832 then (spec_CrossDots.l0 k (List.replicate ((l0.length : Int) : Int).toNat 0) l0 (l0.length : Int) 0) else (none)) else (none)) = some (r1, r2) := by rw [if_pos rfl] at H; exact H
  clear H
  have H := H1
  clear H1
  by_cases c4 : 0 ≤ (l0.length : Int)
  ·rw [if_pos c4] at H
   have c4b0 := eq_true c4
   have c4b1 : decide (0 ≤ (l0.length : Int)) = true := decide_eq_true c4
   clear c4
   by_cases c5 : ((l0.length : Int) : Int).toNat ≤ 35184372088832
   ·rw [if_pos c5] at H
    have c5b0 := eq_true c5
    have c5b1 : decide (((l0.length : Int) : Int).toNat ≤ 35184372088832) = true := decide_eq_true c5
    clear c5
    obtain ⟨y512, hy512⟩ : ∃ y_ : List Int, y_ = (List.replicate ((l0.length : Int) : Int).toNat 0) := ⟨_, rfl⟩
    replace H : (spec_CrossDots.l0 k y512 l0 (l0.length : Int) 0) = some (r1, r2) := by first | (rw [hy512]; with_reducible exact H) | (have H2_ := (Option.bind_some _ _).symm.trans H; rw [hy512]; with_reducible exact H2_) | (have H2_ := (Option.bind_some _ _).symm.trans H; with_reducible exact H2_) | with_reducible exact H | (rw [hy512]; exact H) | exact H
    have Ny512 := Aside0.mk hy512
    clear hy512
    have H' := Aside0.mk H
    clear H
    go_enter Try.func40, Try.ntmps40
    go_wp2_with (first | ((with_reducible refine gate_callee (f := 161) rfl ?_); refine goesA (some 8) Try.func161 #[.slice A0 l0.length c0] ?_; (with_reducible refine (spec_doGood.calls k _ _ l0 true _ ?side1 ?side2 A2.out).mono ?_); (case side1 => repeat (first | exact HR0.out | (with_reducible refine Kd.C_alloc ?_ _) | (with_reducible refine Kd.C_drewN ?_ _) | (with_reducible refine Kd.C_drew ?_))); (case side2 => exact HC0.out); rintro e w' ⟨rfl, ⟨nd, rfl⟩⟩; refine ⟨_, rfl, ?_⟩) | ((with_reducible refine gate_dst (N := 12) rfl ?_); refine Kd.R_make (Kd.int .i64) _ 3 rfl (N := 12) rfl 24 _ _ rfl (l0.length : Int) rfl rfl Try.underlying24 (.int .i64 0) 8 info3 rfl (by decide) (by omega) 0 (ok := fun _ => True) (okp := fun _ => True) rfl (fun _ hk => hk) trivial (of_decide_eq_true (by first | (with_reducible assumption) | assumption)) (Nat.le_trans (Nat.mul_le_mul_right _ (of_decide_eq_true (by first | (with_reducible assumption) | assumption) : (l0.length : Int).toNat ≤ 35184372088832)) (by omega)) (Below.refl _ _) (Nat.le_refl _) ?_; intro v513 w6 ho7 hb hg_ hnew_; clear hg_ hnew_; (first | rw [← Ny512.out] at ho7 | (simp only [Int.reduceToNat] at ho7; rw [← Ny512.out] at ho7)); have HO514 := lowR ho7 HB; replace HB := upB HB hb; clear hb ho7))
    go_loopg [15] k (fun kq v15 w' => ∃ (x4_1 : List Int) (x15_1 : Int), v15 = .int .i64 x15_1 ∧ Aside0 (spec_CrossDots.l0 kq x4_1 l0 (l0.length : Int) x15_1 = some (r1, r2)) ∧ Aside0 (kq ≤ k) ∧ Aside0 (Kd.R (Kd.int .i64) 3 w' w.heap.size (fun _ => True) v513 x4_1) ∧ Aside0 (Below w.heap.size w w'))
    case atStart => exact ⟨(y512), (0), eqd, H', ⟨Nat.le_refl _⟩, ⟨atR HO514⟩, ⟨atB HB⟩⟩
    case round =>
     clear H'
     try clear c1
     try clear p2
     try clear c3
     try clear c4
     try clear c4b0
     try clear c4b1
     try clear c5
     try clear c5b0
     try clear c5b1
     obtain ⟨x4_1, x15_1, rfl, HA, HK1, HO_4, HB⟩ := hrel
     cases gk with
     | zero => exact absurd HA.out (by simp [spec_CrossDots.l0])
     | succ k1 =>
      have H := HA.out
      clear HA
      simp only [spec_CrossDots.l0] at H
      by_cases c8 : x15_1 < (l0.length : Int)
      ·rw [if_pos c8] at H
       have c8b0 : decide (x15_1 < (l0.length : Int)) = true := decide_eq_true c8
       clear c8
       by_cases c9 : 0 ≤ x15_1
       ·rw [if_pos c9] at H
        have c9b0 : decide (0 ≤ x15_1) = true := decide_eq_true c9
        clear c9
        by_cases c10 : x15_1 < (l0.length : Int)
        ·rw [if_pos c10] at H
         have c10b0 : decide (x15_1 < (l0.length : Int)) = true := decide_eq_true c10
         clear c10
         by_cases c11 : 0 ≤ (rd l0 x15_1)
         ·rw [if_pos c11] at H
          have c11b0 : decide (0 ≤ (rd l0 x15_1)) = true := decide_eq_true c11
          clear c11
          by_cases c12 : (rd l0 x15_1) < (x4_1.length : Int)
          ·rw [if_pos c12] at H
           have c12b0 : decide ((rd l0 x15_1) < (x4_1.length : Int)) = true := decide_eq_true c12
           clear c12
           obtain ⟨y516, hy516⟩ : ∃ y_ : List Int, y_ = (x4_1.set ((rd l0 x15_1) : Int).toNat x15_1) := ⟨_, rfl⟩
           replace H : (spec_CrossDots.l0 k1 y516 l0 (l0.length : Int) (wrap64 (x15_1 + 1))) = some (r1, r2) := by first | (rw [hy516]; with_reducible exact H) | (have H2_ := (Option.bind_some _ _).symm.trans H; rw [hy516]; with_reducible exact H2_) | (have H2_ := (Option.bind_some _ _).symm.trans H; with_reducible exact H2_) | with_reducible exact H | (rw [hy516]; exact H) | exact H
           have Ny516 := Aside0.mk hy516
           clear hy516
           have H' := Aside0.mk H
           clear H
           have p515 : 0 ≤ (x15_1 : Int) := ofd
           have q515 : x15_1 < (l0.length : Int) := ofd
           obtain ⟨ad515, e515, hx515_0⟩ := Kd.at_int HR0.out x15_1 p515 q515
           cases e515
           (try replace hx515_0 := (HB.out.cell (World.block_lt_of_cell? w _ hx515_0)).trans hx515_0)
           replace p515 := eq_true p515
           replace q515 := eq_true q515
           have p13 : 0 ≤ ((rd l0 x15_1) : Int) := ofd
           have q13 : ((rd l0 x15_1) : Int) < ((x4_1.length : Int) : Int) := ofd
           obtain ⟨go13, co13, eo13, gb13, gl13, cl13, HG13⟩ := Kd.R_form HO_4.out (by omega)
           (first | cases eo13 | (injection eo13 with ea_ en_ ec_; (first | subst ea_ | (injection ea_ with ea_; subst ea_)); subst ec_; clear en_))
           have GB13 := Aside0.mk gb13
           have GG13 := Aside0.mk HG13
           clear gb13 gl13 HG13
           obtain ⟨hx13_0, hf13_0⟩ := Kd.R_celln 0 HO_4.out ((rd l0 x15_1) : Int) p13 q13
           replace p13 := eq_true p13
           replace q13 := eq_true q13
           have HP14 := Kd.R_putg HO_4.out ((rd l0 x15_1) : Int) x15_1
           go_wp2_with (first | ((with_reducible refine gate_store (t := 3) (p := 23) rfl ?_); refine store_event (t := 3) (p := 23) (v := ?vo_w15) (w1 := (wr.setCell ⟨go13, ((rd l0 x15_1) : Int).toNat, none⟩ (.int .i64 x15_1))) ?hg ?ho ?hn ?hr ?_; (case ho => rfl); (case hg => rfl); (case hn => rfl); (case hr => first | (go_simp; done) | (go_simp; rfl)); intro w15 hw; have hg : wr.grownBy w15 (some go13) := (by rw [hw]; exact HP14.2); have hp_ : Kd.R (Kd.int .i64) 3 w15 w.heap.size (fun _ => True) (.slice (some ⟨go13, 0, none⟩) x4_1.length co13) y516 := (by rw [hw, Ny516.out]; exact HP14.1); clear HP14; replace HO_4 := Aside0.mk (hp_); replace HB := Aside0.mk ((by rw [hw]; exact below_set (HB.out) GB13.out : Below w.heap.size w w15)); clear hg hw hp_))
           go_roundg k1
           case measure => have := HK1.out; omega
           case rel => exact ⟨(y516), (wrap64 (x15_1 + 1)), eqd, H', ⟨by have := HK1.out; omega⟩, ⟨atR HO_4⟩, ⟨atB HB⟩⟩
          ·rw [if_neg c12] at H
           exact absurd H (by simp)
         ·rw [if_neg c11] at H
          exact absurd H (by simp)
        ·rw [if_neg c10] at H
         exact absurd H (by simp)
       ·rw [if_neg c9] at H
        exact absurd H (by simp)
      ·rw [if_neg c8] at H
       have c8b0 : decide (x15_1 < (l0.length : Int)) = false := decide_eq_false c8
       clear c8
       simp only [Option.some.injEq, Prod.mk.injEq] at H
       obtain ⟨rfl, rfl⟩ := H
       go_wp2
       go_ret2
       exact ⟨_, eqr, atR HO_4, atB HB⟩
   ·rw [if_neg c5] at H
    exact absurd H (by simp)
  ·rw [if_neg c4] at H
   exact absurd H (by simp)
 ·replace c3 := Bool.eq_false_iff.mpr c3
  subst c3
  have H1 : (some (([] : List Int), false)) = some (r1, r2) := by rw [if_neg (show ¬ (false = true) by decide)] at H; exact H
  clear H
  have H := H1
  clear H1
  simp only [Option.some.injEq, Prod.mk.injEq] at H
  obtain ⟨rfl, rfl⟩ := H
  go_enter Try.func40, Try.ntmps40
  go_wp2_with (first | ((with_reducible refine gate_callee (f := 161) rfl ?_); refine goesA (some 8) Try.func161 #[.slice A0 l0.length c0] ?_; (with_reducible refine (spec_doGood.calls k _ _ l0 false _ ?side1 ?side2 A2.out).mono ?_); (case side1 => repeat (first | exact HR0.out | (with_reducible refine Kd.C_alloc ?_ _) | (with_reducible refine Kd.C_drewN ?_ _) | (with_reducible refine Kd.C_drew ?_))); (case side2 => exact HC0.out); rintro e w' ⟨rfl, ⟨nd, rfl⟩⟩; refine ⟨_, rfl, ?_⟩))
  go_ret2
  exact ⟨_, eqr, by first | exact Kd.R_nil _ _ _ _ _ | exact Kd.N_nil _ _ _ _ _ | exact Kd.V_nil _ _ _ _ _ | exact Kd.Q_nil _ _ _ _ _ | exact Kd.S_nil _ _ _ _ _, atB HB⟩

noncomputable def spec_CrossDots.L0 (x4 : List Int) (x13 : List Int) (x14 : Int) (x15 : Int) : Option (List Int × Bool) := lim fun k => spec_CrossDots.l0 k x4 x13 x14 x15
theorem spec_CrossDots.L0_lim (x4 : List Int) (x13 : List Int) (x14 : Int) (x15 : Int) : Lim (fun k => spec_CrossDots.l0 k x4 x13 x14 x15) (spec_CrossDots.L0 x4 x13 x14 x15) := Lim.of fun k => (spec_CrossDots.mono_l k) x4 x13 x14 x15
noncomputable def spec_CrossDots.F (l0 : List Int) : Option (List Int × Bool) := lim fun k => spec_CrossDots.f k l0
theorem spec_CrossDots.F_lim (l0 : List Int) : Lim (fun k => spec_CrossDots.f k l0) (spec_CrossDots.F l0) := Lim.of fun k => spec_CrossDots.mono l0 k
theorem spec_CrossDots.L0_eq (x4 : List Int) (x13 : List Int) (x14 : Int) (x15 : Int) : spec_CrossDots.L0 x4 x13 x14 x15 = (if x15 < x14 then (if 0 ≤ x15 then (if x15 < (x13.length : Int) then (if 0 ≤ (rd x13 x15) then (if (rd x13 x15) < (x4.length : Int) then (spec_CrossDots.L0 (x4.set ((rd x13 x15) : Int).toNat x15) x13 x14 (wrap64 (x15 + 1))) else (none)) else (none)) else (none)) else (none)) else (some (x4, true))) :=
 Lim.step (f := fun k => spec_CrossDots.l0 (k + 1) x4 x13 x14 x15) (spec_CrossDots.L0_lim x4 x13 x14 x15) (fun _ => rfl) (by
  simp only [spec_CrossDots.l0]
  repeat' (first | (with_reducible first | exact Lim.const _ | exact spec_CrossDots.L0_lim _ _ _ _ | refine Lim.ite ?_ ?_ | refine Lim.bind ?_ (fun _ => ?_))))
theorem spec_CrossDots.F_eq (l0 : List Int) : spec_CrossDots.F l0 = ((spec_doGood.F l0).bind fun t511 => (if t511 = true then (if 0 ≤ (l0.length : Int) then (if ((l0.length : Int) : Int).toNat ≤ 35184372088832 then (spec_CrossDots.L0 (List.replicate ((l0.length : Int) : Int).toNat 0) l0 (l0.length : Int) 0) else (none)) else (none)) else (some (([] : List Int), false)))) :=
 Lim.unique (spec_CrossDots.F_lim l0) (by
  unfold spec_CrossDots.f
  repeat' (first | (with_reducible first | exact Lim.const _ | exact spec_CrossDots.L0_lim _ _ _ _ | exact spec_doGood.F_lim _ | refine Lim.ite ?_ ?_ | refine Lim.bind ?_ (fun _ => ?_))))

end Go.Proofs.Ytadhfbchilaklaa.Fn
namespace Go.Proofs.Ytadhfbchilaklaa.Fn
open Go.RowKit Go.Proofs.YtadhfbchilaklaaW.PrintWords Go.Proofs.YtadhfbchilaklaaW.PrintLast Go.Proofs.YtadhfbchilaklaaW.PrintMore
attribute [local go_sem] max2_int min2_int max_two min_two max_three min_three max_four min_four   -- for this text's walks alone
set_option linter.unusedVariables false
set_option linter.unusedSimpArgs false

/-! ### spec_l1Own: function 247 -/
def spec_l1Own.f (l0 : List Int) : Option (List Int) := (some (([] : List Int) : List Int)).bind fun y157 => (if y157.length + l0.length < 17592186044416 then (some (y157 ++ l0)) else (none))
set_option maxHeartbeats 8000000 in
set_option maxRecDepth 100000 in
theorem spec_l1Own.calls (A0 : Option Addr) (c0 : Nat) (l0 : List Int) (r : List Int) (w : World) (hr0 : Kd.C (Kd.int .i64) w A0 l0.length l0) (hc0 : l0.length ≤ c0) (h : spec_l1Own.f l0 = some r) :
  Calls Try.prog 247 #[.slice A0 l0.length c0] w fun e w' => ∃ v0_ : Value, e = .returned (v0_) ∧ Kd.R (Kd.int .i64) 3 w' w.heap.size (fun _ => True) v0_ r ∧ Below w.heap.size w w' := by
 have HR0 := Aside0.mk hr0
 have HC0 := Aside0.mk hc0
 clear hr0 hc0
 have HB := Aside0.mk (Below.refl w.heap.size w)
 have H := h
 unfold spec_l1Own.f at H
 clear h
 obtain ⟨y157, hy157⟩ : ∃ y_ : List Int, y_ = (([] : List Int)) := ⟨_, rfl⟩
 replace H : (if y157.length + l0.length < 17592186044416 then (some (y157 ++ l0)) else (none)) = some r := by first | (rw [hy157]; with_reducible exact H) | (have H2_ := (Option.bind_some _ _).symm.trans H; rw [hy157]; with_reducible exact H2_) | (have H2_ := (Option.bind_some _ _).symm.trans H; with_reducible exact H2_) | with_reducible exact H | (rw [hy157]; exact H) | exact H
 have Ny157 := Aside0.mk hy157
 clear hy157
 by_cases c2 : y157.length + l0.length < 17592186044416
 ·rw [if_pos c2] at H
  have LMc2 := Aside0.mk c2
  clear c2
  obtain ⟨y160, hy160⟩ : ∃ y_ : List Int, y_ = (y157 ++ l0) := ⟨_, rfl⟩
  replace H : (some y160) = some r := by first | (rw [hy160]; with_reducible exact H) | (have H2_ := (Option.bind_some _ _).symm.trans H; rw [hy160]; with_reducible exact H2_) | (have H2_ := (Option.bind_some _ _).symm.trans H; with_reducible exact H2_) | with_reducible exact H | (rw [hy160]; exact H) | exact H
  have Ny160 := Aside0.mk hy160
  clear hy160
  obtain rfl := Option.some.inj H
  go_enter Try.func247, Try.ntmps247
  go_wp2_with (first | ((with_reducible refine gate_dst (N := 3) rfl ?_); refine Kd.R_lit (Kd.int .i64) _ 3 ?hg (N := 3) ?hd (xs := ([] : List Int)) (inner := []) (ok := fun _ => True) (okp := fun _ => True) ?hr ?hp (fun _ hk => hk) trivial (Below.refl _ _) (Nat.le_refl _) (by simp) ?_; (case hd => rfl); (case hg => rfl); (case hr => first | (go_simp; done) | (go_simp; rfl)); (case hp => exact (Reps.none _ _)); intro v158 w3 ho4 hb hg_ hnew_; clear hg_ hnew_; (first | rw [← Ny157.out] at ho4 | (simp only [Int.reduceToNat] at ho4; rw [← Ny157.out] at ho4)); have HO159 := lowR ho4 HB; replace HB := upB HB hb; clear hb ho4) | ((with_reducible refine gate_builtin (b := .append) (xs := #[.tmp 3, .tmp 4]) rfl ?_); at_builtin; refine Kd.R_append_rows (Kd.int .i64) (w0 := w) w.heap.size rfl (.tmp 3) (.tmp 4) 24 3 (.int .i64 0) 8 rfl Try.underlying24 info3 rfl (by decide) (by omega) v158 y157 l0 _ _ _ (fun _ => True) (fun _ => False) rfl rfl ?aO ?aR (fun _ _ h => h) (fun _ h => h.elim) ?aF ?aB ?aS ?aL ?_; (case aR => repeat (first | exact (Kd.C_below HR0.out HB.out) | (with_reducible refine Kd.C_alloc ?_ _) | (with_reducible refine Kd.C_drewN ?_ _) | (with_reducible refine Kd.C_drew ?_))); (case aB => exact (atB HB)); (case aF => exact (fun _ _ => trivial)); (case aO => exact (atR HO159)); (case aS => exact (szB HB)); (case aL => have := LMc2.out; omega); intro v161 w5 ho hb hg hat; rw [← Ny160.out] at ho; have HO162 := Aside0.mk (ho); replace HB := Aside0.mk (hb); clear HO159; clear ho hb hg hat))
  go_ret
  exact ⟨_, eqr, atR HO162, atB HB⟩
 ·rw [if_neg c2] at H
  exact absurd H (by simp)


end Go.Proofs.Ytadhfbchilaklaa.Fn
namespace Go.Proofs.Ytadhfbchilaklaa.Fn
open Go.RowKit Go.Proofs.YtadhfbchilaklaaW.PrintWords Go.Proofs.YtadhfbchilaklaaW.PrintLast Go.Proofs.YtadhfbchilaklaaW.PrintMore
attribute [local go_sem] max2_int min2_int max_two min_two max_three min_three max_four min_four   -- for this text's walks alone
set_option linter.unusedVariables false
set_option linter.unusedSimpArgs false

/-! ### spec_trLess: function 248 -/
def spec_trLess.l0 : Nat → List Int → List Int → Int → Int → Option (Bool)
 | 0, _, _, _, _ => none
 | k + 1, x0, x1, x7, x8 => if x8 < x7 then (if 0 ≤ x8 then (if x8 < (x0.length : Int) then (if x8 < (x1.length : Int) then (if (rd x0 x8) = (rd x1 x8) then (spec_trLess.l0 k x0 x1 x7 (wrap64 (x8 + 1))) else (some (decide ((rd x0 x8) < (rd x1 x8))))) else (none)) else (none)) else (none)) else (some false)
def spec_trLess.f (k : Nat) (l0 : List Int) (l1 : List Int) : Option (Bool) := spec_trLess.l0 k l0 l1 (l0.length : Int) 0
theorem spec_trLess.mono_l : ∀ k, (∀ y0 y1 y2 y3, LeO (spec_trLess.l0 k y0 y1 y2 y3) (spec_trLess.l0 (k + 1) y0 y1 y2 y3))
 | 0 => fun _ _ _ _ r h => by simp [spec_trLess.l0] at h
 | k + 1 => by
  have ih0 := spec_trLess.mono_l k
  ·intro y0 y1 y2 y3
   unfold spec_trLess.l0
   repeat' (first | (with_reducible first | exact ih0 _ _ _ _ | exact LeO.refl _ | exact LeO.none _ | refine LeO.ite ?_ ?_ | refine LeO.bind ?_ (fun _ => ?_)) | exact ih0 _ _ _ _ | exact LeO.none _ | refine LeO.ite ?_ ?_ | refine LeO.bind ?_ (fun _ => ?_))
theorem spec_trLess.mono : ∀ a0 a1 k, LeO (spec_trLess.f k a0 a1) (spec_trLess.f (k + 1) a0 a1) := by
 intro a0 a1 k
 have ih0 := spec_trLess.mono_l k
 unfold spec_trLess.f
 repeat' (first | (with_reducible first | exact ih0 _ _ _ _ | exact LeO.refl _ | exact LeO.none _ | refine LeO.ite ?_ ?_ | refine LeO.bind ?_ (fun _ => ?_)) | exact ih0 _ _ _ _ | exact LeO.none _ | refine LeO.ite ?_ ?_ | refine LeO.bind ?_ (fun _ => ?_))
set_option maxHeartbeats 8000000 in
set_option maxRecDepth 100000 in
theorem spec_trLess.calls (k : Nat) (A0 : Option Addr) (c0 : Nat) (l0 : List Int) (A1 : Option Addr) (c1 : Nat) (l1 : List Int) (r : Bool) (w : World) (hr0 : Kd.C (Kd.int .i64) w A0 l0.length l0) (hc0 : l0.length ≤ c0) (hr1 : Kd.C (Kd.int .i64) w A1 l1.length l1) (hc1 : l1.length ≤ c1) (h : spec_trLess.f k l0 l1 = some r) :
  Calls Try.prog 248 #[.slice A0 l0.length c0, .slice A1 l1.length c1] w fun e w' => e = .returned (.bool r) ∧ Drawn0 w w' := by
 have HR0 := Aside0.mk hr0
 have HC0 := Aside0.mk hc0
 clear hr0 hc0
 have HR1 := Aside0.mk hr1
 have HC1 := Aside0.mk hc1
 clear hr1 hc1
 have H := h
 unfold spec_trLess.f at H
 clear h
 have H' := Aside0.mk H
 clear H
 go_enter Try.func248, Try.ntmps248
 go_wp2
 repeat (go_quiet (fail); try go_wp2)
 go_loopg [8] k (fun kq v8 w' => ∃ (x8_1 : Int), v8 = .int .i64 x8_1 ∧ Aside0 (spec_trLess.l0 kq l0 l1 (l0.length : Int) x8_1 = some r) ∧ Aside0 (kq ≤ k) ∧ Drawn0 w w')
 case atStart => exact ⟨(0), eqd, H', ⟨Nat.le_refl _⟩, by repeat (first | exact Drawn0.refl _ | apply Drawn0.step)⟩
 case round =>
  clear H'
  try clear c1
  try clear c2
  try clear p2
  obtain ⟨x8_1, rfl, HA, HK1, ⟨m1, rfl⟩⟩ := hrel
  cases gk with
  | zero => exact absurd HA.out (by simp [spec_trLess.l0])
  | succ k1 =>
   have H := HA.out
   clear HA
   simp only [spec_trLess.l0] at H
   by_cases c3 : x8_1 < (l0.length : Int)
   ·rw [if_pos c3] at H
    have c3b0 : decide (x8_1 < (l0.length : Int)) = true := decide_eq_true c3
    clear c3
    by_cases c4 : 0 ≤ x8_1
    ·rw [if_pos c4] at H
     have c4b0 : decide (0 ≤ x8_1) = true := decide_eq_true c4
     clear c4
     by_cases c5 : x8_1 < (l0.length : Int)
     ·rw [if_pos c5] at H
      have c5b0 : decide (x8_1 < (l0.length : Int)) = true := decide_eq_true c5
      clear c5
      by_cases c6 : x8_1 < (l1.length : Int)
      ·rw [if_pos c6] at H
       have c6b0 : decide (x8_1 < (l1.length : Int)) = true := decide_eq_true c6
       clear c6
       by_cases c7 : (rd l0 x8_1) = (rd l1 x8_1)
       ·rw [if_pos c7] at H
        have c7b0 : ((rd l0 x8_1) == (rd l1 x8_1)) = true := beq_iff_eq.mpr c7
        have c7b1 : ((rd l0 x8_1) != (rd l1 x8_1)) = false := bne_eq_false_iff_eq.mpr c7
        clear c7
        have H' := Aside0.mk H
        clear H
        have p529 : 0 ≤ (x8_1 : Int) := ofd
        have q529 : x8_1 < (l0.length : Int) := ofd
        obtain ⟨ad529, e529, hx529_0⟩ := Kd.at_int HR0.out x8_1 p529 q529
        cases e529
        replace p529 := eq_true p529
        replace q529 := eq_true q529
        have p530 : 0 ≤ (x8_1 : Int) := ofd
        have q530 : x8_1 < (l1.length : Int) := ofd
        obtain ⟨ad530, e530, hx530_0⟩ := Kd.at_int HR1.out x8_1 p530 q530
        cases e530
        replace p530 := eq_true p530
        replace q530 := eq_true q530
        go_wp2
        repeat (go_quiet (fail); try go_wp2)
        go_roundg k1
        case measure => have := HK1.out; omega
        case rel => exact ⟨(wrap64 (x8_1 + 1)), eqd, H', ⟨by have := HK1.out; omega⟩, by repeat (first | exact Drawn0.refl _ | apply Drawn0.step)⟩
       ·rw [if_neg c7] at H
        have c7b0 : ((rd l0 x8_1) == (rd l1 x8_1)) = false := beq_eq_false_iff_ne.mpr c7
        have c7b1 : ((rd l0 x8_1) != (rd l1 x8_1)) = true := bne_iff_ne.mpr c7
        obtain rfl := Option.some.inj H
        have p529 : 0 ≤ (x8_1 : Int) := ofd
        have q529 : x8_1 < (l0.length : Int) := ofd
        obtain ⟨ad529, e529, hx529_0⟩ := Kd.at_int HR0.out x8_1 p529 q529
        cases e529
        replace p529 := eq_true p529
        replace q529 := eq_true q529
        have p530 : 0 ≤ (x8_1 : Int) := ofd
        have q530 : x8_1 < (l1.length : Int) := ofd
        obtain ⟨ad530, e530, hx530_0⟩ := Kd.at_int HR1.out x8_1 p530 q530
        cases e530
        replace p530 := eq_true p530
        replace q530 := eq_true q530
        have p531 : 0 ≤ (x8_1 : Int) := ofd
        have q531 : x8_1 < (l0.length : Int) := ofd
        obtain ⟨ad531, e531, hx531_0⟩ := Kd.at_int HR0.out x8_1 p531 q531
        obtain rfl : ad529 = ad531 := (by injection e531)
        replace p531 := eq_true p531
        replace q531 := eq_true q531
        have p532 : 0 ≤ (x8_1 : Int) := ofd
        have q532 : x8_1 < (l1.length : Int) := ofd
        obtain ⟨ad532, e532, hx532_0⟩ := Kd.at_int HR1.out x8_1 p532 q532
        obtain rfl : ad530 = ad532 := (by injection e532)
        replace p532 := eq_true p532
        replace q532 := eq_true q532
        go_wp2
        repeat (go_quiet (fail); try go_wp2)
        go_ret
        exact ⟨by first | rfl | (simp; done) | (simp [*]; done), by repeat (first | exact Drawn0.refl _ | apply Drawn0.step)⟩
      ·rw [if_neg c6] at H
       exact absurd H (by simp)
     ·rw [if_neg c5] at H
      exact absurd H (by simp)
    ·rw [if_neg c4] at H
     exact absurd H (by simp)
   ·rw [if_neg c3] at H
    have c3b0 : decide (x8_1 < (l0.length : Int)) = false := decide_eq_false c3
    clear c3
    obtain rfl := Option.some.inj H
    go_wp2
    repeat (go_quiet (fail); try go_wp2)
    go_ret
    exact ⟨by first | rfl | (simp; done) | (simp [*]; done), by repeat (first | exact Drawn0.refl _ | apply Drawn0.step)⟩

noncomputable def spec_trLess.L0 (x0 : List Int) (x1 : List Int) (x7 : Int) (x8 : Int) : Option (Bool) := lim fun k => spec_trLess.l0 k x0 x1 x7 x8
theorem spec_trLess.L0_lim (x0 : List Int) (x1 : List Int) (x7 : Int) (x8 : Int) : Lim (fun k => spec_trLess.l0 k x0 x1 x7 x8) (spec_trLess.L0 x0 x1 x7 x8) := Lim.of fun k => (spec_trLess.mono_l k) x0 x1 x7 x8
noncomputable def spec_trLess.F (l0 : List Int) (l1 : List Int) : Option (Bool) := lim fun k => spec_trLess.f k l0 l1
theorem spec_trLess.F_lim (l0 : List Int) (l1 : List Int) : Lim (fun k => spec_trLess.f k l0 l1) (spec_trLess.F l0 l1) := Lim.of fun k => spec_trLess.mono l0 l1 k
theorem spec_trLess.L0_eq (x0 : List Int) (x1 : List Int) (x7 : Int) (x8 : Int) : spec_trLess.L0 x0 x1 x7 x8 = (if x8 < x7 then (if 0 ≤ x8 then (if x8 < (x0.length : Int) then (if x8 < (x1.length : Int) then (if (rd x0 x8) = (rd x1 x8) then (spec_trLess.L0 x0 x1 x7 (wrap64 (x8 + 1))) else (some (decide ((rd x0 x8) < (rd x1 x8))))) else (none)) else (none)) else (none)) else (some false)) :=
 Lim.step (f := fun k => spec_trLess.l0 (k + 1) x0 x1 x7 x8) (spec_trLess.L0_lim x0 x1 x7 x8) (fun _ => rfl) (by
  simp only [spec_trLess.l0]
  repeat' (first | (with_reducible first | exact Lim.const _ | exact spec_trLess.L0_lim _ _ _ _ | refine Lim.ite ?_ ?_ | refine Lim.bind ?_ (fun _ => ?_))))
theorem spec_trLess.F_eq (l0 : List Int) (l1 : List Int) : spec_trLess.F l0 l1 = (spec_trLess.L0 l0 l1 (l0.length : Int) 0) :=
 Lim.unique (spec_trLess.F_lim l0 l1) (by
  unfold spec_trLess.f
  repeat' (first | (with_reducible first | exact Lim.const _ | exact spec_trLess.L0_lim _ _ _ _ | refine Lim.ite ?_ ?_ | refine Lim.bind ?_ (fun _ => ?_))))

end Go.Proofs.Ytadhfbchilaklaa.Fn
namespace Go.Proofs.Ytadhfbchilaklaa.Fn
open Go.RowKit Go.Proofs.YtadhfbchilaklaaW.PrintWords Go.Proofs.YtadhfbchilaklaaW.PrintLast Go.Proofs.YtadhfbchilaklaaW.PrintMore
attribute [local go_sem] max2_int min2_int max_two min_two max_three min_three max_four min_four   -- for this text's walks alone
set_option linter.unusedVariables false
set_option linter.unusedSimpArgs false

/-! ### spec_doLeast: function 167 -/
mutual
def spec_doLeast.l0 : Nat → List Int → List (List Int) → Int → Int → Option (List Int)
 | 0, _, _, _, _ => none
 | k + 1, x3, x12, x13, x14 => if x14 < x13 then (if 0 ≤ x14 then (if x14 < (x12.length : Int) then (spec_doLeast.l1 k x3 (rd_L2 x12 x14) 0 x12 x13 x14) else (none)) else (none)) else ((spec_l1Own.f x3).bind fun t542 => (some t542))
def spec_doLeast.l1 : Nat → List Int → List Int → Int → List (List Int) → Int → Int → Option (List Int)
 | 0, _, _, _, _, _, _ => none
 | k + 1, x3, x5, x6, x12, x13, x14 => if x6 < 4 then ((spec_trLess.f k x5 x3).bind fun t546 => (if t546 = true then ((spec_doTurn.f k x5).bind fun t547 => (spec_doLeast.l1 k x5 t547 (wrap64 (x6 + 1)) x12 x13 x14)) else ((spec_doTurn.f k x5).bind fun t550 => (spec_doLeast.l1 k x3 t550 (wrap64 (x6 + 1)) x12 x13 x14)))) else (spec_doLeast.l0 k x3 x12 x13 (wrap64 (x14 + 1)))
end
def spec_doLeast.f (k : Nat) (l0 : List Int) : Option (List Int) := (spec_l1Own.f l0).bind fun t533 => ((spec_roBack.f k l0).bind fun t536 => ((some (([l0, t536] : List (List Int)) : List (List Int))).bind fun y539 => (spec_doLeast.l0 k t533 y539 (y539.length : Int) 0)))
theorem spec_doLeast.mono_l : ∀ k, (∀ y0 y1 y2 y3, LeO (spec_doLeast.l0 k y0 y1 y2 y3) (spec_doLeast.l0 (k + 1) y0 y1 y2 y3)) ∧ (∀ y0 y1 y2 y3 y4 y5, LeO (spec_doLeast.l1 k y0 y1 y2 y3 y4 y5) (spec_doLeast.l1 (k + 1) y0 y1 y2 y3 y4 y5))
 | 0 => ⟨fun _ _ _ _ r h => by simp [spec_doLeast.l0] at h, fun _ _ _ _ _ _ r h => by simp [spec_doLeast.l1] at h⟩
 | k + 1 => by
  obtain ⟨ih0, ih1⟩ := spec_doLeast.mono_l k
  refine ⟨?_, ?_⟩
  ·intro y0 y1 y2 y3
   unfold spec_doLeast.l0
   repeat' (first | (with_reducible first | exact ih1 _ _ _ _ _ _ | exact LeO.refl _ | exact LeO.none _ | refine LeO.ite ?_ ?_ | refine LeO.bind ?_ (fun _ => ?_)) | exact ih1 _ _ _ _ _ _ | exact LeO.none _ | refine LeO.ite ?_ ?_ | refine LeO.bind ?_ (fun _ => ?_))
  ·intro y0 y1 y2 y3 y4 y5
   unfold spec_doLeast.l1
   repeat' (first | (with_reducible first | exact ih0 _ _ _ _ | exact ih1 _ _ _ _ _ _ | exact spec_doTurn.mono _ _ | exact spec_trLess.mono _ _ _ | exact LeO.refl _ | exact LeO.none _ | refine LeO.ite ?_ ?_ | refine LeO.bind ?_ (fun _ => ?_)) | exact ih0 _ _ _ _ | exact ih1 _ _ _ _ _ _ | exact spec_doTurn.mono _ _ | exact spec_trLess.mono _ _ _ | exact LeO.none _ | refine LeO.ite ?_ ?_ | refine LeO.bind ?_ (fun _ => ?_))
theorem spec_doLeast.mono : ∀ a0 k, LeO (spec_doLeast.f k a0) (spec_doLeast.f (k + 1) a0) := by
 intro a0 k
 obtain ⟨ih0, ih1⟩ := spec_doLeast.mono_l k
 unfold spec_doLeast.f
 repeat' (first | (with_reducible first | exact ih0 _ _ _ _ | exact spec_roBack.mono _ _ | exact LeO.refl _ | exact LeO.none _ | refine LeO.ite ?_ ?_ | refine LeO.bind ?_ (fun _ => ?_)) | exact ih0 _ _ _ _ | exact spec_roBack.mono _ _ | exact LeO.none _ | refine LeO.ite ?_ ?_ | refine LeO.bind ?_ (fun _ => ?_))
set_option maxHeartbeats 8000000 in
set_option maxRecDepth 100000 in
theorem spec_doLeast.calls (k : Nat) (P0_ : Nat → Prop) (A0 : Option Addr) (c0 : Nat) (l0 : List Int) (r : List Int) (w : World) (hs0 : Kd.V (Kd.int .i64) 3 w w.heap.size (fun k_ => P0_ k_) (.slice A0 l0.length c0) l0) (h : spec_doLeast.f k l0 = some r) :
  Calls Try.prog 167 #[.slice A0 l0.length c0] w fun e w' => ∃ v0_ : Value, e = .returned (v0_) ∧ Kd.R (Kd.int .i64) 3 w' w.heap.size (fun k_ => (w.heap.size ≤ k_)) v0_ r ∧ Below w.heap.size w w' := by
 have HO0 := Aside0.mk (show Kd.V (Kd.int .i64) 3 w w.heap.size (fun k_ => (P0_ k_ ∨ w.heap.size ≤ k_)) (.slice A0 l0.length c0) l0 from Kd.V_mono hs0 (fun k_ hk => .inl hk))
 have HB := Aside0.mk (Below.refl w.heap.size w)
 have H := h
 unfold spec_doLeast.f at H
 clear h
 replace H := Option.bind_eq_some_iff.mp H
 obtain ⟨t533, A20, H⟩ := H
 replace H : ((spec_roBack.f k l0).bind fun t536 => ((some (([l0, t536] : List (List Int)) : List (List Int))).bind fun y539 => (spec_doLeast.l0 k t533 y539 (y539.length : Int) 0))) = some r := H
 have A2 := Aside0.mk A20
 clear A20
 replace H := Option.bind_eq_some_iff.mp H
 obtain ⟨t536, A30, H⟩ := H
 replace H : ((some (([l0, t536] : List (List Int)) : List (List Int))).bind fun y539 => (spec_doLeast.l0 k t533 y539 (y539.length : Int) 0)) = some r := H
 have A3 := Aside0.mk A30
 clear A30
 obtain ⟨y539, hy539⟩ : ∃ y_ : List (List Int), y_ = (([l0, t536] : List (List Int))) := ⟨_, rfl⟩
 replace H : (spec_doLeast.l0 k t533 y539 (y539.length : Int) 0) = some r := by first | (rw [hy539]; with_reducible exact H) | (have H2_ := (Option.bind_some _ _).symm.trans H; rw [hy539]; with_reducible exact H2_) | (have H2_ := (Option.bind_some _ _).symm.trans H; with_reducible exact H2_) | with_reducible exact H | (rw [hy539]; exact H) | exact H
 have Ny539 := Aside0.mk hy539
 clear hy539
 have H' := Aside0.mk H
 clear H
 go_enter Try.func167, Try.ntmps167
 go_wp2_with (first | ((with_reducible refine gate_callee (f := 247) rfl ?_); refine goesA (some 8) Try.func247 #[.slice A0 l0.length c0] ?_; (with_reducible refine (spec_l1Own.calls _ _ l0 t533 _ ?side1 ?side2 A2.out).mono ?_); (case side1 => repeat (first | exact (Kd.V_reads' HO0.out).2.2 | (with_reducible refine Kd.C_alloc ?_ _) | (with_reducible refine Kd.C_drewN ?_ _) | (with_reducible refine Kd.C_drew ?_))); (case side2 => exact (Kd.V_reads' HO0.out).2.1); rintro e w4 ⟨v534, rfl, ho0, hb⟩; refine ⟨_, rfl, ?_⟩; have HO535 := Aside0.mk (Kd.R_lower (Kd.R_newM (M := fun k_ => (w.heap.size ≤ k_)) ho0 (szB HB) (fun k_ h_ => h_)) (szB HB)); replace HO0 := Aside0.mk (Kd.V_elder' (by (with_reducible repeat (first | apply Kd.V_alloc | apply Kd.V_drewN | apply Kd.V_drew)); exact HO0.out) (Kd.R_base ho0) hb); replace HB := upB HB hb; (try clear hb); (try clear hb2); (try clear hk); (try clear hi); (try clear ho0)) | ((with_reducible refine gate_callee (f := 164) rfl ?_); refine goesA (some 11) Try.func164 #[.slice A0 l0.length c0] ?_; (with_reducible refine (spec_roBack.calls k _ _ l0 t536 _ ?side1 ?side2 A3.out).mono ?_); (case side1 => repeat (first | exact (Kd.V_reads' HO0.out).2.2 | (with_reducible refine Kd.C_alloc ?_ _) | (with_reducible refine Kd.C_drewN ?_ _) | (with_reducible refine Kd.C_drew ?_))); (case side2 => exact (Kd.V_reads' HO0.out).2.1); rintro e w5 ⟨v537, rfl, ho0, hb⟩; refine ⟨_, rfl, ?_⟩; have HO538 := Aside0.mk (Kd.R_lower (Kd.R_new' (Kd.R_newM (M := fun k_ => (w.heap.size ≤ k_)) ho0 (szB HB) (fun k_ h_ => h_)) (ltR HO535)) (szB HB)); replace HO0 := Aside0.mk (Kd.V_elder' (by (with_reducible repeat (first | apply Kd.V_alloc | apply Kd.V_drewN | apply Kd.V_drew)); exact HO0.out) (Kd.R_base ho0) hb); replace HO535 := eldRR HO535 ho0 hb; replace HB := upB HB hb; (try clear hb); (try clear hb2); (try clear hk); (try clear hi); (try clear ho0); obtain ⟨Ao6, co6, eo6⟩ := Kd.R_slice HO538.out; subst eo6) | ((with_reducible refine gate_dst (N := 12) rfl ?_); refine N_lit0 (Kd.slice 3 (Kd.int .i64)) 24 ?hg (N' := 12) ?hd (xs := ([l0, t536] : List (List Int))) (inner := [.slice A0 l0.length c0, .slice Ao6 t536.length co6]) (ok := (fun k_ => (P0_ k_ ∨ w.heap.size ≤ k_) ∧ some k_ ≠ (v534 : Value).ownBlock)) (okp := (fun k_ => (P0_ k_ ∨ w.heap.size ≤ k_) ∧ some k_ ≠ (v534 : Value).ownBlock)) ?hr ?hp (fun _ hk => hk) (by exact (show ∀ k_, w5.heap.size ≤ k_ → (fun k_ => (P0_ k_ ∨ w.heap.size ≤ k_) ∧ some k_ ≠ (v534 : Value).ownBlock) k_ from fun k_ hk => ⟨(.inr (Nat.le_trans (szB HB) hk)), Kd.fresh' (ltR HO535) k_ hk⟩) _ (Nat.le_refl _)) (by simp) ?_; (case hd => rfl); (case hg => rfl); (case hr => first | (go_simp; done) | (go_simp; rfl)); (case hp => exact (Reps.one (show Kd.FK (Kd.slice 3 (Kd.int .i64)) _ _ l0 [.slice A0 l0.length c0] from (Kd.FK_slice_mk (Kd.V_reads' (Kd.V_mono (ok' := (fun k_ => (P0_ k_ ∨ w.heap.size ≤ k_) ∧ some k_ ≠ (v534 : Value).ownBlock)) (HO0.out) (fun k_ hk => ⟨hk.1.1, hk.1.2⟩))).2.1 (Kd.V_F (Kd.V_mono (ok' := (fun k_ => (P0_ k_ ∨ w.heap.size ≤ k_) ∧ some k_ ≠ (v534 : Value).ownBlock)) (by (with_reducible repeat (first | apply Kd.V_alloc | apply Kd.V_drewN | apply Kd.V_drew)); exact HO0.out) (by exact fun k_ hk => ⟨hk.1.1, hk.1.2⟩))))) (Reps.one (show Kd.FK (Kd.slice 3 (Kd.int .i64)) _ _ t536 [.slice Ao6 t536.length co6] from (Kd.FK_slice_mk (Kd.R_reads' (Kd.R_mono (ok' := (fun k_ => (P0_ k_ ∨ w.heap.size ≤ k_) ∧ some k_ ≠ (v534 : Value).ownBlock)) (HO538.out) (fun k_ hk => ⟨(.inr (hk.1.1)), hk.2⟩))).2.1 (Kd.R_F (Kd.R_mono (ok' := (fun k_ => (P0_ k_ ∨ w.heap.size ≤ k_) ∧ some k_ ≠ (v534 : Value).ownBlock)) (HO538.out) (fun k_ hk => ⟨(.inr (hk.1.1)), hk.2⟩))))) (Reps.none _ _)))); intro v540 w7 ho8 hb hg_ hnew_; clear hg_ hnew_; (first | rw [← Ny539.out] at ho8 | (simp only [Int.reduceToNat] at ho8; rw [← Ny539.out] at ho8)); have HO541 := Aside0.mk (Kd.N_lower ho8 (szB HB)); replace HO0 := Aside0.mk (Kd.V_elder' (by (with_reducible repeat (first | apply Kd.V_alloc | apply Kd.V_drewN | apply Kd.V_drew)); exact HO0.out) (Kd.N_base ho8) hb); replace HO535 := upR HO535 hb; replace HB := upB HB hb; clear HO538; clear hb ho8; obtain ⟨Ao9, co9, eo9⟩ := Kd.N_slice HO541.out; subst eo9))
 go_loopg [3, 14] k (fun kq v3 v14 w' => ∃ (x3_1 : List Int) (x14_1 : Int), v14 = .int .i64 x14_1 ∧ Aside0 (spec_doLeast.l0 kq x3_1 y539 (y539.length : Int) x14_1 = some r) ∧ Aside0 (kq ≤ k) ∧ Aside0 (Kd.V (Kd.int .i64) 3 w' w.heap.size (fun k_ => (P0_ k_ ∨ w.heap.size ≤ k_) ∧ some k_ ≠ ((.slice Ao9 y539.length co9) : Value).ownBlock) v3 x3_1) ∧ Aside0 (Kd.N (Kd.slice 3 (Kd.int .i64)) 24 w' w.heap.size (fun k_ => (P0_ k_ ∨ w.heap.size ≤ k_)) (.slice Ao9 y539.length co9) y539) ∧ Aside0 (Below w.heap.size w w'))
 case atStart => exact ⟨(t533), (0), eqd, H', ⟨Nat.le_refl _⟩, ⟨Kd.R_V (by (with_reducible repeat (first | apply Kd.R_alloc | apply Kd.R_drewN | apply Kd.R_drew)); exact Kd.R_mono (Kd.R_apart' HO535.out (Kd.N_typed HO541.out) (by decide)) (fun _ hk => ⟨.inr (hk.1.1.1), hk.2⟩))⟩, ⟨by (with_reducible repeat (first | apply Kd.N_alloc | apply Kd.N_drewN | apply Kd.N_drew)); exact Kd.N_mono HO541.out (fun _ hk => hk.1)⟩, ⟨atB HB⟩⟩
 case round =>
  clear H'
  try clear c1
  try clear c2
  try clear p2
  obtain ⟨x3_1, x14_1, rfl, HA, HK1, HO_3, HO_12, HB⟩ := hrel
  cases gk with
  | zero => exact absurd HA.out (by simp [spec_doLeast.l0])
  | succ k1 =>
   have H := HA.out
   clear HA
   simp only [spec_doLeast.l0] at H
   by_cases c10 : x14_1 < (y539.length : Int)
   ·rw [if_pos c10] at H
    have c10b0 : decide (x14_1 < (y539.length : Int)) = true := decide_eq_true c10
    clear c10
    by_cases c11 : 0 ≤ x14_1
    ·rw [if_pos c11] at H
     have c11b0 : decide (0 ≤ x14_1) = true := decide_eq_true c11
     clear c11
     by_cases c12 : x14_1 < (y539.length : Int)
     ·rw [if_pos c12] at H
      have c12b0 : decide (x14_1 < (y539.length : Int)) = true := decide_eq_true c12
      clear c12
      have H' := Aside0.mk H
      clear H
      have p545 : 0 ≤ (x14_1 : Int) := ofd
      have q545 : x14_1 < (y539.length : Int) := ofd
      obtain ⟨ad545, A545_0, c545_0, e545, hx545_0, hl545_0, hi545_0⟩ := at_L2 (Kd.N_reads' HO_12.out).2.2 x14_1 p545 q545
      cases e545
      obtain ⟨ce545, hce545, hMe545, hcc545⟩ := Kd.N_get HO_12.out [] x14_1 p545 (by first | exact q545 | exact of_decide_eq_true (by first | (with_reducible assumption) | assumption) | (have e_ := (Kd.N_reads' HO_12.out).1; omega))
      obtain ⟨ua545_0, uc545_0, rfl, ul545_0, ge545_0⟩ := Kd.FK_slice_open hMe545
      have hv545_0 := hcc545 0 _ rfl
      rw [Nat.add_zero, show ((Kd.slice 3 (Kd.int .i64))).sz = 1 from rfl, Nat.mul_one] at hv545_0
      replace hv545_0 := Option.some.inj (hv545_0.symm.trans hx545_0)
      injection hv545_0 with hva_ hvn_ hvc_
      rw [hva_] at ge545_0
      rw [hvc_] at ul545_0
      have HL545_0 := Aside0.mk (show Kd.V (Kd.int .i64) 3 _ w.heap.size _ _ (rd_L2 y539 x14_1) from Kd.V_mk ul545_0 ge545_0)
      clear hva_ hvn_ hvc_ ge545_0 ul545_0
      clear hcc545 hce545
      have HR545_0 := Aside0.mk hi545_0
      have HC545_0 := Aside0.mk hl545_0
      clear hi545_0 hl545_0
      replace p545 := eq_true p545
      replace q545 := eq_true q545
      go_wp2
      go_loopg [3, 5, 6] k1 (fun kq v3 v5 v6 w' => ∃ (x3_2 : List Int) (x5_2 : List Int) (x6_2 : Int), v6 = .int .i64 x6_2 ∧ Aside0 (spec_doLeast.l1 kq x3_2 x5_2 x6_2 y539 (y539.length : Int) x14_1 = some r) ∧ Aside0 (kq ≤ k1) ∧ Aside0 (Kd.V (Kd.int .i64) 3 w' w.heap.size (fun k_ => (P0_ k_ ∨ w.heap.size ≤ k_) ∧ some k_ ≠ ((.slice (some ad545) y539.length co9) : Value).ownBlock) v3 x3_2) ∧ Aside0 (Kd.V (Kd.int .i64) 3 w' w.heap.size (fun k_ => (P0_ k_ ∨ w.heap.size ≤ k_) ∧ some k_ ≠ ((.slice (some ad545) y539.length co9) : Value).ownBlock) v5 x5_2) ∧ Aside0 (Kd.N (Kd.slice 3 (Kd.int .i64)) 24 w' w.heap.size (fun k_ => (P0_ k_ ∨ w.heap.size ≤ k_)) (.slice (some ad545) y539.length co9) y539) ∧ Aside0 (Kd.C (Kd.int .i64) w' A545_0 (rd_L2 y539 x14_1).length (rd_L2 y539 x14_1)) ∧ Aside0 (Below w.heap.size w w'))
      case atStart => exact ⟨(x3_1), (rd_L2 y539 x14_1), (0), eqd, H', ⟨Nat.le_refl _⟩, ⟨by (with_reducible repeat (first | apply Kd.V_alloc | apply Kd.V_drewN | apply Kd.V_drew)); exact HO_3.out⟩, ⟨by (with_reducible repeat (first | apply Kd.V_alloc | apply Kd.V_drewN | apply Kd.V_drew)); exact HL545_0.out⟩, ⟨by (with_reducible repeat (first | apply Kd.N_alloc | apply Kd.N_drewN | apply Kd.N_drew)); exact HO_12.out⟩, ⟨atC HR545_0⟩, ⟨atB HB⟩⟩
      case round =>
       clear H'
       try clear c1
       try clear c2
       try clear p2
       try clear c5
       try clear p5
       try clear q5
       try clear hx5
       try clear c10
       try clear c10b0
       try clear c11
       try clear c11b0
       try clear c12
       try clear c12b0
       try clear hx545_0
       try clear p2
       try clear p545
       try clear q545
       obtain ⟨x3_2, x5_2, x6_2, rfl, HA, HK2, HO_3, HO_5, HO_12, HR545_0, HB⟩ := hrel
       cases gk with
       | zero => exact absurd HA.out (by simp [spec_doLeast.l1])
       | succ k2 =>
        have H := HA.out
        clear HA
        simp only [spec_doLeast.l1] at H
        by_cases c13 : x6_2 < 4
        ·rw [if_pos c13] at H
         have c13b0 : decide (x6_2 < 4) = true := decide_eq_true c13
         clear c13
         replace H := Option.bind_eq_some_iff.mp H
         obtain ⟨t546, A140, H⟩ := H
         replace H : (if t546 = true then ((spec_doTurn.f k2 x5_2).bind fun t547 => (spec_doLeast.l1 k2 x5_2 t547 (wrap64 (x6_2 + 1)) y539 (y539.length : Int) x14_1)) else ((spec_doTurn.f k2 x5_2).bind fun t550 => (spec_doLeast.l1 k2 x3_2 t550 (wrap64 (x6_2 + 1)) y539 (y539.length : Int) x14_1))) = some r := H
         have A14 := Aside0.mk A140
         clear A140
         by_cases c15 : t546 = true
         ·subst c15
          have H1 : ((spec_doTurn.f k2 x5_2).bind fun t547 => (spec_doLeast.l1 k2 x5_2 t547 (wrap64 (x6_2 + 1)) y539 (y539.length : Int) x14_1)) = some r := by rw [if_pos rfl] at H; exact H
          clear H
          have H := H1
          clear H1
          replace H := Option.bind_eq_some_iff.mp H
          obtain ⟨t547, A160, H⟩ := H
          replace H : (spec_doLeast.l1 k2 x5_2 t547 (wrap64 (x6_2 + 1)) y539 (y539.length : Int) x14_1) = some r := H
          have A16 := Aside0.mk A160
          clear A160
          have H' := Aside0.mk H
          clear H
          obtain ⟨Ao17, co17, eo17⟩ := Kd.V_slice HO_5.out
          subst eo17
          obtain ⟨Ao18, co18, eo18⟩ := Kd.V_slice HO_3.out
          subst eo18
          go_wp2_with (first | ((with_reducible refine gate_callee (f := 248) rfl ?_); refine goesA (some 24) Try.func248 #[.slice Ao17 x5_2.length co17, .slice Ao18 x3_2.length co18] ?_; (with_reducible refine (spec_trLess.calls k2 _ _ x5_2 _ _ x3_2 true _ ?side1 ?side2 ?side3 ?side4 A14.out).mono ?_); (case side1 => repeat (first | exact (Kd.V_reads' HO_5.out).2.2 | (with_reducible refine Kd.C_alloc ?_ _) | (with_reducible refine Kd.C_drewN ?_ _) | (with_reducible refine Kd.C_drew ?_))); (case side2 => exact (Kd.V_reads' HO_5.out).2.1); (case side3 => repeat (first | exact (Kd.V_reads' HO_3.out).2.2 | (with_reducible refine Kd.C_alloc ?_ _) | (with_reducible refine Kd.C_drewN ?_ _) | (with_reducible refine Kd.C_drew ?_))); (case side4 => exact (Kd.V_reads' HO_3.out).2.1); rintro e w' ⟨rfl, ⟨nd, rfl⟩⟩; refine ⟨_, rfl, ?_⟩) | ((with_reducible refine gate_callee (f := 162) rfl ?_); refine goesA (some 27) Try.func162 #[.slice Ao17 x5_2.length co17] ?_; (with_reducible refine (spec_doTurn.calls k2 _ _ x5_2 t547 _ ?side1 ?side2 A16.out).mono ?_); (case side1 => repeat (first | exact (Kd.V_reads' HO_5.out).2.2 | (with_reducible refine Kd.C_alloc ?_ _) | (with_reducible refine Kd.C_drewN ?_ _) | (with_reducible refine Kd.C_drew ?_))); (case side2 => exact (Kd.V_reads' HO_5.out).2.1); rintro e w19 ⟨v548, rfl, ho0, hb⟩; refine ⟨_, rfl, ?_⟩; have HO549 := Aside0.mk (Kd.R_lower (Kd.R_newM (M := fun k_ => (w.heap.size ≤ k_)) ho0 (szB HB) (fun k_ h_ => h_)) (szB HB)); replace HO_3 := Aside0.mk (Kd.V_elder' (by (with_reducible repeat (first | apply Kd.V_alloc | apply Kd.V_drewN | apply Kd.V_drew)); exact HO_3.out) (Kd.R_base ho0) hb); replace HO_5 := Aside0.mk (Kd.V_elder' (by (with_reducible repeat (first | apply Kd.V_alloc | apply Kd.V_drewN | apply Kd.V_drew)); exact HO_5.out) (Kd.R_base ho0) hb); replace HO_12 := Aside0.mk (Kd.N_elder' (by (with_reducible repeat (first | apply Kd.N_alloc | apply Kd.N_drewN | apply Kd.N_drew)); exact HO_12.out) (Kd.R_base ho0) hb); replace HR545_0 := upC HR545_0 hb; replace HB := upB HB hb; (try clear hb); (try clear hb2); (try clear hk); (try clear hi); (try clear ho0)))
          go_roundg k2
          case measure => have := HK1.out; have := HK2.out; omega
          case rel => exact ⟨(x5_2), (t547), (wrap64 (x6_2 + 1)), eqd, H', ⟨by have := HK1.out; have := HK2.out; omega⟩, ⟨by (with_reducible repeat (first | apply Kd.V_alloc | apply Kd.V_drewN | apply Kd.V_drew)); exact Kd.V_mono HO_5.out (fun _ hk => ⟨hk.1.1, hk.1.2⟩)⟩, ⟨Kd.R_V (by (with_reducible repeat (first | apply Kd.R_alloc | apply Kd.R_drewN | apply Kd.R_drew)); exact Kd.R_mono (Kd.R_apart' HO549.out (Kd.N_typed HO_12.out) (by decide)) (fun _ hk => ⟨.inr (hk.1.1), hk.2⟩))⟩, ⟨by (with_reducible repeat (first | apply Kd.N_alloc | apply Kd.N_drewN | apply Kd.N_drew)); exact Kd.N_mono HO_12.out (fun _ hk => hk.1)⟩, ⟨atC HR545_0⟩, ⟨atB HB⟩⟩
         ·replace c15 := Bool.eq_false_iff.mpr c15
          subst c15
          have H1 : ((spec_doTurn.f k2 x5_2).bind fun t550 => (spec_doLeast.l1 k2 x3_2 t550 (wrap64 (x6_2 + 1)) y539 (y539.length : Int) x14_1)) = some r := by rw [if_neg (show ¬ (false = true) by decide)] at H; exact H
          clear H
          have H := H1
          clear H1
          replace H := Option.bind_eq_some_iff.mp H
          obtain ⟨t550, A200, H⟩ := H
          replace H : (spec_doLeast.l1 k2 x3_2 t550 (wrap64 (x6_2 + 1)) y539 (y539.length : Int) x14_1) = some r := H
          have A20 := Aside0.mk A200
          clear A200
          have H' := Aside0.mk H
          clear H
          obtain ⟨Ao21, co21, eo21⟩ := Kd.V_slice HO_5.out
          subst eo21
          obtain ⟨Ao22, co22, eo22⟩ := Kd.V_slice HO_3.out
          subst eo22
          go_wp2_with (first | ((with_reducible refine gate_callee (f := 248) rfl ?_); refine goesA (some 24) Try.func248 #[.slice Ao21 x5_2.length co21, .slice Ao22 x3_2.length co22] ?_; (with_reducible refine (spec_trLess.calls k2 _ _ x5_2 _ _ x3_2 false _ ?side1 ?side2 ?side3 ?side4 A14.out).mono ?_); (case side1 => repeat (first | exact (Kd.V_reads' HO_5.out).2.2 | (with_reducible refine Kd.C_alloc ?_ _) | (with_reducible refine Kd.C_drewN ?_ _) | (with_reducible refine Kd.C_drew ?_))); (case side2 => exact (Kd.V_reads' HO_5.out).2.1); (case side3 => repeat (first | exact (Kd.V_reads' HO_3.out).2.2 | (with_reducible refine Kd.C_alloc ?_ _) | (with_reducible refine Kd.C_drewN ?_ _) | (with_reducible refine Kd.C_drew ?_))); (case side4 => exact (Kd.V_reads' HO_3.out).2.1); rintro e w' ⟨rfl, ⟨nd, rfl⟩⟩; refine ⟨_, rfl, ?_⟩) | ((with_reducible refine gate_callee (f := 162) rfl ?_); refine goesA (some 27) Try.func162 #[.slice Ao21 x5_2.length co21] ?_; (with_reducible refine (spec_doTurn.calls k2 _ _ x5_2 t550 _ ?side1 ?side2 A20.out).mono ?_); (case side1 => repeat (first | exact (Kd.V_reads' HO_5.out).2.2 | (with_reducible refine Kd.C_alloc ?_ _) | (with_reducible refine Kd.C_drewN ?_ _) | (with_reducible refine Kd.C_drew ?_))); (case side2 => exact (Kd.V_reads' HO_5.out).2.1); rintro e w23 ⟨v551, rfl, ho0, hb⟩; refine ⟨_, rfl, ?_⟩; have HO552 := Aside0.mk (Kd.R_lower (Kd.R_newM (M := fun k_ => (w.heap.size ≤ k_)) ho0 (szB HB) (fun k_ h_ => h_)) (szB HB)); replace HO_3 := Aside0.mk (Kd.V_elder' (by (with_reducible repeat (first | apply Kd.V_alloc | apply Kd.V_drewN | apply Kd.V_drew)); exact HO_3.out) (Kd.R_base ho0) hb); replace HO_5 := Aside0.mk (Kd.V_elder' (by (with_reducible repeat (first | apply Kd.V_alloc | apply Kd.V_drewN | apply Kd.V_drew)); exact HO_5.out) (Kd.R_base ho0) hb); replace HO_12 := Aside0.mk (Kd.N_elder' (by (with_reducible repeat (first | apply Kd.N_alloc | apply Kd.N_drewN | apply Kd.N_drew)); exact HO_12.out) (Kd.R_base ho0) hb); replace HR545_0 := upC HR545_0 hb; replace HB := upB HB hb; (try clear hb); (try clear hb2); (try clear hk); (try clear hi); (try clear ho0)))
          go_roundg k2
          case measure => have := HK1.out; have := HK2.out; omega
          case rel => exact ⟨(x3_2), (t550), (wrap64 (x6_2 + 1)), eqd, H', ⟨by have := HK1.out; have := HK2.out; omega⟩, ⟨by (with_reducible repeat (first | apply Kd.V_alloc | apply Kd.V_drewN | apply Kd.V_drew)); exact Kd.V_mono HO_3.out (fun _ hk => ⟨hk.1.1, hk.1.2⟩)⟩, ⟨Kd.R_V (by (with_reducible repeat (first | apply Kd.R_alloc | apply Kd.R_drewN | apply Kd.R_drew)); exact Kd.R_mono (Kd.R_apart' HO552.out (Kd.N_typed HO_12.out) (by decide)) (fun _ hk => ⟨.inr (hk.1.1), hk.2⟩))⟩, ⟨by (with_reducible repeat (first | apply Kd.N_alloc | apply Kd.N_drewN | apply Kd.N_drew)); exact Kd.N_mono HO_12.out (fun _ hk => hk.1)⟩, ⟨atC HR545_0⟩, ⟨atB HB⟩⟩
        ·rw [if_neg c13] at H
         have c13b0 : decide (x6_2 < 4) = false := decide_eq_false c13
         clear c13
         have H' := Aside0.mk H
         clear H
         go_wp2
         go_roundg k2
         case measure => have := HK1.out; have := HK2.out; omega
         case rel => exact ⟨(x3_2), (wrap64 (x14_1 + 1)), eqd, H', ⟨by have := HK1.out; have := HK2.out; omega⟩, ⟨by (with_reducible repeat (first | apply Kd.V_alloc | apply Kd.V_drewN | apply Kd.V_drew)); exact HO_3.out⟩, ⟨by (with_reducible repeat (first | apply Kd.N_alloc | apply Kd.N_drewN | apply Kd.N_drew)); exact HO_12.out⟩, ⟨atB HB⟩⟩
     ·rw [if_neg c12] at H
      exact absurd H (by simp)
    ·rw [if_neg c11] at H
     exact absurd H (by simp)
   ·rw [if_neg c10] at H
    have c10b0 : decide (x14_1 < (y539.length : Int)) = false := decide_eq_false c10
    clear c10
    replace H := Option.bind_eq_some_iff.mp H
    obtain ⟨t542, A240, H⟩ := H
    replace H : (some t542) = some r := H
    have A24 := Aside0.mk A240
    clear A240
    obtain rfl := Option.some.inj H
    obtain ⟨Ao25, co25, eo25⟩ := Kd.V_slice HO_3.out
    subst eo25
    go_wp2_with (first | ((with_reducible refine gate_callee (f := 247) rfl ?_); refine goesA (some 30) Try.func247 #[.slice Ao25 x3_1.length co25] ?_; (with_reducible refine (spec_l1Own.calls _ _ x3_1 t542 _ ?side1 ?side2 A24.out).mono ?_); (case side1 => repeat (first | exact (Kd.V_reads' HO_3.out).2.2 | (with_reducible refine Kd.C_alloc ?_ _) | (with_reducible refine Kd.C_drewN ?_ _) | (with_reducible refine Kd.C_drew ?_))); (case side2 => exact (Kd.V_reads' HO_3.out).2.1); rintro e w26 ⟨v543, rfl, ho0, hb⟩; refine ⟨_, rfl, ?_⟩; have HO544 := Aside0.mk (Kd.R_lower (Kd.R_newM (M := fun k_ => (w.heap.size ≤ k_)) ho0 (szB HB) (fun k_ h_ => h_)) (szB HB)); replace HO_3 := Aside0.mk (Kd.V_elder' (by (with_reducible repeat (first | apply Kd.V_alloc | apply Kd.V_drewN | apply Kd.V_drew)); exact HO_3.out) (Kd.R_base ho0) hb); replace HO_12 := Aside0.mk (Kd.N_elder' (by (with_reducible repeat (first | apply Kd.N_alloc | apply Kd.N_drewN | apply Kd.N_drew)); exact HO_12.out) (Kd.R_base ho0) hb); replace HB := upB HB hb; (try clear hb); (try clear hb2); (try clear hk); (try clear hi); (try clear ho0)))
    go_ret
    exact ⟨_, eqr, by (with_reducible repeat (first | apply Kd.R_alloc | apply Kd.R_drewN | apply Kd.R_drew)); exact Kd.R_mono HO544.out (fun _ hk => hk.1), atB HB⟩

noncomputable def spec_doLeast.L0 (x3 : List Int) (x12 : List (List Int)) (x13 : Int) (x14 : Int) : Option (List Int) := lim fun k => spec_doLeast.l0 k x3 x12 x13 x14
theorem spec_doLeast.L0_lim (x3 : List Int) (x12 : List (List Int)) (x13 : Int) (x14 : Int) : Lim (fun k => spec_doLeast.l0 k x3 x12 x13 x14) (spec_doLeast.L0 x3 x12 x13 x14) := Lim.of fun k => (spec_doLeast.mono_l k).1 x3 x12 x13 x14
noncomputable def spec_doLeast.L1 (x3 : List Int) (x5 : List Int) (x6 : Int) (x12 : List (List Int)) (x13 : Int) (x14 : Int) : Option (List Int) := lim fun k => spec_doLeast.l1 k x3 x5 x6 x12 x13 x14
theorem spec_doLeast.L1_lim (x3 : List Int) (x5 : List Int) (x6 : Int) (x12 : List (List Int)) (x13 : Int) (x14 : Int) : Lim (fun k => spec_doLeast.l1 k x3 x5 x6 x12 x13 x14) (spec_doLeast.L1 x3 x5 x6 x12 x13 x14) := Lim.of fun k => (spec_doLeast.mono_l k).2 x3 x5 x6 x12 x13 x14
noncomputable def spec_doLeast.F (l0 : List Int) : Option (List Int) := lim fun k => spec_doLeast.f k l0
theorem spec_doLeast.F_lim (l0 : List Int) : Lim (fun k => spec_doLeast.f k l0) (spec_doLeast.F l0) := Lim.of fun k => spec_doLeast.mono l0 k
theorem spec_doLeast.L0_eq (x3 : List Int) (x12 : List (List Int)) (x13 : Int) (x14 : Int) : spec_doLeast.L0 x3 x12 x13 x14 = (if x14 < x13 then (if 0 ≤ x14 then (if x14 < (x12.length : Int) then (spec_doLeast.L1 x3 (rd_L2 x12 x14) 0 x12 x13 x14) else (none)) else (none)) else ((spec_l1Own.f x3).bind fun t542 => (some t542))) :=
 Lim.step (f := fun k => spec_doLeast.l0 (k + 1) x3 x12 x13 x14) (spec_doLeast.L0_lim x3 x12 x13 x14) (fun _ => rfl) (by
  simp only [spec_doLeast.l0]
  repeat' (first | (with_reducible first | exact Lim.const _ | exact spec_doLeast.L1_lim _ _ _ _ _ _ | refine Lim.ite ?_ ?_ | refine Lim.bind ?_ (fun _ => ?_))))
theorem spec_doLeast.L1_eq (x3 : List Int) (x5 : List Int) (x6 : Int) (x12 : List (List Int)) (x13 : Int) (x14 : Int) : spec_doLeast.L1 x3 x5 x6 x12 x13 x14 = (if x6 < 4 then ((spec_trLess.F x5 x3).bind fun t546 => (if t546 = true then ((spec_doTurn.F x5).bind fun t547 => (spec_doLeast.L1 x5 t547 (wrap64 (x6 + 1)) x12 x13 x14)) else ((spec_doTurn.F x5).bind fun t550 => (spec_doLeast.L1 x3 t550 (wrap64 (x6 + 1)) x12 x13 x14)))) else (spec_doLeast.L0 x3 x12 x13 (wrap64 (x14 + 1)))) :=
 Lim.step (f := fun k => spec_doLeast.l1 (k + 1) x3 x5 x6 x12 x13 x14) (spec_doLeast.L1_lim x3 x5 x6 x12 x13 x14) (fun _ => rfl) (by
  simp only [spec_doLeast.l1]
  repeat' (first | (with_reducible first | exact Lim.const _ | exact spec_doLeast.L0_lim _ _ _ _ | exact spec_doLeast.L1_lim _ _ _ _ _ _ | exact spec_doTurn.F_lim _ | exact spec_trLess.F_lim _ _ | refine Lim.ite ?_ ?_ | refine Lim.bind ?_ (fun _ => ?_))))
theorem spec_doLeast.F_eq (l0 : List Int) : spec_doLeast.F l0 = ((spec_l1Own.f l0).bind fun t533 => ((spec_roBack.F l0).bind fun t536 => ((some (([l0, t536] : List (List Int)) : List (List Int))).bind fun y539 => (spec_doLeast.L0 t533 y539 (y539.length : Int) 0)))) :=
 Lim.unique (spec_doLeast.F_lim l0) (by
  unfold spec_doLeast.f
  repeat' (first | (with_reducible first | exact Lim.const _ | exact spec_doLeast.L0_lim _ _ _ _ | exact spec_roBack.F_lim _ | refine Lim.ite ?_ ?_ | refine Lim.bind ?_ (fun _ => ?_))))

end Go.Proofs.Ytadhfbchilaklaa.Fn
namespace Go.Proofs.Ytadhfbchilaklaa.Fn
open Go.RowKit Go.Proofs.YtadhfbchilaklaaW.PrintWords Go.Proofs.YtadhfbchilaklaaW.PrintLast Go.Proofs.YtadhfbchilaklaaW.PrintMore
attribute [local go_sem] max2_int min2_int max_two min_two max_three min_three max_four min_four   -- for this text's walks alone
set_option linter.unusedVariables false
set_option linter.unusedSimpArgs false

/-! ### spec_LeastDots: function 42 -/
def spec_LeastDots.f (k : Nat) (l0 : List Int) : Option (List Int × Bool) := (spec_doGood.f k l0).bind fun t553 => (if t553 = true then ((spec_doLeast.f k l0).bind fun t554 => (some (t554, true))) else (some (([] : List Int), false)))
theorem spec_LeastDots.mono : ∀ a0 k, LeO (spec_LeastDots.f k a0) (spec_LeastDots.f (k + 1) a0) := by
 intro a0 k
 unfold spec_LeastDots.f
 repeat' (first | (with_reducible first | exact spec_doGood.mono _ _ | exact spec_doLeast.mono _ _ | exact LeO.refl _ | exact LeO.none _ | refine LeO.ite ?_ ?_ | refine LeO.bind ?_ (fun _ => ?_)) | exact spec_doGood.mono _ _ | exact spec_doLeast.mono _ _ | exact LeO.none _ | refine LeO.ite ?_ ?_ | refine LeO.bind ?_ (fun _ => ?_))
set_option maxHeartbeats 8000000 in
set_option maxRecDepth 100000 in
theorem spec_LeastDots.calls (k : Nat) (A0 : Option Addr) (c0 : Nat) (l0 : List Int) (r1 : List Int) (r2 : Bool) (w : World) (hr0 : Kd.C (Kd.int .i64) w A0 l0.length l0) (hc0 : l0.length ≤ c0) (h : spec_LeastDots.f k l0 = some (r1, r2)) :
  Calls Try.prog 42 #[.slice A0 l0.length c0] w fun e w' => ∃ v0_ : Value, e = .returned (.tuple #[v0_, .bool r2]) ∧ Kd.R (Kd.int .i64) 3 w' w.heap.size (fun _ => True) v0_ r1 ∧ Below w.heap.size w w' := by
 have HR0 := Aside0.mk hr0
 have HC0 := Aside0.mk hc0
 clear hr0 hc0
 have HB := Aside0.mk (Below.refl w.heap.size w)
 have H := h
 unfold spec_LeastDots.f at H
 clear h
 replace H := Option.bind_eq_some_iff.mp H
 obtain ⟨t553, A20, H⟩ := H
 replace H : (if t553 = true then ((spec_doLeast.f k l0).bind fun t554 => (some (t554, true))) else (some (([] : List Int), false))) = some (r1, r2) := H
 have A2 := Aside0.mk A20
 clear A20
 by_cases c3 : t553 = true
 ·subst c3
  have H1 : ((spec_doLeast.f k l0).bind fun t554 => (some (t554, true))) = some (r1, r2) := by rw [if_pos rfl] at H; exact H
  clear H
  have H := H1
  clear H1
  replace H := Option.bind_eq_some_iff.mp H
  obtain ⟨t554, A40, H⟩ := H
  replace H : (some (t554, true)) = some (r1, r2) := H
  have A4 := Aside0.mk A40
  clear A40
  simp only [Option.some.injEq, Prod.mk.injEq] at H
  obtain ⟨rfl, rfl⟩ := H
  go_enter Try.func42, Try.ntmps42
  go_wp2_with (first | ((with_reducible refine gate_callee (f := 161) rfl ?_); refine goesA (some 5) Try.func161 #[.slice A0 l0.length c0] ?_; (with_reducible refine (spec_doGood.calls k _ _ l0 true _ ?side1 ?side2 A2.out).mono ?_); (case side1 => repeat (first | exact HR0.out | (with_reducible refine Kd.C_alloc ?_ _) | (with_reducible refine Kd.C_drewN ?_ _) | (with_reducible refine Kd.C_drew ?_))); (case side2 => exact HC0.out); rintro e w' ⟨rfl, ⟨nd, rfl⟩⟩; refine ⟨_, rfl, ?_⟩) | ((with_reducible refine gate_callee (f := 167) rfl ?_); refine goesA (some 8) Try.func167 #[.slice A0 l0.length c0] ?_; (with_reducible refine (spec_doLeast.calls k (fun k_ => k_ < w.heap.size) _ _ l0 t554 _ ?side1 A4.out).mono ?_); (case side1 => exact Kd.V_mk HC0.out (Kd.F_below (Kd.C_F (Kd.heap_int .i64) HR0.out) (atB HB))); rintro e w5 ⟨v555, rfl, ho0, hb⟩; refine ⟨_, rfl, ?_⟩; have HO556 := Aside0.mk (Kd.R_lower (Kd.R_mono (ok' := fun k_ => True) ho0 (fun _ hk_ => trivial)) (szB HB)); replace HB := upB HB hb; (try clear hb); (try clear hb2); (try clear hk); (try clear hi); (try clear ho0)))
  go_ret2
  exact ⟨_, eqr, atR HO556, atB HB⟩
 ·replace c3 := Bool.eq_false_iff.mpr c3
  subst c3
  have H1 : (some (([] : List Int), false)) = some (r1, r2) := by rw [if_neg (show ¬ (false = true) by decide)] at H; exact H
  clear H
  have H := H1
  clear H1
  simp only [Option.some.injEq, Prod.mk.injEq] at H
  obtain ⟨rfl, rfl⟩ := H
  go_enter Try.func42, Try.ntmps42
  go_wp2_with (first | ((with_reducible refine gate_callee (f := 161) rfl ?_); refine goesA (some 5) Try.func161 #[.slice A0 l0.length c0] ?_; (with_reducible refine (spec_doGood.calls k _ _ l0 false _ ?side1 ?side2 A2.out).mono ?_); (case side1 => repeat (first | exact HR0.out | (with_reducible refine Kd.C_alloc ?_ _) | (with_reducible refine Kd.C_drewN ?_ _) | (with_reducible refine Kd.C_drew ?_))); (case side2 => exact HC0.out); rintro e w' ⟨rfl, ⟨nd, rfl⟩⟩; refine ⟨_, rfl, ?_⟩))
  go_ret2
  exact ⟨_, eqr, by first | exact Kd.R_nil _ _ _ _ _ | exact Kd.N_nil _ _ _ _ _ | exact Kd.V_nil _ _ _ _ _ | exact Kd.Q_nil _ _ _ _ _ | exact Kd.S_nil _ _ _ _ _, atB HB⟩

noncomputable def spec_LeastDots.F (l0 : List Int) : Option (List Int × Bool) := lim fun k => spec_LeastDots.f k l0
theorem spec_LeastDots.F_lim (l0 : List Int) : Lim (fun k => spec_LeastDots.f k l0) (spec_LeastDots.F l0) := Lim.of fun k => spec_LeastDots.mono l0 k
theorem spec_LeastDots.F_eq (l0 : List Int) : spec_LeastDots.F l0 = ((spec_doGood.F l0).bind fun t553 => (if t553 = true then ((spec_doLeast.F l0).bind fun t554 => (some (t554, true))) else (some (([] : List Int), false)))) :=
 Lim.unique (spec_LeastDots.F_lim l0) (by
  unfold spec_LeastDots.f
  repeat' (first | (with_reducible first | exact Lim.const _ | exact spec_doGood.F_lim _ | exact spec_doLeast.F_lim _ | refine Lim.ite ?_ ?_ | refine Lim.bind ?_ (fun _ => ?_))))

end Go.Proofs.Ytadhfbchilaklaa.Fn
namespace Go.Proofs.Ytadhfbchilaklaa.Fn
open Go.RowKit Go.Proofs.YtadhfbchilaklaaW.PrintWords Go.Proofs.YtadhfbchilaklaaW.PrintLast Go.Proofs.YtadhfbchilaklaaW.PrintMore
attribute [local go_sem] max2_int min2_int max_two min_two max_three min_three max_four min_four   -- for this text's walks alone
set_option linter.unusedVariables false
set_option linter.unusedSimpArgs false

/-! ### spec_DropCorner: function 44 -/
mutual
def spec_DropCorner.j0 : Nat → List Int → Bool → Option (List Int × Bool)
 | 0, _, _ => none
 | k + 1, x0, x20 => if x20 = true then (some (([] : List Int), false)) else (if 1 ≤ (x0.length : Int) then (spec_DropCorner.l0 k ([] : List Int) (x0.drop 1) ((x0.drop 1).length : Int) 0) else (none))
def spec_DropCorner.l0 : Nat → List Int → List Int → Int → Int → Option (List Int × Bool)
 | 0, _, _, _, _ => none
 | k + 1, x4, x22, x23, x24 => if x24 < x23 then (if 0 ≤ x24 then (if x24 < (x22.length : Int) then (if x4.length < 17592186044416 then (spec_DropCorner.l0 k (x4 ++ [wrap64 ((rd x22 x24) - 1)]) x22 x23 (wrap64 (x24 + 1))) else (none)) else (none)) else (none)) else (some (x4, true))
end
def spec_DropCorner.f (k : Nat) (l0 : List Int) : Option (List Int × Bool) := (spec_doGood.f k l0).bind fun t564 => (if t564 = true then (if 0 < (l0.length : Int) then (if (rd l0 0) = 0 then (spec_DropCorner.j0 k l0 ((l0.length : Int) == 1)) else (spec_DropCorner.j0 k l0 true)) else (none)) else (spec_DropCorner.j0 k l0 true))
theorem spec_DropCorner.mono_l : ∀ k, (∀ y0 y1, LeO (spec_DropCorner.j0 k y0 y1) (spec_DropCorner.j0 (k + 1) y0 y1)) ∧ (∀ y0 y1 y2 y3, LeO (spec_DropCorner.l0 k y0 y1 y2 y3) (spec_DropCorner.l0 (k + 1) y0 y1 y2 y3))
 | 0 => ⟨fun _ _ r h => by simp [spec_DropCorner.j0] at h, fun _ _ _ _ r h => by simp [spec_DropCorner.l0] at h⟩
 | k + 1 => by
  obtain ⟨ih0, ih1⟩ := spec_DropCorner.mono_l k
  refine ⟨?_, ?_⟩
  ·intro y0 y1
   unfold spec_DropCorner.j0
   repeat' (first | (with_reducible first | exact ih1 _ _ _ _ | exact LeO.refl _ | exact LeO.none _ | refine LeO.ite ?_ ?_ | refine LeO.bind ?_ (fun _ => ?_)) | exact ih1 _ _ _ _ | exact LeO.none _ | refine LeO.ite ?_ ?_ | refine LeO.bind ?_ (fun _ => ?_))
  ·intro y0 y1 y2 y3
   unfold spec_DropCorner.l0
   repeat' (first | (with_reducible first | exact ih1 _ _ _ _ | exact LeO.refl _ | exact LeO.none _ | refine LeO.ite ?_ ?_ | refine LeO.bind ?_ (fun _ => ?_)) | exact ih1 _ _ _ _ | exact LeO.none _ | refine LeO.ite ?_ ?_ | refine LeO.bind ?_ (fun _ => ?_))
theorem spec_DropCorner.mono : ∀ a0 k, LeO (spec_DropCorner.f k a0) (spec_DropCorner.f (k + 1) a0) := by
 intro a0 k
 obtain ⟨ih0, ih1⟩ := spec_DropCorner.mono_l k
 unfold spec_DropCorner.f
 repeat' (first | (with_reducible first | exact ih0 _ _ | exact spec_doGood.mono _ _ | exact LeO.refl _ | exact LeO.none _ | refine LeO.ite ?_ ?_ | refine LeO.bind ?_ (fun _ => ?_)) | exact ih0 _ _ | exact spec_doGood.mono _ _ | exact LeO.none _ | refine LeO.ite ?_ ?_ | refine LeO.bind ?_ (fun _ => ?_))
set_option maxHeartbeats 8000000 in
set_option maxRecDepth 100000 in
theorem spec_DropCorner.calls (k : Nat) (A0 : Option Addr) (c0 : Nat) (l0 : List Int) (r1 : List Int) (r2 : Bool) (w : World) (hr0 : Kd.C (Kd.int .i64) w A0 l0.length l0) (hc0 : l0.length ≤ c0) (h : spec_DropCorner.f k l0 = some (r1, r2)) :
  Calls Try.prog 44 #[.slice A0 l0.length c0] w fun e w' => ∃ v0_ : Value, e = .returned (.tuple #[v0_, .bool r2]) ∧ Kd.R (Kd.int .i64) 3 w' w.heap.size (fun _ => True) v0_ r1 ∧ Below w.heap.size w w' := by
 have HR0 := Aside0.mk hr0
 have HC0 := Aside0.mk hc0
 clear hr0 hc0
 have HB := Aside0.mk (Below.refl w.heap.size w)
 have H := h
 unfold spec_DropCorner.f at H
 clear h
 have HC2 := Aside0.mk H
 clear H
 go_enter Try.func44, Try.ntmps44
 go_upto_region 1 with (fail)
 go_cut [20] (fun v20 wc => ∃ (kq : Nat) (x20_1 : Bool), v20 = .bool x20_1 ∧ Aside0 (spec_DropCorner.j0 kq l0 x20_1 = some (r1, r2)) ∧ Aside0 (kq ≤ k) ∧ Aside0 (Below w.heap.size w wc))
 case first =>
  have H := HC2.out
  clear HC2
  replace H := Option.bind_eq_some_iff.mp H
  obtain ⟨t564, A30, H⟩ := H
  replace H : (if t564 = true then (if 0 < (l0.length : Int) then (if (rd l0 0) = 0 then (spec_DropCorner.j0 k l0 ((l0.length : Int) == 1)) else (spec_DropCorner.j0 k l0 true)) else (none)) else (spec_DropCorner.j0 k l0 true)) = some (r1, r2) := H
  have A3 := Aside0.mk A30
  clear A30
  by_cases c4 : t564 = true
  ·subst c4
   have H1 : (if 0 < (l0.length : Int) then (if (rd l0 0) = 0 then (spec_DropCorner.j0 k l0 ((l0.length : Int) == 1)) else (spec_DropCorner.j0 k l0 true)) else (none)) = some (r1, r2) := by rw [if_pos rfl] at H; exact H
   clear H
   have H := H1
   clear H1
   by_cases c5 : 0 < (l0.length : Int)
   ·rw [if_pos c5] at H
    have c5b0 : decide (0 < (l0.length : Int)) = true := decide_eq_true c5
    have c5b1 : decide (0 < l0.length) = true := decide_eq_true (by omega)
    clear c5
    (first | rw [c5b0] | (simp only [i64_w, i32_w]; rw [c5b0]) | skip)
    by_cases c6 : (rd l0 0) = 0
    ·rw [if_pos c6] at H
     have c6b0 : ((rd l0 0) == 0) = true := beq_iff_eq.mpr c6
     have c6b1 : ((rd l0 0) != 0) = false := bne_eq_false_iff_eq.mpr c6
     clear c6
     have H' := Aside0.mk H
     clear H
     go_wp2_with (first | ((with_reducible refine gate_callee (f := 161) rfl ?_); refine goesA (some 8) Try.func161 #[.slice A0 l0.length c0] ?_; (with_reducible refine (spec_doGood.calls k _ _ l0 true _ ?side1 ?side2 A3.out).mono ?_); (case side1 => repeat (first | exact (Kd.C_below HR0.out HB.out) | (with_reducible refine Kd.C_alloc ?_ _) | (with_reducible refine Kd.C_drewN ?_ _) | (with_reducible refine Kd.C_drew ?_))); (case side2 => exact HC0.out); rintro e w' ⟨rfl, ⟨nd, rfl⟩⟩; refine ⟨_, rfl, ?_⟩; have p565 : 0 ≤ (0 : Int) := (by omega); have q565 : 0 < (l0.length : Int) := ofd; obtain ⟨ad565, e565, hx565_0⟩ := Kd.at_int HR0.out 0 p565 q565; cases e565; have qi565 : (0 < l0.length) = True := eq_true (by omega); (try rw [show ((0 : Int)).toNat = 0 from rfl] at hx565_0); (try rw [Addr.add_zero'] at hx565_0); replace hx565_0 := (HB.out.cell (World.block_lt_of_cell? w _ hx565_0)).trans hx565_0; replace p565 := eq_true p565; replace q565 := eq_true q565))
     go_meet
     case rel => exact ⟨_, (((l0.length : Int) == 1)), eqd, H', ⟨leD⟩, ⟨atB HB⟩⟩
    ·rw [if_neg c6] at H
     have c6b0 : ((rd l0 0) == 0) = false := beq_eq_false_iff_ne.mpr c6
     have c6b1 : ((rd l0 0) != 0) = true := bne_iff_ne.mpr c6
     have H' := Aside0.mk H
     clear H
     go_wp2_with (first | ((with_reducible refine gate_callee (f := 161) rfl ?_); refine goesA (some 8) Try.func161 #[.slice A0 l0.length c0] ?_; (with_reducible refine (spec_doGood.calls k _ _ l0 true _ ?side1 ?side2 A3.out).mono ?_); (case side1 => repeat (first | exact (Kd.C_below HR0.out HB.out) | (with_reducible refine Kd.C_alloc ?_ _) | (with_reducible refine Kd.C_drewN ?_ _) | (with_reducible refine Kd.C_drew ?_))); (case side2 => exact HC0.out); rintro e w' ⟨rfl, ⟨nd, rfl⟩⟩; refine ⟨_, rfl, ?_⟩; have p565 : 0 ≤ (0 : Int) := (by omega); have q565 : 0 < (l0.length : Int) := ofd; obtain ⟨ad565, e565, hx565_0⟩ := Kd.at_int HR0.out 0 p565 q565; cases e565; have qi565 : (0 < l0.length) = True := eq_true (by omega); (try rw [show ((0 : Int)).toNat = 0 from rfl] at hx565_0); (try rw [Addr.add_zero'] at hx565_0); replace hx565_0 := (HB.out.cell (World.block_lt_of_cell? w _ hx565_0)).trans hx565_0; replace p565 := eq_true p565; replace q565 := eq_true q565))
     go_meet
     case rel => exact ⟨_, (true), eqd, H', ⟨leD⟩, ⟨atB HB⟩⟩
   ·rw [if_neg c5] at H
    exact absurd H (by simp)
  ·replace c4 := Bool.eq_false_iff.mpr c4
   subst c4
   have H1 : (spec_DropCorner.j0 k l0 true) = some (r1, r2) := by rw [if_neg (show ¬ (false = true) by decide)] at H; exact H
   clear H
   have H := H1
   clear H1
   have H' := Aside0.mk H
   clear H
   go_wp2_with (first | ((with_reducible refine gate_callee (f := 161) rfl ?_); refine goesA (some 8) Try.func161 #[.slice A0 l0.length c0] ?_; (with_reducible refine (spec_doGood.calls k _ _ l0 false _ ?side1 ?side2 A3.out).mono ?_); (case side1 => repeat (first | exact (Kd.C_below HR0.out HB.out) | (with_reducible refine Kd.C_alloc ?_ _) | (with_reducible refine Kd.C_drewN ?_ _) | (with_reducible refine Kd.C_drew ?_))); (case side2 => exact HC0.out); rintro e w' ⟨rfl, ⟨nd, rfl⟩⟩; refine ⟨_, rfl, ?_⟩))
   go_meet
   case rel => exact ⟨_, (true), eqd, H', ⟨leD⟩, ⟨atB HB⟩⟩
 case rest =>
  clear HC2
  try clear c1
  try clear p2
  try clear c4
  try clear c5
  try clear c5b0
  try clear c5b1
  try clear p5
  try clear q5
  try clear hx5
  try clear qi5
  try clear c6
  try clear c6b0
  try clear c6b1
  try clear hx565_0
  try clear p565
  try clear q565
  obtain ⟨kq, x20_1, rfl, HA, HJ1, HB⟩ := hcut
  cases kq with
  | zero => exact absurd HA.out (by simp [spec_DropCorner.j0])
  | succ kj1 =>
   have H := HA.out
   clear HA
   simp only [spec_DropCorner.j0] at H
   by_cases c7 : x20_1 = true
   ·subst c7
    have H1 : (some (([] : List Int), false)) = some (r1, r2) := by rw [if_pos rfl] at H; exact H
    clear H
    have H := H1
    clear H1
    simp only [Option.some.injEq, Prod.mk.injEq] at H
    obtain ⟨rfl, rfl⟩ := H
    go_wp2
    go_ret2
    exact ⟨_, eqr, by first | exact Kd.R_nil _ _ _ _ _ | exact Kd.N_nil _ _ _ _ _ | exact Kd.V_nil _ _ _ _ _ | exact Kd.Q_nil _ _ _ _ _ | exact Kd.S_nil _ _ _ _ _, atB HB⟩
   ·replace c7 := Bool.eq_false_iff.mpr c7
    subst c7
    have H1 : (if 1 ≤ (l0.length : Int) then (spec_DropCorner.l0 kj1 ([] : List Int) (l0.drop 1) ((l0.drop 1).length : Int) 0) else (none)) = some (r1, r2) := by rw [if_neg (show ¬ (false = true) by decide)] at H; exact H
    clear H
    have H := H1
    clear H1
    by_cases c8 : 1 ≤ (l0.length : Int)
    ·rw [if_pos c8] at H
     have c8b0 := eq_true c8
     have c8b1 : decide (1 ≤ (l0.length : Int)) = true := decide_eq_true c8
     clear c8
     have H' := Aside0.mk H
     clear H
     obtain ⟨i09, hi09, _, hsz9, _⟩ := info_parts info3
     obtain ⟨A9, hcut9, hA9, hC9⟩ := print_drop_of (P := Try.prog) (Value.int .i64) 0 24 3 .i64 Try.underlying24 hi09 hsz9 A0 c0 l0 1 (by omega) (of_decide_eq_true (by first | (with_reducible assumption) | assumption)) HC0.out
     have HR566 := Aside0.mk (Kd.C_of_reads (h1 := fun _ => rfl) (hA9 _ (Kd.reads_of_C HR0.out)))
     have HC566 := Aside0.mk hC9
     clear hA9 hC9 hi09 hsz9
     go_wp2
     go_loopg [4, 24] kj1 (fun kq v4 v24 w' => ∃ (x4_2 : List Int) (x24_2 : Int), v24 = .int .i64 x24_2 ∧ Aside0 (spec_DropCorner.l0 kq x4_2 (l0.drop 1) ((l0.drop 1).length : Int) x24_2 = some (r1, r2)) ∧ Aside0 (kq ≤ kj1) ∧ Aside0 (Kd.R (Kd.int .i64) 3 w' w.heap.size (fun _ => True) v4 x4_2) ∧ Aside0 (Below w.heap.size w w'))
     case atStart => exact ⟨(([] : List Int)), (0), eqd, H', ⟨Nat.le_refl _⟩, ⟨by first | exact Kd.R_nil _ _ _ _ _ | exact Kd.N_nil _ _ _ _ _ | exact Kd.V_nil _ _ _ _ _ | exact Kd.Q_nil _ _ _ _ _ | exact Kd.S_nil _ _ _ _ _⟩, ⟨atB HB⟩⟩
     case round =>
      clear H'
      try clear c1
      try clear p2
      try clear c4
      try clear c5
      try clear c5b0
      try clear c5b1
      try clear p5
      try clear q5
      try clear hx5
      try clear qi5
      try clear c6
      try clear c6b0
      try clear c6b1
      try clear c7
      try clear c8
      try clear c8b0
      try clear c8b1
      try clear hx565_0
      try clear p2
      try clear p5
      try clear p565
      try clear q5
      try clear q565
      obtain ⟨x4_2, x24_2, rfl, HA, HK2, HO_4, HB⟩ := hrel
      cases gk with
      | zero => exact absurd HA.out (by simp [spec_DropCorner.l0])
      | succ k2 =>
       have H := HA.out
       clear HA
       simp only [spec_DropCorner.l0] at H
       by_cases c10 : x24_2 < ((l0.drop 1).length : Int)
       ·rw [if_pos c10] at H
        have c10b0 : decide (x24_2 < ((l0.drop 1).length : Int)) = true := decide_eq_true c10
        have c10b0m := c10b0; (try rw [List.length_drop] at c10b0m); (try rw [List.drop_one] at c10b0m)
        clear c10
        by_cases c11 : 0 ≤ x24_2
        ·rw [if_pos c11] at H
         have c11b0 : decide (0 ≤ x24_2) = true := decide_eq_true c11
         clear c11
         by_cases c12 : x24_2 < ((l0.drop 1).length : Int)
         ·rw [if_pos c12] at H
          have c12b0 : decide (x24_2 < ((l0.drop 1).length : Int)) = true := decide_eq_true c12
          have c12b0m := c12b0; (try rw [List.length_drop] at c12b0m); (try rw [List.drop_one] at c12b0m)
          clear c12
          by_cases c13 : x4_2.length < 17592186044416
          ·rw [if_pos c13] at H
           have LMc13 := Aside0.mk c13
           clear c13
           obtain ⟨y568, hy568⟩ : ∃ y_ : List Int, y_ = (x4_2 ++ [wrap64 ((rd (l0.drop 1) x24_2) - 1)]) := ⟨_, rfl⟩
           replace H : (spec_DropCorner.l0 k2 y568 (l0.drop 1) ((l0.drop 1).length : Int) (wrap64 (x24_2 + 1))) = some (r1, r2) := by first | (rw [hy568]; with_reducible exact H) | (have H2_ := (Option.bind_some _ _).symm.trans H; rw [hy568]; with_reducible exact H2_) | (have H2_ := (Option.bind_some _ _).symm.trans H; with_reducible exact H2_) | with_reducible exact H | (rw [hy568]; exact H) | exact H
           have Ny568 := Aside0.mk hy568
           clear hy568
           have H' := Aside0.mk H
           clear H
           have p567 : 0 ≤ (x24_2 : Int) := ofd
           have q567 : x24_2 < ((l0.drop 1).length : Int) := ofd
           obtain ⟨ad567, e567, hx567_0⟩ := Kd.at_int HR566.out x24_2 p567 q567
           obtain ⟨zd567, hzd567⟩ : ∃ z_, z_ = rd (l0.drop 1) x24_2 := ⟨_, rfl⟩
           replace hx567_0 := hx567_0.trans (congrArg (fun z_ => some (Value.int .i64 z_)) hzd567.symm)
           have hy_ := Ny568.out; rw [← hzd567] at hy_; replace Ny568 := Aside0.mk hy_; clear hy_
           clear hzd567
           cases e567
           (try replace hx567_0 := (HB.out.cell (World.block_lt_of_cell? w _ hx567_0)).trans hx567_0)
           replace p567 := eq_true p567
           replace q567 := eq_true q567
           have q567m := q567; (try rw [List.length_drop] at q567m); (try rw [List.drop_one] at q567m)
           go_wp2_with (first | ((with_reducible refine gate_builtin (b := .append) (xs := #[.tmp 28, .tmp 31]) rfl ?_); (try (refine gate_guard (by rfl) ?_; dsimp only)); at_builtin; refine Kd.R_append (Kd.int .i64) (w0 := w) w.heap.size rfl (.tmp 28) (.tmp 31) 24 3 (.int .i64 0) 8 rfl Try.underlying24 info3 rfl (by decide) (by omega) u4 x4_2 (wrap64 (zd567 - 1)) [.int .i64 (wrap64 (zd567 - 1))] (fun _ => True) (fun _ => False) rfl rfl ?aP (fun _ hk => hk.elim) ?aF ?aO ?aB ?aS ?aL ?_; (case aP => exact rfl); (case aB => exact (atB HB)); (case aF => exact (fun _ _ => trivial)); (case aO => exact (atR HO_4)); (case aS => exact (szB HB)); (case aL => have := LMc13.out; omega); intro v569 w14 ho hb hg hat; rw [← Ny568.out] at ho; have HO570 := Aside0.mk (ho); replace HB := Aside0.mk (hb); clear HO_4; clear ho hb hg hat))
           go_roundg k2
           case measure => have := HJ1.out; have := HK2.out; omega
           case rel => exact ⟨(y568), (wrap64 (x24_2 + 1)), eqd, H', ⟨by have := HJ1.out; have := HK2.out; omega⟩, ⟨atR HO570⟩, ⟨atB HB⟩⟩
          ·rw [if_neg c13] at H
           exact absurd H (by simp)
         ·rw [if_neg c12] at H
          exact absurd H (by simp)
        ·rw [if_neg c11] at H
         exact absurd H (by simp)
       ·rw [if_neg c10] at H
        have c10b0 : decide (x24_2 < ((l0.drop 1).length : Int)) = false := decide_eq_false c10
        have c10b0m := c10b0; (try rw [List.length_drop] at c10b0m); (try rw [List.drop_one] at c10b0m)
        clear c10
        simp only [Option.some.injEq, Prod.mk.injEq] at H
        obtain ⟨rfl, rfl⟩ := H
        go_wp2
        go_ret2
        exact ⟨_, eqr, atR HO_4, atB HB⟩
    ·rw [if_neg c8] at H
     exact absurd H (by simp)

noncomputable def spec_DropCorner.J0 (x0 : List Int) (x20 : Bool) : Option (List Int × Bool) := lim fun k => spec_DropCorner.j0 k x0 x20
theorem spec_DropCorner.J0_lim (x0 : List Int) (x20 : Bool) : Lim (fun k => spec_DropCorner.j0 k x0 x20) (spec_DropCorner.J0 x0 x20) := Lim.of fun k => (spec_DropCorner.mono_l k).1 x0 x20
noncomputable def spec_DropCorner.L0 (x4 : List Int) (x22 : List Int) (x23 : Int) (x24 : Int) : Option (List Int × Bool) := lim fun k => spec_DropCorner.l0 k x4 x22 x23 x24
theorem spec_DropCorner.L0_lim (x4 : List Int) (x22 : List Int) (x23 : Int) (x24 : Int) : Lim (fun k => spec_DropCorner.l0 k x4 x22 x23 x24) (spec_DropCorner.L0 x4 x22 x23 x24) := Lim.of fun k => (spec_DropCorner.mono_l k).2 x4 x22 x23 x24
noncomputable def spec_DropCorner.F (l0 : List Int) : Option (List Int × Bool) := lim fun k => spec_DropCorner.f k l0
theorem spec_DropCorner.F_lim (l0 : List Int) : Lim (fun k => spec_DropCorner.f k l0) (spec_DropCorner.F l0) := Lim.of fun k => spec_DropCorner.mono l0 k
theorem spec_DropCorner.J0_eq (x0 : List Int) (x20 : Bool) : spec_DropCorner.J0 x0 x20 = (if x20 = true then (some (([] : List Int), false)) else (if 1 ≤ (x0.length : Int) then (spec_DropCorner.L0 ([] : List Int) (x0.drop 1) ((x0.drop 1).length : Int) 0) else (none))) :=
 Lim.step (f := fun k => spec_DropCorner.j0 (k + 1) x0 x20) (spec_DropCorner.J0_lim x0 x20) (fun _ => rfl) (by
  simp only [spec_DropCorner.j0]
  repeat' (first | (with_reducible first | exact Lim.const _ | exact spec_DropCorner.L0_lim _ _ _ _ | refine Lim.ite ?_ ?_ | refine Lim.bind ?_ (fun _ => ?_))))
theorem spec_DropCorner.L0_eq (x4 : List Int) (x22 : List Int) (x23 : Int) (x24 : Int) : spec_DropCorner.L0 x4 x22 x23 x24 = (if x24 < x23 then (if 0 ≤ x24 then (if x24 < (x22.length : Int) then (if x4.length < 17592186044416 then (spec_DropCorner.L0 (x4 ++ [wrap64 ((rd x22 x24) - 1)]) x22 x23 (wrap64 (x24 + 1))) else (none)) else (none)) else (none)) else (some (x4, true))) :=
 Lim.step (f := fun k => spec_DropCorner.l0 (k + 1) x4 x22 x23 x24) (spec_DropCorner.L0_lim x4 x22 x23 x24) (fun _ => rfl) (by
  simp only [spec_DropCorner.l0]
  repeat' (first | (with_reducible first | exact Lim.const _ | exact spec_DropCorner.L0_lim _ _ _ _ | refine Lim.ite ?_ ?_ | refine Lim.bind ?_ (fun _ => ?_))))
theorem spec_DropCorner.F_eq (l0 : List Int) : spec_DropCorner.F l0 = ((spec_doGood.F l0).bind fun t564 => (if t564 = true then (if 0 < (l0.length : Int) then (if (rd l0 0) = 0 then (spec_DropCorner.J0 l0 ((l0.length : Int) == 1)) else (spec_DropCorner.J0 l0 true)) else (none)) else (spec_DropCorner.J0 l0 true))) :=
 Lim.unique (spec_DropCorner.F_lim l0) (by
  unfold spec_DropCorner.f
  repeat' (first | (with_reducible first | exact Lim.const _ | exact spec_DropCorner.J0_lim _ _ | exact spec_doGood.F_lim _ | refine Lim.ite ?_ ?_ | refine Lim.bind ?_ (fun _ => ?_))))

end Go.Proofs.Ytadhfbchilaklaa.Fn
namespace Go.Proofs.Ytadhfbchilaklaa.Fn
open Go.RowKit Go.Proofs.YtadhfbchilaklaaW.PrintWords Go.Proofs.YtadhfbchilaklaaW.PrintLast Go.Proofs.YtadhfbchilaklaaW.PrintMore
attribute [local go_sem] max2_int min2_int max_two min_two max_three min_three max_four min_four   -- for this text's walks alone
set_option linter.unusedVariables false
set_option linter.unusedSimpArgs false

/-! ### laws_zSame: function 45 -/
def laws_zSame.l0 : Nat → List Int → List Int → Int → Int → Option (Bool)
 | 0, _, _, _, _ => none
 | k + 1, x0, x1, x12, x13 => if x13 < x12 then (if 0 ≤ x13 then (if x13 < (x0.length : Int) then (if x13 < (x1.length : Int) then (if (rd x0 x13) = (rd x1 x13) then (laws_zSame.l0 k x0 x1 x12 (wrap64 (x13 + 1))) else (some false)) else (none)) else (none)) else (none)) else (some true)
def laws_zSame.f (k : Nat) (l0 : List Int) (l1 : List Int) : Option (Bool) := if (l0.length : Int) = (l1.length : Int) then (laws_zSame.l0 k l0 l1 (l0.length : Int) 0) else (some false)
theorem laws_zSame.mono_l : ∀ k, (∀ y0 y1 y2 y3, LeO (laws_zSame.l0 k y0 y1 y2 y3) (laws_zSame.l0 (k + 1) y0 y1 y2 y3))
 | 0 => fun _ _ _ _ r h => by simp [laws_zSame.l0] at h
 | k + 1 => by
  have ih0 := laws_zSame.mono_l k
  ·intro y0 y1 y2 y3
   unfold laws_zSame.l0
   repeat' (first | (with_reducible first | exact ih0 _ _ _ _ | exact LeO.refl _ | exact LeO.none _ | refine LeO.ite ?_ ?_ | refine LeO.bind ?_ (fun _ => ?_)) | exact ih0 _ _ _ _ | exact LeO.none _ | refine LeO.ite ?_ ?_ | refine LeO.bind ?_ (fun _ => ?_))
theorem laws_zSame.mono : ∀ a0 a1 k, LeO (laws_zSame.f k a0 a1) (laws_zSame.f (k + 1) a0 a1) := by
 intro a0 a1 k
 have ih0 := laws_zSame.mono_l k
 unfold laws_zSame.f
 repeat' (first | (with_reducible first | exact ih0 _ _ _ _ | exact LeO.refl _ | exact LeO.none _ | refine LeO.ite ?_ ?_ | refine LeO.bind ?_ (fun _ => ?_)) | exact ih0 _ _ _ _ | exact LeO.none _ | refine LeO.ite ?_ ?_ | refine LeO.bind ?_ (fun _ => ?_))
set_option maxHeartbeats 8000000 in
set_option maxRecDepth 100000 in
theorem laws_zSame.calls (k : Nat) (A0 : Option Addr) (c0 : Nat) (l0 : List Int) (A1 : Option Addr) (c1 : Nat) (l1 : List Int) (r : Bool) (w : World) (hr0 : Kd.C (Kd.int .i64) w A0 l0.length l0) (hc0 : l0.length ≤ c0) (hr1 : Kd.C (Kd.int .i64) w A1 l1.length l1) (hc1 : l1.length ≤ c1) (h : laws_zSame.f k l0 l1 = some r) :
  Calls Try.prog 45 #[.slice A0 l0.length c0, .slice A1 l1.length c1] w fun e w' => e = .returned (.bool r) ∧ Drawn0 w w' := by
 have HR0 := Aside0.mk hr0
 have HC0 := Aside0.mk hc0
 clear hr0 hc0
 have HR1 := Aside0.mk hr1
 have HC1 := Aside0.mk hc1
 clear hr1 hc1
 have H := h
 unfold laws_zSame.f at H
 clear h
 by_cases c3 : (l0.length : Int) = (l1.length : Int)
 ·rw [if_pos c3] at H
  have c3b0 : ((l0.length : Int) == (l1.length : Int)) = true := beq_iff_eq.mpr c3
  have c3b1 : ((l0.length : Int) != (l1.length : Int)) = false := bne_eq_false_iff_eq.mpr c3
  have c3b2 : (l0.length == l1.length) = true := by first | simpa using c3 | (simp at c3 ⊢; omega)
  clear c3
  have H' := Aside0.mk H
  clear H
  go_enter Try.func45, Try.ntmps45
  go_wp2
  repeat (go_quiet (fail); try go_wp2)
  go_loopg [13] k (fun kq v13 w' => ∃ (x13_1 : Int), v13 = .int .i64 x13_1 ∧ Aside0 (laws_zSame.l0 kq l0 l1 (l0.length : Int) x13_1 = some r) ∧ Aside0 (kq ≤ k) ∧ Drawn0 w w')
  case atStart => exact ⟨(0), eqd, H', ⟨Nat.le_refl _⟩, by repeat (first | exact Drawn0.refl _ | apply Drawn0.step)⟩
  case round =>
   clear H'
   try clear c1
   try clear p2
   try clear c3
   try clear c3b0
   try clear c3b1
   try clear c3b2
   obtain ⟨x13_1, rfl, HA, HK1, ⟨m1, rfl⟩⟩ := hrel
   cases gk with
   | zero => exact absurd HA.out (by simp [laws_zSame.l0])
   | succ k1 =>
    have H := HA.out
    clear HA
    simp only [laws_zSame.l0] at H
    by_cases c4 : x13_1 < (l0.length : Int)
    ·rw [if_pos c4] at H
     have c4b0 : decide (x13_1 < (l0.length : Int)) = true := decide_eq_true c4
     clear c4
     by_cases c5 : 0 ≤ x13_1
     ·rw [if_pos c5] at H
      have c5b0 : decide (0 ≤ x13_1) = true := decide_eq_true c5
      clear c5
      by_cases c6 : x13_1 < (l0.length : Int)
      ·rw [if_pos c6] at H
       have c6b0 : decide (x13_1 < (l0.length : Int)) = true := decide_eq_true c6
       clear c6
       by_cases c7 : x13_1 < (l1.length : Int)
       ·rw [if_pos c7] at H
        have c7b0 : decide (x13_1 < (l1.length : Int)) = true := decide_eq_true c7
        clear c7
        by_cases c8 : (rd l0 x13_1) = (rd l1 x13_1)
        ·rw [if_pos c8] at H
         have c8b0 : ((rd l0 x13_1) == (rd l1 x13_1)) = true := beq_iff_eq.mpr c8
         have c8b1 : ((rd l0 x13_1) != (rd l1 x13_1)) = false := bne_eq_false_iff_eq.mpr c8
         clear c8
         have H' := Aside0.mk H
         clear H
         have p571 : 0 ≤ (x13_1 : Int) := ofd
         have q571 : x13_1 < (l0.length : Int) := ofd
         obtain ⟨ad571, e571, hx571_0⟩ := Kd.at_int HR0.out x13_1 p571 q571
         cases e571
         replace p571 := eq_true p571
         replace q571 := eq_true q571
         have p572 : 0 ≤ (x13_1 : Int) := ofd
         have q572 : x13_1 < (l1.length : Int) := ofd
         obtain ⟨ad572, e572, hx572_0⟩ := Kd.at_int HR1.out x13_1 p572 q572
         cases e572
         replace p572 := eq_true p572
         replace q572 := eq_true q572
         go_wp2
         repeat (go_quiet (fail); try go_wp2)
         go_roundg k1
         case measure => have := HK1.out; omega
         case rel => exact ⟨(wrap64 (x13_1 + 1)), eqd, H', ⟨by have := HK1.out; omega⟩, by repeat (first | exact Drawn0.refl _ | apply Drawn0.step)⟩
        ·rw [if_neg c8] at H
         have c8b0 : ((rd l0 x13_1) == (rd l1 x13_1)) = false := beq_eq_false_iff_ne.mpr c8
         have c8b1 : ((rd l0 x13_1) != (rd l1 x13_1)) = true := bne_iff_ne.mpr c8
         obtain rfl := Option.some.inj H
         have p571 : 0 ≤ (x13_1 : Int) := ofd
         have q571 : x13_1 < (l0.length : Int) := ofd
         obtain ⟨ad571, e571, hx571_0⟩ := Kd.at_int HR0.out x13_1 p571 q571
         cases e571
         replace p571 := eq_true p571
         replace q571 := eq_true q571
         have p572 : 0 ≤ (x13_1 : Int) := ofd
         have q572 : x13_1 < (l1.length : Int) := ofd
         obtain ⟨ad572, e572, hx572_0⟩ := Kd.at_int HR1.out x13_1 p572 q572
         cases e572
         replace p572 := eq_true p572
         replace q572 := eq_true q572
         go_wp2
         repeat (go_quiet (fail); try go_wp2)
         go_ret
         exact ⟨by first | rfl | (simp; done) | (simp [*]; done), by repeat (first | exact Drawn0.refl _ | apply Drawn0.step)⟩
       ·rw [if_neg c7] at H
        exact absurd H (by simp)
      ·rw [if_neg c6] at H
       exact absurd H (by simp)
     ·rw [if_neg c5] at H
      exact absurd H (by simp)
    ·rw [if_neg c4] at H
     have c4b0 : decide (x13_1 < (l0.length : Int)) = false := decide_eq_false c4
     clear c4
     obtain rfl := Option.some.inj H
     go_wp2
     repeat (go_quiet (fail); try go_wp2)
     go_ret
     exact ⟨by first | rfl | (simp; done) | (simp [*]; done), by repeat (first | exact Drawn0.refl _ | apply Drawn0.step)⟩
 ·rw [if_neg c3] at H
  have c3b0 : ((l0.length : Int) == (l1.length : Int)) = false := beq_eq_false_iff_ne.mpr c3
  have c3b1 : ((l0.length : Int) != (l1.length : Int)) = true := bne_iff_ne.mpr c3
  have c3b2 : (l0.length == l1.length) = false := by first | simpa using c3 | (simp at c3 ⊢; omega)
  obtain rfl := Option.some.inj H
  go_enter Try.func45, Try.ntmps45
  go_wp2
  repeat (go_quiet (fail); try go_wp2)
  go_ret
  exact ⟨by first | rfl | (simp; done) | (simp [*]; done), by repeat (first | exact Drawn0.refl _ | apply Drawn0.step)⟩

noncomputable def laws_zSame.L0 (x0 : List Int) (x1 : List Int) (x12 : Int) (x13 : Int) : Option (Bool) := lim fun k => laws_zSame.l0 k x0 x1 x12 x13
theorem laws_zSame.L0_lim (x0 : List Int) (x1 : List Int) (x12 : Int) (x13 : Int) : Lim (fun k => laws_zSame.l0 k x0 x1 x12 x13) (laws_zSame.L0 x0 x1 x12 x13) := Lim.of fun k => (laws_zSame.mono_l k) x0 x1 x12 x13
noncomputable def laws_zSame.F (l0 : List Int) (l1 : List Int) : Option (Bool) := lim fun k => laws_zSame.f k l0 l1
theorem laws_zSame.F_lim (l0 : List Int) (l1 : List Int) : Lim (fun k => laws_zSame.f k l0 l1) (laws_zSame.F l0 l1) := Lim.of fun k => laws_zSame.mono l0 l1 k
theorem laws_zSame.L0_eq (x0 : List Int) (x1 : List Int) (x12 : Int) (x13 : Int) : laws_zSame.L0 x0 x1 x12 x13 = (if x13 < x12 then (if 0 ≤ x13 then (if x13 < (x0.length : Int) then (if x13 < (x1.length : Int) then (if (rd x0 x13) = (rd x1 x13) then (laws_zSame.L0 x0 x1 x12 (wrap64 (x13 + 1))) else (some false)) else (none)) else (none)) else (none)) else (some true)) :=
 Lim.step (f := fun k => laws_zSame.l0 (k + 1) x0 x1 x12 x13) (laws_zSame.L0_lim x0 x1 x12 x13) (fun _ => rfl) (by
  simp only [laws_zSame.l0]
  repeat' (first | (with_reducible first | exact Lim.const _ | exact laws_zSame.L0_lim _ _ _ _ | refine Lim.ite ?_ ?_ | refine Lim.bind ?_ (fun _ => ?_))))
theorem laws_zSame.F_eq (l0 : List Int) (l1 : List Int) : laws_zSame.F l0 l1 = (if (l0.length : Int) = (l1.length : Int) then (laws_zSame.L0 l0 l1 (l0.length : Int) 0) else (some false)) :=
 Lim.unique (laws_zSame.F_lim l0 l1) (by
  unfold laws_zSame.f
  repeat' (first | (with_reducible first | exact Lim.const _ | exact laws_zSame.L0_lim _ _ _ _ | refine Lim.ite ?_ ?_ | refine Lim.bind ?_ (fun _ => ?_))))

end Go.Proofs.Ytadhfbchilaklaa.Fn
namespace Go.Proofs.Ytadhfbchilaklaa.Fn
open Go.RowKit Go.Proofs.YtadhfbchilaklaaW.PrintWords Go.Proofs.YtadhfbchilaklaaW.PrintLast Go.Proofs.YtadhfbchilaklaaW.PrintMore
attribute [local go_sem] max2_int min2_int max_two min_two max_three min_three max_four min_four   -- for this text's walks alone
set_option linter.unusedVariables false
set_option linter.unusedSimpArgs false

/-! ### laws_zLess: function 48 -/
def laws_zLess.l0 : Nat → List Int → List Int → Int → Int → Option (Bool)
 | 0, _, _, _, _ => none
 | k + 1, x0, x1, x7, x8 => if x8 < x7 then (if x8 ≥ (x1.length : Int) then (some false) else (if 0 ≤ x8 then (if x8 < (x0.length : Int) then (if x8 < (x1.length : Int) then (if (rd x0 x8) = (rd x1 x8) then (laws_zLess.l0 k x0 x1 x7 (wrap64 (x8 + 1))) else (some (decide ((rd x0 x8) < (rd x1 x8))))) else (none)) else (none)) else (none))) else (some (decide ((x0.length : Int) < (x1.length : Int))))
def laws_zLess.f (k : Nat) (l0 : List Int) (l1 : List Int) : Option (Bool) := laws_zLess.l0 k l0 l1 (l0.length : Int) 0
theorem laws_zLess.mono_l : ∀ k, (∀ y0 y1 y2 y3, LeO (laws_zLess.l0 k y0 y1 y2 y3) (laws_zLess.l0 (k + 1) y0 y1 y2 y3))
 | 0 => fun _ _ _ _ r h => by simp [laws_zLess.l0] at h
 | k + 1 => by
  have ih0 := laws_zLess.mono_l k
  ·intro y0 y1 y2 y3
   unfold laws_zLess.l0
   repeat' (first | (with_reducible first | exact ih0 _ _ _ _ | exact LeO.refl _ | exact LeO.none _ | refine LeO.ite ?_ ?_ | refine LeO.bind ?_ (fun _ => ?_)) | exact ih0 _ _ _ _ | exact LeO.none _ | refine LeO.ite ?_ ?_ | refine LeO.bind ?_ (fun _ => ?_))
theorem laws_zLess.mono : ∀ a0 a1 k, LeO (laws_zLess.f k a0 a1) (laws_zLess.f (k + 1) a0 a1) := by
 intro a0 a1 k
 have ih0 := laws_zLess.mono_l k
 unfold laws_zLess.f
 repeat' (first | (with_reducible first | exact ih0 _ _ _ _ | exact LeO.refl _ | exact LeO.none _ | refine LeO.ite ?_ ?_ | refine LeO.bind ?_ (fun _ => ?_)) | exact ih0 _ _ _ _ | exact LeO.none _ | refine LeO.ite ?_ ?_ | refine LeO.bind ?_ (fun _ => ?_))
set_option maxHeartbeats 8000000 in
set_option maxRecDepth 100000 in
theorem laws_zLess.calls (k : Nat) (A0 : Option Addr) (c0 : Nat) (l0 : List Int) (A1 : Option Addr) (c1 : Nat) (l1 : List Int) (r : Bool) (w : World) (hr0 : Kd.C (Kd.int .i64) w A0 l0.length l0) (hc0 : l0.length ≤ c0) (hr1 : Kd.C (Kd.int .i64) w A1 l1.length l1) (hc1 : l1.length ≤ c1) (h : laws_zLess.f k l0 l1 = some r) :
  Calls Try.prog 48 #[.slice A0 l0.length c0, .slice A1 l1.length c1] w fun e w' => e = .returned (.bool r) ∧ Drawn0 w w' := by
 have HR0 := Aside0.mk hr0
 have HC0 := Aside0.mk hc0
 clear hr0 hc0
 have HR1 := Aside0.mk hr1
 have HC1 := Aside0.mk hc1
 clear hr1 hc1
 have H := h
 unfold laws_zLess.f at H
 clear h
 have H' := Aside0.mk H
 clear H
 go_enter Try.func48, Try.ntmps48
 go_wp2
 repeat (go_quiet (fail); try go_wp2)
 go_loopg [8] k (fun kq v8 w' => ∃ (x8_1 : Int), v8 = .int .i64 x8_1 ∧ Aside0 (laws_zLess.l0 kq l0 l1 (l0.length : Int) x8_1 = some r) ∧ Aside0 (kq ≤ k) ∧ Drawn0 w w')
 case atStart => exact ⟨(0), eqd, H', ⟨Nat.le_refl _⟩, by repeat (first | exact Drawn0.refl _ | apply Drawn0.step)⟩
 case round =>
  clear H'
  try clear c1
  try clear p2
  obtain ⟨x8_1, rfl, HA, HK1, ⟨m1, rfl⟩⟩ := hrel
  cases gk with
  | zero => exact absurd HA.out (by simp [laws_zLess.l0])
  | succ k1 =>
   have H := HA.out
   clear HA
   simp only [laws_zLess.l0] at H
   by_cases c3 : x8_1 < (l0.length : Int)
   ·rw [if_pos c3] at H
    have c3b0 : decide (x8_1 < (l0.length : Int)) = true := decide_eq_true c3
    clear c3
    by_cases c4 : x8_1 ≥ (l1.length : Int)
    ·rw [if_pos c4] at H
     have c4b0 : decide ((l1.length : Int) ≤ x8_1) = true := decide_eq_true c4
     clear c4
     obtain rfl := Option.some.inj H
     go_wp2
     repeat (go_quiet (fail); try go_wp2)
     go_ret
     exact ⟨by first | rfl | (simp; done) | (simp [*]; done), by repeat (first | exact Drawn0.refl _ | apply Drawn0.step)⟩
    ·rw [if_neg c4] at H
     have c4b0 : decide ((l1.length : Int) ≤ x8_1) = false := decide_eq_false c4
     clear c4
     by_cases c5 : 0 ≤ x8_1
     ·rw [if_pos c5] at H
      have c5b0 : decide (0 ≤ x8_1) = true := decide_eq_true c5
      clear c5
      by_cases c6 : x8_1 < (l0.length : Int)
      ·rw [if_pos c6] at H
       have c6b0 : decide (x8_1 < (l0.length : Int)) = true := decide_eq_true c6
       clear c6
       by_cases c7 : x8_1 < (l1.length : Int)
       ·rw [if_pos c7] at H
        have c7b0 : decide (x8_1 < (l1.length : Int)) = true := decide_eq_true c7
        clear c7
        by_cases c8 : (rd l0 x8_1) = (rd l1 x8_1)
        ·rw [if_pos c8] at H
         have c8b0 : ((rd l0 x8_1) == (rd l1 x8_1)) = true := beq_iff_eq.mpr c8
         have c8b1 : ((rd l0 x8_1) != (rd l1 x8_1)) = false := bne_eq_false_iff_eq.mpr c8
         clear c8
         have H' := Aside0.mk H
         clear H
         have p593 : 0 ≤ (x8_1 : Int) := ofd
         have q593 : x8_1 < (l0.length : Int) := ofd
         obtain ⟨ad593, e593, hx593_0⟩ := Kd.at_int HR0.out x8_1 p593 q593
         cases e593
         replace p593 := eq_true p593
         replace q593 := eq_true q593
         have p594 : 0 ≤ (x8_1 : Int) := ofd
         have q594 : x8_1 < (l1.length : Int) := ofd
         obtain ⟨ad594, e594, hx594_0⟩ := Kd.at_int HR1.out x8_1 p594 q594
         cases e594
         replace p594 := eq_true p594
         replace q594 := eq_true q594
         go_wp2
         repeat (go_quiet (fail); try go_wp2)
         go_roundg k1
         case measure => have := HK1.out; omega
         case rel => exact ⟨(wrap64 (x8_1 + 1)), eqd, H', ⟨by have := HK1.out; omega⟩, by repeat (first | exact Drawn0.refl _ | apply Drawn0.step)⟩
        ·rw [if_neg c8] at H
         have c8b0 : ((rd l0 x8_1) == (rd l1 x8_1)) = false := beq_eq_false_iff_ne.mpr c8
         have c8b1 : ((rd l0 x8_1) != (rd l1 x8_1)) = true := bne_iff_ne.mpr c8
         obtain rfl := Option.some.inj H
         have p593 : 0 ≤ (x8_1 : Int) := ofd
         have q593 : x8_1 < (l0.length : Int) := ofd
         obtain ⟨ad593, e593, hx593_0⟩ := Kd.at_int HR0.out x8_1 p593 q593
         cases e593
         replace p593 := eq_true p593
         replace q593 := eq_true q593
         have p594 : 0 ≤ (x8_1 : Int) := ofd
         have q594 : x8_1 < (l1.length : Int) := ofd
         obtain ⟨ad594, e594, hx594_0⟩ := Kd.at_int HR1.out x8_1 p594 q594
         cases e594
         replace p594 := eq_true p594
         replace q594 := eq_true q594
         have p595 : 0 ≤ (x8_1 : Int) := ofd
         have q595 : x8_1 < (l0.length : Int) := ofd
         obtain ⟨ad595, e595, hx595_0⟩ := Kd.at_int HR0.out x8_1 p595 q595
         obtain rfl : ad593 = ad595 := (by injection e595)
         replace p595 := eq_true p595
         replace q595 := eq_true q595
         have p596 : 0 ≤ (x8_1 : Int) := ofd
         have q596 : x8_1 < (l1.length : Int) := ofd
         obtain ⟨ad596, e596, hx596_0⟩ := Kd.at_int HR1.out x8_1 p596 q596
         obtain rfl : ad594 = ad596 := (by injection e596)
         replace p596 := eq_true p596
         replace q596 := eq_true q596
         go_wp2
         repeat (go_quiet (fail); try go_wp2)
         go_ret
         exact ⟨by first | rfl | (simp; done) | (simp [*]; done), by repeat (first | exact Drawn0.refl _ | apply Drawn0.step)⟩
       ·rw [if_neg c7] at H
        exact absurd H (by simp)
      ·rw [if_neg c6] at H
       exact absurd H (by simp)
     ·rw [if_neg c5] at H
      exact absurd H (by simp)
   ·rw [if_neg c3] at H
    have c3b0 : decide (x8_1 < (l0.length : Int)) = false := decide_eq_false c3
    clear c3
    obtain rfl := Option.some.inj H
    go_wp2
    repeat (go_quiet (fail); try go_wp2)
    go_ret
    exact ⟨by first | rfl | (simp; done) | (simp [*]; done), by repeat (first | exact Drawn0.refl _ | apply Drawn0.step)⟩

noncomputable def laws_zLess.L0 (x0 : List Int) (x1 : List Int) (x7 : Int) (x8 : Int) : Option (Bool) := lim fun k => laws_zLess.l0 k x0 x1 x7 x8
theorem laws_zLess.L0_lim (x0 : List Int) (x1 : List Int) (x7 : Int) (x8 : Int) : Lim (fun k => laws_zLess.l0 k x0 x1 x7 x8) (laws_zLess.L0 x0 x1 x7 x8) := Lim.of fun k => (laws_zLess.mono_l k) x0 x1 x7 x8
noncomputable def laws_zLess.F (l0 : List Int) (l1 : List Int) : Option (Bool) := lim fun k => laws_zLess.f k l0 l1
theorem laws_zLess.F_lim (l0 : List Int) (l1 : List Int) : Lim (fun k => laws_zLess.f k l0 l1) (laws_zLess.F l0 l1) := Lim.of fun k => laws_zLess.mono l0 l1 k
theorem laws_zLess.L0_eq (x0 : List Int) (x1 : List Int) (x7 : Int) (x8 : Int) : laws_zLess.L0 x0 x1 x7 x8 = (if x8 < x7 then (if x8 ≥ (x1.length : Int) then (some false) else (if 0 ≤ x8 then (if x8 < (x0.length : Int) then (if x8 < (x1.length : Int) then (if (rd x0 x8) = (rd x1 x8) then (laws_zLess.L0 x0 x1 x7 (wrap64 (x8 + 1))) else (some (decide ((rd x0 x8) < (rd x1 x8))))) else (none)) else (none)) else (none))) else (some (decide ((x0.length : Int) < (x1.length : Int))))) :=
 Lim.step (f := fun k => laws_zLess.l0 (k + 1) x0 x1 x7 x8) (laws_zLess.L0_lim x0 x1 x7 x8) (fun _ => rfl) (by
  simp only [laws_zLess.l0]
  repeat' (first | (with_reducible first | exact Lim.const _ | exact laws_zLess.L0_lim _ _ _ _ | refine Lim.ite ?_ ?_ | refine Lim.bind ?_ (fun _ => ?_))))
theorem laws_zLess.F_eq (l0 : List Int) (l1 : List Int) : laws_zLess.F l0 l1 = (laws_zLess.L0 l0 l1 (l0.length : Int) 0) :=
 Lim.unique (laws_zLess.F_lim l0 l1) (by
  unfold laws_zLess.f
  repeat' (first | (with_reducible first | exact Lim.const _ | exact laws_zLess.L0_lim _ _ _ _ | refine Lim.ite ?_ ?_ | refine Lim.bind ?_ (fun _ => ?_))))

end Go.Proofs.Ytadhfbchilaklaa.Fn
namespace Go.Proofs.Ytadhfbchilaklaa.Fn
open Go.RowKit Go.Proofs.YtadhfbchilaklaaW.PrintWords Go.Proofs.YtadhfbchilaklaaW.PrintLast Go.Proofs.YtadhfbchilaklaaW.PrintMore
attribute [local go_sem] max2_int min2_int max_two min_two max_three min_three max_four min_four   -- for this text's walks alone
set_option linter.unusedVariables false
set_option linter.unusedSimpArgs false

/-! ### spec_DrawPowersDots: function 49 -/
def spec_DrawPowersDots.f (l0 : List Int) : Option (Int × Int) := (spec_DrawIsRoot.f l0).bind fun bt610 => (some (bt610.1, bt610.2))
set_option maxHeartbeats 8000000 in
set_option maxRecDepth 100000 in
theorem spec_DrawPowersDots.calls (A0 : Option Addr) (c0 : Nat) (l0 : List Int) (r1 : Int) (r2 : Int) (w : World) (hr0 : Kd.C (Kd.int .u8) w A0 l0.length l0) (hc0 : l0.length ≤ c0) (h : spec_DrawPowersDots.f l0 = some (r1, r2)) :
  Calls Try.prog 49 #[.slice A0 l0.length c0] w fun e w' => e = .returned (.tuple #[.int .i64 r1, .int .i64 r2]) ∧ Below w.heap.size w w' := by
 have HR0 := Aside0.mk hr0
 have HC0 := Aside0.mk hc0
 clear hr0 hc0
 have HB := Aside0.mk (Below.refl w.heap.size w)
 have H := h
 unfold spec_DrawPowersDots.f at H
 clear h
 replace H := Option.bind_eq_some_iff.mp H
 obtain ⟨⟨t610, t611⟩, A20, H⟩ := H
 replace H : (some (t610, t611)) = some (r1, r2) := H
 have A2 := Aside0.mk A20
 clear A20
 simp only [Option.some.injEq, Prod.mk.injEq] at H
 obtain ⟨rfl, rfl⟩ := H
 go_enter Try.func49, Try.ntmps49
 go_wp2_with (first | ((with_reducible refine gate_callee (f := 170) rfl ?_); refine goesA (some 5) Try.func170 #[.slice A0 l0.length c0] ?_; (with_reducible refine (spec_DrawIsRoot.calls _ _ l0 t610 t611 _ ?side1 ?side2 A2.out).mono ?_); (case side1 => repeat (first | exact HR0.out | (with_reducible refine Kd.C_alloc ?_ _) | (with_reducible refine Kd.C_drewN ?_ _) | (with_reducible refine Kd.C_drew ?_))); (case side2 => exact HC0.out); rintro e w3 ⟨rfl, hb⟩; refine ⟨_, rfl, ?_⟩; replace HB := upB HB hb; (try clear hb); (try clear hb2); (try clear hk); (try clear hi)))
 go_ret2
 exact ⟨eqr, atB HB⟩


end Go.Proofs.Ytadhfbchilaklaa.Fn
