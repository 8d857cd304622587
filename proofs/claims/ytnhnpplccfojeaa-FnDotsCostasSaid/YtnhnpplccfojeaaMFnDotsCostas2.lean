/- The machine's side and plain lemmas for FnDotsCostas: texts of this session, merged by its program (part 2). -/
import Derived.Test.YtnhnpplccfojeaaMFnDotsCostas0
import Derived.Test.YtnhnpplccfojeaaMFnDotsCostas1
namespace Go.Proofs.Ytnhnpplccfojeaa.Fn
open Go.RowKit Go.Proofs.YtnhnpplccfojeaaW.PrintWords Go.Proofs.YtnhnpplccfojeaaW.PrintLast Go.Proofs.YtnhnpplccfojeaaW.PrintMore
attribute [local go_sem] max2_int min2_int max_two min_two max_three min_three max_four min_four   -- for this text's walks alone
set_option linter.unusedVariables false
set_option linter.unusedSimpArgs false
/-! ### spec_l1Cur_dots: function 115 -/
mutual
def spec_l1Cur_dots.l0 : Nat → Int → List Int → Int → List Int → Int → Int → Option (List Int × Int × Int)
 | 0, _, _, _, _, _, _ => none
 | k + 1, x5, x6, x7, x1000, x1001, x1002 => if x7 < x5 then ((spec_l1Cur_pick.f x1000 x1001 x1002 (wrap64 (x7 + 1))).bind fun bt724 => ((insAt.f x6 bt724.1 x7).bind fun t727 => (spec_l1Cur_dots.l0 k x5 t727 (wrap64 (x7 + 1)) x1000 bt724.2.1 bt724.2.2))) else ((spec_l1Cur_pick.f x1000 x1001 x1002 12).bind fun bt730 => (if bt730.1 = 0 then ((spec_l1Cur_pick.f x1000 bt730.2.1 bt730.2.2 x5).bind fun bt733 => ((spec_l1Cur_among.f x1000 bt733.2.1 bt733.2.2 (([(-1), x5, 0, 4611686018427387904] : List Int))).bind fun bt739 => (if 0 ≤ bt733.1 then (if bt733.1 < (x6.length : Int) then (if (x6.length : Int) = 0 then (some ((([0, 1, 3, 2] : List Int)), bt739.2.1, bt739.2.2)) else (some ((x6.set (bt733.1 : Int).toNat bt739.1), bt739.2.1, bt739.2.2))) else (none)) else (none)))) else (if bt730.1 = 1 then (some (([] : List Int), bt730.2.1, bt730.2.2)) else (if bt730.1 = 2 then (spec_l1Cur_dots.j1 k x5 x6 bt730.1 (bt730.1 == 2) x1000 bt730.2.1 bt730.2.2) else (if bt730.1 = 3 then (spec_l1Cur_dots.j1 k x5 x6 bt730.1 (bt730.1 == 3) x1000 bt730.2.1 bt730.2.2) else (spec_l1Cur_dots.j1 k x5 x6 bt730.1 (bt730.1 == 4) x1000 bt730.2.1 bt730.2.2))))))
def spec_l1Cur_dots.j1 : Nat → Int → List Int → Int → Bool → List Int → Int → Int → Option (List Int × Int × Int)
 | 0, _, _, _, _, _, _, _ => none
 | k + 1, x5, x6, x35, x49, x1000, x1001, x1002 => if x49 = true then ((spec_l1Cur_among.f x1000 x1001 x1002 (([3, 5, 7, 11] : List Int))).bind fun bt749 => ((spec_PowersDots.f k bt749.1 2).bind fun bt752 => (if (bt752.1.length : Int) = 0 then (some ((([0, 1, 3, 2] : List Int)), bt749.2.1, bt749.2.2)) else (some (bt752.1, bt749.2.1, bt749.2.2))))) else (if x35 = 5 then (spec_l1Cur_dots.j2 k x5 x6 x35 (x35 == 5) x1000 x1001 x1002) else (spec_l1Cur_dots.j2 k x5 x6 x35 (x35 == 6) x1000 x1001 x1002))
def spec_l1Cur_dots.j2 : Nat → Int → List Int → Int → Bool → List Int → Int → Int → Option (List Int × Int × Int)
 | 0, _, _, _, _, _, _, _ => none
 | k + 1, x5, x6, x35, x60, x1000, x1001, x1002 => if x60 = true then ((spec_l1Cur_among.f x1000 x1001 x1002 (([2, 3] : List Int))).bind fun bt762 => ((spec_l1Cur_among.f x1000 bt762.2.1 bt762.2.2 (([2, 3] : List Int))).bind fun bt768 => ((spec_LogsDots.f k 5 bt762.1 bt768.1).bind fun bt771 => (if (bt771.1.length : Int) = 0 then (some ((([0, 1, 3, 2] : List Int)), bt768.2.1, bt768.2.2)) else (some (bt771.1, bt768.2.1, bt768.2.2)))))) else (if x35 = 7 then ((some (([0] : List Int) : List Int)).bind fun y778 => ((spec_l1Cur_dotsUp.f k x1000 x1001 x1002 x5).bind fun bt781 => (if y778.length + bt781.1.length < 17592186044416 then (some ((y778 ++ bt781.1), bt781.2.1, bt781.2.2)) else (none)))) else (if (x6.length : Int) = 0 then (some ((([0, 1, 3, 2] : List Int)), x1001, x1002)) else (some (x6, x1001, x1002))))
end
def spec_l1Cur_dots.f (k : Nat) (s0_0 : List Int) (s0_1 : Int) (s0_2 : Int) (a1 : Int) : Option (List Int × Int × Int) := (spec_l1Cur_pick.f s0_0 s0_1 s0_2 a1).bind fun bt721 => (spec_l1Cur_dots.l0 k (wrap64 (1 + bt721.1)) ([] : List Int) 0 s0_0 bt721.2.1 bt721.2.2)
theorem spec_l1Cur_dots.mono_l : ∀ k, (∀ y0 y1 y2 y3 y4 y5, LeO (spec_l1Cur_dots.l0 k y0 y1 y2 y3 y4 y5) (spec_l1Cur_dots.l0 (k + 1) y0 y1 y2 y3 y4 y5)) ∧ (∀ y0 y1 y2 y3 y4 y5 y6, LeO (spec_l1Cur_dots.j1 k y0 y1 y2 y3 y4 y5 y6) (spec_l1Cur_dots.j1 (k + 1) y0 y1 y2 y3 y4 y5 y6)) ∧ (∀ y0 y1 y2 y3 y4 y5 y6, LeO (spec_l1Cur_dots.j2 k y0 y1 y2 y3 y4 y5 y6) (spec_l1Cur_dots.j2 (k + 1) y0 y1 y2 y3 y4 y5 y6))
 | 0 => ⟨fun _ _ _ _ _ _ r h => by simp [spec_l1Cur_dots.l0] at h, fun _ _ _ _ _ _ _ r h => by simp [spec_l1Cur_dots.j1] at h, fun _ _ _ _ _ _ _ r h => by simp [spec_l1Cur_dots.j2] at h⟩
 | k + 1 => by
  obtain ⟨ih0, ih1, ih2⟩ := spec_l1Cur_dots.mono_l k
  refine ⟨?_, ?_, ?_⟩
  ·intro y0 y1 y2 y3 y4 y5
   unfold spec_l1Cur_dots.l0
   repeat' (first | (with_reducible first | exact ih0 _ _ _ _ _ _ | exact ih1 _ _ _ _ _ _ _ | exact LeO.refl _ | exact LeO.none _ | refine LeO.ite ?_ ?_ | refine LeO.bind ?_ (fun _ => ?_)) | exact ih0 _ _ _ _ _ _ | exact ih1 _ _ _ _ _ _ _ | exact LeO.none _ | refine LeO.ite ?_ ?_ | refine LeO.bind ?_ (fun _ => ?_))
  ·intro y0 y1 y2 y3 y4 y5 y6
   unfold spec_l1Cur_dots.j1
   repeat' (first | (with_reducible first | exact ih2 _ _ _ _ _ _ _ | exact spec_PowersDots.mono _ _ _ | exact LeO.refl _ | exact LeO.none _ | refine LeO.ite ?_ ?_ | refine LeO.bind ?_ (fun _ => ?_)) | exact ih2 _ _ _ _ _ _ _ | exact spec_PowersDots.mono _ _ _ | exact LeO.none _ | refine LeO.ite ?_ ?_ | refine LeO.bind ?_ (fun _ => ?_))
  ·intro y0 y1 y2 y3 y4 y5 y6
   unfold spec_l1Cur_dots.j2
   repeat' (first | (with_reducible first | exact spec_LogsDots.mono _ _ _ _ | exact spec_l1Cur_dotsUp.mono _ _ _ _ _ | exact LeO.refl _ | exact LeO.none _ | refine LeO.ite ?_ ?_ | refine LeO.bind ?_ (fun _ => ?_)) | exact spec_LogsDots.mono _ _ _ _ | exact spec_l1Cur_dotsUp.mono _ _ _ _ _ | exact LeO.none _ | refine LeO.ite ?_ ?_ | refine LeO.bind ?_ (fun _ => ?_))
theorem spec_l1Cur_dots.mono : ∀ a0 a1 a2 a3 k, LeO (spec_l1Cur_dots.f k a0 a1 a2 a3) (spec_l1Cur_dots.f (k + 1) a0 a1 a2 a3) := by
 intro a0 a1 a2 a3 k
 obtain ⟨ih0, ih1, ih2⟩ := spec_l1Cur_dots.mono_l k
 unfold spec_l1Cur_dots.f
 repeat' (first | (with_reducible first | exact ih0 _ _ _ _ _ _ | exact LeO.refl _ | exact LeO.none _ | refine LeO.ite ?_ ?_ | refine LeO.bind ?_ (fun _ => ?_)) | exact ih0 _ _ _ _ _ _ | exact LeO.none _ | refine LeO.ite ?_ ?_ | refine LeO.bind ?_ (fun _ => ?_))
set_option maxHeartbeats 8000000 in
set_option maxRecDepth 100000 in
theorem spec_l1Cur_dots.calls (k : Nat) (g : Nat) (s0_0 : List Int) (s0_1 : Int) (s0_2 : Int) (a1 : Int) (r1 : List Int) (r2 : Int) (r3 : Int) (w0 w : World) (hI : IsS68 w0 w g s0_0 s0_1 s0_2) (hB : Below w0.heap.size w0 w) (h : spec_l1Cur_dots.f k s0_0 s0_1 s0_2 a1 = some (r1, r2, r3)) :
  Calls Try.prog 115 #[.pointer (some ⟨g, 0, none⟩), .int .i64 a1] w fun e w' => ∃ v0_ : Value, e = .returned (v0_) ∧ Kd.R (Kd.int .i64) 3 w' w.heap.size (fun _ => True) v0_ r1 ∧ IsS68 w0 w' g s0_0 r2 r3 ∧ Below w0.heap.size w0 w' ∧ KeepBut w w' g none := by
 have HI0 := Aside0.mk hI
 have HK := Aside0.mk (KeepBut.refl w g none)
 have HL := Aside0.mk hB.size
 clear hI
 have HW0 := Aside0.mk hB.size
 have HB := Aside0.mk hB
 clear hB
 have H := h
 unfold spec_l1Cur_dots.f at H
 clear h
 replace H := Option.bind_eq_some_iff.mp H
 obtain ⟨⟨t721, t722, t723⟩, A30, H⟩ := H
 replace H : (spec_l1Cur_dots.l0 k (wrap64 (1 + t721)) ([] : List Int) 0 s0_0 t722 t723) = some (r1, r2, r3) := H
 have A3 := Aside0.mk A30
 clear A30
 have H' := Aside0.mk H
 clear H
 go_enter Try.func115, Try.ntmps115
 go_wp2_with (first | ((with_reducible refine gate_callee (f := 97) rfl ?_); refine goesA (some 11) Try.func97 #[.pointer (some ⟨g, 0, none⟩), .int .i64 a1] ?_; (with_reducible refine (spec_l1Cur_pick.calls g s0_0 s0_1 s0_2 a1 t721 t722 t723 w0 _ ?side1 ?side2 A3.out).mono ?_); (case side1 => exact IsS68.at HI0); (case side2 => exact atB HB); rintro e w4 ⟨rfl, hi, hb, hk⟩; refine ⟨_, rfl, ?_⟩; replace HK := upK HK hk; replace HB := Aside0.mk (hb); replace HI0 := Aside0.mk (hi); (try clear hb); (try clear hb2); (try clear hk); (try clear hi)))
 go_loopg [6, 7] k (fun kq v6 v7 w' => ∃ (x6_1 : List Int) (x7_1 : Int) (x1001_1 : Int) (x1002_1 : Int), v7 = .int .i64 x7_1 ∧ Aside0 (spec_l1Cur_dots.l0 kq (wrap64 (1 + t721)) x6_1 x7_1 s0_0 x1001_1 x1002_1 = some (r1, r2, r3)) ∧ Aside0 (kq ≤ k) ∧ Aside0 (Kd.R (Kd.int .i64) 3 w' w.heap.size (fun _ => True) v6 x6_1) ∧ Aside0 (IsS68 w0 w' g s0_0 x1001_1 x1002_1) ∧ Aside0 (KeepBut w w' g none) ∧ Aside0 (Below w0.heap.size w0 w'))
 case atStart => exact ⟨(([] : List Int)), (0), (t722), (t723), eqd, H', ⟨Nat.le_refl _⟩, ⟨by first | exact Kd.R_nil _ _ _ _ _ | exact Kd.N_nil _ _ _ _ _ | exact Kd.V_nil _ _ _ _ _ | exact Kd.Q_nil _ _ _ _ _ | exact Kd.S_nil _ _ _ _ _⟩, ⟨IsS68.at HI0⟩, ⟨atK HK⟩, ⟨atB HB⟩⟩
 case round =>
  clear H'
  try clear c1
  try clear p2
  obtain ⟨x6_1, x7_1, x1001_1, x1002_1, rfl, HA, HK1, HO_6, HI0, HK, HB⟩ := hrel
  cases gk with
  | zero => exact absurd HA.out (by simp [spec_l1Cur_dots.l0])
  | succ k1 =>
   have H := HA.out
   clear HA
   simp only [spec_l1Cur_dots.l0] at H
   by_cases c5 : x7_1 < (wrap64 (1 + t721))
   ·rw [if_pos c5] at H
    have c5b0 : decide (x7_1 < (wrap64 (1 + t721))) = true := decide_eq_true c5
    clear c5
    replace H := Option.bind_eq_some_iff.mp H
    obtain ⟨⟨t724, t725, t726⟩, A60, H⟩ := H
    replace H : ((insAt.f x6_1 t724 x7_1).bind fun t727 => (spec_l1Cur_dots.l0 k1 (wrap64 (1 + t721)) t727 (wrap64 (x7_1 + 1)) s0_0 t725 t726)) = some (r1, r2, r3) := H
    have A6 := Aside0.mk A60
    clear A60
    replace H := Option.bind_eq_some_iff.mp H
    obtain ⟨t727, A70, H⟩ := H
    replace H : (spec_l1Cur_dots.l0 k1 (wrap64 (1 + t721)) t727 (wrap64 (x7_1 + 1)) s0_0 t725 t726) = some (r1, r2, r3) := H
    have A7 := Aside0.mk A70
    clear A70
    have H' := Aside0.mk H
    clear H
    go_wp2_with (first | ((with_reducible refine gate_callee (f := 97) rfl ?_); refine goesA (some 21) Try.func97 #[.pointer (some ⟨g, 0, none⟩), .int .i64 (wrap64 (x7_1 + 1))] ?_; (with_reducible refine (spec_l1Cur_pick.calls g s0_0 x1001_1 x1002_1 (wrap64 (x7_1 + 1)) t724 t725 t726 w0 _ ?side1 ?side2 A6.out).mono ?_); (case side1 => exact IsS68.at HI0); (case side2 => exact atB HB); rintro e w8 ⟨rfl, hi, hb, hk⟩; refine ⟨_, rfl, ?_⟩; replace HO_6 := IsS68.keepR HI0 HO_6 hk; replace HK := upK HK hk; replace HB := Aside0.mk (hb); replace HI0 := Aside0.mk (hi); (try clear hb); (try clear hb2); (try clear hk); (try clear hi); obtain ⟨Ao9, co9, eo9⟩ := Kd.R_slice HO_6.out; subst eo9))
    have hI_ := A7.out
    unfold insAt.f at hI_
    obtain ⟨i0_, i1_, i2_, hI_⟩ := insAt_parts hI_
    obtain ⟨iq_, hiq_, _, hsq_, _⟩ := info_parts info3
    have hc_ : x6_1.length ≤ co9 := by exact (Kd.R_reads' HO_6.out).2.1
    have hC0_ : Kd.C (Kd.int .i64) w8 Ao9 x6_1.length x6_1 := by repeat (first | exact (Kd.R_reads' HO_6.out).2.2 | (with_reducible refine Kd.C_alloc ?_ _) | (with_reducible refine Kd.C_drewN ?_ _) | (with_reducible refine Kd.C_drew ?_))
    obtain ⟨hcutP_, hAP_, hCP_⟩ := print_take_of (P := Try.prog) (Value.int .i64) 0 24 3 .i64 Try.underlying24 hiq_ hsq_ Ao9 co9 x6_1 t724 i0_ i1_ hc_
    obtain ⟨AD_, hcutD_, hAD_, hCD_⟩ := print_drop_of (P := Try.prog) (Value.int .i64) 0 24 3 .i64 Try.underlying24 hiq_ hsq_ Ao9 co9 x6_1 t724 i0_ i1_ hc_
    replace hCP_ := Kd.C_of_reads (h1 := fun _ => rfl) (hAP_ _ (Kd.reads_of_C hC0_))
    replace hCD_ := Kd.C_of_reads (h1 := fun _ => rfl) (hAD_ _ (Kd.reads_of_C hC0_))
    have hlP_ : (x6_1.take t724.toNat).length = t724.toNat := by rw [List.length_take]; omega
    rw [hlP_] at hCP_
    rw [List.length_drop] at hCD_
    have hbW_ : Below w8.heap.size w8 w8.drew := below_drew1 (Below.refl _ _)
    refine start_ (n := 13) (S := fun w' => True) (ds := []) #[false, false, false, false, false, false, false, false, false, false, false, false, false] (by kernel_rfl) rfl rfl trivial (fun hHeld => ?_)
    refine pure_ (i := 1) (N := some 23) (v := ?_) (a' := ?_) #[false, true, false, false, false, false, false, false, false, false, false, false, false] rfl rfl (by kernel_rfl) (fun _ _ _ h => h) (Or.inl ⟨by rfl, ?_⟩) ?_ ?_
    rotate_left
    ·intro w'
     go_simp
     with_reducible rfl
    rotate_left
    ·simp only [Act.put, List.setIfInBounds_toArray, List.set_cons_zero, List.set_cons_succ, i64_w, i32_w]
     rfl
    refine pure_ (i := 2) (N := some 24) (v := ?_) (a' := ?_) #[false, true, true, false, false, false, false, false, false, false, false, false, false] rfl rfl (by kernel_rfl) (fun _ _ _ h => h) (Or.inl ⟨by rfl, ?_⟩) ?_ ?_
    rotate_left
    ·intro w'
     go_simp
     with_reducible rfl
    rotate_left
    ·simp only [Act.put, List.setIfInBounds_toArray, List.set_cons_zero, List.set_cons_succ, i64_w, i32_w]
     rfl
    refine pure_ (i := 3) (N := some 25) (v := ?_) (a' := ?_) #[false, true, true, true, false, false, false, false, false, false, false, false, false] rfl rfl (by kernel_rfl) (fun _ _ _ h => h) (Or.inl ⟨by rfl, ?_⟩) ?_ ?_
    rotate_left
    ·intro w'
     go_simp
     with_reducible rfl
    rotate_left
    ·simp only [Act.put, List.setIfInBounds_toArray, List.set_cons_zero, List.set_cons_succ, i64_w, i32_w]
     rfl
    refine pure_ (i := 5) (N := some 27) (v := ?_) (a' := ?_) #[false, true, true, true, false, true, false, false, false, false, false, false, false] rfl rfl (by kernel_rfl) (fun _ _ _ h => h) (Or.inl ⟨by rfl, ?_⟩) ?_ ?_
    rotate_left
    ·intro w'
     go_simp
     with_reducible rfl
    rotate_left
    ·simp only [Act.put, List.setIfInBounds_toArray, List.set_cons_zero, List.set_cons_succ, i64_w, i32_w]
     rfl
    refine pure_ (i := 8) (N := some 30) (v := ?_) (a' := ?_) #[false, true, true, true, false, true, false, false, true, false, false, false, false] rfl rfl (by kernel_rfl) (fun _ _ _ h => h) (Or.inl ⟨by rfl, ?_⟩) ?_ ?_
    rotate_left
    ·intro w'
     go_simp
     with_reducible rfl
    rotate_left
    ·simp only [Act.put, List.setIfInBounds_toArray, List.set_cons_zero, List.set_cons_succ, i64_w, i32_w]
     rfl
    refine pure_ (i := 9) (N := some 31) (v := ?_) (a' := ?_) #[false, true, true, true, false, true, false, false, true, true, false, false, false] rfl rfl (by kernel_rfl) (fun _ _ _ h => h) (Or.inl ⟨by rfl, ?_⟩) ?_ ?_
    rotate_left
    ·intro w'
     go_simp
     with_reducible rfl
    rotate_left
    ·simp only [Act.put, List.setIfInBounds_toArray, List.set_cons_zero, List.set_cons_succ, i64_w, i32_w]
     rfl
    refine pure_ (i := 10) (N := some 32) (v := ?_) (a' := ?_) #[false, true, true, true, false, true, false, false, true, true, true, false, false] rfl rfl (by kernel_rfl) (fun _ _ _ h => h) (Or.inl ⟨by rfl, ?_⟩) ?_ ?_
    rotate_left
    ·intro w'
     go_simp
     with_reducible rfl
    rotate_left
    ·simp only [Act.put, List.setIfInBounds_toArray, List.set_cons_zero, List.set_cons_succ, i64_w, i32_w]
     rfl
    refine join_ (σ := Value × Value × Nat) 3 #[true, true, true, true, true, true, true, false, true, true, true, false, false] (fun s => [(22, s.1), (26, s.2.1), (28, .slice (some ⟨s.2.2, 0, none⟩) 1 1)]) (fun s w' => Kd.R (Kd.int .i64) 3 w' w8.heap.size (fun _ => True) s.2.1 ([] ++ (x6_1.take t724.toNat)) ∧ w'.heap[s.2.2]? = some (.cells #[.int .i64 x7_1] 3 (0, 0)) ∧ Below w8.heap.size w8 w') ?_ ?_
    rotate_left
    ·intro hCont
     refine two_ (i := 0) (j := 6) (Ni := some 22) (Nj := some 28) #[true, true, true, true, false, true, false, false, true, true, true, false, false] #[false, true, true, true, false, true, true, false, true, true, true, false, false] rfl rfl rfl rfl (by kernel_rfl) (by decide) (by decide) (fun K hK => ?_) (fun K hK => ?_)
     ·skip
      refine Kd.R_lit_step (Kd.int .i64) (w0 := w8) w8.heap.size 3 (by rfl) (N := 22) rfl (xs := ([] : List Int)) (inner := []) (ok := fun _ => True) (okp := fun _ => True) ?hr ?hp (fun _ hk => hk) trivial hbW_ (hbW_).size (by simp) ?_
      case hr => first | (go_simp; done) | (go_simp; rfl)
      case hp => exact Reps.none _ _
      intro vE wE hoE hbE hgE hnE
      refine hK.out _ _ trivial (fun hHeld => ?_)
      clear hK K
      refine norm_ (a' := ?_) ?_ ?_
      rotate_left
      ·show Act.put _ (some 22) _ = _
       simp only [Act.put, List.setIfInBounds_toArray, List.set_cons_zero, List.set_cons_succ, i64_w, i32_w]
       rfl
      refine two_ (i := 4) (j := 6) (Ni := some 26) (Nj := some 28) #[true, true, true, true, true, true, false, false, true, true, true, false, false] #[true, true, true, true, false, true, true, false, true, true, true, false, false] rfl rfl rfl rfl (by kernel_rfl) (by decide) (by decide) (fun K hK => ?_) (fun K hK => ?_)
      ·skip
       refine Kd.R_append_rows_step (Kd.int .i64) (w0 := w8) w8.heap.size (by rfl) (.tmp 22) (.tmp 25) 24 3 (.int .i64 0) 8 rfl Try.underlying24 info3 rfl (by decide) (by omega) vE [] (x6_1.take t724.toNat) Ao9 _ _ (fun _ => True) (fun _ => False) rfl rfl ?aO ?aR (fun _ _ h => h) (fun _ h => h.elim) (fun _ _ => trivial) ?aB ?aS ?aL ?_
       case aO => exact hoE
       case aR => exact (Kd.C_below hCP_ hbE)
       case aB => exact hbE
       case aS => exact (hbE).size
       case aL => simp only [List.length_append, List.length_cons, List.length_nil, List.length_take, List.length_drop]; omega
       intro vA wA hoA hbA hgA haA
       refine hK.out _ _ trivial (fun hHeld => ?_)
       clear hK K
       refine norm_ (a' := ?_) ?_ ?_
       rotate_left
       ·show Act.put _ (some 26) _ = _
        simp only [Act.put, List.setIfInBounds_toArray, List.set_cons_zero, List.set_cons_succ, i64_w, i32_w]
        rfl
       refine one_ (i := 6) (N := some 28) #[true, true, true, true, true, true, true, false, true, true, true, false, false] rfl rfl (by kernel_rfl) (by decide) (fun K hK => ?_)
       refine value_ (w1 := ?_) (v := ?_) (by rfl) rfl ?_ ?_
       rotate_left 2
       ·go_simp
        constructor
        ·rfl
        ·rfl
       refine hK.out _ _ trivial (fun hHeld => ?_)
       clear hK K
       refine norm_ (a' := ?_) ?_ ?_
       rotate_left
       ·show Act.put _ (some 28) _ = _
        simp only [Act.put, List.setIfInBounds_toArray, List.set_cons_zero, List.set_cons_succ, i64_w, i32_w]
        rfl
       exact norm_ (by simp only [putAll, Act.put, List.setIfInBounds_toArray, List.set_cons_zero, List.set_cons_succ]) (hCont (vE, vA, wA.heap.size) _ ⟨Kd.R_alloc hoA _, heap_alloc_new wA _, below_alloc hbA _⟩)
      ·skip
       refine value_ (w1 := ?_) (v := ?_) (by rfl) rfl ?_ ?_
       rotate_left 2
       ·go_simp
        constructor
        ·rfl
        ·rfl
       refine hK.out _ _ trivial (fun hHeld => ?_)
       clear hK K
       refine norm_ (a' := ?_) ?_ ?_
       rotate_left
       ·show Act.put _ (some 28) _ = _
        simp only [Act.put, List.setIfInBounds_toArray, List.set_cons_zero, List.set_cons_succ, i64_w, i32_w]
        rfl
       refine one_ (i := 4) (N := some 26) #[true, true, true, true, true, true, true, false, true, true, true, false, false] rfl rfl (by kernel_rfl) (by decide) (fun K hK => ?_)
       refine Kd.R_append_rows_step (Kd.int .i64) (w0 := w8) w8.heap.size (by rfl) (.tmp 22) (.tmp 25) 24 3 (.int .i64 0) 8 rfl Try.underlying24 info3 rfl (by decide) (by omega) vE [] (x6_1.take t724.toNat) Ao9 _ _ (fun _ => True) (fun _ => False) rfl rfl ?aO ?aR (fun _ _ h => h) (fun _ h => h.elim) (fun _ _ => trivial) ?aB ?aS ?aL ?_
       case aO => exact (Kd.R_alloc hoE _)
       case aR => exact (Kd.C_below hCP_ (below_alloc hbE _))
       case aB => exact (below_alloc hbE _)
       case aS => exact ((below_alloc hbE _)).size
       case aL => simp only [List.length_append, List.length_cons, List.length_nil, List.length_take, List.length_drop]; omega
       intro vA wA hoA hbA hgA haA
       have hx2_ := (hgA.block wE.heap.size (heap_lt_alloc _ _) (new_ne hoE)).trans (heap_alloc_new wE (.cells #[.int .i64 x7_1] 3))
       refine hK.out _ _ trivial (fun hHeld => ?_)
       clear hK K
       refine norm_ (a' := ?_) ?_ ?_
       rotate_left
       ·show Act.put _ (some 26) _ = _
        simp only [Act.put, List.setIfInBounds_toArray, List.set_cons_zero, List.set_cons_succ, i64_w, i32_w]
        rfl
       exact norm_ (by simp only [putAll, Act.put, List.setIfInBounds_toArray, List.set_cons_zero, List.set_cons_succ]) (hCont (vE, vA, wE.heap.size) _ ⟨hoA, hx2_, hbA⟩)
     ·skip
      refine value_ (w1 := ?_) (v := ?_) (by rfl) rfl ?_ ?_
      rotate_left 2
      ·go_simp
       constructor
       ·rfl
       ·rfl
      refine hK.out _ _ trivial (fun hHeld => ?_)
      clear hK K
      refine norm_ (a' := ?_) ?_ ?_
      rotate_left
      ·show Act.put _ (some 28) _ = _
       simp only [Act.put, List.setIfInBounds_toArray, List.set_cons_zero, List.set_cons_succ, i64_w, i32_w]
       rfl
      refine one_ (i := 0) (N := some 22) #[true, true, true, true, false, true, true, false, true, true, true, false, false] rfl rfl (by kernel_rfl) (by decide) (fun K hK => ?_)
      refine Kd.R_lit_step (Kd.int .i64) (w0 := w8) w8.heap.size 3 (by rfl) (N := 22) rfl (xs := ([] : List Int)) (inner := []) (ok := fun _ => True) (okp := fun _ => True) ?hr ?hp (fun _ hk => hk) trivial (below_alloc hbW_ (.cells #[.int .i64 x7_1] 3)) ((below_alloc hbW_ (.cells #[.int .i64 x7_1] 3))).size (by simp) ?_
      case hr => first | (go_simp; done) | (go_simp; rfl)
      case hp => exact Reps.none _ _
      intro vE wE hoE hbE hgE hnE
      have hx1_ := (hgE.block w8.drew.heap.size (heap_lt_alloc _ _) (by simp)).trans (heap_alloc_new w8.drew (.cells #[.int .i64 x7_1] 3))
      refine hK.out _ _ trivial (fun hHeld => ?_)
      clear hK K
      refine norm_ (a' := ?_) ?_ ?_
      rotate_left
      ·show Act.put _ (some 22) _ = _
       simp only [Act.put, List.setIfInBounds_toArray, List.set_cons_zero, List.set_cons_succ, i64_w, i32_w]
       rfl
      refine one_ (i := 4) (N := some 26) #[true, true, true, true, true, true, true, false, true, true, true, false, false] rfl rfl (by kernel_rfl) (by decide) (fun K hK => ?_)
      refine Kd.R_append_rows_step (Kd.int .i64) (w0 := w8) w8.heap.size (by rfl) (.tmp 22) (.tmp 25) 24 3 (.int .i64 0) 8 rfl Try.underlying24 info3 rfl (by decide) (by omega) vE [] (x6_1.take t724.toNat) Ao9 _ _ (fun _ => True) (fun _ => False) rfl rfl ?aO ?aR (fun _ _ h => h) (fun _ h => h.elim) (fun _ _ => trivial) ?aB ?aS ?aL ?_
      case aO => exact hoE
      case aR => exact (Kd.C_below hCP_ hbE)
      case aB => exact hbE
      case aS => exact (hbE).size
      case aL => simp only [List.length_append, List.length_cons, List.length_nil, List.length_take, List.length_drop]; omega
      intro vA wA hoA hbA hgA haA
      have hx2_ := (hgA.block w8.drew.heap.size (lt_of_cells hx1_) (elder_ne hnE (heap_lt_alloc _ _))).trans hx1_
      refine hK.out _ _ trivial (fun hHeld => ?_)
      clear hK K
      refine norm_ (a' := ?_) ?_ ?_
      rotate_left
      ·show Act.put _ (some 26) _ = _
       simp only [Act.put, List.setIfInBounds_toArray, List.set_cons_zero, List.set_cons_succ, i64_w, i32_w]
       rfl
      exact norm_ (by simp only [putAll, Act.put, List.setIfInBounds_toArray, List.set_cons_zero, List.set_cons_succ]) (hCont (vE, vA, w8.heap.size) _ ⟨hoA, hx2_, hbA⟩)
    rintro ⟨v16_, v20_, b_⟩ w20_ ⟨hoT_, hbx_, hbT_⟩
    have hHeld : True := trivial
    refine norm_ (a' := ?_) ?_ ?_
    rotate_left
    ·simp only [putAll, Act.put, List.setIfInBounds_toArray, List.set_cons_zero, List.set_cons_succ]
     rfl
    refine one_ (i := 7) (N := some 29) #[true, true, true, true, true, true, true, true, true, true, true, false, false] rfl rfl (by kernel_rfl) (by decide) (fun K hK => ?_)
    refine Kd.R_append_rows_step (Kd.int .i64) (w0 := w8) w8.heap.size (by rfl) (.tmp 26) (.tmp 28) 24 3 (.int .i64 0) 8 rfl Try.underlying24 info3 rfl (by decide) (by omega) v20_ ([] ++ (x6_1.take t724.toNat)) [x7_1] (some ⟨b_, 0, none⟩) 1 1 (fun _ => True) (fun _ => False) rfl rfl ?aO ?aR (fun _ _ h => h) (fun _ h => h.elim) (fun _ _ => trivial) ?aB ?aS ?aL ?_
    case aO => exact hoT_
    case aR => exact (C_box hbx_)
    case aB => exact hbT_
    case aS => exact (hbT_).size
    case aL => simp only [List.length_append, List.length_cons, List.length_nil, List.length_take, List.length_drop]; omega
    intro v23_ w23_ hoT2_ hbT2_ hgT2_ haT2_
    refine hK.out _ _ trivial (fun hHeld => ?_)
    clear hK K
    refine norm_ (a' := ?_) ?_ ?_
    rotate_left
    ·show Act.put _ (some 29) _ = _
     simp only [Act.put, List.setIfInBounds_toArray, List.set_cons_zero, List.set_cons_succ, i64_w, i32_w]
     rfl
    refine one_ (i := 11) (N := some 33) #[true, true, true, true, true, true, true, true, true, true, true, true, false] rfl rfl (by kernel_rfl) (by decide) (fun K hK => ?_)
    refine Kd.R_append_rows_step (Kd.int .i64) (w0 := w8) w8.heap.size (by rfl) (.tmp 29) (.tmp 32) 24 3 (.int .i64 0) 8 rfl Try.underlying24 info3 rfl (by decide) (by omega) v23_ ([] ++ (x6_1.take t724.toNat) ++ [x7_1]) (x6_1.drop t724.toNat) AD_ _ _ (fun _ => True) (fun _ => False) rfl rfl ?aO ?aR (fun _ _ h => h) (fun _ h => h.elim) (fun _ _ => trivial) ?aB ?aS ?aL ?_
    case aO => exact hoT2_
    case aR => exact (Kd.C_below hCD_ hbT2_)
    case aB => exact hbT2_
    case aS => exact (hbT2_).size
    case aL => simp only [List.length_append, List.length_cons, List.length_nil, List.length_take, List.length_drop]; omega
    intro v728 w10 hoZ_ hbZ_ hgZ_ haZ_
    refine hK.out _ _ trivial (fun hHeld => ?_)
    clear hK K
    refine norm_ (a' := ?_) ?_ ?_
    rotate_left
    ·show Act.put _ (some 33) _ = _
     simp only [Act.put, List.setIfInBounds_toArray, List.set_cons_zero, List.set_cons_succ, i64_w, i32_w]
     rfl
    refine pure_ (i := 12) (N := some 6) (v := ?_) (a' := ?_) #[true, true, true, true, true, true, true, true, true, true, true, true, true] rfl rfl (by kernel_rfl) (fun _ _ _ h => h) (Or.inl ⟨by rfl, ?_⟩) ?_ ?_
    rotate_left
    ·intro w'
     go_simp
     with_reducible rfl
    rotate_left
    ·simp only [Act.put, List.setIfInBounds_toArray, List.set_cons_zero, List.set_cons_succ, i64_w, i32_w]
     rfl
    refine done_ (by kernel_rfl) ?_
    have ho0 : Kd.R (Kd.int .i64) 3 w10 w8.heap.size (fun _ => True) v728 t727 := by have h_ := hoZ_; rw [List.nil_append] at h_; rw [← hI_]; exact h_
    have hb := hbZ_
    have HO729 := Aside0.mk (Kd.R_lower (Kd.R_new' ho0 (ltR HO_6)) (szK HK)); replace HO_6 := eldRR HO_6 ho0 hb; replace HI0 := IsS68.up HI0 hb; replace HK := upKB HK hb; replace HB := upB HB hb; (try clear hb); (try clear hb2); (try clear hk); (try clear hi); (try clear ho0)
    (try clear hoZ_ hbZ_ hgZ_ haZ_ hoT_ hoT2_)
    try go_wp2
    go_roundg k1
    case measure => have := HK1.out; omega
    case rel => exact ⟨(t727), (wrap64 (x7_1 + 1)), (t725), (t726), eqd, H', ⟨by have := HK1.out; omega⟩, ⟨by (with_reducible repeat (first | apply Kd.R_alloc | apply Kd.R_drewN | apply Kd.R_drew)); exact Kd.R_mono HO729.out (fun _ hk => trivial)⟩, ⟨IsS68.at HI0⟩, ⟨atK HK⟩, ⟨atB HB⟩⟩
   ·rw [if_neg c5] at H
    have c5b0 : decide (x7_1 < (wrap64 (1 + t721))) = false := decide_eq_false c5
    clear c5
    replace H := Option.bind_eq_some_iff.mp H
    obtain ⟨⟨t730, t731, t732⟩, A110, H⟩ := H
    replace H : (if t730 = 0 then ((spec_l1Cur_pick.f s0_0 t731 t732 (wrap64 (1 + t721))).bind fun bt733 => ((spec_l1Cur_among.f s0_0 bt733.2.1 bt733.2.2 (([(-1), (wrap64 (1 + t721)), 0, 4611686018427387904] : List Int))).bind fun bt739 => (if 0 ≤ bt733.1 then (if bt733.1 < (x6_1.length : Int) then (if (x6_1.length : Int) = 0 then (some ((([0, 1, 3, 2] : List Int)), bt739.2.1, bt739.2.2)) else (some ((x6_1.set (bt733.1 : Int).toNat bt739.1), bt739.2.1, bt739.2.2))) else (none)) else (none)))) else (if t730 = 1 then (some (([] : List Int), t731, t732)) else (if t730 = 2 then (spec_l1Cur_dots.j1 k1 (wrap64 (1 + t721)) x6_1 t730 (t730 == 2) s0_0 t731 t732) else (if t730 = 3 then (spec_l1Cur_dots.j1 k1 (wrap64 (1 + t721)) x6_1 t730 (t730 == 3) s0_0 t731 t732) else (spec_l1Cur_dots.j1 k1 (wrap64 (1 + t721)) x6_1 t730 (t730 == 4) s0_0 t731 t732))))) = some (r1, r2, r3) := H
    have A11 := Aside0.mk A110
    clear A110
    by_cases c12 : t730 = 0
    ·rw [if_pos c12] at H
     have c12b0 : (t730 == 0) = true := beq_iff_eq.mpr c12
     have c12b1 : (t730 != 0) = false := bne_eq_false_iff_eq.mpr c12
     clear c12
     replace H := Option.bind_eq_some_iff.mp H
     obtain ⟨⟨t733, t734, t735⟩, A130, H⟩ := H
     replace H : ((spec_l1Cur_among.f s0_0 t734 t735 (([(-1), (wrap64 (1 + t721)), 0, 4611686018427387904] : List Int))).bind fun bt739 => (if 0 ≤ t733 then (if t733 < (x6_1.length : Int) then (if (x6_1.length : Int) = 0 then (some ((([0, 1, 3, 2] : List Int)), bt739.2.1, bt739.2.2)) else (some ((x6_1.set (t733 : Int).toNat bt739.1), bt739.2.1, bt739.2.2))) else (none)) else (none))) = some (r1, r2, r3) := H
     have A13 := Aside0.mk A130
     clear A130
     obtain ⟨y736, hy736⟩ : ∃ y_ : List Int, y_ = (([(-1), (wrap64 (1 + t721)), 0, 4611686018427387904] : List Int)) := ⟨_, rfl⟩
     replace H : ((spec_l1Cur_among.f s0_0 t734 t735 y736).bind fun bt739 => (if 0 ≤ t733 then (if t733 < (x6_1.length : Int) then (if (x6_1.length : Int) = 0 then (some ((([0, 1, 3, 2] : List Int)), bt739.2.1, bt739.2.2)) else (some ((x6_1.set (t733 : Int).toNat bt739.1), bt739.2.1, bt739.2.2))) else (none)) else (none))) = some (r1, r2, r3) := by first | (rw [hy736]; with_reducible exact H) | (have H2_ := (Option.bind_some _ _).symm.trans H; rw [hy736]; with_reducible exact H2_) | (have H2_ := (Option.bind_some _ _).symm.trans H; with_reducible exact H2_) | with_reducible exact H | (rw [hy736]; exact H) | exact H
     have Ny736 := Aside0.mk hy736
     clear hy736
     replace H := Option.bind_eq_some_iff.mp H
     obtain ⟨⟨t739, t740, t741⟩, A140, H⟩ := H
     replace H : (if 0 ≤ t733 then (if t733 < (x6_1.length : Int) then (if (x6_1.length : Int) = 0 then (some ((([0, 1, 3, 2] : List Int)), t740, t741)) else (some ((x6_1.set (t733 : Int).toNat t739), t740, t741))) else (none)) else (none)) = some (r1, r2, r3) := H
     have A14 := Aside0.mk A140
     clear A140
     by_cases c15 : 0 ≤ t733
     ·rw [if_pos c15] at H
      have c15b0 : decide (0 ≤ t733) = true := decide_eq_true c15
      clear c15
      by_cases c16 : t733 < (x6_1.length : Int)
      ·rw [if_pos c16] at H
       have c16b0 : decide (t733 < (x6_1.length : Int)) = true := decide_eq_true c16
       clear c16
       obtain ⟨y742, hy742⟩ : ∃ y_ : List Int, y_ = (x6_1.set (t733 : Int).toNat t739) := ⟨_, rfl⟩
       replace H : (if (x6_1.length : Int) = 0 then (some ((([0, 1, 3, 2] : List Int)), t740, t741)) else (some (y742, t740, t741))) = some (r1, r2, r3) := by first | (rw [hy742]; with_reducible exact H) | (have H2_ := (Option.bind_some _ _).symm.trans H; rw [hy742]; with_reducible exact H2_) | (have H2_ := (Option.bind_some _ _).symm.trans H; with_reducible exact H2_) | with_reducible exact H | (rw [hy742]; exact H) | exact H
       have Ny742 := Aside0.mk hy742
       clear hy742
       by_cases c18 : (x6_1.length : Int) = 0
       ·rw [if_pos c18] at H
        have c18b0 : ((x6_1.length : Int) == 0) = true := beq_iff_eq.mpr c18
        have c18b1 : ((x6_1.length : Int) != 0) = false := bne_eq_false_iff_eq.mpr c18
        clear c18
        obtain ⟨y743, hy743⟩ : ∃ y_ : List Int, y_ = (([0, 1, 3, 2] : List Int)) := ⟨_, rfl⟩
        replace H : (some (y743, t740, t741)) = some (r1, r2, r3) := by first | (rw [hy743]; with_reducible exact H) | (have H2_ := (Option.bind_some _ _).symm.trans H; rw [hy743]; with_reducible exact H2_) | (have H2_ := (Option.bind_some _ _).symm.trans H; with_reducible exact H2_) | with_reducible exact H | (rw [hy743]; exact H) | exact H
        have Ny743 := Aside0.mk hy743
        clear hy743
        simp only [Option.some.injEq, Prod.mk.injEq] at H
        obtain ⟨rfl, rfl, rfl⟩ := H
        go_wp2_with (first | ((with_reducible refine gate_callee (f := 97) rfl ?_); refine goesA (some 35) Try.func97 #[.pointer (some ⟨g, 0, none⟩), .int .i64 12] ?_; (with_reducible refine (spec_l1Cur_pick.calls g s0_0 x1001_1 x1002_1 12 t730 t731 t732 w0 _ ?side1 ?side2 A11.out).mono ?_); (case side1 => exact IsS68.at HI0); (case side2 => exact atB HB); rintro e w19 ⟨rfl, hi, hb, hk⟩; refine ⟨_, rfl, ?_⟩; replace HO_6 := IsS68.keepR HI0 HO_6 hk; replace HK := upK HK hk; replace HB := Aside0.mk (hb); replace HI0 := Aside0.mk (hi); (try clear hb); (try clear hb2); (try clear hk); (try clear hi)) | ((with_reducible refine gate_callee (f := 97) rfl ?_); refine goesA (some 41) Try.func97 #[.pointer (some ⟨g, 0, none⟩), .int .i64 (wrap64 (1 + t721))] ?_; (with_reducible refine (spec_l1Cur_pick.calls g s0_0 t731 t732 (wrap64 (1 + t721)) t733 t734 t735 w0 _ ?side1 ?side2 A13.out).mono ?_); (case side1 => exact IsS68.at HI0); (case side2 => exact atB HB); rintro e w20 ⟨rfl, hi, hb, hk⟩; refine ⟨_, rfl, ?_⟩; replace HO_6 := IsS68.keepR HI0 HO_6 hk; replace HK := upK HK hk; replace HB := Aside0.mk (hb); replace HI0 := Aside0.mk (hi); (try clear hb); (try clear hb2); (try clear hk); (try clear hi)) | ((with_reducible refine gate_dst (N := 44) rfl ?_); refine Kd.R_lit (Kd.int .i64) _ 3 ?hg (N := 44) ?hd (xs := ([(-1), (wrap64 (1 + t721)), 0, 4611686018427387904] : List Int)) (inner := [.int .i64 (-1), .int .i64 (wrap64 (1 + t721)), .int .i64 0, .int .i64 4611686018427387904]) (ok := fun _ => True) (okp := fun _ => True) ?hr ?hp (fun _ hk => hk) trivial (Below.refl _ _) (Nat.le_refl _) (by simp) ?_; (case hd => rfl); (case hg => rfl); (case hr => first | (go_simp; done) | (go_simp; rfl)); (case hp => exact repsI _); intro v737 w21 ho22 hb hg_ hnew_; clear hg_ hnew_; (first | rw [← Ny736.out] at ho22 | (simp only [Int.reduceToNat] at ho22; rw [← Ny736.out] at ho22)); have HO738 := Aside0.mk (Kd.R_lower (Kd.R_new' ho22 (ltR HO_6)) (szK HK)); replace HO_6 := eldRR HO_6 ho22 hb; replace HI0 := IsS68.up HI0 hb; replace HK := upKB HK hb; replace HB := upB HB hb; clear hb ho22; obtain ⟨Ao23, co23, eo23⟩ := Kd.R_slice HO738.out; subst eo23) | ((with_reducible refine gate_callee (f := 109) rfl ?_); refine goesA (some 45) Try.func109 #[.pointer (some ⟨g, 0, none⟩), .slice Ao23 y736.length co23] ?_; (with_reducible refine (spec_l1Cur_among.calls g s0_0 t734 t735 _ _ y736 t739 t740 t741 w0 _ ?side1 ?side2 ?side3 ?side4 ?side5 A14.out).mono ?_); (case side1 => exact IsS68.at HI0); (case side2 => exact atB HB); (case side3 => exact atRC HO738); (case side4 => exact (Kd.R_reads' HO738.out).2.1); (case side5 => exact far_slice (IsS68.own_ne HI0.out HO738.out (by decide))); rintro e w24 ⟨rfl, hi, hb, hk⟩; refine ⟨_, rfl, ?_⟩; replace HO_6 := IsS68.keepR HI0 HO_6 hk; replace HO738 := IsS68.keepR HI0 HO738 hk; replace HK := upK HK hk; replace HB := Aside0.mk (hb); replace HI0 := Aside0.mk (hi); (try clear hb); (try clear hb2); (try clear hk); (try clear hi); have p17 : 0 ≤ (t733 : Int) := ofd; have q17 : (t733 : Int) < ((x6_1.length : Int) : Int) := ofd; obtain ⟨go17, co17, eo17, gb17, gl17, cl17, HG17⟩ := Kd.R_form HO_6.out (by omega); (first | cases eo17 | (injection eo17 with ea_ en_ ec_; (first | subst ea_ | (injection ea_ with ea_; subst ea_)); subst ec_; clear en_)); have GB17 := Aside0.mk gb17; have GG17 := Aside0.mk HG17; clear gb17 gl17 HG17; obtain ⟨hx17_0, hf17_0⟩ := Kd.R_celln 0 HO_6.out (t733 : Int) p17 q17; replace p17 := eq_true p17; replace q17 := eq_true q17; have n_ := Aside0.mk (Kd.R_mono (ok' := (fun k_ => some k_ ≠ (.slice Ao23 y736.length co23 : Value).ownBlock)) HO_6.out (fun k_ hk => hk.2)); clear HO_6; have HO_6 := n_; clear n_; obtain ⟨hy25_, hz25_⟩ := Kd.R_celln 0 HO_6.out (t733 : Int) (of_decide_eq_true (by first | (with_reducible assumption) | assumption)) (of_decide_eq_true (by first | (with_reducible assumption) | assumption)); have HP25 := Kd.R_putg HO_6.out (t733 : Int) t739) | ((with_reducible refine gate_store (t := 3) (p := 46) rfl ?_); refine store_event (t := 3) (p := 46) (v := ?vo_w26) (w1 := (w24.setCell ⟨go17, (t733 : Int).toNat, none⟩ (.int .i64 t739))) ?hg ?ho ?hn ?hr ?_; (case ho => rfl); (case hg => rfl); (case hn => rfl); (case hr => first | (go_simp; done) | (go_simp; rfl)); intro w26 hw; have hg : w24.grownBy w26 (some go17) := (by rw [hw]; exact HP25.2); have hp_ : Kd.R (Kd.int .i64) 3 w26 w.heap.size (fun k_ => some k_ ≠ (.slice Ao23 y736.length co23 : Value).ownBlock) (.slice (some ⟨go17, 0, none⟩) x6_1.length co17) y742 := (by rw [hw, Ny742.out]; exact HP25.1); clear HP25; replace HI0 := Aside0.mk (IsS68.grown (IsS68.at HI0) hg (IsS68.own_ne HI0.out HO_6.out (by decide))); replace HO738 := Aside0.mk (Kd.R_after (v := (.slice (some ⟨go17, 0, none⟩) x6_1.length co17)) (v1 := (.slice (some ⟨go17, 0, none⟩) x6_1.length co17)) (ok := (fun _ => True)) (atR HO738) hg (.inl rfl)); replace HB := Aside0.mk ((by rw [hw]; exact below_set (HB.out) (Nat.le_trans HL.out GB17.out) : Below w0.heap.size w0 w26)); replace HK := Aside0.mk (KeepBut.trans (atK HK) (KeepBut.of_grown hg g) (Kd.R_base2 HO_6.out)); replace HO_6 := Aside0.mk (hp_); clear hg hw hp_) | ((with_reducible refine gate_dst (N := 83) rfl ?_); refine Kd.R_lit (Kd.int .i64) _ 3 ?hg (N := 83) ?hd (xs := ([0, 1, 3, 2] : List Int)) (inner := [.int .i64 0, .int .i64 1, .int .i64 3, .int .i64 2]) (ok := fun _ => True) (okp := fun _ => True) ?hr ?hp (fun _ hk => hk) trivial (Below.refl _ _) (Nat.le_refl _) (by simp) ?_; (case hd => rfl); (case hg => rfl); (case hr => first | (go_simp; done) | (go_simp; rfl)); (case hp => exact repsI _); intro v744 w27 ho28 hb hg_ hnew_; clear hg_ hnew_; (first | rw [← Ny743.out] at ho28 | (simp only [Int.reduceToNat] at ho28; rw [← Ny743.out] at ho28)); have HO745 := Aside0.mk (Kd.R_lower (Kd.R_new' (Kd.R_new' ho28 (ltR HO_6)) (ltR HO738)) (szK HK)); replace HO_6 := eldRR HO_6 ho28 hb; replace HO738 := eldRR HO738 ho28 hb; replace HI0 := IsS68.up HI0 hb; replace HK := upKB HK hb; replace HB := upB HB hb; clear hb ho28))
        go_ret
        exact ⟨_, eqr, by (with_reducible repeat (first | apply Kd.R_alloc | apply Kd.R_drewN | apply Kd.R_drew)); exact Kd.R_mono HO745.out (fun _ hk => trivial), IsS68.at HI0, atB HB, atK HK⟩
       ·rw [if_neg c18] at H
        have c18b0 : ((x6_1.length : Int) == 0) = false := beq_eq_false_iff_ne.mpr c18
        have c18b1 : ((x6_1.length : Int) != 0) = true := bne_iff_ne.mpr c18
        have c18b2 : ¬ (x6_1 = []) := fun h_ => c18 (by rw [h_]; rfl)
        simp only [Option.some.injEq, Prod.mk.injEq] at H
        obtain ⟨rfl, rfl, rfl⟩ := H
        go_wp2_with (first | ((with_reducible refine gate_callee (f := 97) rfl ?_); refine goesA (some 35) Try.func97 #[.pointer (some ⟨g, 0, none⟩), .int .i64 12] ?_; (with_reducible refine (spec_l1Cur_pick.calls g s0_0 x1001_1 x1002_1 12 t730 t731 t732 w0 _ ?side1 ?side2 A11.out).mono ?_); (case side1 => exact IsS68.at HI0); (case side2 => exact atB HB); rintro e w29 ⟨rfl, hi, hb, hk⟩; refine ⟨_, rfl, ?_⟩; replace HO_6 := IsS68.keepR HI0 HO_6 hk; replace HK := upK HK hk; replace HB := Aside0.mk (hb); replace HI0 := Aside0.mk (hi); (try clear hb); (try clear hb2); (try clear hk); (try clear hi)) | ((with_reducible refine gate_callee (f := 97) rfl ?_); refine goesA (some 41) Try.func97 #[.pointer (some ⟨g, 0, none⟩), .int .i64 (wrap64 (1 + t721))] ?_; (with_reducible refine (spec_l1Cur_pick.calls g s0_0 t731 t732 (wrap64 (1 + t721)) t733 t734 t735 w0 _ ?side1 ?side2 A13.out).mono ?_); (case side1 => exact IsS68.at HI0); (case side2 => exact atB HB); rintro e w30 ⟨rfl, hi, hb, hk⟩; refine ⟨_, rfl, ?_⟩; replace HO_6 := IsS68.keepR HI0 HO_6 hk; replace HK := upK HK hk; replace HB := Aside0.mk (hb); replace HI0 := Aside0.mk (hi); (try clear hb); (try clear hb2); (try clear hk); (try clear hi)) | ((with_reducible refine gate_dst (N := 44) rfl ?_); refine Kd.R_lit (Kd.int .i64) _ 3 ?hg (N := 44) ?hd (xs := ([(-1), (wrap64 (1 + t721)), 0, 4611686018427387904] : List Int)) (inner := [.int .i64 (-1), .int .i64 (wrap64 (1 + t721)), .int .i64 0, .int .i64 4611686018427387904]) (ok := fun _ => True) (okp := fun _ => True) ?hr ?hp (fun _ hk => hk) trivial (Below.refl _ _) (Nat.le_refl _) (by simp) ?_; (case hd => rfl); (case hg => rfl); (case hr => first | (go_simp; done) | (go_simp; rfl)); (case hp => exact repsI _); intro v737 w31 ho32 hb hg_ hnew_; clear hg_ hnew_; (first | rw [← Ny736.out] at ho32 | (simp only [Int.reduceToNat] at ho32; rw [← Ny736.out] at ho32)); have HO738 := Aside0.mk (Kd.R_lower (Kd.R_new' ho32 (ltR HO_6)) (szK HK)); replace HO_6 := eldRR HO_6 ho32 hb; replace HI0 := IsS68.up HI0 hb; replace HK := upKB HK hb; replace HB := upB HB hb; clear hb ho32; obtain ⟨Ao33, co33, eo33⟩ := Kd.R_slice HO738.out; subst eo33) | ((with_reducible refine gate_callee (f := 109) rfl ?_); refine goesA (some 45) Try.func109 #[.pointer (some ⟨g, 0, none⟩), .slice Ao33 y736.length co33] ?_; (with_reducible refine (spec_l1Cur_among.calls g s0_0 t734 t735 _ _ y736 t739 t740 t741 w0 _ ?side1 ?side2 ?side3 ?side4 ?side5 A14.out).mono ?_); (case side1 => exact IsS68.at HI0); (case side2 => exact atB HB); (case side3 => exact atRC HO738); (case side4 => exact (Kd.R_reads' HO738.out).2.1); (case side5 => exact far_slice (IsS68.own_ne HI0.out HO738.out (by decide))); rintro e w34 ⟨rfl, hi, hb, hk⟩; refine ⟨_, rfl, ?_⟩; replace HO_6 := IsS68.keepR HI0 HO_6 hk; replace HO738 := IsS68.keepR HI0 HO738 hk; replace HK := upK HK hk; replace HB := Aside0.mk (hb); replace HI0 := Aside0.mk (hi); (try clear hb); (try clear hb2); (try clear hk); (try clear hi); have p17 : 0 ≤ (t733 : Int) := ofd; have q17 : (t733 : Int) < ((x6_1.length : Int) : Int) := ofd; obtain ⟨go17, co17, eo17, gb17, gl17, cl17, HG17⟩ := Kd.R_form HO_6.out (by omega); (first | cases eo17 | (injection eo17 with ea_ en_ ec_; (first | subst ea_ | (injection ea_ with ea_; subst ea_)); subst ec_; clear en_)); have GB17 := Aside0.mk gb17; have GG17 := Aside0.mk HG17; clear gb17 gl17 HG17; obtain ⟨hx17_0, hf17_0⟩ := Kd.R_celln 0 HO_6.out (t733 : Int) p17 q17; replace p17 := eq_true p17; replace q17 := eq_true q17; have n_ := Aside0.mk (Kd.R_mono (ok' := (fun k_ => some k_ ≠ (.slice Ao33 y736.length co33 : Value).ownBlock)) HO_6.out (fun k_ hk => hk.2)); clear HO_6; have HO_6 := n_; clear n_; obtain ⟨hy35_, hz35_⟩ := Kd.R_celln 0 HO_6.out (t733 : Int) (of_decide_eq_true (by first | (with_reducible assumption) | assumption)) (of_decide_eq_true (by first | (with_reducible assumption) | assumption)); have HP35 := Kd.R_putg HO_6.out (t733 : Int) t739) | ((with_reducible refine gate_store (t := 3) (p := 46) rfl ?_); refine store_event (t := 3) (p := 46) (v := ?vo_w36) (w1 := (w34.setCell ⟨go17, (t733 : Int).toNat, none⟩ (.int .i64 t739))) ?hg ?ho ?hn ?hr ?_; (case ho => rfl); (case hg => rfl); (case hn => rfl); (case hr => first | (go_simp; done) | (go_simp; rfl)); intro w36 hw; have hg : w34.grownBy w36 (some go17) := (by rw [hw]; exact HP35.2); have hp_ : Kd.R (Kd.int .i64) 3 w36 w.heap.size (fun k_ => some k_ ≠ (.slice Ao33 y736.length co33 : Value).ownBlock) (.slice (some ⟨go17, 0, none⟩) x6_1.length co17) y742 := (by rw [hw, Ny742.out]; exact HP35.1); clear HP35; replace HI0 := Aside0.mk (IsS68.grown (IsS68.at HI0) hg (IsS68.own_ne HI0.out HO_6.out (by decide))); replace HO738 := Aside0.mk (Kd.R_after (v := (.slice (some ⟨go17, 0, none⟩) x6_1.length co17)) (v1 := (.slice (some ⟨go17, 0, none⟩) x6_1.length co17)) (ok := (fun _ => True)) (atR HO738) hg (.inl rfl)); replace HB := Aside0.mk ((by rw [hw]; exact below_set (HB.out) (Nat.le_trans HL.out GB17.out) : Below w0.heap.size w0 w36)); replace HK := Aside0.mk (KeepBut.trans (atK HK) (KeepBut.of_grown hg g) (Kd.R_base2 HO_6.out)); replace HO_6 := Aside0.mk (hp_); clear hg hw hp_))
        go_ret
        exact ⟨_, eqr, by (with_reducible repeat (first | apply Kd.R_alloc | apply Kd.R_drewN | apply Kd.R_drew)); exact Kd.R_mono HO_6.out (fun _ hk => trivial), IsS68.at HI0, atB HB, atK HK⟩
      ·rw [if_neg c16] at H
       exact absurd H (by simp)
     ·rw [if_neg c15] at H
      exact absurd H (by simp)
    ·rw [if_neg c12] at H
     have c12b0 : (t730 == 0) = false := beq_eq_false_iff_ne.mpr c12
     have c12b1 : (t730 != 0) = true := bne_iff_ne.mpr c12
     by_cases c37 : t730 = 1
     ·rw [if_pos c37] at H
      have c37b0 : (t730 == 1) = true := beq_iff_eq.mpr c37
      have c37b1 : (t730 != 1) = false := bne_eq_false_iff_eq.mpr c37
      clear c37
      simp only [Option.some.injEq, Prod.mk.injEq] at H
      obtain ⟨rfl, rfl, rfl⟩ := H
      go_wp2_with (first | ((with_reducible refine gate_callee (f := 97) rfl ?_); refine goesA (some 35) Try.func97 #[.pointer (some ⟨g, 0, none⟩), .int .i64 12] ?_; (with_reducible refine (spec_l1Cur_pick.calls g s0_0 x1001_1 x1002_1 12 t730 t731 t732 w0 _ ?side1 ?side2 A11.out).mono ?_); (case side1 => exact IsS68.at HI0); (case side2 => exact atB HB); rintro e w38 ⟨rfl, hi, hb, hk⟩; refine ⟨_, rfl, ?_⟩; replace HO_6 := IsS68.keepR HI0 HO_6 hk; replace HK := upK HK hk; replace HB := Aside0.mk (hb); replace HI0 := Aside0.mk (hi); (try clear hb); (try clear hb2); (try clear hk); (try clear hi)))
      go_ret
      exact ⟨_, eqr, by first | exact Kd.R_nil _ _ _ _ _ | exact Kd.N_nil _ _ _ _ _ | exact Kd.V_nil _ _ _ _ _ | exact Kd.Q_nil _ _ _ _ _ | exact Kd.S_nil _ _ _ _ _, IsS68.at HI0, atB HB, atK HK⟩
     ·rw [if_neg c37] at H
      have c37b0 : (t730 == 1) = false := beq_eq_false_iff_ne.mpr c37
      have c37b1 : (t730 != 1) = true := bne_iff_ne.mpr c37
      have HC39 := Aside0.mk H
      clear H
      go_upto_if 49 with (first | ((with_reducible refine gate_callee (f := 97) rfl ?_); refine goesA (some 35) Try.func97 #[.pointer (some ⟨g, 0, none⟩), .int .i64 12] ?_; (with_reducible refine (spec_l1Cur_pick.calls g s0_0 x1001_1 x1002_1 12 t730 t731 t732 w0 _ ?side1 ?side2 A11.out).mono ?_); (case side1 => exact IsS68.at HI0); (case side2 => exact atB HB); rintro e w40 ⟨rfl, hi, hb, hk⟩; refine ⟨_, rfl, ?_⟩; replace HO_6 := IsS68.keepR HI0 HO_6 hk; replace HK := upK HK hk; replace HB := Aside0.mk (hb); replace HI0 := Aside0.mk (hi); (try clear hb); (try clear hb2); (try clear hk); (try clear hi)))
      (try simp only [Act.put, List.setIfInBounds_toArray, List.set_cons_zero, List.set_cons_succ])
      go_cut [49] (fun v49 wc => ∃ (kq : Nat) (x49_38 : Bool), v49 = .bool x49_38 ∧ Aside0 (spec_l1Cur_dots.j1 kq (wrap64 (1 + t721)) x6_1 t730 x49_38 s0_0 t731 t732 = some (r1, r2, r3)) ∧ Aside0 (kq ≤ k1) ∧ Aside0 (Kd.R (Kd.int .i64) 3 wc w.heap.size (fun _ => True) u6 x6_1) ∧ Aside0 (IsS68 w0 wc g s0_0 t731 t732) ∧ Aside0 (KeepBut w wc g none) ∧ Aside0 (Below w0.heap.size w0 wc))
      case first =>
       have H := HC39.out
       clear HC39
       by_cases c41 : t730 = 2
       ·rw [if_pos c41] at H
        have c41b0 : (t730 == 2) = true := beq_iff_eq.mpr c41
        have c41b1 : (t730 != 2) = false := bne_eq_false_iff_eq.mpr c41
        clear c41
        (first | rw [c41b0] | (simp only [i64_w, i32_w]; rw [c41b0]) | skip)
        have H' := Aside0.mk H
        clear H
        go_wp2
        go_meet
        case rel => exact ⟨_, ((t730 == 2)), eqd, H', ⟨by have := HK1.out; first | omega | exact Nat.le_refl _⟩, ⟨atR HO_6⟩, ⟨IsS68.at HI0⟩, ⟨atK HK⟩, ⟨atB HB⟩⟩
       ·rw [if_neg c41] at H
        have c41b0 : (t730 == 2) = false := beq_eq_false_iff_ne.mpr c41
        have c41b1 : (t730 != 2) = true := bne_iff_ne.mpr c41
        (first | rw [c41b0] | (simp only [i64_w, i32_w]; rw [c41b0]) | skip)
        by_cases c42 : t730 = 3
        ·rw [if_pos c42] at H
         have c42b0 : (t730 == 3) = true := beq_iff_eq.mpr c42
         have c42b1 : (t730 != 3) = false := bne_eq_false_iff_eq.mpr c42
         clear c42
         have H' := Aside0.mk H
         clear H
         go_wp2
         go_meet
         case rel => exact ⟨_, ((t730 == 3)), eqd, H', ⟨by have := HK1.out; first | omega | exact Nat.le_refl _⟩, ⟨atR HO_6⟩, ⟨IsS68.at HI0⟩, ⟨atK HK⟩, ⟨atB HB⟩⟩
        ·rw [if_neg c42] at H
         have c42b0 : (t730 == 3) = false := beq_eq_false_iff_ne.mpr c42
         have c42b1 : (t730 != 3) = true := bne_iff_ne.mpr c42
         have H' := Aside0.mk H
         clear H
         go_wp2
         go_meet
         case rel => exact ⟨_, ((t730 == 4)), eqd, H', ⟨by have := HK1.out; first | omega | exact Nat.le_refl _⟩, ⟨atR HO_6⟩, ⟨IsS68.at HI0⟩, ⟨atK HK⟩, ⟨atB HB⟩⟩
      case rest =>
       clear HC39
       try clear c1
       try clear p1
       try clear q1
       try clear hx1
       try clear p2
       try clear c3
       try clear c4
       try clear c5
       try clear c5b0
       try clear p6
       try clear c9
       try clear c10
       try clear c11
       try clear c12
       try clear c12b0
       try clear c12b1
       try clear c15
       try clear c15b0
       try clear c16
       try clear c16b0
       try clear p17
       try clear q17
       try clear hx17
       try clear hf17
       try clear c18
       try clear c18b0
       try clear c18b1
       try clear c18b2
       try clear c37
       try clear c37b0
       try clear c37b1
       try clear c41
       try clear c41b0
       try clear c41b1
       try clear c42
       try clear c42b0
       try clear c42b1
       try clear hx17_0
       try clear p17
       try clear p2
       try clear q17
       obtain ⟨kq, x49_38, rfl, HA, HJ38, HO_6, HI0, HK, HB⟩ := hcut
       cases kq with
       | zero => exact absurd HA.out (by simp [spec_l1Cur_dots.j1])
       | succ kj38 =>
        have H := HA.out
        clear HA
        simp only [spec_l1Cur_dots.j1] at H
        by_cases c43 : x49_38 = true
        ·subst c43
         have H1 : ((spec_l1Cur_among.f s0_0 t731 t732 (([3, 5, 7, 11] : List Int))).bind fun bt749 => ((spec_PowersDots.f kj38 bt749.1 2).bind fun bt752 => (if (bt752.1.length : Int) = 0 then (some ((([0, 1, 3, 2] : List Int)), bt749.2.1, bt749.2.2)) else (some (bt752.1, bt749.2.1, bt749.2.2))))) = some (r1, r2, r3) := by rw [if_pos rfl] at H; exact H
         clear H
         have H := H1
         clear H1
         obtain ⟨y746, hy746⟩ : ∃ y_ : List Int, y_ = (([3, 5, 7, 11] : List Int)) := ⟨_, rfl⟩
         replace H : ((spec_l1Cur_among.f s0_0 t731 t732 y746).bind fun bt749 => ((spec_PowersDots.f kj38 bt749.1 2).bind fun bt752 => (if (bt752.1.length : Int) = 0 then (some ((([0, 1, 3, 2] : List Int)), bt749.2.1, bt749.2.2)) else (some (bt752.1, bt749.2.1, bt749.2.2))))) = some (r1, r2, r3) := by first | (rw [hy746]; with_reducible exact H) | (have H2_ := (Option.bind_some _ _).symm.trans H; rw [hy746]; with_reducible exact H2_) | (have H2_ := (Option.bind_some _ _).symm.trans H; with_reducible exact H2_) | with_reducible exact H | (rw [hy746]; exact H) | exact H
         have Ny746 := Aside0.mk hy746
         clear hy746
         replace H := Option.bind_eq_some_iff.mp H
         obtain ⟨⟨t749, t750, t751⟩, A440, H⟩ := H
         replace H : ((spec_PowersDots.f kj38 t749 2).bind fun bt752 => (if (bt752.1.length : Int) = 0 then (some ((([0, 1, 3, 2] : List Int)), t750, t751)) else (some (bt752.1, t750, t751)))) = some (r1, r2, r3) := H
         have A44 := Aside0.mk A440
         clear A440
         replace H := Option.bind_eq_some_iff.mp H
         obtain ⟨⟨t752, t753⟩, A450, H⟩ := H
         replace H : (if (t752.length : Int) = 0 then (some ((([0, 1, 3, 2] : List Int)), t750, t751)) else (some (t752, t750, t751))) = some (r1, r2, r3) := H
         have A45 := Aside0.mk A450
         clear A450
         by_cases c46 : (t752.length : Int) = 0
         ·rw [if_pos c46] at H
          have c46b0 : ((t752.length : Int) == 0) = true := beq_iff_eq.mpr c46
          have c46b1 : ((t752.length : Int) != 0) = false := bne_eq_false_iff_eq.mpr c46
          clear c46
          obtain ⟨y756, hy756⟩ : ∃ y_ : List Int, y_ = (([0, 1, 3, 2] : List Int)) := ⟨_, rfl⟩
          replace H : (some (y756, t750, t751)) = some (r1, r2, r3) := by first | (rw [hy756]; with_reducible exact H) | (have H2_ := (Option.bind_some _ _).symm.trans H; rw [hy756]; with_reducible exact H2_) | (have H2_ := (Option.bind_some _ _).symm.trans H; with_reducible exact H2_) | with_reducible exact H | (rw [hy756]; exact H) | exact H
          have Ny756 := Aside0.mk hy756
          clear hy756
          simp only [Option.some.injEq, Prod.mk.injEq] at H
          obtain ⟨rfl, rfl, rfl⟩ := H
          go_wp2_with (first | ((with_reducible refine gate_dst (N := 55) rfl ?_); refine Kd.R_lit (Kd.int .i64) _ 3 ?hg (N := 55) ?hd (xs := ([3, 5, 7, 11] : List Int)) (inner := [.int .i64 3, .int .i64 5, .int .i64 7, .int .i64 11]) (ok := fun _ => True) (okp := fun _ => True) ?hr ?hp (fun _ hk => hk) trivial (Below.refl _ _) (Nat.le_refl _) (by simp) ?_; (case hd => rfl); (case hg => rfl); (case hr => first | (go_simp; done) | (go_simp; rfl)); (case hp => exact repsI _); intro v747 w47 ho48 hb hg_ hnew_; clear hg_ hnew_; (first | rw [← Ny746.out] at ho48 | (simp only [Int.reduceToNat] at ho48; rw [← Ny746.out] at ho48)); have HO748 := Aside0.mk (Kd.R_lower (Kd.R_new' ho48 (ltR HO_6)) (szK HK)); replace HO_6 := eldRR HO_6 ho48 hb; replace HI0 := IsS68.up HI0 hb; replace HK := upKB HK hb; replace HB := upB HB hb; clear hb ho48; obtain ⟨Ao49, co49, eo49⟩ := Kd.R_slice HO748.out; subst eo49) | ((with_reducible refine gate_callee (f := 109) rfl ?_); refine goesA (some 56) Try.func109 #[.pointer (some ⟨g, 0, none⟩), .slice Ao49 y746.length co49] ?_; (with_reducible refine (spec_l1Cur_among.calls g s0_0 t731 t732 _ _ y746 t749 t750 t751 w0 _ ?side1 ?side2 ?side3 ?side4 ?side5 A44.out).mono ?_); (case side1 => exact IsS68.at HI0); (case side2 => exact atB HB); (case side3 => exact atRC HO748); (case side4 => exact (Kd.R_reads' HO748.out).2.1); (case side5 => exact far_slice (IsS68.own_ne HI0.out HO748.out (by decide))); rintro e w50 ⟨rfl, hi, hb, hk⟩; refine ⟨_, rfl, ?_⟩; replace HO_6 := IsS68.keepR HI0 HO_6 hk; replace HO748 := IsS68.keepR HI0 HO748 hk; replace HK := upK HK hk; replace HB := Aside0.mk (hb); replace HI0 := Aside0.mk (hi); (try clear hb); (try clear hb2); (try clear hk); (try clear hi)) | ((with_reducible refine gate_callee (f := 148) rfl ?_); refine goesA (some 57) Try.func148 #[.int .i64 t749, .int .i64 2] ?_; (with_reducible refine (spec_PowersDots.calls kj38 t749 2 t752 t753 _ A45.out).mono ?_); rintro e w51 ⟨v754, rfl, ho0, hb⟩; refine ⟨_, rfl, ?_⟩; have HO755 := Aside0.mk (Kd.R_lower (Kd.R_new' (Kd.R_new' ho0 (ltR HO_6)) (ltR HO748)) (szK HK)); replace HO_6 := eldRR HO_6 ho0 hb; replace HO748 := eldRR HO748 ho0 hb; replace HI0 := IsS68.up HI0 hb; replace HK := upKB HK hb; replace HB := upB HB hb; (try clear hb); (try clear hb2); (try clear hk); (try clear hi); (try clear ho0); obtain ⟨Ao52, co52, eo52⟩ := Kd.R_slice HO755.out; subst eo52) | ((with_reducible refine gate_dst (N := 83) rfl ?_); refine Kd.R_lit (Kd.int .i64) _ 3 ?hg (N := 83) ?hd (xs := ([0, 1, 3, 2] : List Int)) (inner := [.int .i64 0, .int .i64 1, .int .i64 3, .int .i64 2]) (ok := fun _ => True) (okp := fun _ => True) ?hr ?hp (fun _ hk => hk) trivial (Below.refl _ _) (Nat.le_refl _) (by simp) ?_; (case hd => rfl); (case hg => rfl); (case hr => first | (go_simp; done) | (go_simp; rfl)); (case hp => exact repsI _); intro v757 w53 ho54 hb hg_ hnew_; clear hg_ hnew_; (first | rw [← Ny756.out] at ho54 | (simp only [Int.reduceToNat] at ho54; rw [← Ny756.out] at ho54)); have HO758 := Aside0.mk (Kd.R_lower (Kd.R_new' (Kd.R_new' (Kd.R_new' ho54 (ltR HO_6)) (ltR HO748)) (ltR HO755)) (szK HK)); replace HO_6 := eldRR HO_6 ho54 hb; replace HO748 := eldRR HO748 ho54 hb; replace HO755 := eldRR HO755 ho54 hb; replace HI0 := IsS68.up HI0 hb; replace HK := upKB HK hb; replace HB := upB HB hb; clear hb ho54))
          go_ret
          exact ⟨_, eqr, by (with_reducible repeat (first | apply Kd.R_alloc | apply Kd.R_drewN | apply Kd.R_drew)); exact Kd.R_mono HO758.out (fun _ hk => trivial), IsS68.at HI0, atB HB, atK HK⟩
         ·rw [if_neg c46] at H
          have c46b0 : ((t752.length : Int) == 0) = false := beq_eq_false_iff_ne.mpr c46
          have c46b1 : ((t752.length : Int) != 0) = true := bne_iff_ne.mpr c46
          have c46b2 : ¬ (t752 = []) := fun h_ => c46 (by rw [h_]; rfl)
          simp only [Option.some.injEq, Prod.mk.injEq] at H
          obtain ⟨rfl, rfl, rfl⟩ := H
          go_wp2_with (first | ((with_reducible refine gate_dst (N := 55) rfl ?_); refine Kd.R_lit (Kd.int .i64) _ 3 ?hg (N := 55) ?hd (xs := ([3, 5, 7, 11] : List Int)) (inner := [.int .i64 3, .int .i64 5, .int .i64 7, .int .i64 11]) (ok := fun _ => True) (okp := fun _ => True) ?hr ?hp (fun _ hk => hk) trivial (Below.refl _ _) (Nat.le_refl _) (by simp) ?_; (case hd => rfl); (case hg => rfl); (case hr => first | (go_simp; done) | (go_simp; rfl)); (case hp => exact repsI _); intro v747 w55 ho56 hb hg_ hnew_; clear hg_ hnew_; (first | rw [← Ny746.out] at ho56 | (simp only [Int.reduceToNat] at ho56; rw [← Ny746.out] at ho56)); have HO748 := Aside0.mk (Kd.R_lower (Kd.R_new' ho56 (ltR HO_6)) (szK HK)); replace HO_6 := eldRR HO_6 ho56 hb; replace HI0 := IsS68.up HI0 hb; replace HK := upKB HK hb; replace HB := upB HB hb; clear hb ho56; obtain ⟨Ao57, co57, eo57⟩ := Kd.R_slice HO748.out; subst eo57) | ((with_reducible refine gate_callee (f := 109) rfl ?_); refine goesA (some 56) Try.func109 #[.pointer (some ⟨g, 0, none⟩), .slice Ao57 y746.length co57] ?_; (with_reducible refine (spec_l1Cur_among.calls g s0_0 t731 t732 _ _ y746 t749 t750 t751 w0 _ ?side1 ?side2 ?side3 ?side4 ?side5 A44.out).mono ?_); (case side1 => exact IsS68.at HI0); (case side2 => exact atB HB); (case side3 => exact atRC HO748); (case side4 => exact (Kd.R_reads' HO748.out).2.1); (case side5 => exact far_slice (IsS68.own_ne HI0.out HO748.out (by decide))); rintro e w58 ⟨rfl, hi, hb, hk⟩; refine ⟨_, rfl, ?_⟩; replace HO_6 := IsS68.keepR HI0 HO_6 hk; replace HO748 := IsS68.keepR HI0 HO748 hk; replace HK := upK HK hk; replace HB := Aside0.mk (hb); replace HI0 := Aside0.mk (hi); (try clear hb); (try clear hb2); (try clear hk); (try clear hi)) | ((with_reducible refine gate_callee (f := 148) rfl ?_); refine goesA (some 57) Try.func148 #[.int .i64 t749, .int .i64 2] ?_; (with_reducible refine (spec_PowersDots.calls kj38 t749 2 t752 t753 _ A45.out).mono ?_); rintro e w59 ⟨v754, rfl, ho0, hb⟩; refine ⟨_, rfl, ?_⟩; have HO755 := Aside0.mk (Kd.R_lower (Kd.R_new' (Kd.R_new' ho0 (ltR HO_6)) (ltR HO748)) (szK HK)); replace HO_6 := eldRR HO_6 ho0 hb; replace HO748 := eldRR HO748 ho0 hb; replace HI0 := IsS68.up HI0 hb; replace HK := upKB HK hb; replace HB := upB HB hb; (try clear hb); (try clear hb2); (try clear hk); (try clear hi); (try clear ho0); obtain ⟨Ao60, co60, eo60⟩ := Kd.R_slice HO755.out; subst eo60))
          go_ret
          exact ⟨_, eqr, by (with_reducible repeat (first | apply Kd.R_alloc | apply Kd.R_drewN | apply Kd.R_drew)); exact Kd.R_mono HO755.out (fun _ hk => trivial), IsS68.at HI0, atB HB, atK HK⟩
        ·replace c43 := Bool.eq_false_iff.mpr c43
         subst c43
         have H1 : (if t730 = 5 then (spec_l1Cur_dots.j2 kj38 (wrap64 (1 + t721)) x6_1 t730 (t730 == 5) s0_0 t731 t732) else (spec_l1Cur_dots.j2 kj38 (wrap64 (1 + t721)) x6_1 t730 (t730 == 6) s0_0 t731 t732)) = some (r1, r2, r3) := by rw [if_neg (show ¬ (false = true) by decide)] at H; exact H
         clear H
         have H := H1
         clear H1
         have HC61 := Aside0.mk H
         clear H
         go_upto_if 60 with (fail)
         go_cut [60] (fun v60 wc => ∃ (kq : Nat) (x60_60 : Bool), v60 = .bool x60_60 ∧ Aside0 (spec_l1Cur_dots.j2 kq (wrap64 (1 + t721)) x6_1 t730 x60_60 s0_0 t731 t732 = some (r1, r2, r3)) ∧ Aside0 (kq ≤ kj38) ∧ Aside0 (Kd.R (Kd.int .i64) 3 wc w.heap.size (fun _ => True) u6 x6_1) ∧ Aside0 (IsS68 w0 wc g s0_0 t731 t732) ∧ Aside0 (KeepBut w wc g none) ∧ Aside0 (Below w0.heap.size w0 wc))
         case first =>
          have H := HC61.out
          clear HC61
          by_cases c62 : t730 = 5
          ·rw [if_pos c62] at H
           have c62b0 : (t730 == 5) = true := beq_iff_eq.mpr c62
           have c62b1 : (t730 != 5) = false := bne_eq_false_iff_eq.mpr c62
           clear c62
           (first | rw [c62b0] | (simp only [i64_w, i32_w]; rw [c62b0]) | skip)
           have H' := Aside0.mk H
           clear H
           go_wp2
           go_meet
           case rel => exact ⟨_, ((t730 == 5)), eqd, H', ⟨by have := HK1.out; have := HJ38.out; first | omega | exact Nat.le_refl _⟩, ⟨atR HO_6⟩, ⟨IsS68.at HI0⟩, ⟨atK HK⟩, ⟨atB HB⟩⟩
          ·rw [if_neg c62] at H
           have c62b0 : (t730 == 5) = false := beq_eq_false_iff_ne.mpr c62
           have c62b1 : (t730 != 5) = true := bne_iff_ne.mpr c62
           (first | rw [c62b0] | (simp only [i64_w, i32_w]; rw [c62b0]) | skip)
           have H' := Aside0.mk H
           clear H
           go_wp2
           go_meet
           case rel => exact ⟨_, ((t730 == 6)), eqd, H', ⟨by have := HK1.out; have := HJ38.out; first | omega | exact Nat.le_refl _⟩, ⟨atR HO_6⟩, ⟨IsS68.at HI0⟩, ⟨atK HK⟩, ⟨atB HB⟩⟩
         case rest =>
          clear HC61
          try clear c1
          try clear p1
          try clear q1
          try clear hx1
          try clear p2
          try clear c3
          try clear c4
          try clear c5
          try clear c5b0
          try clear c6
          try clear p6
          try clear c9
          try clear c10
          try clear c11
          try clear c12
          try clear c12b0
          try clear c12b1
          try clear c14
          try clear c15
          try clear c15b0
          try clear c16
          try clear c16b0
          try clear p17
          try clear q17
          try clear hx17
          try clear hf17
          try clear c18
          try clear c18b0
          try clear c18b1
          try clear c18b2
          try clear c37
          try clear c37b0
          try clear c37b1
          try clear c41
          try clear c41b0
          try clear c41b1
          try clear c42
          try clear c42b0
          try clear c42b1
          try clear c43
          try clear c46
          try clear c46b0
          try clear c46b1
          try clear c46b2
          try clear c62
          try clear c62b0
          try clear c62b1
          try clear hx17_0
          try clear p1
          try clear p17
          try clear p2
          try clear p6
          try clear q1
          try clear q17
          obtain ⟨kq, x60_60, rfl, HA, HJ60, HO_6, HI0, HK, HB⟩ := hcut
          cases kq with
          | zero => exact absurd HA.out (by simp [spec_l1Cur_dots.j2])
          | succ kj60 =>
           have H := HA.out
           clear HA
           simp only [spec_l1Cur_dots.j2] at H
           by_cases c63 : x60_60 = true
           ·subst c63
            have H1 : ((spec_l1Cur_among.f s0_0 t731 t732 (([2, 3] : List Int))).bind fun bt762 => ((spec_l1Cur_among.f s0_0 bt762.2.1 bt762.2.2 (([2, 3] : List Int))).bind fun bt768 => ((spec_LogsDots.f kj60 5 bt762.1 bt768.1).bind fun bt771 => (if (bt771.1.length : Int) = 0 then (some ((([0, 1, 3, 2] : List Int)), bt768.2.1, bt768.2.2)) else (some (bt771.1, bt768.2.1, bt768.2.2)))))) = some (r1, r2, r3) := by rw [if_pos rfl] at H; exact H
            clear H
            have H := H1
            clear H1
            obtain ⟨y759, hy759⟩ : ∃ y_ : List Int, y_ = (([2, 3] : List Int)) := ⟨_, rfl⟩
            replace H : ((spec_l1Cur_among.f s0_0 t731 t732 y759).bind fun bt762 => ((spec_l1Cur_among.f s0_0 bt762.2.1 bt762.2.2 (([2, 3] : List Int))).bind fun bt768 => ((spec_LogsDots.f kj60 5 bt762.1 bt768.1).bind fun bt771 => (if (bt771.1.length : Int) = 0 then (some ((([0, 1, 3, 2] : List Int)), bt768.2.1, bt768.2.2)) else (some (bt771.1, bt768.2.1, bt768.2.2)))))) = some (r1, r2, r3) := by first | (rw [hy759]; with_reducible exact H) | (have H2_ := (Option.bind_some _ _).symm.trans H; rw [hy759]; with_reducible exact H2_) | (have H2_ := (Option.bind_some _ _).symm.trans H; with_reducible exact H2_) | with_reducible exact H | (rw [hy759]; exact H) | exact H
            have Ny759 := Aside0.mk hy759
            clear hy759
            replace H := Option.bind_eq_some_iff.mp H
            obtain ⟨⟨t762, t763, t764⟩, A640, H⟩ := H
            replace H : ((spec_l1Cur_among.f s0_0 t763 t764 (([2, 3] : List Int))).bind fun bt768 => ((spec_LogsDots.f kj60 5 t762 bt768.1).bind fun bt771 => (if (bt771.1.length : Int) = 0 then (some ((([0, 1, 3, 2] : List Int)), bt768.2.1, bt768.2.2)) else (some (bt771.1, bt768.2.1, bt768.2.2))))) = some (r1, r2, r3) := H
            have A64 := Aside0.mk A640
            clear A640
            obtain ⟨y765, hy765⟩ : ∃ y_ : List Int, y_ = (([2, 3] : List Int)) := ⟨_, rfl⟩
            replace H : ((spec_l1Cur_among.f s0_0 t763 t764 y765).bind fun bt768 => ((spec_LogsDots.f kj60 5 t762 bt768.1).bind fun bt771 => (if (bt771.1.length : Int) = 0 then (some ((([0, 1, 3, 2] : List Int)), bt768.2.1, bt768.2.2)) else (some (bt771.1, bt768.2.1, bt768.2.2))))) = some (r1, r2, r3) := by first | (rw [hy765]; with_reducible exact H) | (have H2_ := (Option.bind_some _ _).symm.trans H; rw [hy765]; with_reducible exact H2_) | (have H2_ := (Option.bind_some _ _).symm.trans H; with_reducible exact H2_) | with_reducible exact H | (rw [hy765]; exact H) | exact H
            have Ny765 := Aside0.mk hy765
            clear hy765
            replace H := Option.bind_eq_some_iff.mp H
            obtain ⟨⟨t768, t769, t770⟩, A650, H⟩ := H
            replace H : ((spec_LogsDots.f kj60 5 t762 t768).bind fun bt771 => (if (bt771.1.length : Int) = 0 then (some ((([0, 1, 3, 2] : List Int)), t769, t770)) else (some (bt771.1, t769, t770)))) = some (r1, r2, r3) := H
            have A65 := Aside0.mk A650
            clear A650
            replace H := Option.bind_eq_some_iff.mp H
            obtain ⟨⟨t771, t772⟩, A660, H⟩ := H
            replace H : (if (t771.length : Int) = 0 then (some ((([0, 1, 3, 2] : List Int)), t769, t770)) else (some (t771, t769, t770))) = some (r1, r2, r3) := H
            have A66 := Aside0.mk A660
            clear A660
            by_cases c67 : (t771.length : Int) = 0
            ·rw [if_pos c67] at H
             have c67b0 : ((t771.length : Int) == 0) = true := beq_iff_eq.mpr c67
             have c67b1 : ((t771.length : Int) != 0) = false := bne_eq_false_iff_eq.mpr c67
             clear c67
             obtain ⟨y775, hy775⟩ : ∃ y_ : List Int, y_ = (([0, 1, 3, 2] : List Int)) := ⟨_, rfl⟩
             replace H : (some (y775, t769, t770)) = some (r1, r2, r3) := by first | (rw [hy775]; with_reducible exact H) | (have H2_ := (Option.bind_some _ _).symm.trans H; rw [hy775]; with_reducible exact H2_) | (have H2_ := (Option.bind_some _ _).symm.trans H; with_reducible exact H2_) | with_reducible exact H | (rw [hy775]; exact H) | exact H
             have Ny775 := Aside0.mk hy775
             clear hy775
             simp only [Option.some.injEq, Prod.mk.injEq] at H
             obtain ⟨rfl, rfl, rfl⟩ := H
             go_wp2_with (first | ((with_reducible refine gate_dst (N := 65) rfl ?_); refine Kd.R_lit (Kd.int .i64) _ 3 ?hg (N := 65) ?hd (xs := ([2, 3] : List Int)) (inner := [.int .i64 2, .int .i64 3]) (ok := fun _ => True) (okp := fun _ => True) ?hr ?hp (fun _ hk => hk) trivial (Below.refl _ _) (Nat.le_refl _) (by simp) ?_; (case hd => rfl); (case hg => rfl); (case hr => first | (go_simp; done) | (go_simp; rfl)); (case hp => exact repsI _); intro v760 w68 ho69 hb hg_ hnew_; clear hg_ hnew_; (first | rw [← Ny759.out] at ho69 | (simp only [Int.reduceToNat] at ho69; rw [← Ny759.out] at ho69)); have HO761 := Aside0.mk (Kd.R_lower (Kd.R_new' ho69 (ltR HO_6)) (szK HK)); replace HO_6 := eldRR HO_6 ho69 hb; replace HI0 := IsS68.up HI0 hb; replace HK := upKB HK hb; replace HB := upB HB hb; clear hb ho69; obtain ⟨Ao70, co70, eo70⟩ := Kd.R_slice HO761.out; subst eo70) | ((with_reducible refine gate_callee (f := 109) rfl ?_); refine goesA (some 66) Try.func109 #[.pointer (some ⟨g, 0, none⟩), .slice Ao70 y759.length co70] ?_; (with_reducible refine (spec_l1Cur_among.calls g s0_0 t731 t732 _ _ y759 t762 t763 t764 w0 _ ?side1 ?side2 ?side3 ?side4 ?side5 A64.out).mono ?_); (case side1 => exact IsS68.at HI0); (case side2 => exact atB HB); (case side3 => exact atRC HO761); (case side4 => exact (Kd.R_reads' HO761.out).2.1); (case side5 => exact far_slice (IsS68.own_ne HI0.out HO761.out (by decide))); rintro e w71 ⟨rfl, hi, hb, hk⟩; refine ⟨_, rfl, ?_⟩; replace HO_6 := IsS68.keepR HI0 HO_6 hk; replace HO761 := IsS68.keepR HI0 HO761 hk; replace HK := upK HK hk; replace HB := Aside0.mk (hb); replace HI0 := Aside0.mk (hi); (try clear hb); (try clear hb2); (try clear hk); (try clear hi)) | ((with_reducible refine gate_dst (N := 68) rfl ?_); refine Kd.R_lit (Kd.int .i64) _ 3 ?hg (N := 68) ?hd (xs := ([2, 3] : List Int)) (inner := [.int .i64 2, .int .i64 3]) (ok := fun _ => True) (okp := fun _ => True) ?hr ?hp (fun _ hk => hk) trivial (Below.refl _ _) (Nat.le_refl _) (by simp) ?_; (case hd => rfl); (case hg => rfl); (case hr => first | (go_simp; done) | (go_simp; rfl)); (case hp => exact repsI _); intro v766 w72 ho73 hb hg_ hnew_; clear hg_ hnew_; (first | rw [← Ny765.out] at ho73 | (simp only [Int.reduceToNat] at ho73; rw [← Ny765.out] at ho73)); have HO767 := Aside0.mk (Kd.R_lower (Kd.R_new' (Kd.R_new' ho73 (ltR HO_6)) (ltR HO761)) (szK HK)); replace HO_6 := eldRR HO_6 ho73 hb; replace HO761 := eldRR HO761 ho73 hb; replace HI0 := IsS68.up HI0 hb; replace HK := upKB HK hb; replace HB := upB HB hb; clear hb ho73; obtain ⟨Ao74, co74, eo74⟩ := Kd.R_slice HO767.out; subst eo74) | ((with_reducible refine gate_callee (f := 109) rfl ?_); refine goesA (some 69) Try.func109 #[.pointer (some ⟨g, 0, none⟩), .slice Ao74 y765.length co74] ?_; (with_reducible refine (spec_l1Cur_among.calls g s0_0 t763 t764 _ _ y765 t768 t769 t770 w0 _ ?side1 ?side2 ?side3 ?side4 ?side5 A65.out).mono ?_); (case side1 => exact IsS68.at HI0); (case side2 => exact atB HB); (case side3 => exact atRC HO767); (case side4 => exact (Kd.R_reads' HO767.out).2.1); (case side5 => exact far_slice (IsS68.own_ne HI0.out HO767.out (by decide))); rintro e w75 ⟨rfl, hi, hb, hk⟩; refine ⟨_, rfl, ?_⟩; replace HO_6 := IsS68.keepR HI0 HO_6 hk; replace HO761 := IsS68.keepR HI0 HO761 hk; replace HO767 := IsS68.keepR HI0 HO767 hk; replace HK := upK HK hk; replace HB := Aside0.mk (hb); replace HI0 := Aside0.mk (hi); (try clear hb); (try clear hb2); (try clear hk); (try clear hi)) | ((with_reducible refine gate_callee (f := 149) rfl ?_); refine goesA (some 70) Try.func149 #[.int .i64 5, .int .i64 t762, .int .i64 t768] ?_; (with_reducible refine (spec_LogsDots.calls kj60 5 t762 t768 t771 t772 _ A66.out).mono ?_); rintro e w76 ⟨v773, rfl, ho0, hb⟩; refine ⟨_, rfl, ?_⟩; have HO774 := Aside0.mk (Kd.R_lower (Kd.R_new' (Kd.R_new' (Kd.R_new' ho0 (ltR HO_6)) (ltR HO761)) (ltR HO767)) (szK HK)); replace HO_6 := eldRR HO_6 ho0 hb; replace HO761 := eldRR HO761 ho0 hb; replace HO767 := eldRR HO767 ho0 hb; replace HI0 := IsS68.up HI0 hb; replace HK := upKB HK hb; replace HB := upB HB hb; (try clear hb); (try clear hb2); (try clear hk); (try clear hi); (try clear ho0); obtain ⟨Ao77, co77, eo77⟩ := Kd.R_slice HO774.out; subst eo77) | ((with_reducible refine gate_dst (N := 83) rfl ?_); refine Kd.R_lit (Kd.int .i64) _ 3 ?hg (N := 83) ?hd (xs := ([0, 1, 3, 2] : List Int)) (inner := [.int .i64 0, .int .i64 1, .int .i64 3, .int .i64 2]) (ok := fun _ => True) (okp := fun _ => True) ?hr ?hp (fun _ hk => hk) trivial (Below.refl _ _) (Nat.le_refl _) (by simp) ?_; (case hd => rfl); (case hg => rfl); (case hr => first | (go_simp; done) | (go_simp; rfl)); (case hp => exact repsI _); intro v776 w78 ho79 hb hg_ hnew_; clear hg_ hnew_; (first | rw [← Ny775.out] at ho79 | (simp only [Int.reduceToNat] at ho79; rw [← Ny775.out] at ho79)); have HO777 := Aside0.mk (Kd.R_lower (Kd.R_new' (Kd.R_new' (Kd.R_new' (Kd.R_new' ho79 (ltR HO_6)) (ltR HO761)) (ltR HO767)) (ltR HO774)) (szK HK)); replace HO_6 := eldRR HO_6 ho79 hb; replace HO761 := eldRR HO761 ho79 hb; replace HO767 := eldRR HO767 ho79 hb; replace HO774 := eldRR HO774 ho79 hb; replace HI0 := IsS68.up HI0 hb; replace HK := upKB HK hb; replace HB := upB HB hb; clear hb ho79))
             go_ret
             exact ⟨_, eqr, by (with_reducible repeat (first | apply Kd.R_alloc | apply Kd.R_drewN | apply Kd.R_drew)); exact Kd.R_mono HO777.out (fun _ hk => trivial), IsS68.at HI0, atB HB, atK HK⟩
            ·rw [if_neg c67] at H
             have c67b0 : ((t771.length : Int) == 0) = false := beq_eq_false_iff_ne.mpr c67
             have c67b1 : ((t771.length : Int) != 0) = true := bne_iff_ne.mpr c67
             have c67b2 : ¬ (t771 = []) := fun h_ => c67 (by rw [h_]; rfl)
             simp only [Option.some.injEq, Prod.mk.injEq] at H
             obtain ⟨rfl, rfl, rfl⟩ := H
             go_wp2_with (first | ((with_reducible refine gate_dst (N := 65) rfl ?_); refine Kd.R_lit (Kd.int .i64) _ 3 ?hg (N := 65) ?hd (xs := ([2, 3] : List Int)) (inner := [.int .i64 2, .int .i64 3]) (ok := fun _ => True) (okp := fun _ => True) ?hr ?hp (fun _ hk => hk) trivial (Below.refl _ _) (Nat.le_refl _) (by simp) ?_; (case hd => rfl); (case hg => rfl); (case hr => first | (go_simp; done) | (go_simp; rfl)); (case hp => exact repsI _); intro v760 w80 ho81 hb hg_ hnew_; clear hg_ hnew_; (first | rw [← Ny759.out] at ho81 | (simp only [Int.reduceToNat] at ho81; rw [← Ny759.out] at ho81)); have HO761 := Aside0.mk (Kd.R_lower (Kd.R_new' ho81 (ltR HO_6)) (szK HK)); replace HO_6 := eldRR HO_6 ho81 hb; replace HI0 := IsS68.up HI0 hb; replace HK := upKB HK hb; replace HB := upB HB hb; clear hb ho81; obtain ⟨Ao82, co82, eo82⟩ := Kd.R_slice HO761.out; subst eo82) | ((with_reducible refine gate_callee (f := 109) rfl ?_); refine goesA (some 66) Try.func109 #[.pointer (some ⟨g, 0, none⟩), .slice Ao82 y759.length co82] ?_; (with_reducible refine (spec_l1Cur_among.calls g s0_0 t731 t732 _ _ y759 t762 t763 t764 w0 _ ?side1 ?side2 ?side3 ?side4 ?side5 A64.out).mono ?_); (case side1 => exact IsS68.at HI0); (case side2 => exact atB HB); (case side3 => exact atRC HO761); (case side4 => exact (Kd.R_reads' HO761.out).2.1); (case side5 => exact far_slice (IsS68.own_ne HI0.out HO761.out (by decide))); rintro e w83 ⟨rfl, hi, hb, hk⟩; refine ⟨_, rfl, ?_⟩; replace HO_6 := IsS68.keepR HI0 HO_6 hk; replace HO761 := IsS68.keepR HI0 HO761 hk; replace HK := upK HK hk; replace HB := Aside0.mk (hb); replace HI0 := Aside0.mk (hi); (try clear hb); (try clear hb2); (try clear hk); (try clear hi)) | ((with_reducible refine gate_dst (N := 68) rfl ?_); refine Kd.R_lit (Kd.int .i64) _ 3 ?hg (N := 68) ?hd (xs := ([2, 3] : List Int)) (inner := [.int .i64 2, .int .i64 3]) (ok := fun _ => True) (okp := fun _ => True) ?hr ?hp (fun _ hk => hk) trivial (Below.refl _ _) (Nat.le_refl _) (by simp) ?_; (case hd => rfl); (case hg => rfl); (case hr => first | (go_simp; done) | (go_simp; rfl)); (case hp => exact repsI _); intro v766 w84 ho85 hb hg_ hnew_; clear hg_ hnew_; (first | rw [← Ny765.out] at ho85 | (simp only [Int.reduceToNat] at ho85; rw [← Ny765.out] at ho85)); have HO767 := Aside0.mk (Kd.R_lower (Kd.R_new' (Kd.R_new' ho85 (ltR HO_6)) (ltR HO761)) (szK HK)); replace HO_6 := eldRR HO_6 ho85 hb; replace HO761 := eldRR HO761 ho85 hb; replace HI0 := IsS68.up HI0 hb; replace HK := upKB HK hb; replace HB := upB HB hb; clear hb ho85; obtain ⟨Ao86, co86, eo86⟩ := Kd.R_slice HO767.out; subst eo86) | ((with_reducible refine gate_callee (f := 109) rfl ?_); refine goesA (some 69) Try.func109 #[.pointer (some ⟨g, 0, none⟩), .slice Ao86 y765.length co86] ?_; (with_reducible refine (spec_l1Cur_among.calls g s0_0 t763 t764 _ _ y765 t768 t769 t770 w0 _ ?side1 ?side2 ?side3 ?side4 ?side5 A65.out).mono ?_); (case side1 => exact IsS68.at HI0); (case side2 => exact atB HB); (case side3 => exact atRC HO767); (case side4 => exact (Kd.R_reads' HO767.out).2.1); (case side5 => exact far_slice (IsS68.own_ne HI0.out HO767.out (by decide))); rintro e w87 ⟨rfl, hi, hb, hk⟩; refine ⟨_, rfl, ?_⟩; replace HO_6 := IsS68.keepR HI0 HO_6 hk; replace HO761 := IsS68.keepR HI0 HO761 hk; replace HO767 := IsS68.keepR HI0 HO767 hk; replace HK := upK HK hk; replace HB := Aside0.mk (hb); replace HI0 := Aside0.mk (hi); (try clear hb); (try clear hb2); (try clear hk); (try clear hi)) | ((with_reducible refine gate_callee (f := 149) rfl ?_); refine goesA (some 70) Try.func149 #[.int .i64 5, .int .i64 t762, .int .i64 t768] ?_; (with_reducible refine (spec_LogsDots.calls kj60 5 t762 t768 t771 t772 _ A66.out).mono ?_); rintro e w88 ⟨v773, rfl, ho0, hb⟩; refine ⟨_, rfl, ?_⟩; have HO774 := Aside0.mk (Kd.R_lower (Kd.R_new' (Kd.R_new' (Kd.R_new' ho0 (ltR HO_6)) (ltR HO761)) (ltR HO767)) (szK HK)); replace HO_6 := eldRR HO_6 ho0 hb; replace HO761 := eldRR HO761 ho0 hb; replace HO767 := eldRR HO767 ho0 hb; replace HI0 := IsS68.up HI0 hb; replace HK := upKB HK hb; replace HB := upB HB hb; (try clear hb); (try clear hb2); (try clear hk); (try clear hi); (try clear ho0); obtain ⟨Ao89, co89, eo89⟩ := Kd.R_slice HO774.out; subst eo89))
             go_ret
             exact ⟨_, eqr, by (with_reducible repeat (first | apply Kd.R_alloc | apply Kd.R_drewN | apply Kd.R_drew)); exact Kd.R_mono HO774.out (fun _ hk => trivial), IsS68.at HI0, atB HB, atK HK⟩
           ·replace c63 := Bool.eq_false_iff.mpr c63
            subst c63
            have H1 : (if t730 = 7 then ((some (([0] : List Int) : List Int)).bind fun y778 => ((spec_l1Cur_dotsUp.f kj60 s0_0 t731 t732 (wrap64 (1 + t721))).bind fun bt781 => (if y778.length + bt781.1.length < 17592186044416 then (some ((y778 ++ bt781.1), bt781.2.1, bt781.2.2)) else (none)))) else (if (x6_1.length : Int) = 0 then (some ((([0, 1, 3, 2] : List Int)), t731, t732)) else (some (x6_1, t731, t732)))) = some (r1, r2, r3) := by rw [if_neg (show ¬ (false = true) by decide)] at H; exact H
            clear H
            have H := H1
            clear H1
            by_cases c90 : t730 = 7
            ·rw [if_pos c90] at H
             have c90b0 : (t730 == 7) = true := beq_iff_eq.mpr c90
             have c90b1 : (t730 != 7) = false := bne_eq_false_iff_eq.mpr c90
             clear c90
             obtain ⟨y778, hy778⟩ : ∃ y_ : List Int, y_ = (([0] : List Int)) := ⟨_, rfl⟩
             replace H : ((spec_l1Cur_dotsUp.f kj60 s0_0 t731 t732 (wrap64 (1 + t721))).bind fun bt781 => (if y778.length + bt781.1.length < 17592186044416 then (some ((y778 ++ bt781.1), bt781.2.1, bt781.2.2)) else (none))) = some (r1, r2, r3) := by first | (rw [hy778]; with_reducible exact H) | (have H2_ := (Option.bind_some _ _).symm.trans H; rw [hy778]; with_reducible exact H2_) | (have H2_ := (Option.bind_some _ _).symm.trans H; with_reducible exact H2_) | with_reducible exact H | (rw [hy778]; exact H) | exact H
             have Ny778 := Aside0.mk hy778
             clear hy778
             replace H := Option.bind_eq_some_iff.mp H
             obtain ⟨⟨t781, t784, t785⟩, A910, H⟩ := H
             replace H : (if y778.length + t781.length < 17592186044416 then (some ((y778 ++ t781), t784, t785)) else (none)) = some (r1, r2, r3) := H
             have A91 := Aside0.mk A910
             clear A910
             by_cases c92 : y778.length + t781.length < 17592186044416
             ·rw [if_pos c92] at H
              have LMc92 := Aside0.mk c92
              clear c92
              obtain ⟨y786, hy786⟩ : ∃ y_ : List Int, y_ = (y778 ++ t781) := ⟨_, rfl⟩
              replace H : (some (y786, t784, t785)) = some (r1, r2, r3) := by first | (rw [hy786]; with_reducible exact H) | (have H2_ := (Option.bind_some _ _).symm.trans H; rw [hy786]; with_reducible exact H2_) | (have H2_ := (Option.bind_some _ _).symm.trans H; with_reducible exact H2_) | with_reducible exact H | (rw [hy786]; exact H) | exact H
              have Ny786 := Aside0.mk hy786
              clear hy786
              simp only [Option.some.injEq, Prod.mk.injEq] at H
              obtain ⟨rfl, rfl, rfl⟩ := H
              go_wp2_with (first | ((with_reducible refine gate_dst (N := 75) rfl ?_); refine Kd.R_lit (Kd.int .i64) _ 3 ?hg (N := 75) ?hd (xs := ([0] : List Int)) (inner := [.int .i64 0]) (ok := fun _ => True) (okp := fun _ => True) ?hr ?hp (fun _ hk => hk) trivial (Below.refl _ _) (Nat.le_refl _) (by simp) ?_; (case hd => rfl); (case hg => rfl); (case hr => first | (go_simp; done) | (go_simp; rfl)); (case hp => exact repsI _); intro v779 w93 ho94 hb hg_ hnew_; clear hg_ hnew_; (first | rw [← Ny778.out] at ho94 | (simp only [Int.reduceToNat] at ho94; rw [← Ny778.out] at ho94)); have HO780 := Aside0.mk (Kd.R_lower (Kd.R_new' ho94 (ltR HO_6)) (szK HK)); replace HO_6 := eldRR HO_6 ho94 hb; replace HI0 := IsS68.up HI0 hb; replace HK := upKB HK hb; replace HB := upB HB hb; clear hb ho94) | ((with_reducible refine gate_callee (f := 150) rfl ?_); refine goesA (some 78) Try.func150 #[.pointer (some ⟨g, 0, none⟩), .int .i64 (wrap64 (1 + t721))] ?_; (with_reducible refine (spec_l1Cur_dotsUp.calls kj60 g s0_0 t731 t732 (wrap64 (1 + t721)) t781 t784 t785 w0 _ ?side1 ?side2 A91.out).mono ?_); (case side1 => exact IsS68.at HI0); (case side2 => exact atB HB); rintro e w95 ⟨v782, rfl, ho0, hi, hb, hk⟩; refine ⟨_, rfl, ?_⟩; have HO783 := Aside0.mk (Kd.R_lower (Kd.R_new' (Kd.R_new' ho0 (ltR HO_6)) (ltR HO780)) (szK HK)); replace HO_6 := Aside0.mk (Kd.R_mono (Kd.R_told (Kd.R_oldK (IsS68.apart (show IsS68 w0 _ g s0_0 t731 t732 from IsS68.at HI0) (atR HO_6) (by decide)) hk) (Kd.R_base ho0)) (fun _ h_ => h_.1)); replace HO780 := Aside0.mk (Kd.R_mono (Kd.R_told (Kd.R_oldK (IsS68.apart (show IsS68 w0 _ g s0_0 t731 t732 from IsS68.at HI0) (atR HO780) (by decide)) hk) (Kd.R_base ho0)) (fun _ h_ => h_.1)); replace HK := upK HK hk; replace HB := Aside0.mk (hb); replace HI0 := Aside0.mk (hi); (try clear hb); (try clear hb2); (try clear hk); (try clear hi); (try clear ho0); obtain ⟨Ao97, co97, eo97⟩ := Kd.R_slice HO783.out; subst eo97) | ((with_reducible refine gate_builtin (b := .append) (xs := #[.tmp 75, .tmp 78]) rfl ?_); at_builtin; refine Kd.R_append_rows (Kd.int .i64) w.heap.size rfl (.tmp 75) (.tmp 78) 24 3 (.int .i64 0) 8 rfl Try.underlying24 info3 rfl (by decide) (by omega) v779 y778 t781 _ _ _ (fun k_ => some k_ ≠ (u6 : Value).ownBlock ∧ some k_ ≠ (.slice Ao97 t781.length co97 : Value).ownBlock) (fun _ => False) rfl rfl ?aO ?aR (fun _ _ h => h) (fun _ h => h.elim) ?aF (Below.refl _ _) ?aS ?aL ?_; (case aR => exact atRC HO783); (case aF => exact (fun k_ hk => ⟨Kd.fresh' (ltR HO_6) k_ hk, Kd.fresh' (ltR HO783) k_ hk⟩)); (case aO => exact (by (with_reducible repeat (first | apply Kd.R_alloc | apply Kd.R_drewN | apply Kd.R_drew)); exact Kd.R_mono HO780.out (fun _ hk => ⟨hk.1.2, hk.2⟩))); (case aS => exact (szK HK)); (case aL => have := LMc92.out; omega); intro v787 w96 ho hb hg hat; rw [← Ny786.out] at ho; have HO788 := Aside0.mk (ho); replace HO_6 := Aside0.mk (Kd.R_after (ok := (fun k_ => some k_ ≠ (.slice Ao97 t781.length co97 : Value).ownBlock)) (by (with_reducible repeat (first | apply Kd.R_alloc | apply Kd.R_drewN | apply Kd.R_drew)); exact Kd.R_mono HO_6.out (fun _ hk => ⟨hk.2, hk.1.2⟩)) hg hat); replace HI0 := Aside0.mk (IsS68.grown (IsS68.at HI0) hg (IsS68.own_ne HI0.out HO780.out (by decide))); replace HO783 := Aside0.mk (Kd.R_after (ok := (fun k_ => some k_ ≠ (u6 : Value).ownBlock)) (by (with_reducible repeat (first | apply Kd.R_alloc | apply Kd.R_drewN | apply Kd.R_drew)); exact Kd.R_mono HO783.out (fun _ hk => ⟨hk.1.2, hk.2⟩)) hg hat); replace HB := Aside0.mk (below_weaken (atB HB) HL.out hb); replace HK := Aside0.mk (KeepBut.trans (atK HK) (KeepBut.of_grown hg g) (Kd.R_base2 HO780.out)); clear HO780; clear ho hb hg hat))
              go_ret
              exact ⟨_, eqr, by (with_reducible repeat (first | apply Kd.R_alloc | apply Kd.R_drewN | apply Kd.R_drew)); exact Kd.R_mono HO788.out (fun _ hk => trivial), IsS68.at HI0, atB HB, atK HK⟩
             ·rw [if_neg c92] at H
              exact absurd H (by simp)
            ·rw [if_neg c90] at H
             have c90b0 : (t730 == 7) = false := beq_eq_false_iff_ne.mpr c90
             have c90b1 : (t730 != 7) = true := bne_iff_ne.mpr c90
             by_cases c98 : (x6_1.length : Int) = 0
             ·rw [if_pos c98] at H
              have c98b0 : ((x6_1.length : Int) == 0) = true := beq_iff_eq.mpr c98
              have c98b1 : ((x6_1.length : Int) != 0) = false := bne_eq_false_iff_eq.mpr c98
              clear c98
              obtain ⟨y789, hy789⟩ : ∃ y_ : List Int, y_ = (([0, 1, 3, 2] : List Int)) := ⟨_, rfl⟩
              replace H : (some (y789, t731, t732)) = some (r1, r2, r3) := by first | (rw [hy789]; with_reducible exact H) | (have H2_ := (Option.bind_some _ _).symm.trans H; rw [hy789]; with_reducible exact H2_) | (have H2_ := (Option.bind_some _ _).symm.trans H; with_reducible exact H2_) | with_reducible exact H | (rw [hy789]; exact H) | exact H
              have Ny789 := Aside0.mk hy789
              clear hy789
              simp only [Option.some.injEq, Prod.mk.injEq] at H
              obtain ⟨rfl, rfl, rfl⟩ := H
              obtain ⟨Ao99, co99, eo99⟩ := Kd.R_slice HO_6.out
              subst eo99
              go_wp2_with (first | ((with_reducible refine gate_dst (N := 83) rfl ?_); refine Kd.R_lit (Kd.int .i64) _ 3 ?hg (N := 83) ?hd (xs := ([0, 1, 3, 2] : List Int)) (inner := [.int .i64 0, .int .i64 1, .int .i64 3, .int .i64 2]) (ok := fun _ => True) (okp := fun _ => True) ?hr ?hp (fun _ hk => hk) trivial (Below.refl _ _) (Nat.le_refl _) (by simp) ?_; (case hd => rfl); (case hg => rfl); (case hr => first | (go_simp; done) | (go_simp; rfl)); (case hp => exact repsI _); intro v790 w100 ho101 hb hg_ hnew_; clear hg_ hnew_; (first | rw [← Ny789.out] at ho101 | (simp only [Int.reduceToNat] at ho101; rw [← Ny789.out] at ho101)); have HO791 := Aside0.mk (Kd.R_lower (Kd.R_new' ho101 (ltR HO_6)) (szK HK)); replace HO_6 := eldRR HO_6 ho101 hb; replace HI0 := IsS68.up HI0 hb; replace HK := upKB HK hb; replace HB := upB HB hb; clear hb ho101))
              go_ret
              exact ⟨_, eqr, by (with_reducible repeat (first | apply Kd.R_alloc | apply Kd.R_drewN | apply Kd.R_drew)); exact Kd.R_mono HO791.out (fun _ hk => trivial), IsS68.at HI0, atB HB, atK HK⟩
             ·rw [if_neg c98] at H
              have c98b0 : ((x6_1.length : Int) == 0) = false := beq_eq_false_iff_ne.mpr c98
              have c98b1 : ((x6_1.length : Int) != 0) = true := bne_iff_ne.mpr c98
              have c98b2 : ¬ (x6_1 = []) := fun h_ => c98 (by rw [h_]; rfl)
              simp only [Option.some.injEq, Prod.mk.injEq] at H
              obtain ⟨rfl, rfl, rfl⟩ := H
              obtain ⟨Ao102, co102, eo102⟩ := Kd.R_slice HO_6.out
              subst eo102
              go_wp2
              go_ret
              exact ⟨_, eqr, atR HO_6, IsS68.at HI0, atB HB, atK HK⟩
noncomputable def spec_l1Cur_dots.L0 (x5 : Int) (x6 : List Int) (x7 : Int) (x1000 : List Int) (x1001 : Int) (x1002 : Int) : Option (List Int × Int × Int) := lim fun k => spec_l1Cur_dots.l0 k x5 x6 x7 x1000 x1001 x1002
theorem spec_l1Cur_dots.L0_lim (x5 : Int) (x6 : List Int) (x7 : Int) (x1000 : List Int) (x1001 : Int) (x1002 : Int) : Lim (fun k => spec_l1Cur_dots.l0 k x5 x6 x7 x1000 x1001 x1002) (spec_l1Cur_dots.L0 x5 x6 x7 x1000 x1001 x1002) := Lim.of fun k => (spec_l1Cur_dots.mono_l k).1 x5 x6 x7 x1000 x1001 x1002
noncomputable def spec_l1Cur_dots.J1 (x5 : Int) (x6 : List Int) (x35 : Int) (x49 : Bool) (x1000 : List Int) (x1001 : Int) (x1002 : Int) : Option (List Int × Int × Int) := lim fun k => spec_l1Cur_dots.j1 k x5 x6 x35 x49 x1000 x1001 x1002
theorem spec_l1Cur_dots.J1_lim (x5 : Int) (x6 : List Int) (x35 : Int) (x49 : Bool) (x1000 : List Int) (x1001 : Int) (x1002 : Int) : Lim (fun k => spec_l1Cur_dots.j1 k x5 x6 x35 x49 x1000 x1001 x1002) (spec_l1Cur_dots.J1 x5 x6 x35 x49 x1000 x1001 x1002) := Lim.of fun k => (spec_l1Cur_dots.mono_l k).2.1 x5 x6 x35 x49 x1000 x1001 x1002
noncomputable def spec_l1Cur_dots.J2 (x5 : Int) (x6 : List Int) (x35 : Int) (x60 : Bool) (x1000 : List Int) (x1001 : Int) (x1002 : Int) : Option (List Int × Int × Int) := lim fun k => spec_l1Cur_dots.j2 k x5 x6 x35 x60 x1000 x1001 x1002
theorem spec_l1Cur_dots.J2_lim (x5 : Int) (x6 : List Int) (x35 : Int) (x60 : Bool) (x1000 : List Int) (x1001 : Int) (x1002 : Int) : Lim (fun k => spec_l1Cur_dots.j2 k x5 x6 x35 x60 x1000 x1001 x1002) (spec_l1Cur_dots.J2 x5 x6 x35 x60 x1000 x1001 x1002) := Lim.of fun k => (spec_l1Cur_dots.mono_l k).2.2 x5 x6 x35 x60 x1000 x1001 x1002
noncomputable def spec_l1Cur_dots.F (s0_0 : List Int) (s0_1 : Int) (s0_2 : Int) (a1 : Int) : Option (List Int × Int × Int) := lim fun k => spec_l1Cur_dots.f k s0_0 s0_1 s0_2 a1
theorem spec_l1Cur_dots.F_lim (s0_0 : List Int) (s0_1 : Int) (s0_2 : Int) (a1 : Int) : Lim (fun k => spec_l1Cur_dots.f k s0_0 s0_1 s0_2 a1) (spec_l1Cur_dots.F s0_0 s0_1 s0_2 a1) := Lim.of fun k => spec_l1Cur_dots.mono s0_0 s0_1 s0_2 a1 k
theorem spec_l1Cur_dots.L0_eq (x5 : Int) (x6 : List Int) (x7 : Int) (x1000 : List Int) (x1001 : Int) (x1002 : Int) : spec_l1Cur_dots.L0 x5 x6 x7 x1000 x1001 x1002 = (if x7 < x5 then ((spec_l1Cur_pick.f x1000 x1001 x1002 (wrap64 (x7 + 1))).bind fun bt724 => ((insAt.f x6 bt724.1 x7).bind fun t727 => (spec_l1Cur_dots.L0 x5 t727 (wrap64 (x7 + 1)) x1000 bt724.2.1 bt724.2.2))) else ((spec_l1Cur_pick.f x1000 x1001 x1002 12).bind fun bt730 => (if bt730.1 = 0 then ((spec_l1Cur_pick.f x1000 bt730.2.1 bt730.2.2 x5).bind fun bt733 => ((spec_l1Cur_among.f x1000 bt733.2.1 bt733.2.2 (([(-1), x5, 0, 4611686018427387904] : List Int))).bind fun bt739 => (if 0 ≤ bt733.1 then (if bt733.1 < (x6.length : Int) then (if (x6.length : Int) = 0 then (some ((([0, 1, 3, 2] : List Int)), bt739.2.1, bt739.2.2)) else (some ((x6.set (bt733.1 : Int).toNat bt739.1), bt739.2.1, bt739.2.2))) else (none)) else (none)))) else (if bt730.1 = 1 then (some (([] : List Int), bt730.2.1, bt730.2.2)) else (if bt730.1 = 2 then (spec_l1Cur_dots.J1 x5 x6 bt730.1 (bt730.1 == 2) x1000 bt730.2.1 bt730.2.2) else (if bt730.1 = 3 then (spec_l1Cur_dots.J1 x5 x6 bt730.1 (bt730.1 == 3) x1000 bt730.2.1 bt730.2.2) else (spec_l1Cur_dots.J1 x5 x6 bt730.1 (bt730.1 == 4) x1000 bt730.2.1 bt730.2.2))))))) :=
 Lim.step (f := fun k => spec_l1Cur_dots.l0 (k + 1) x5 x6 x7 x1000 x1001 x1002) (spec_l1Cur_dots.L0_lim x5 x6 x7 x1000 x1001 x1002) (fun _ => rfl) (by
  simp only [spec_l1Cur_dots.l0]
  repeat' (first | (with_reducible first | exact Lim.const _ | exact spec_l1Cur_dots.J1_lim _ _ _ _ _ _ _ | exact spec_l1Cur_dots.L0_lim _ _ _ _ _ _ | refine Lim.ite ?_ ?_ | refine Lim.bind ?_ (fun _ => ?_))))
theorem spec_l1Cur_dots.J1_eq (x5 : Int) (x6 : List Int) (x35 : Int) (x49 : Bool) (x1000 : List Int) (x1001 : Int) (x1002 : Int) : spec_l1Cur_dots.J1 x5 x6 x35 x49 x1000 x1001 x1002 = (if x49 = true then ((spec_l1Cur_among.f x1000 x1001 x1002 (([3, 5, 7, 11] : List Int))).bind fun bt749 => ((spec_PowersDots.F bt749.1 2).bind fun bt752 => (if (bt752.1.length : Int) = 0 then (some ((([0, 1, 3, 2] : List Int)), bt749.2.1, bt749.2.2)) else (some (bt752.1, bt749.2.1, bt749.2.2))))) else (if x35 = 5 then (spec_l1Cur_dots.J2 x5 x6 x35 (x35 == 5) x1000 x1001 x1002) else (spec_l1Cur_dots.J2 x5 x6 x35 (x35 == 6) x1000 x1001 x1002))) :=
 Lim.step (f := fun k => spec_l1Cur_dots.j1 (k + 1) x5 x6 x35 x49 x1000 x1001 x1002) (spec_l1Cur_dots.J1_lim x5 x6 x35 x49 x1000 x1001 x1002) (fun _ => rfl) (by
  simp only [spec_l1Cur_dots.j1]
  repeat' (first | (with_reducible first | exact Lim.const _ | exact spec_PowersDots.F_lim _ _ | exact spec_l1Cur_dots.J2_lim _ _ _ _ _ _ _ | refine Lim.ite ?_ ?_ | refine Lim.bind ?_ (fun _ => ?_))))
theorem spec_l1Cur_dots.J2_eq (x5 : Int) (x6 : List Int) (x35 : Int) (x60 : Bool) (x1000 : List Int) (x1001 : Int) (x1002 : Int) : spec_l1Cur_dots.J2 x5 x6 x35 x60 x1000 x1001 x1002 = (if x60 = true then ((spec_l1Cur_among.f x1000 x1001 x1002 (([2, 3] : List Int))).bind fun bt762 => ((spec_l1Cur_among.f x1000 bt762.2.1 bt762.2.2 (([2, 3] : List Int))).bind fun bt768 => ((spec_LogsDots.F 5 bt762.1 bt768.1).bind fun bt771 => (if (bt771.1.length : Int) = 0 then (some ((([0, 1, 3, 2] : List Int)), bt768.2.1, bt768.2.2)) else (some (bt771.1, bt768.2.1, bt768.2.2)))))) else (if x35 = 7 then ((some (([0] : List Int) : List Int)).bind fun y778 => ((spec_l1Cur_dotsUp.F x1000 x1001 x1002 x5).bind fun bt781 => (if y778.length + bt781.1.length < 17592186044416 then (some ((y778 ++ bt781.1), bt781.2.1, bt781.2.2)) else (none)))) else (if (x6.length : Int) = 0 then (some ((([0, 1, 3, 2] : List Int)), x1001, x1002)) else (some (x6, x1001, x1002))))) :=
 Lim.step (f := fun k => spec_l1Cur_dots.j2 (k + 1) x5 x6 x35 x60 x1000 x1001 x1002) (spec_l1Cur_dots.J2_lim x5 x6 x35 x60 x1000 x1001 x1002) (fun _ => rfl) (by
  simp only [spec_l1Cur_dots.j2]
  repeat' (first | (with_reducible first | exact Lim.const _ | exact spec_LogsDots.F_lim _ _ _ | exact spec_l1Cur_dotsUp.F_lim _ _ _ _ | refine Lim.ite ?_ ?_ | refine Lim.bind ?_ (fun _ => ?_))))
theorem spec_l1Cur_dots.F_eq (s0_0 : List Int) (s0_1 : Int) (s0_2 : Int) (a1 : Int) : spec_l1Cur_dots.F s0_0 s0_1 s0_2 a1 = ((spec_l1Cur_pick.f s0_0 s0_1 s0_2 a1).bind fun bt721 => (spec_l1Cur_dots.L0 (wrap64 (1 + bt721.1)) ([] : List Int) 0 s0_0 bt721.2.1 bt721.2.2)) :=
 Lim.unique (spec_l1Cur_dots.F_lim s0_0 s0_1 s0_2 a1) (by
  unfold spec_l1Cur_dots.f
  repeat' (first | (with_reducible first | exact Lim.const _ | exact spec_l1Cur_dots.L0_lim _ _ _ _ _ _ | refine Lim.ite ?_ ?_ | refine Lim.bind ?_ (fun _ => ?_))))
/-! ### spec_DrawIsCostas: function 53 -/
def spec_DrawIsCostas.f (k : Nat) (l0 : List Int) : Option (List Int) := (spec_l1Cur_dots.f k l0 0 0 6).bind fun bt793 => (some bt793.1)
theorem spec_DrawIsCostas.mono : ∀ a0 k, LeO (spec_DrawIsCostas.f k a0) (spec_DrawIsCostas.f (k + 1) a0) := by
 intro a0 k
 unfold spec_DrawIsCostas.f
 repeat' (first | (with_reducible first | exact spec_l1Cur_dots.mono _ _ _ _ _ | exact LeO.refl _ | exact LeO.none _ | refine LeO.ite ?_ ?_ | refine LeO.bind ?_ (fun _ => ?_)) | exact spec_l1Cur_dots.mono _ _ _ _ _ | exact LeO.none _ | refine LeO.ite ?_ ?_ | refine LeO.bind ?_ (fun _ => ?_))
set_option maxHeartbeats 8000000 in
set_option maxRecDepth 100000 in
theorem spec_DrawIsCostas.calls (k : Nat) (A0 : Option Addr) (c0 : Nat) (l0 : List Int) (r : List Int) (w : World) (hr0 : Kd.C (Kd.int .u8) w A0 l0.length l0) (hc0 : l0.length ≤ c0) (h : spec_DrawIsCostas.f k l0 = some r) :
  Calls Try.prog 53 #[.slice A0 l0.length c0] w fun e w' => ∃ v0_ : Value, e = .returned (v0_) ∧ Kd.R (Kd.int .i64) 3 w' w.heap.size (fun _ => True) v0_ r ∧ Below w.heap.size w w' := by
 have hu68 := Try.underlying68
 have HR0 := Aside0.mk hr0
 have HC0 := Aside0.mk hc0
 clear hr0 hc0
 have HB := Aside0.mk (Below.refl w.heap.size w)
 have H := h
 unfold spec_DrawIsCostas.f at H
 clear h
 replace H := Option.bind_eq_some_iff.mp H
 obtain ⟨⟨t793, t796, t797⟩, A20, H⟩ := H
 replace H : (some t793) = some r := H
 have A2 := Aside0.mk A20
 clear A20
 obtain rfl := Option.some.inj H
 go_enter Try.func53, Try.ntmps53
 go_wp2_with (first | ((with_reducible refine gate_dst (N := 6) rfl ?_); refine box_event ?hg (N := 6) ?hd (cs := #[.slice A0 l0.length c0, .int .i64 0, .int .u64 0]) (t := 68) ?hr ?_; (case hd => rfl); (case hg => rfl); (case hr => first | (go_simp; done) | (go_simp; rfl)); intro gb792 hg w3 hbox hb; have HI792 := Aside0.mk ((⟨_, _, hbox, (by rw [hg]; exact (szB HB) : w.heap.size ≤ gb792), HR0.out⟩ : IsS68 w w3 gb792 l0 0 0)); replace HB := upB HB hb; clear hb hbox hg) | ((with_reducible refine gate_callee (f := 115) rfl ?_); refine goesA (some 8) Try.func115 #[.pointer (some ⟨gb792, 0, none⟩), .int .i64 6] ?_; (with_reducible refine (spec_l1Cur_dots.calls k gb792 l0 0 0 6 t793 t796 t797 w _ ?side1 ?side2 A2.out).mono ?_); (case side1 => exact IsS68.at HI792); (case side2 => exact atB HB); rintro e w4 ⟨v794, rfl, ho0, hi, hb, hk⟩; refine ⟨_, rfl, ?_⟩; have HO795 := lowR ho0 HB; replace HB := Aside0.mk (hb); replace HI792 := Aside0.mk (hi); (try clear hb); (try clear hb2); (try clear hk); (try clear hi); (try clear ho0)))
 go_ret
 exact ⟨_, eqr, atR HO795, atB HB⟩
noncomputable def spec_DrawIsCostas.F (l0 : List Int) : Option (List Int) := lim fun k => spec_DrawIsCostas.f k l0
theorem spec_DrawIsCostas.F_lim (l0 : List Int) : Lim (fun k => spec_DrawIsCostas.f k l0) (spec_DrawIsCostas.F l0) := Lim.of fun k => spec_DrawIsCostas.mono l0 k
theorem spec_DrawIsCostas.F_eq (l0 : List Int) : spec_DrawIsCostas.F l0 = ((spec_l1Cur_dots.F l0 0 0 6).bind fun bt793 => (some bt793.1)) :=
 Lim.unique (spec_DrawIsCostas.F_lim l0) (by
  unfold spec_DrawIsCostas.f
  repeat' (first | (with_reducible first | exact Lim.const _ | exact spec_l1Cur_dots.F_lim _ _ _ _ | refine Lim.ite ?_ ?_ | refine Lim.bind ?_ (fun _ => ?_))))
/-! ### spec_doGood: function 117 -/
def spec_doGood.l0 : Nat → List Int → List Int → Int → Int → Option (Bool)
 | 0, _, _, _, _ => none
 | k + 1, x0, x9, x10, x11 => if x11 < x10 then (if 0 ≤ x11 then (if x11 < (x9.length : Int) then ((spec_l1In.f (rd x9 x11) 0 (wrap64 ((x0.length : Int) - 1))).bind fun t823 => (if t823 = true then (if x11 ≤ (x0.length : Int) then ((spec_l1Has.f k (x0.take (x11 : Int).toNat) (rd x9 x11)).bind fun t825 => (if t825 = true then (some false) else (spec_doGood.l0 k x0 x9 x10 (wrap64 (x11 + 1))))) else (none)) else (some false))) else (none)) else (none)) else (some true)
def spec_doGood.f (k : Nat) (l0 : List Int) : Option (Bool) := (spec_l1In.f (l0.length : Int) 1 12).bind fun t821 => (if t821 = true then (spec_doGood.l0 k l0 l0 (l0.length : Int) 0) else (some false))
theorem spec_doGood.mono_l : ∀ k, (∀ y0 y1 y2 y3, LeO (spec_doGood.l0 k y0 y1 y2 y3) (spec_doGood.l0 (k + 1) y0 y1 y2 y3))
 | 0 => fun _ _ _ _ r h => by simp [spec_doGood.l0] at h
 | k + 1 => by
  have ih0 := spec_doGood.mono_l k
  ·intro y0 y1 y2 y3
   unfold spec_doGood.l0
   repeat' (first | (with_reducible first | exact ih0 _ _ _ _ | exact spec_l1Has.mono _ _ _ | exact LeO.refl _ | exact LeO.none _ | refine LeO.ite ?_ ?_ | refine LeO.bind ?_ (fun _ => ?_)) | exact ih0 _ _ _ _ | exact spec_l1Has.mono _ _ _ | exact LeO.none _ | refine LeO.ite ?_ ?_ | refine LeO.bind ?_ (fun _ => ?_))
theorem spec_doGood.mono : ∀ a0 k, LeO (spec_doGood.f k a0) (spec_doGood.f (k + 1) a0) := by
 intro a0 k
 have ih0 := spec_doGood.mono_l k
 unfold spec_doGood.f
 repeat' (first | (with_reducible first | exact ih0 _ _ _ _ | exact LeO.refl _ | exact LeO.none _ | refine LeO.ite ?_ ?_ | refine LeO.bind ?_ (fun _ => ?_)) | exact ih0 _ _ _ _ | exact LeO.none _ | refine LeO.ite ?_ ?_ | refine LeO.bind ?_ (fun _ => ?_))
set_option maxHeartbeats 8000000 in
set_option maxRecDepth 100000 in
theorem spec_doGood.calls (k : Nat) (A0 : Option Addr) (c0 : Nat) (l0 : List Int) (r : Bool) (w : World) (hr0 : Kd.C (Kd.int .i64) w A0 l0.length l0) (hc0 : l0.length ≤ c0) (h : spec_doGood.f k l0 = some r) :
  Calls Try.prog 117 #[.slice A0 l0.length c0] w fun e w' => e = .returned (.bool r) ∧ Drawn0 w w' := by
 have HR0 := Aside0.mk hr0
 have HC0 := Aside0.mk hc0
 clear hr0 hc0
 have H := h
 unfold spec_doGood.f at H
 clear h
 replace H := Option.bind_eq_some_iff.mp H
 obtain ⟨t821, A20, H⟩ := H
 replace H : (if t821 = true then (spec_doGood.l0 k l0 l0 (l0.length : Int) 0) else (some false)) = some r := H
 have A2 := Aside0.mk A20
 clear A20
 by_cases c3 : t821 = true
 ·subst c3
  have H1 : (spec_doGood.l0 k l0 l0 (l0.length : Int) 0) = some r := by rw [if_pos rfl] at H; exact H
  clear H
  have H := H1
  clear H1
  have H' := Aside0.mk H
  clear H
  go_enter Try.func117, Try.ntmps117
  go_wp2_with (first | ((with_reducible refine gate_callee (f := 102) rfl ?_); refine goesA (some 7) Try.func102 #[.int .i64 (l0.length : Int), .int .i64 1, .int .i64 12] ?_; (with_reducible refine (spec_l1In.calls (l0.length : Int) 1 12 true _ A2.out).mono ?_); rintro e w' ⟨rfl, ⟨nd, rfl⟩⟩; refine ⟨_, rfl, ?_⟩))
  go_loopg [11] k (fun kq v11 w' => ∃ (x11_1 : Int), v11 = .int .i64 x11_1 ∧ Aside0 (spec_doGood.l0 kq l0 l0 (l0.length : Int) x11_1 = some r) ∧ Aside0 (kq ≤ k) ∧ Drawn0 w w')
  case atStart => exact ⟨(0), eqd, H', ⟨Nat.le_refl _⟩, by repeat (first | exact Drawn0.refl _ | apply Drawn0.step)⟩
  case round =>
   clear H'
   try clear c1
   try clear p2
   try clear c3
   obtain ⟨x11_1, rfl, HA, HK1, ⟨m1, rfl⟩⟩ := hrel
   cases gk with
   | zero => exact absurd HA.out (by simp [spec_doGood.l0])
   | succ k1 =>
    have H := HA.out
    clear HA
    simp only [spec_doGood.l0] at H
    by_cases c4 : x11_1 < (l0.length : Int)
    ·rw [if_pos c4] at H
     have c4b0 : decide (x11_1 < (l0.length : Int)) = true := decide_eq_true c4
     clear c4
     by_cases c5 : 0 ≤ x11_1
     ·rw [if_pos c5] at H
      have c5b0 : decide (0 ≤ x11_1) = true := decide_eq_true c5
      clear c5
      by_cases c6 : x11_1 < (l0.length : Int)
      ·rw [if_pos c6] at H
       have c6b0 : decide (x11_1 < (l0.length : Int)) = true := decide_eq_true c6
       clear c6
       replace H := Option.bind_eq_some_iff.mp H
       obtain ⟨t823, A70, H⟩ := H
       replace H : (if t823 = true then (if x11_1 ≤ (l0.length : Int) then ((spec_l1Has.f k1 (l0.take (x11_1 : Int).toNat) (rd l0 x11_1)).bind fun t825 => (if t825 = true then (some false) else (spec_doGood.l0 k1 l0 l0 (l0.length : Int) (wrap64 (x11_1 + 1))))) else (none)) else (some false)) = some r := H
       have A7 := Aside0.mk A70
       clear A70
       by_cases c8 : t823 = true
       ·subst c8
        have H1 : (if x11_1 ≤ (l0.length : Int) then ((spec_l1Has.f k1 (l0.take (x11_1 : Int).toNat) (rd l0 x11_1)).bind fun t825 => (if t825 = true then (some false) else (spec_doGood.l0 k1 l0 l0 (l0.length : Int) (wrap64 (x11_1 + 1))))) else (none)) = some r := by rw [if_pos rfl] at H; exact H
        clear H
        have H := H1
        clear H1
        have c9b0 := eq_true (of_decide_eq_true (by first | (with_reducible assumption) | assumption) : 0 ≤ x11_1)
        by_cases c10 : x11_1 ≤ (l0.length : Int)
        ·rw [if_pos c10] at H
         have c10b0 := eq_true c10
         have c10b1 : decide (x11_1 ≤ (l0.length : Int)) = true := decide_eq_true c10
         clear c10
         replace H := Option.bind_eq_some_iff.mp H
         obtain ⟨t825, A110, H⟩ := H
         replace H : (if t825 = true then (some false) else (spec_doGood.l0 k1 l0 l0 (l0.length : Int) (wrap64 (x11_1 + 1)))) = some r := H
         have A11 := Aside0.mk A110
         clear A110
         by_cases c12 : t825 = true
         ·subst c12
          have H1 : (some false) = some r := by rw [if_pos rfl] at H; exact H
          clear H
          have H := H1
          clear H1
          obtain rfl := Option.some.inj H
          have p822 : 0 ≤ (x11_1 : Int) := ofd
          have q822 : x11_1 < (l0.length : Int) := ofd
          obtain ⟨ad822, e822, hx822_0⟩ := Kd.at_int HR0.out x11_1 p822 q822
          cases e822
          replace p822 := eq_true p822
          replace q822 := eq_true q822
          go_wp2_with (first | ((with_reducible refine gate_callee (f := 102) rfl ?_); refine goesA (some 20) Try.func102 #[.int .i64 (rd l0 x11_1), .int .i64 0, .int .i64 (wrap64 ((l0.length : Int) - 1))] ?_; (with_reducible refine (spec_l1In.calls (rd l0 x11_1) 0 (wrap64 ((l0.length : Int) - 1)) true _ A7.out).mono ?_); rintro e w' ⟨rfl, ⟨nd, rfl⟩⟩; refine ⟨_, rfl, ?_⟩; obtain ⟨i013, hi013, _, hsz13, _⟩ := info_parts info3; obtain ⟨hcut13, hA13, hC13⟩ := print_take_of (P := Try.prog) (Value.int .i64) 0 24 3 .i64 Try.underlying24 hi013 hsz13 (some ad822) c0 l0 x11_1 (of_decide_eq_true (by first | (with_reducible assumption) | assumption)) (of_decide_eq_true (by first | (with_reducible assumption) | assumption)) HC0.out; have HR824 := Aside0.mk (Kd.C_of_reads (h1 := fun _ => rfl) (hA13 _ (Kd.reads_of_C HR0.out))); have HC824 := Aside0.mk hC13; clear hA13 hC13 hi013 hsz13) | (go_at_call 134; (try rw [show (Value.slice (some ad822) x11_1.toNat c0) = Value.slice (some ad822) (l0.take (x11_1 : Int).toNat).length c0 from (by rw [List.length_take]; have h_ : (x11_1 : Int) ≤ (l0.length : Int) := (by first | exact ofd | exact Int.le_of_lt ofd); rw [Nat.min_eq_left (by omega)])]); (with_reducible refine (spec_l1Has.calls k1 _ _ (l0.take (x11_1 : Int).toNat) (rd l0 x11_1) true _ ?side1 ?side2 A11.out).mono ?_); (case side1 => repeat (first | exact HR824.out | (with_reducible refine Kd.C_alloc ?_ _) | (with_reducible refine Kd.C_drewN ?_ _) | (with_reducible refine Kd.C_drew ?_))); (case side2 => exact HC824.out); rintro e w' ⟨rfl, ⟨nd, rfl⟩⟩))
          go_ret
          exact ⟨by first | rfl | (simp; done) | (simp [*]; done), by repeat (first | exact Drawn0.refl _ | apply Drawn0.step)⟩
         ·replace c12 := Bool.eq_false_iff.mpr c12
          subst c12
          have H1 : (spec_doGood.l0 k1 l0 l0 (l0.length : Int) (wrap64 (x11_1 + 1))) = some r := by rw [if_neg (show ¬ (false = true) by decide)] at H; exact H
          clear H
          have H := H1
          clear H1
          have H' := Aside0.mk H
          clear H
          have p822 : 0 ≤ (x11_1 : Int) := ofd
          have q822 : x11_1 < (l0.length : Int) := ofd
          obtain ⟨ad822, e822, hx822_0⟩ := Kd.at_int HR0.out x11_1 p822 q822
          cases e822
          replace p822 := eq_true p822
          replace q822 := eq_true q822
          go_wp2_with (first | ((with_reducible refine gate_callee (f := 102) rfl ?_); refine goesA (some 20) Try.func102 #[.int .i64 (rd l0 x11_1), .int .i64 0, .int .i64 (wrap64 ((l0.length : Int) - 1))] ?_; (with_reducible refine (spec_l1In.calls (rd l0 x11_1) 0 (wrap64 ((l0.length : Int) - 1)) true _ A7.out).mono ?_); rintro e w' ⟨rfl, ⟨nd, rfl⟩⟩; refine ⟨_, rfl, ?_⟩; obtain ⟨i014, hi014, _, hsz14, _⟩ := info_parts info3; obtain ⟨hcut14, hA14, hC14⟩ := print_take_of (P := Try.prog) (Value.int .i64) 0 24 3 .i64 Try.underlying24 hi014 hsz14 (some ad822) c0 l0 x11_1 (of_decide_eq_true (by first | (with_reducible assumption) | assumption)) (of_decide_eq_true (by first | (with_reducible assumption) | assumption)) HC0.out; have HR824 := Aside0.mk (Kd.C_of_reads (h1 := fun _ => rfl) (hA14 _ (Kd.reads_of_C HR0.out))); have HC824 := Aside0.mk hC14; clear hA14 hC14 hi014 hsz14) | (go_at_call 134; (try rw [show (Value.slice (some ad822) x11_1.toNat c0) = Value.slice (some ad822) (l0.take (x11_1 : Int).toNat).length c0 from (by rw [List.length_take]; have h_ : (x11_1 : Int) ≤ (l0.length : Int) := (by first | exact ofd | exact Int.le_of_lt ofd); rw [Nat.min_eq_left (by omega)])]); (with_reducible refine (spec_l1Has.calls k1 _ _ (l0.take (x11_1 : Int).toNat) (rd l0 x11_1) false _ ?side1 ?side2 A11.out).mono ?_); (case side1 => repeat (first | exact HR824.out | (with_reducible refine Kd.C_alloc ?_ _) | (with_reducible refine Kd.C_drewN ?_ _) | (with_reducible refine Kd.C_drew ?_))); (case side2 => exact HC824.out); rintro e w' ⟨rfl, ⟨nd, rfl⟩⟩))
          go_roundg k1
          case measure => have := HK1.out; omega
          case rel => exact ⟨(wrap64 (x11_1 + 1)), eqd, H', ⟨by have := HK1.out; omega⟩, by repeat (first | exact Drawn0.refl _ | apply Drawn0.step)⟩
        ·rw [if_neg c10] at H
         exact absurd H (by simp)
       ·replace c8 := Bool.eq_false_iff.mpr c8
        subst c8
        have H1 : (some false) = some r := by rw [if_neg (show ¬ (false = true) by decide)] at H; exact H
        clear H
        have H := H1
        clear H1
        obtain rfl := Option.some.inj H
        have p822 : 0 ≤ (x11_1 : Int) := ofd
        have q822 : x11_1 < (l0.length : Int) := ofd
        obtain ⟨ad822, e822, hx822_0⟩ := Kd.at_int HR0.out x11_1 p822 q822
        cases e822
        replace p822 := eq_true p822
        replace q822 := eq_true q822
        go_wp2_with (first | ((with_reducible refine gate_callee (f := 102) rfl ?_); refine goesA (some 20) Try.func102 #[.int .i64 (rd l0 x11_1), .int .i64 0, .int .i64 (wrap64 ((l0.length : Int) - 1))] ?_; (with_reducible refine (spec_l1In.calls (rd l0 x11_1) 0 (wrap64 ((l0.length : Int) - 1)) false _ A7.out).mono ?_); rintro e w' ⟨rfl, ⟨nd, rfl⟩⟩; refine ⟨_, rfl, ?_⟩))
        go_ret
        exact ⟨by first | rfl | (simp; done) | (simp [*]; done), by repeat (first | exact Drawn0.refl _ | apply Drawn0.step)⟩
      ·rw [if_neg c6] at H
       exact absurd H (by simp)
     ·rw [if_neg c5] at H
      exact absurd H (by simp)
    ·rw [if_neg c4] at H
     have c4b0 : decide (x11_1 < (l0.length : Int)) = false := decide_eq_false c4
     clear c4
     obtain rfl := Option.some.inj H
     go_wp2
     go_ret
     exact ⟨by first | rfl | (simp; done) | (simp [*]; done), by repeat (first | exact Drawn0.refl _ | apply Drawn0.step)⟩
 ·replace c3 := Bool.eq_false_iff.mpr c3
  subst c3
  have H1 : (some false) = some r := by rw [if_neg (show ¬ (false = true) by decide)] at H; exact H
  clear H
  have H := H1
  clear H1
  obtain rfl := Option.some.inj H
  go_enter Try.func117, Try.ntmps117
  go_wp2_with (first | ((with_reducible refine gate_callee (f := 102) rfl ?_); refine goesA (some 7) Try.func102 #[.int .i64 (l0.length : Int), .int .i64 1, .int .i64 12] ?_; (with_reducible refine (spec_l1In.calls (l0.length : Int) 1 12 false _ A2.out).mono ?_); rintro e w' ⟨rfl, ⟨nd, rfl⟩⟩; refine ⟨_, rfl, ?_⟩))
  go_ret
  exact ⟨by first | rfl | (simp; done) | (simp [*]; done), by repeat (first | exact Drawn0.refl _ | apply Drawn0.step)⟩
noncomputable def spec_doGood.L0 (x0 : List Int) (x9 : List Int) (x10 : Int) (x11 : Int) : Option (Bool) := lim fun k => spec_doGood.l0 k x0 x9 x10 x11
theorem spec_doGood.L0_lim (x0 : List Int) (x9 : List Int) (x10 : Int) (x11 : Int) : Lim (fun k => spec_doGood.l0 k x0 x9 x10 x11) (spec_doGood.L0 x0 x9 x10 x11) := Lim.of fun k => (spec_doGood.mono_l k) x0 x9 x10 x11
noncomputable def spec_doGood.F (l0 : List Int) : Option (Bool) := lim fun k => spec_doGood.f k l0
theorem spec_doGood.F_lim (l0 : List Int) : Lim (fun k => spec_doGood.f k l0) (spec_doGood.F l0) := Lim.of fun k => spec_doGood.mono l0 k
theorem spec_doGood.L0_eq (x0 : List Int) (x9 : List Int) (x10 : Int) (x11 : Int) : spec_doGood.L0 x0 x9 x10 x11 = (if x11 < x10 then (if 0 ≤ x11 then (if x11 < (x9.length : Int) then ((spec_l1In.f (rd x9 x11) 0 (wrap64 ((x0.length : Int) - 1))).bind fun t823 => (if t823 = true then (if x11 ≤ (x0.length : Int) then ((spec_l1Has.F (x0.take (x11 : Int).toNat) (rd x9 x11)).bind fun t825 => (if t825 = true then (some false) else (spec_doGood.L0 x0 x9 x10 (wrap64 (x11 + 1))))) else (none)) else (some false))) else (none)) else (none)) else (some true)) :=
 Lim.step (f := fun k => spec_doGood.l0 (k + 1) x0 x9 x10 x11) (spec_doGood.L0_lim x0 x9 x10 x11) (fun _ => rfl) (by
  simp only [spec_doGood.l0]
  repeat' (first | (with_reducible first | exact Lim.const _ | exact spec_doGood.L0_lim _ _ _ _ | exact spec_l1Has.F_lim _ _ | refine Lim.ite ?_ ?_ | refine Lim.bind ?_ (fun _ => ?_))))
theorem spec_doGood.F_eq (l0 : List Int) : spec_doGood.F l0 = ((spec_l1In.f (l0.length : Int) 1 12).bind fun t821 => (if t821 = true then (spec_doGood.L0 l0 l0 (l0.length : Int) 0) else (some false))) :=
 Lim.unique (spec_doGood.F_lim l0) (by
  unfold spec_doGood.f
  repeat' (first | (with_reducible first | exact Lim.const _ | exact spec_doGood.L0_lim _ _ _ _ | refine Lim.ite ?_ ?_ | refine Lim.bind ?_ (fun _ => ?_))))
/-! ### spec_IsCostas: function 55 -/
def spec_IsCostas.f (k : Nat) (l0 : List Int) : Option (Bool × Bool) := (spec_doGood.f k l0).bind fun t844 => (if t844 = true then ((spec_doCostas.f k l0).bind fun t845 => (some (t845, true))) else (some (false, false)))
theorem spec_IsCostas.mono : ∀ a0 k, LeO (spec_IsCostas.f k a0) (spec_IsCostas.f (k + 1) a0) := by
 intro a0 k
 unfold spec_IsCostas.f
 repeat' (first | (with_reducible first | exact spec_doCostas.mono _ _ | exact spec_doGood.mono _ _ | exact LeO.refl _ | exact LeO.none _ | refine LeO.ite ?_ ?_ | refine LeO.bind ?_ (fun _ => ?_)) | exact spec_doCostas.mono _ _ | exact spec_doGood.mono _ _ | exact LeO.none _ | refine LeO.ite ?_ ?_ | refine LeO.bind ?_ (fun _ => ?_))
set_option maxHeartbeats 8000000 in
set_option maxRecDepth 100000 in
theorem spec_IsCostas.calls (k : Nat) (A0 : Option Addr) (c0 : Nat) (l0 : List Int) (r1 : Bool) (r2 : Bool) (w : World) (hr0 : Kd.C (Kd.int .i64) w A0 l0.length l0) (hc0 : l0.length ≤ c0) (h : spec_IsCostas.f k l0 = some (r1, r2)) :
  Calls Try.prog 55 #[.slice A0 l0.length c0] w fun e w' => e = .returned (.tuple #[.bool r1, .bool r2]) ∧ Below w.heap.size w w' := by
 have HR0 := Aside0.mk hr0
 have HC0 := Aside0.mk hc0
 clear hr0 hc0
 have HB := Aside0.mk (Below.refl w.heap.size w)
 have H := h
 unfold spec_IsCostas.f at H
 clear h
 replace H := Option.bind_eq_some_iff.mp H
 obtain ⟨t844, A20, H⟩ := H
 replace H : (if t844 = true then ((spec_doCostas.f k l0).bind fun t845 => (some (t845, true))) else (some (false, false))) = some (r1, r2) := H
 have A2 := Aside0.mk A20
 clear A20
 by_cases c3 : t844 = true
 ·subst c3
  have H1 : ((spec_doCostas.f k l0).bind fun t845 => (some (t845, true))) = some (r1, r2) := by rw [if_pos rfl] at H; exact H
  clear H
  have H := H1
  clear H1
  replace H := Option.bind_eq_some_iff.mp H
  obtain ⟨t845, A40, H⟩ := H
  replace H : (some (t845, true)) = some (r1, r2) := H
  have A4 := Aside0.mk A40
  clear A40
  simp only [Option.some.injEq, Prod.mk.injEq] at H
  obtain ⟨rfl, rfl⟩ := H
  go_enter Try.func55, Try.ntmps55
  go_wp2_with (first | ((with_reducible refine gate_callee (f := 117) rfl ?_); refine goesA (some 5) Try.func117 #[.slice A0 l0.length c0] ?_; (with_reducible refine (spec_doGood.calls k _ _ l0 true _ ?side1 ?side2 A2.out).mono ?_); (case side1 => repeat (first | exact HR0.out | (with_reducible refine Kd.C_alloc ?_ _) | (with_reducible refine Kd.C_drewN ?_ _) | (with_reducible refine Kd.C_drew ?_))); (case side2 => exact HC0.out); rintro e w' ⟨rfl, ⟨nd, rfl⟩⟩; refine ⟨_, rfl, ?_⟩) | ((with_reducible refine gate_callee (f := 118) rfl ?_); refine goesA (some 8) Try.func118 #[.slice A0 l0.length c0] ?_; (with_reducible refine (spec_doCostas.calls k _ _ l0 t845 _ ?side1 ?side2 A4.out).mono ?_); (case side1 => repeat (first | exact HR0.out | (with_reducible refine Kd.C_alloc ?_ _) | (with_reducible refine Kd.C_drewN ?_ _) | (with_reducible refine Kd.C_drew ?_))); (case side2 => exact HC0.out); rintro e w5 ⟨rfl, hb⟩; refine ⟨_, rfl, ?_⟩; replace HB := upB HB hb; (try clear hb); (try clear hb2); (try clear hk); (try clear hi)))
  go_ret2
  exact ⟨eqr, atB HB⟩
 ·replace c3 := Bool.eq_false_iff.mpr c3
  subst c3
  have H1 : (some (false, false)) = some (r1, r2) := by rw [if_neg (show ¬ (false = true) by decide)] at H; exact H
  clear H
  have H := H1
  clear H1
  simp only [Option.some.injEq, Prod.mk.injEq] at H
  obtain ⟨rfl, rfl⟩ := H
  go_enter Try.func55, Try.ntmps55
  go_wp2_with (first | ((with_reducible refine gate_callee (f := 117) rfl ?_); refine goesA (some 5) Try.func117 #[.slice A0 l0.length c0] ?_; (with_reducible refine (spec_doGood.calls k _ _ l0 false _ ?side1 ?side2 A2.out).mono ?_); (case side1 => repeat (first | exact HR0.out | (with_reducible refine Kd.C_alloc ?_ _) | (with_reducible refine Kd.C_drewN ?_ _) | (with_reducible refine Kd.C_drew ?_))); (case side2 => exact HC0.out); rintro e w' ⟨rfl, ⟨nd, rfl⟩⟩; refine ⟨_, rfl, ?_⟩))
  go_ret2
  exact ⟨eqr, atB HB⟩
noncomputable def spec_IsCostas.F (l0 : List Int) : Option (Bool × Bool) := lim fun k => spec_IsCostas.f k l0
theorem spec_IsCostas.F_lim (l0 : List Int) : Lim (fun k => spec_IsCostas.f k l0) (spec_IsCostas.F l0) := Lim.of fun k => spec_IsCostas.mono l0 k
theorem spec_IsCostas.F_eq (l0 : List Int) : spec_IsCostas.F l0 = ((spec_doGood.F l0).bind fun t844 => (if t844 = true then ((spec_doCostas.F l0).bind fun t845 => (some (t845, true))) else (some (false, false)))) :=
 Lim.unique (spec_IsCostas.F_lim l0) (by
  unfold spec_IsCostas.f
  repeat' (first | (with_reducible first | exact Lim.const _ | exact spec_doCostas.F_lim _ | exact spec_doGood.F_lim _ | refine Lim.ite ?_ ?_ | refine Lim.bind ?_ (fun _ => ?_))))
/-! ### spec_FirstRepeat: function 57 -/
def spec_FirstRepeat.f (k : Nat) (l0 : List Int) : Option (Int × Int × Int × Bool) := (spec_doGood.f k l0).bind fun t851 => (if t851 = true then ((spec_doRepeat.f k l0).bind fun bt852 => (some (bt852.1, bt852.2.1, bt852.2.2.1, bt852.2.2.2))) else (some (0, 0, 0, false)))
theorem spec_FirstRepeat.mono : ∀ a0 k, LeO (spec_FirstRepeat.f k a0) (spec_FirstRepeat.f (k + 1) a0) := by
 intro a0 k
 unfold spec_FirstRepeat.f
 repeat' (first | (with_reducible first | exact spec_doGood.mono _ _ | exact spec_doRepeat.mono _ _ | exact LeO.refl _ | exact LeO.none _ | refine LeO.ite ?_ ?_ | refine LeO.bind ?_ (fun _ => ?_)) | exact spec_doGood.mono _ _ | exact spec_doRepeat.mono _ _ | exact LeO.none _ | refine LeO.ite ?_ ?_ | refine LeO.bind ?_ (fun _ => ?_))
set_option maxHeartbeats 8000000 in
set_option maxRecDepth 100000 in
theorem spec_FirstRepeat.calls (k : Nat) (A0 : Option Addr) (c0 : Nat) (l0 : List Int) (r1 : Int) (r2 : Int) (r3 : Int) (r4 : Bool) (w : World) (hr0 : Kd.C (Kd.int .i64) w A0 l0.length l0) (hc0 : l0.length ≤ c0) (h : spec_FirstRepeat.f k l0 = some (r1, r2, r3, r4)) :
  Calls Try.prog 57 #[.slice A0 l0.length c0] w fun e w' => e = .returned (.tuple #[.int .i64 r1, .int .i64 r2, .int .i64 r3, .bool r4]) ∧ Below w.heap.size w w' := by
 have HR0 := Aside0.mk hr0
 have HC0 := Aside0.mk hc0
 clear hr0 hc0
 have HB := Aside0.mk (Below.refl w.heap.size w)
 have H := h
 unfold spec_FirstRepeat.f at H
 clear h
 replace H := Option.bind_eq_some_iff.mp H
 obtain ⟨t851, A20, H⟩ := H
 replace H : (if t851 = true then ((spec_doRepeat.f k l0).bind fun bt852 => (some (bt852.1, bt852.2.1, bt852.2.2.1, bt852.2.2.2))) else (some (0, 0, 0, false))) = some (r1, r2, r3, r4) := H
 have A2 := Aside0.mk A20
 clear A20
 by_cases c3 : t851 = true
 ·subst c3
  have H1 : ((spec_doRepeat.f k l0).bind fun bt852 => (some (bt852.1, bt852.2.1, bt852.2.2.1, bt852.2.2.2))) = some (r1, r2, r3, r4) := by rw [if_pos rfl] at H; exact H
  clear H
  have H := H1
  clear H1
  replace H := Option.bind_eq_some_iff.mp H
  obtain ⟨⟨t852, t853, t854, t855⟩, A40, H⟩ := H
  replace H : (some (t852, t853, t854, t855)) = some (r1, r2, r3, r4) := H
  have A4 := Aside0.mk A40
  clear A40
  simp only [Option.some.injEq, Prod.mk.injEq] at H
  obtain ⟨rfl, rfl, rfl, rfl⟩ := H
  go_enter Try.func57, Try.ntmps57
  go_wp2_with (first | ((with_reducible refine gate_callee (f := 117) rfl ?_); refine goesA (some 7) Try.func117 #[.slice A0 l0.length c0] ?_; (with_reducible refine (spec_doGood.calls k _ _ l0 true _ ?side1 ?side2 A2.out).mono ?_); (case side1 => repeat (first | exact HR0.out | (with_reducible refine Kd.C_alloc ?_ _) | (with_reducible refine Kd.C_drewN ?_ _) | (with_reducible refine Kd.C_drew ?_))); (case side2 => exact HC0.out); rintro e w' ⟨rfl, ⟨nd, rfl⟩⟩; refine ⟨_, rfl, ?_⟩) | ((with_reducible refine gate_callee (f := 120) rfl ?_); refine goesA (some 10) Try.func120 #[.slice A0 l0.length c0] ?_; (with_reducible refine (spec_doRepeat.calls k _ _ l0 t852 t853 t854 t855 _ ?side1 ?side2 A4.out).mono ?_); (case side1 => repeat (first | exact HR0.out | (with_reducible refine Kd.C_alloc ?_ _) | (with_reducible refine Kd.C_drewN ?_ _) | (with_reducible refine Kd.C_drew ?_))); (case side2 => exact HC0.out); rintro e w5 ⟨rfl, hb⟩; refine ⟨_, rfl, ?_⟩; replace HB := upB HB hb; (try clear hb); (try clear hb2); (try clear hk); (try clear hi)))
  refine bodyPost_ret (results_list (rs := [.tmp 2, .tmp 3, .tmp 4, .tmp 5]) rfl (by simp) (.tmp (.tmp (.tmp (.tmp .nil))))) rfl ?_
  exact ⟨eqr, atB HB⟩
 ·replace c3 := Bool.eq_false_iff.mpr c3
  subst c3
  have H1 : (some (0, 0, 0, false)) = some (r1, r2, r3, r4) := by rw [if_neg (show ¬ (false = true) by decide)] at H; exact H
  clear H
  have H := H1
  clear H1
  simp only [Option.some.injEq, Prod.mk.injEq] at H
  obtain ⟨rfl, rfl, rfl, rfl⟩ := H
  go_enter Try.func57, Try.ntmps57
  go_wp2_with (first | ((with_reducible refine gate_callee (f := 117) rfl ?_); refine goesA (some 7) Try.func117 #[.slice A0 l0.length c0] ?_; (with_reducible refine (spec_doGood.calls k _ _ l0 false _ ?side1 ?side2 A2.out).mono ?_); (case side1 => repeat (first | exact HR0.out | (with_reducible refine Kd.C_alloc ?_ _) | (with_reducible refine Kd.C_drewN ?_ _) | (with_reducible refine Kd.C_drew ?_))); (case side2 => exact HC0.out); rintro e w' ⟨rfl, ⟨nd, rfl⟩⟩; refine ⟨_, rfl, ?_⟩))
  refine bodyPost_ret (results_list (rs := [.tmp 2, .tmp 3, .tmp 4, .tmp 5]) rfl (by simp) (.tmp (.tmp (.tmp (.tmp .nil))))) rfl ?_
  exact ⟨eqr, atB HB⟩
noncomputable def spec_FirstRepeat.F (l0 : List Int) : Option (Int × Int × Int × Bool) := lim fun k => spec_FirstRepeat.f k l0
theorem spec_FirstRepeat.F_lim (l0 : List Int) : Lim (fun k => spec_FirstRepeat.f k l0) (spec_FirstRepeat.F l0) := Lim.of fun k => spec_FirstRepeat.mono l0 k
theorem spec_FirstRepeat.F_eq (l0 : List Int) : spec_FirstRepeat.F l0 = ((spec_doGood.F l0).bind fun t851 => (if t851 = true then ((spec_doRepeat.F l0).bind fun bt852 => (some (bt852.1, bt852.2.1, bt852.2.2.1, bt852.2.2.2))) else (some (0, 0, 0, false)))) :=
 Lim.unique (spec_FirstRepeat.F_lim l0) (by
  unfold spec_FirstRepeat.f
  repeat' (first | (with_reducible first | exact Lim.const _ | exact spec_doGood.F_lim _ | exact spec_doRepeat.F_lim _ | refine Lim.ite ?_ ?_ | refine Lim.bind ?_ (fun _ => ?_))))
/-! ### spec_IsDots: function 59 -/
def spec_IsDots.f (k : Nat) (l0 : List Int) : Option (Bool) := (spec_doGood.f k l0).bind fun t856 => (some t856)
theorem spec_IsDots.mono : ∀ a0 k, LeO (spec_IsDots.f k a0) (spec_IsDots.f (k + 1) a0) := by
 intro a0 k
 unfold spec_IsDots.f
 repeat' (first | (with_reducible first | exact spec_doGood.mono _ _ | exact LeO.refl _ | exact LeO.none _ | refine LeO.ite ?_ ?_ | refine LeO.bind ?_ (fun _ => ?_)) | exact spec_doGood.mono _ _ | exact LeO.none _ | refine LeO.ite ?_ ?_ | refine LeO.bind ?_ (fun _ => ?_))
set_option maxHeartbeats 8000000 in
set_option maxRecDepth 100000 in
theorem spec_IsDots.calls (k : Nat) (A0 : Option Addr) (c0 : Nat) (l0 : List Int) (r : Bool) (w : World) (hr0 : Kd.C (Kd.int .i64) w A0 l0.length l0) (hc0 : l0.length ≤ c0) (h : spec_IsDots.f k l0 = some r) :
  Calls Try.prog 59 #[.slice A0 l0.length c0] w fun e w' => e = .returned (.bool r) ∧ Drawn0 w w' := by
 have HR0 := Aside0.mk hr0
 have HC0 := Aside0.mk hc0
 clear hr0 hc0
 have H := h
 unfold spec_IsDots.f at H
 clear h
 replace H := Option.bind_eq_some_iff.mp H
 obtain ⟨t856, A20, H⟩ := H
 replace H : (some t856) = some r := H
 have A2 := Aside0.mk A20
 clear A20
 obtain rfl := Option.some.inj H
 go_enter Try.func59, Try.ntmps59
 go_wp2_with (first | ((with_reducible refine gate_callee (f := 117) rfl ?_); refine goesA (some 4) Try.func117 #[.slice A0 l0.length c0] ?_; (with_reducible refine (spec_doGood.calls k _ _ l0 t856 _ ?side1 ?side2 A2.out).mono ?_); (case side1 => repeat (first | exact HR0.out | (with_reducible refine Kd.C_alloc ?_ _) | (with_reducible refine Kd.C_drewN ?_ _) | (with_reducible refine Kd.C_drew ?_))); (case side2 => exact HC0.out); rintro e w' ⟨rfl, ⟨nd, rfl⟩⟩; refine ⟨_, rfl, ?_⟩))
 go_ret
 exact ⟨by first | rfl | (simp; done) | (simp [*]; done), by repeat (first | exact Drawn0.refl _ | apply Drawn0.step)⟩
noncomputable def spec_IsDots.F (l0 : List Int) : Option (Bool) := lim fun k => spec_IsDots.f k l0
theorem spec_IsDots.F_lim (l0 : List Int) : Lim (fun k => spec_IsDots.f k l0) (spec_IsDots.F l0) := Lim.of fun k => spec_IsDots.mono l0 k
theorem spec_IsDots.F_eq (l0 : List Int) : spec_IsDots.F l0 = ((spec_doGood.F l0).bind fun t856 => (some t856)) :=
 Lim.unique (spec_IsDots.F_lim l0) (by
  unfold spec_IsDots.f
  repeat' (first | (with_reducible first | exact Lim.const _ | exact spec_doGood.F_lim _ | refine Lim.ite ?_ ?_ | refine Lim.bind ?_ (fun _ => ?_))))
/-! ### laws_zSum: function 61 -/
def laws_zSum.l0 : Nat → Int → List Int → Int → Int → Option (Int)
 | 0, _, _, _, _ => none
 | k + 1, x3, x6, x7, x8 => if x8 < x7 then (if 0 ≤ x8 then (if x8 < (x6.length : Int) then (laws_zSum.l0 k (wrap64 (x3 + (rd x6 x8))) x6 x7 (wrap64 (x8 + 1))) else (none)) else (none)) else (some x3)
def laws_zSum.f (k : Nat) (l0 : List Int) : Option (Int) := laws_zSum.l0 k 0 l0 (l0.length : Int) 0
theorem laws_zSum.mono_l : ∀ k, (∀ y0 y1 y2 y3, LeO (laws_zSum.l0 k y0 y1 y2 y3) (laws_zSum.l0 (k + 1) y0 y1 y2 y3))
 | 0 => fun _ _ _ _ r h => by simp [laws_zSum.l0] at h
 | k + 1 => by
  have ih0 := laws_zSum.mono_l k
  ·intro y0 y1 y2 y3
   unfold laws_zSum.l0
   repeat' (first | (with_reducible first | exact ih0 _ _ _ _ | exact LeO.refl _ | exact LeO.none _ | refine LeO.ite ?_ ?_ | refine LeO.bind ?_ (fun _ => ?_)) | exact ih0 _ _ _ _ | exact LeO.none _ | refine LeO.ite ?_ ?_ | refine LeO.bind ?_ (fun _ => ?_))
theorem laws_zSum.mono : ∀ a0 k, LeO (laws_zSum.f k a0) (laws_zSum.f (k + 1) a0) := by
 intro a0 k
 have ih0 := laws_zSum.mono_l k
 unfold laws_zSum.f
 repeat' (first | (with_reducible first | exact ih0 _ _ _ _ | exact LeO.refl _ | exact LeO.none _ | refine LeO.ite ?_ ?_ | refine LeO.bind ?_ (fun _ => ?_)) | exact ih0 _ _ _ _ | exact LeO.none _ | refine LeO.ite ?_ ?_ | refine LeO.bind ?_ (fun _ => ?_))
set_option maxHeartbeats 8000000 in
set_option maxRecDepth 100000 in
theorem laws_zSum.calls (k : Nat) (A0 : Option Addr) (c0 : Nat) (l0 : List Int) (r : Int) (w : World) (hr0 : Kd.C (Kd.int .i64) w A0 l0.length l0) (hc0 : l0.length ≤ c0) (h : laws_zSum.f k l0 = some r) :
  Calls Try.prog 61 #[.slice A0 l0.length c0] w fun e w' => e = .returned (.int .i64 r) ∧ Drawn0 w w' := by
 have HR0 := Aside0.mk hr0
 have HC0 := Aside0.mk hc0
 clear hr0 hc0
 have H := h
 unfold laws_zSum.f at H
 clear h
 have H' := Aside0.mk H
 clear H
 go_enter Try.func61, Try.ntmps61
 go_wp2
 go_loopg [3, 8] k (fun kq v3 v8 w' => ∃ (x3_1 : Int) (x8_1 : Int), v3 = .int .i64 x3_1 ∧ v8 = .int .i64 x8_1 ∧ Aside0 (laws_zSum.l0 kq x3_1 l0 (l0.length : Int) x8_1 = some r) ∧ Aside0 (kq ≤ k) ∧ Drawn0 w w')
 case atStart => exact ⟨(0), (0), eqd, eqd, H', ⟨Nat.le_refl _⟩, by repeat (first | exact Drawn0.refl _ | apply Drawn0.step)⟩
 case round =>
  clear H'
  obtain ⟨x3_1, x8_1, rfl, rfl, HA, HK1, ⟨m1, rfl⟩⟩ := hrel
  cases gk with
  | zero => exact absurd HA.out (by simp [laws_zSum.l0])
  | succ k1 =>
   have H := HA.out
   clear HA
   simp only [laws_zSum.l0] at H
   by_cases c2 : x8_1 < (l0.length : Int)
   ·rw [if_pos c2] at H
    have c2b0 : decide (x8_1 < (l0.length : Int)) = true := decide_eq_true c2
    clear c2
    by_cases c3 : 0 ≤ x8_1
    ·rw [if_pos c3] at H
     have c3b0 : decide (0 ≤ x8_1) = true := decide_eq_true c3
     clear c3
     by_cases c4 : x8_1 < (l0.length : Int)
     ·rw [if_pos c4] at H
      have c4b0 : decide (x8_1 < (l0.length : Int)) = true := decide_eq_true c4
      clear c4
      have H' := Aside0.mk H
      clear H
      have p861 : 0 ≤ (x8_1 : Int) := ofd
      have q861 : x8_1 < (l0.length : Int) := ofd
      obtain ⟨ad861, e861, hx861_0⟩ := Kd.at_int HR0.out x8_1 p861 q861
      cases e861
      replace p861 := eq_true p861
      replace q861 := eq_true q861
      go_wp2
      go_roundg k1
      case measure => have := HK1.out; omega
      case rel => exact ⟨(wrap64 (x3_1 + (rd l0 x8_1))), (wrap64 (x8_1 + 1)), eqd, eqd, H', ⟨by have := HK1.out; omega⟩, by repeat (first | exact Drawn0.refl _ | apply Drawn0.step)⟩
     ·rw [if_neg c4] at H
      exact absurd H (by simp)
    ·rw [if_neg c3] at H
     exact absurd H (by simp)
   ·rw [if_neg c2] at H
    have c2b0 : decide (x8_1 < (l0.length : Int)) = false := decide_eq_false c2
    clear c2
    obtain rfl := Option.some.inj H
    go_wp2
    go_ret
    exact ⟨by first | rfl | (simp; done) | (simp [*]; done), by repeat (first | exact Drawn0.refl _ | apply Drawn0.step)⟩
noncomputable def laws_zSum.L0 (x3 : Int) (x6 : List Int) (x7 : Int) (x8 : Int) : Option (Int) := lim fun k => laws_zSum.l0 k x3 x6 x7 x8
theorem laws_zSum.L0_lim (x3 : Int) (x6 : List Int) (x7 : Int) (x8 : Int) : Lim (fun k => laws_zSum.l0 k x3 x6 x7 x8) (laws_zSum.L0 x3 x6 x7 x8) := Lim.of fun k => (laws_zSum.mono_l k) x3 x6 x7 x8
noncomputable def laws_zSum.F (l0 : List Int) : Option (Int) := lim fun k => laws_zSum.f k l0
theorem laws_zSum.F_lim (l0 : List Int) : Lim (fun k => laws_zSum.f k l0) (laws_zSum.F l0) := Lim.of fun k => laws_zSum.mono l0 k
theorem laws_zSum.L0_eq (x3 : Int) (x6 : List Int) (x7 : Int) (x8 : Int) : laws_zSum.L0 x3 x6 x7 x8 = (if x8 < x7 then (if 0 ≤ x8 then (if x8 < (x6.length : Int) then (laws_zSum.L0 (wrap64 (x3 + (rd x6 x8))) x6 x7 (wrap64 (x8 + 1))) else (none)) else (none)) else (some x3)) :=
 Lim.step (f := fun k => laws_zSum.l0 (k + 1) x3 x6 x7 x8) (laws_zSum.L0_lim x3 x6 x7 x8) (fun _ => rfl) (by
  simp only [laws_zSum.l0]
  repeat' (first | (with_reducible first | exact Lim.const _ | exact laws_zSum.L0_lim _ _ _ _ | refine Lim.ite ?_ ?_ | refine Lim.bind ?_ (fun _ => ?_))))
theorem laws_zSum.F_eq (l0 : List Int) : laws_zSum.F l0 = (laws_zSum.L0 0 l0 (l0.length : Int) 0) :=
 Lim.unique (laws_zSum.F_lim l0) (by
  unfold laws_zSum.f
  repeat' (first | (with_reducible first | exact Lim.const _ | exact laws_zSum.L0_lim _ _ _ _ | refine Lim.ite ?_ ?_ | refine Lim.bind ?_ (fun _ => ?_))))
/-! ### spec_DrawCountCostas: function 123 -/
def spec_DrawCountCostas.f (l0 : List Int) : Option (Int) := (spec_l1Cur_among.f l0 0 0 (([1, 2, 3, 4, 5, 3, 4, 6, 0, 8, (-1)] : List Int))).bind fun bt869 => (some bt869.1)
set_option maxHeartbeats 8000000 in
set_option maxRecDepth 100000 in
theorem spec_DrawCountCostas.calls (A0 : Option Addr) (c0 : Nat) (l0 : List Int) (r : Int) (w : World) (hr0 : Kd.C (Kd.int .u8) w A0 l0.length l0) (hc0 : l0.length ≤ c0) (h : spec_DrawCountCostas.f l0 = some r) :
  Calls Try.prog 123 #[.slice A0 l0.length c0] w fun e w' => e = .returned (.int .i64 r) ∧ Below w.heap.size w w' := by
 have hu68 := Try.underlying68
 have HR0 := Aside0.mk hr0
 have HC0 := Aside0.mk hc0
 clear hr0 hc0
 have HB := Aside0.mk (Below.refl w.heap.size w)
 have H := h
 unfold spec_DrawCountCostas.f at H
 clear h
 obtain ⟨y866, hy866⟩ : ∃ y_ : List Int, y_ = (([1, 2, 3, 4, 5, 3, 4, 6, 0, 8, (-1)] : List Int)) := ⟨_, rfl⟩
 replace H : ((spec_l1Cur_among.f l0 0 0 y866).bind fun bt869 => (some bt869.1)) = some r := by first | (rw [hy866]; with_reducible exact H) | (have H2_ := (Option.bind_some _ _).symm.trans H; rw [hy866]; with_reducible exact H2_) | (have H2_ := (Option.bind_some _ _).symm.trans H; with_reducible exact H2_) | with_reducible exact H | (rw [hy866]; exact H) | exact H
 have Ny866 := Aside0.mk hy866
 clear hy866
 replace H := Option.bind_eq_some_iff.mp H
 obtain ⟨⟨t869, t870, t871⟩, A20, H⟩ := H
 replace H : (some t869) = some r := H
 have A2 := Aside0.mk A20
 clear A20
 obtain rfl := Option.some.inj H
 go_enter Try.func123, Try.ntmps123
 go_wp2_with (first | ((with_reducible refine gate_dst (N := 6) rfl ?_); refine box_event ?hg (N := 6) ?hd (cs := #[.slice A0 l0.length c0, .int .i64 0, .int .u64 0]) (t := 68) ?hr ?_; (case hd => rfl); (case hg => rfl); (case hr => first | (go_simp; done) | (go_simp; rfl)); intro gb865 hg w3 hbox hb; have HI865 := Aside0.mk ((⟨_, _, hbox, (by rw [hg]; exact (szB HB) : w.heap.size ≤ gb865), HR0.out⟩ : IsS68 w w3 gb865 l0 0 0)); replace HB := upB HB hb; clear hb hbox hg) | ((with_reducible refine gate_dst (N := 8) rfl ?_); refine Kd.R_lit (Kd.int .i64) _ 3 ?hg (N := 8) ?hd (xs := ([1, 2, 3, 4, 5, 3, 4, 6, 0, 8, (-1)] : List Int)) (inner := [.int .i64 1, .int .i64 2, .int .i64 3, .int .i64 4, .int .i64 5, .int .i64 3, .int .i64 4, .int .i64 6, .int .i64 0, .int .i64 8, .int .i64 (-1)]) (ok := fun _ => True) (okp := fun _ => True) ?hr ?hp (fun _ hk => hk) trivial (Below.refl _ _) (Nat.le_refl _) (by simp) ?_; (case hd => rfl); (case hg => rfl); (case hr => first | (go_simp; done) | (go_simp; rfl)); (case hp => exact repsI _); intro v867 w4 ho5 hb hg_ hnew_; clear hg_ hnew_; (first | rw [← Ny866.out] at ho5 | (simp only [Int.reduceToNat] at ho5; rw [← Ny866.out] at ho5)); have HO868 := lowR ho5 HB; replace HI865 := IsS68.up HI865 hb; replace HB := upB HB hb; clear hb ho5; obtain ⟨Ao6, co6, eo6⟩ := Kd.R_slice HO868.out; subst eo6) | ((with_reducible refine gate_callee (f := 109) rfl ?_); refine goesA (some 9) Try.func109 #[.pointer (some ⟨gb865, 0, none⟩), .slice Ao6 y866.length co6] ?_; (with_reducible refine (spec_l1Cur_among.calls gb865 l0 0 0 _ _ y866 t869 t870 t871 w _ ?side1 ?side2 ?side3 ?side4 ?side5 A2.out).mono ?_); (case side1 => exact IsS68.at HI865); (case side2 => exact atB HB); (case side3 => exact atRC HO868); (case side4 => exact (Kd.R_reads' HO868.out).2.1); (case side5 => exact far_slice (IsS68.own_ne HI865.out HO868.out (by decide))); rintro e w7 ⟨rfl, hi, hb, hk⟩; refine ⟨_, rfl, ?_⟩; replace HO868 := IsS68.keepR HI865 HO868 hk; replace HB := Aside0.mk (hb); replace HI865 := Aside0.mk (hi); (try clear hb); (try clear hb2); (try clear hk); (try clear hi)))
 go_ret
 exact ⟨eqr, atB HB⟩
/-! ### spec_DrawAllCostas: function 63 -/
def spec_DrawAllCostas.f (l0 : List Int) : Option (Int) := (spec_DrawCountCostas.f l0).bind fun t872 => (some t872)
set_option maxHeartbeats 8000000 in
set_option maxRecDepth 100000 in
theorem spec_DrawAllCostas.calls (A0 : Option Addr) (c0 : Nat) (l0 : List Int) (r : Int) (w : World) (hr0 : Kd.C (Kd.int .u8) w A0 l0.length l0) (hc0 : l0.length ≤ c0) (h : spec_DrawAllCostas.f l0 = some r) :
  Calls Try.prog 63 #[.slice A0 l0.length c0] w fun e w' => e = .returned (.int .i64 r) ∧ Below w.heap.size w w' := by
 have HR0 := Aside0.mk hr0
 have HC0 := Aside0.mk hc0
 clear hr0 hc0
 have HB := Aside0.mk (Below.refl w.heap.size w)
 have H := h
 unfold spec_DrawAllCostas.f at H
 clear h
 replace H := Option.bind_eq_some_iff.mp H
 obtain ⟨t872, A20, H⟩ := H
 replace H : (some t872) = some r := H
 have A2 := Aside0.mk A20
 clear A20
 obtain rfl := Option.some.inj H
 go_enter Try.func63, Try.ntmps63
 go_wp2_with (first | ((with_reducible refine gate_callee (f := 123) rfl ?_); refine goesA (some 4) Try.func123 #[.slice A0 l0.length c0] ?_; (with_reducible refine (spec_DrawCountCostas.calls _ _ l0 t872 _ ?side1 ?side2 A2.out).mono ?_); (case side1 => repeat (first | exact HR0.out | (with_reducible refine Kd.C_alloc ?_ _) | (with_reducible refine Kd.C_drewN ?_ _) | (with_reducible refine Kd.C_drew ?_))); (case side2 => exact HC0.out); rintro e w3 ⟨rfl, hb⟩; refine ⟨_, rfl, ?_⟩; replace HB := upB HB hb; (try clear hb); (try clear hb2); (try clear hk); (try clear hi)))
 go_ret
 exact ⟨eqr, atB HB⟩
/-! ### spec_AllCostas: function 65 -/
def spec_AllCostas.f (k : Nat) (a0 : Int) : Option ((List (List Int)) × Bool) := (spec_l1In.f a0 1 7).bind fun t893 => (if t893 = true then ((spec_doAll.f k a0 ([] : List Int) 1073741824).bind fun t894 => (some (t894, true))) else (some (([] : List (List Int)), false)))
theorem spec_AllCostas.mono : ∀ a0 k, LeO (spec_AllCostas.f k a0) (spec_AllCostas.f (k + 1) a0) := by
 intro a0 k
 unfold spec_AllCostas.f
 repeat' (first | (with_reducible first | exact spec_doAll.mono _ _ _ _ | exact LeO.refl _ | exact LeO.none _ | refine LeO.ite ?_ ?_ | refine LeO.bind ?_ (fun _ => ?_)) | exact spec_doAll.mono _ _ _ _ | exact LeO.none _ | refine LeO.ite ?_ ?_ | refine LeO.bind ?_ (fun _ => ?_))
set_option maxHeartbeats 8000000 in
set_option maxRecDepth 100000 in
theorem spec_AllCostas.calls (k : Nat) (a0 : Int) (r1 : List (List Int)) (r2 : Bool) (w : World) (h : spec_AllCostas.f k a0 = some (r1, r2)) :
  Calls Try.prog 65 #[.int .i64 a0] w fun e w' => ∃ v0_ : Value, e = .returned (.tuple #[v0_, .bool r2]) ∧ Kd.N (Kd.slice 3 (Kd.int .i64)) 24 w' w.heap.size (fun k_ => (w.heap.size ≤ k_)) v0_ r1 ∧ Below w.heap.size w w' := by
 have HB := Aside0.mk (Below.refl w.heap.size w)
 have H := h
 unfold spec_AllCostas.f at H
 clear h
 replace H := Option.bind_eq_some_iff.mp H
 obtain ⟨t893, A20, H⟩ := H
 replace H : (if t893 = true then ((spec_doAll.f k a0 ([] : List Int) 1073741824).bind fun t894 => (some (t894, true))) else (some (([] : List (List Int)), false))) = some (r1, r2) := H
 have A2 := Aside0.mk A20
 clear A20
 by_cases c3 : t893 = true
 ·subst c3
  have H1 : ((spec_doAll.f k a0 ([] : List Int) 1073741824).bind fun t894 => (some (t894, true))) = some (r1, r2) := by rw [if_pos rfl] at H; exact H
  clear H
  have H := H1
  clear H1
  replace H := Option.bind_eq_some_iff.mp H
  obtain ⟨t894, A40, H⟩ := H
  replace H : (some (t894, true)) = some (r1, r2) := H
  have A4 := Aside0.mk A40
  clear A40
  simp only [Option.some.injEq, Prod.mk.injEq] at H
  obtain ⟨rfl, rfl⟩ := H
  go_enter Try.func65, Try.ntmps65
  go_wp2_with (first | ((with_reducible refine gate_callee (f := 102) rfl ?_); refine goesA (some 5) Try.func102 #[.int .i64 a0, .int .i64 1, .int .i64 7] ?_; (with_reducible refine (spec_l1In.calls a0 1 7 true _ A2.out).mono ?_); rintro e w' ⟨rfl, ⟨nd, rfl⟩⟩; refine ⟨_, rfl, ?_⟩) | ((with_reducible refine gate_callee (f := 126) rfl ?_); refine goesA (some 8) Try.func126 #[.int .i64 a0, .slice none 0 0, .int .i64 1073741824] ?_; (refine (spec_doAll.calls k a0 _ _ ([] : List Int) 1073741824 t894 _ ?side1 ?side2 A4.out).mono ?_); (case side1 => exact Kd.C_nil _ _); (case side2 => exact Nat.le_refl _); rintro e w5 ⟨v895, rfl, ho0, hb⟩; refine ⟨_, rfl, ?_⟩; have HO896 := Aside0.mk (Kd.N_lower (Kd.N_mono (ok' := fun k_ => (w.heap.size ≤ k_)) ho0 (fun k_ hk_ => (Nat.le_trans (szB HB) hk_))) (szB HB)); replace HB := upB HB hb; (try clear hb); (try clear hb2); (try clear hk); (try clear hi); (try clear ho0)))
  go_ret2
  exact ⟨_, eqr, by (with_reducible repeat (first | apply Kd.N_alloc | apply Kd.N_drewN | apply Kd.N_drew)); exact HO896.out, atB HB⟩
 ·replace c3 := Bool.eq_false_iff.mpr c3
  subst c3
  have H1 : (some (([] : List (List Int)), false)) = some (r1, r2) := by rw [if_neg (show ¬ (false = true) by decide)] at H; exact H
  clear H
  have H := H1
  clear H1
  simp only [Option.some.injEq, Prod.mk.injEq] at H
  obtain ⟨rfl, rfl⟩ := H
  go_enter Try.func65, Try.ntmps65
  go_wp2_with (first | ((with_reducible refine gate_callee (f := 102) rfl ?_); refine goesA (some 5) Try.func102 #[.int .i64 a0, .int .i64 1, .int .i64 7] ?_; (with_reducible refine (spec_l1In.calls a0 1 7 false _ A2.out).mono ?_); rintro e w' ⟨rfl, ⟨nd, rfl⟩⟩; refine ⟨_, rfl, ?_⟩))
  go_ret2
  exact ⟨_, eqr, by first | exact Kd.S_nil _ _ _ _ _ | exact Kd.N_nil _ _ _ _ _ | exact Kd.V_nil _ _ _ _ _ | exact Kd.Q_nil _ _ _ _ _ | exact Kd.R_nil _ _ _ _ _, atB HB⟩
noncomputable def spec_AllCostas.F (a0 : Int) : Option ((List (List Int)) × Bool) := lim fun k => spec_AllCostas.f k a0
theorem spec_AllCostas.F_lim (a0 : Int) : Lim (fun k => spec_AllCostas.f k a0) (spec_AllCostas.F a0) := Lim.of fun k => spec_AllCostas.mono a0 k
theorem spec_AllCostas.F_eq (a0 : Int) : spec_AllCostas.F a0 = ((spec_l1In.f a0 1 7).bind fun t893 => (if t893 = true then ((spec_doAll.F a0 ([] : List Int) 1073741824).bind fun t894 => (some (t894, true))) else (some (([] : List (List Int)), false)))) :=
 Lim.unique (spec_AllCostas.F_lim a0) (by
  unfold spec_AllCostas.f
  repeat' (first | (with_reducible first | exact Lim.const _ | exact spec_doAll.F_lim _ _ _ | refine Lim.ite ?_ ?_ | refine Lim.bind ?_ (fun _ => ?_))))
/-! ### spec_CountCostas: function 67 -/
def spec_CountCostas.f (k : Nat) (a0 : Int) : Option (Int × Bool) := (spec_l1In.f a0 1 7).bind fun t901 => (if t901 = true then ((spec_doAll.f k a0 ([] : List Int) 1073741824).bind fun t902 => (some ((t902.length : Int), true))) else (some (0, false)))
theorem spec_CountCostas.mono : ∀ a0 k, LeO (spec_CountCostas.f k a0) (spec_CountCostas.f (k + 1) a0) := by
 intro a0 k
 unfold spec_CountCostas.f
 repeat' (first | (with_reducible first | exact spec_doAll.mono _ _ _ _ | exact LeO.refl _ | exact LeO.none _ | refine LeO.ite ?_ ?_ | refine LeO.bind ?_ (fun _ => ?_)) | exact spec_doAll.mono _ _ _ _ | exact LeO.none _ | refine LeO.ite ?_ ?_ | refine LeO.bind ?_ (fun _ => ?_))
set_option maxHeartbeats 8000000 in
set_option maxRecDepth 100000 in
theorem spec_CountCostas.calls (k : Nat) (a0 : Int) (r1 : Int) (r2 : Bool) (w : World) (h : spec_CountCostas.f k a0 = some (r1, r2)) :
  Calls Try.prog 67 #[.int .i64 a0] w fun e w' => e = .returned (.tuple #[.int .i64 r1, .bool r2]) ∧ Below w.heap.size w w' := by
 have HB := Aside0.mk (Below.refl w.heap.size w)
 have H := h
 unfold spec_CountCostas.f at H
 clear h
 replace H := Option.bind_eq_some_iff.mp H
 obtain ⟨t901, A20, H⟩ := H
 replace H : (if t901 = true then ((spec_doAll.f k a0 ([] : List Int) 1073741824).bind fun t902 => (some ((t902.length : Int), true))) else (some (0, false))) = some (r1, r2) := H
 have A2 := Aside0.mk A20
 clear A20
 by_cases c3 : t901 = true
 ·subst c3
  have H1 : ((spec_doAll.f k a0 ([] : List Int) 1073741824).bind fun t902 => (some ((t902.length : Int), true))) = some (r1, r2) := by rw [if_pos rfl] at H; exact H
  clear H
  have H := H1
  clear H1
  replace H := Option.bind_eq_some_iff.mp H
  obtain ⟨t902, A40, H⟩ := H
  replace H : (some ((t902.length : Int), true)) = some (r1, r2) := H
  have A4 := Aside0.mk A40
  clear A40
  simp only [Option.some.injEq, Prod.mk.injEq] at H
  obtain ⟨rfl, rfl⟩ := H
  go_enter Try.func67, Try.ntmps67
  go_wp2_with (first | ((with_reducible refine gate_callee (f := 102) rfl ?_); refine goesA (some 5) Try.func102 #[.int .i64 a0, .int .i64 1, .int .i64 7] ?_; (with_reducible refine (spec_l1In.calls a0 1 7 true _ A2.out).mono ?_); rintro e w' ⟨rfl, ⟨nd, rfl⟩⟩; refine ⟨_, rfl, ?_⟩) | ((with_reducible refine gate_callee (f := 126) rfl ?_); refine goesA (some 8) Try.func126 #[.int .i64 a0, .slice none 0 0, .int .i64 1073741824] ?_; (refine (spec_doAll.calls k a0 _ _ ([] : List Int) 1073741824 t902 _ ?side1 ?side2 A4.out).mono ?_); (case side1 => exact Kd.C_nil _ _); (case side2 => exact Nat.le_refl _); rintro e w5 ⟨v903, rfl, ho0, hb⟩; refine ⟨_, rfl, ?_⟩; have HO904 := Aside0.mk (Kd.N_lower (Kd.N_mono (ok' := fun k_ => True) ho0 (fun k_ hk_ => trivial)) (szB HB)); replace HB := upB HB hb; (try clear hb); (try clear hb2); (try clear hk); (try clear hi); (try clear ho0); obtain ⟨Ao6, co6, eo6⟩ := Kd.N_slice HO904.out; subst eo6))
  go_ret2
  exact ⟨eqr, atB HB⟩
 ·replace c3 := Bool.eq_false_iff.mpr c3
  subst c3
  have H1 : (some (0, false)) = some (r1, r2) := by rw [if_neg (show ¬ (false = true) by decide)] at H; exact H
  clear H
  have H := H1
  clear H1
  simp only [Option.some.injEq, Prod.mk.injEq] at H
  obtain ⟨rfl, rfl⟩ := H
  go_enter Try.func67, Try.ntmps67
  go_wp2_with (first | ((with_reducible refine gate_callee (f := 102) rfl ?_); refine goesA (some 5) Try.func102 #[.int .i64 a0, .int .i64 1, .int .i64 7] ?_; (with_reducible refine (spec_l1In.calls a0 1 7 false _ A2.out).mono ?_); rintro e w' ⟨rfl, ⟨nd, rfl⟩⟩; refine ⟨_, rfl, ?_⟩))
  go_ret2
  exact ⟨eqr, atB HB⟩
noncomputable def spec_CountCostas.F (a0 : Int) : Option (Int × Bool) := lim fun k => spec_CountCostas.f k a0
theorem spec_CountCostas.F_lim (a0 : Int) : Lim (fun k => spec_CountCostas.f k a0) (spec_CountCostas.F a0) := Lim.of fun k => spec_CountCostas.mono a0 k
theorem spec_CountCostas.F_eq (a0 : Int) : spec_CountCostas.F a0 = ((spec_l1In.f a0 1 7).bind fun t901 => (if t901 = true then ((spec_doAll.F a0 ([] : List Int) 1073741824).bind fun t902 => (some ((t902.length : Int), true))) else (some (0, false)))) :=
 Lim.unique (spec_CountCostas.F_lim a0) (by
  unfold spec_CountCostas.f
  repeat' (first | (with_reducible first | exact Lim.const _ | exact spec_doAll.F_lim _ _ _ | refine Lim.ite ?_ ?_ | refine Lim.bind ?_ (fun _ => ?_))))
/-! ### spec_l1Same: function 129 -/
def spec_l1Same.l0 : Nat → List Int → List Int → Int → Int → Option (Bool)
 | 0, _, _, _, _ => none
 | k + 1, x0, x1, x12, x13 => if x13 < x12 then (if 0 ≤ x13 then (if x13 < (x0.length : Int) then (if x13 < (x1.length : Int) then (if (rd x0 x13) = (rd x1 x13) then (spec_l1Same.l0 k x0 x1 x12 (wrap64 (x13 + 1))) else (some false)) else (none)) else (none)) else (none)) else (some true)
def spec_l1Same.f (k : Nat) (l0 : List Int) (l1 : List Int) : Option (Bool) := if (l0.length : Int) = (l1.length : Int) then (spec_l1Same.l0 k l0 l1 (l0.length : Int) 0) else (some false)
theorem spec_l1Same.mono_l : ∀ k, (∀ y0 y1 y2 y3, LeO (spec_l1Same.l0 k y0 y1 y2 y3) (spec_l1Same.l0 (k + 1) y0 y1 y2 y3))
 | 0 => fun _ _ _ _ r h => by simp [spec_l1Same.l0] at h
 | k + 1 => by
  have ih0 := spec_l1Same.mono_l k
  ·intro y0 y1 y2 y3
   unfold spec_l1Same.l0
   repeat' (first | (with_reducible first | exact ih0 _ _ _ _ | exact LeO.refl _ | exact LeO.none _ | refine LeO.ite ?_ ?_ | refine LeO.bind ?_ (fun _ => ?_)) | exact ih0 _ _ _ _ | exact LeO.none _ | refine LeO.ite ?_ ?_ | refine LeO.bind ?_ (fun _ => ?_))
theorem spec_l1Same.mono : ∀ a0 a1 k, LeO (spec_l1Same.f k a0 a1) (spec_l1Same.f (k + 1) a0 a1) := by
 intro a0 a1 k
 have ih0 := spec_l1Same.mono_l k
 unfold spec_l1Same.f
 repeat' (first | (with_reducible first | exact ih0 _ _ _ _ | exact LeO.refl _ | exact LeO.none _ | refine LeO.ite ?_ ?_ | refine LeO.bind ?_ (fun _ => ?_)) | exact ih0 _ _ _ _ | exact LeO.none _ | refine LeO.ite ?_ ?_ | refine LeO.bind ?_ (fun _ => ?_))
set_option maxHeartbeats 8000000 in
set_option maxRecDepth 100000 in
theorem spec_l1Same.calls (k : Nat) (A0 : Option Addr) (c0 : Nat) (l0 : List Int) (A1 : Option Addr) (c1 : Nat) (l1 : List Int) (r : Bool) (w : World) (hr0 : Kd.C (Kd.int .i64) w A0 l0.length l0) (hc0 : l0.length ≤ c0) (hr1 : Kd.C (Kd.int .i64) w A1 l1.length l1) (hc1 : l1.length ≤ c1) (h : spec_l1Same.f k l0 l1 = some r) :
  Calls Try.prog 129 #[.slice A0 l0.length c0, .slice A1 l1.length c1] w fun e w' => e = .returned (.bool r) ∧ Drawn0 w w' := by
 have HR0 := Aside0.mk hr0
 have HC0 := Aside0.mk hc0
 clear hr0 hc0
 have HR1 := Aside0.mk hr1
 have HC1 := Aside0.mk hc1
 clear hr1 hc1
 have H := h
 unfold spec_l1Same.f at H
 clear h
 by_cases c3 : (l0.length : Int) = (l1.length : Int)
 ·rw [if_pos c3] at H
  have c3b0 : ((l0.length : Int) == (l1.length : Int)) = true := beq_iff_eq.mpr c3
  have c3b1 : ((l0.length : Int) != (l1.length : Int)) = false := bne_eq_false_iff_eq.mpr c3
  have c3b2 : (l0.length == l1.length) = true := by first | simpa using c3 | (simp at c3 ⊢; omega)
  clear c3
  have H' := Aside0.mk H
  clear H
  go_enter Try.func129, Try.ntmps129
  go_wp2
  repeat (go_quiet (fail); try go_wp2)
  go_loopg [13] k (fun kq v13 w' => ∃ (x13_1 : Int), v13 = .int .i64 x13_1 ∧ Aside0 (spec_l1Same.l0 kq l0 l1 (l0.length : Int) x13_1 = some r) ∧ Aside0 (kq ≤ k) ∧ Drawn0 w w')
  case atStart => exact ⟨(0), eqd, H', ⟨Nat.le_refl _⟩, by repeat (first | exact Drawn0.refl _ | apply Drawn0.step)⟩
  case round =>
   clear H'
   try clear c1
   try clear p2
   try clear c3
   try clear c3b0
   try clear c3b1
   try clear c3b2
   obtain ⟨x13_1, rfl, HA, HK1, ⟨m1, rfl⟩⟩ := hrel
   cases gk with
   | zero => exact absurd HA.out (by simp [spec_l1Same.l0])
   | succ k1 =>
    have H := HA.out
    clear HA
    simp only [spec_l1Same.l0] at H
    by_cases c4 : x13_1 < (l0.length : Int)
    ·rw [if_pos c4] at H
     have c4b0 : decide (x13_1 < (l0.length : Int)) = true := decide_eq_true c4
     clear c4
     by_cases c5 : 0 ≤ x13_1
     ·rw [if_pos c5] at H
      have c5b0 : decide (0 ≤ x13_1) = true := decide_eq_true c5
      clear c5
      by_cases c6 : x13_1 < (l0.length : Int)
      ·rw [if_pos c6] at H
       have c6b0 : decide (x13_1 < (l0.length : Int)) = true := decide_eq_true c6
       clear c6
       by_cases c7 : x13_1 < (l1.length : Int)
       ·rw [if_pos c7] at H
        have c7b0 : decide (x13_1 < (l1.length : Int)) = true := decide_eq_true c7
        clear c7
        by_cases c8 : (rd l0 x13_1) = (rd l1 x13_1)
        ·rw [if_pos c8] at H
         have c8b0 : ((rd l0 x13_1) == (rd l1 x13_1)) = true := beq_iff_eq.mpr c8
         have c8b1 : ((rd l0 x13_1) != (rd l1 x13_1)) = false := bne_eq_false_iff_eq.mpr c8
         clear c8
         have H' := Aside0.mk H
         clear H
         have p934 : 0 ≤ (x13_1 : Int) := ofd
         have q934 : x13_1 < (l0.length : Int) := ofd
         obtain ⟨ad934, e934, hx934_0⟩ := Kd.at_int HR0.out x13_1 p934 q934
         cases e934
         replace p934 := eq_true p934
         replace q934 := eq_true q934
         have p935 : 0 ≤ (x13_1 : Int) := ofd
         have q935 : x13_1 < (l1.length : Int) := ofd
         obtain ⟨ad935, e935, hx935_0⟩ := Kd.at_int HR1.out x13_1 p935 q935
         cases e935
         replace p935 := eq_true p935
         replace q935 := eq_true q935
         go_wp2
         repeat (go_quiet (fail); try go_wp2)
         go_roundg k1
         case measure => have := HK1.out; omega
         case rel => exact ⟨(wrap64 (x13_1 + 1)), eqd, H', ⟨by have := HK1.out; omega⟩, by repeat (first | exact Drawn0.refl _ | apply Drawn0.step)⟩
        ·rw [if_neg c8] at H
         have c8b0 : ((rd l0 x13_1) == (rd l1 x13_1)) = false := beq_eq_false_iff_ne.mpr c8
         have c8b1 : ((rd l0 x13_1) != (rd l1 x13_1)) = true := bne_iff_ne.mpr c8
         obtain rfl := Option.some.inj H
         have p934 : 0 ≤ (x13_1 : Int) := ofd
         have q934 : x13_1 < (l0.length : Int) := ofd
         obtain ⟨ad934, e934, hx934_0⟩ := Kd.at_int HR0.out x13_1 p934 q934
         cases e934
         replace p934 := eq_true p934
         replace q934 := eq_true q934
         have p935 : 0 ≤ (x13_1 : Int) := ofd
         have q935 : x13_1 < (l1.length : Int) := ofd
         obtain ⟨ad935, e935, hx935_0⟩ := Kd.at_int HR1.out x13_1 p935 q935
         cases e935
         replace p935 := eq_true p935
         replace q935 := eq_true q935
         go_wp2
         repeat (go_quiet (fail); try go_wp2)
         go_ret
         exact ⟨by first | rfl | (simp; done) | (simp [*]; done), by repeat (first | exact Drawn0.refl _ | apply Drawn0.step)⟩
       ·rw [if_neg c7] at H
        exact absurd H (by simp)
      ·rw [if_neg c6] at H
       exact absurd H (by simp)
     ·rw [if_neg c5] at H
      exact absurd H (by simp)
    ·rw [if_neg c4] at H
     have c4b0 : decide (x13_1 < (l0.length : Int)) = false := decide_eq_false c4
     clear c4
     obtain rfl := Option.some.inj H
     go_wp2
     repeat (go_quiet (fail); try go_wp2)
     go_ret
     exact ⟨by first | rfl | (simp; done) | (simp [*]; done), by repeat (first | exact Drawn0.refl _ | apply Drawn0.step)⟩
 ·rw [if_neg c3] at H
  have c3b0 : ((l0.length : Int) == (l1.length : Int)) = false := beq_eq_false_iff_ne.mpr c3
  have c3b1 : ((l0.length : Int) != (l1.length : Int)) = true := bne_iff_ne.mpr c3
  have c3b2 : (l0.length == l1.length) = false := by first | simpa using c3 | (simp at c3 ⊢; omega)
  obtain rfl := Option.some.inj H
  go_enter Try.func129, Try.ntmps129
  go_wp2
  repeat (go_quiet (fail); try go_wp2)
  go_ret
  exact ⟨by first | rfl | (simp; done) | (simp [*]; done), by repeat (first | exact Drawn0.refl _ | apply Drawn0.step)⟩
noncomputable def spec_l1Same.L0 (x0 : List Int) (x1 : List Int) (x12 : Int) (x13 : Int) : Option (Bool) := lim fun k => spec_l1Same.l0 k x0 x1 x12 x13
theorem spec_l1Same.L0_lim (x0 : List Int) (x1 : List Int) (x12 : Int) (x13 : Int) : Lim (fun k => spec_l1Same.l0 k x0 x1 x12 x13) (spec_l1Same.L0 x0 x1 x12 x13) := Lim.of fun k => (spec_l1Same.mono_l k) x0 x1 x12 x13
noncomputable def spec_l1Same.F (l0 : List Int) (l1 : List Int) : Option (Bool) := lim fun k => spec_l1Same.f k l0 l1
theorem spec_l1Same.F_lim (l0 : List Int) (l1 : List Int) : Lim (fun k => spec_l1Same.f k l0 l1) (spec_l1Same.F l0 l1) := Lim.of fun k => spec_l1Same.mono l0 l1 k
theorem spec_l1Same.L0_eq (x0 : List Int) (x1 : List Int) (x12 : Int) (x13 : Int) : spec_l1Same.L0 x0 x1 x12 x13 = (if x13 < x12 then (if 0 ≤ x13 then (if x13 < (x0.length : Int) then (if x13 < (x1.length : Int) then (if (rd x0 x13) = (rd x1 x13) then (spec_l1Same.L0 x0 x1 x12 (wrap64 (x13 + 1))) else (some false)) else (none)) else (none)) else (none)) else (some true)) :=
 Lim.step (f := fun k => spec_l1Same.l0 (k + 1) x0 x1 x12 x13) (spec_l1Same.L0_lim x0 x1 x12 x13) (fun _ => rfl) (by
  simp only [spec_l1Same.l0]
  repeat' (first | (with_reducible first | exact Lim.const _ | exact spec_l1Same.L0_lim _ _ _ _ | refine Lim.ite ?_ ?_ | refine Lim.bind ?_ (fun _ => ?_))))
theorem spec_l1Same.F_eq (l0 : List Int) (l1 : List Int) : spec_l1Same.F l0 l1 = (if (l0.length : Int) = (l1.length : Int) then (spec_l1Same.L0 l0 l1 (l0.length : Int) 0) else (some false)) :=
 Lim.unique (spec_l1Same.F_lim l0 l1) (by
  unfold spec_l1Same.f
  repeat' (first | (with_reducible first | exact Lim.const _ | exact spec_l1Same.L0_lim _ _ _ _ | refine Lim.ite ?_ ?_ | refine Lim.bind ?_ (fun _ => ?_))))
/-! ### spec_roBack: function 147 -/
def spec_roBack.l0 : Nat → List Int → List Int → Int → Option (List Int)
 | 0, _, _, _ => none
 | k + 1, x0, x3, x4 => if x4 ≥ 0 then (if 0 ≤ x4 then (if x4 < (x0.length : Int) then (if x3.length < 17592186044416 then (spec_roBack.l0 k x0 (x3 ++ [rd x0 x4]) (wrap64 (x4 - 1))) else (none)) else (none)) else (none)) else (some x3)
def spec_roBack.f (k : Nat) (l0 : List Int) : Option (List Int) := spec_roBack.l0 k l0 ([] : List Int) (wrap64 ((l0.length : Int) - 1))
theorem spec_roBack.mono_l : ∀ k, (∀ y0 y1 y2, LeO (spec_roBack.l0 k y0 y1 y2) (spec_roBack.l0 (k + 1) y0 y1 y2))
 | 0 => fun _ _ _ r h => by simp [spec_roBack.l0] at h
 | k + 1 => by
  have ih0 := spec_roBack.mono_l k
  ·intro y0 y1 y2
   unfold spec_roBack.l0
   repeat' (first | (with_reducible first | exact ih0 _ _ _ | exact LeO.refl _ | exact LeO.none _ | refine LeO.ite ?_ ?_ | refine LeO.bind ?_ (fun _ => ?_)) | exact ih0 _ _ _ | exact LeO.none _ | refine LeO.ite ?_ ?_ | refine LeO.bind ?_ (fun _ => ?_))
theorem spec_roBack.mono : ∀ a0 k, LeO (spec_roBack.f k a0) (spec_roBack.f (k + 1) a0) := by
 intro a0 k
 have ih0 := spec_roBack.mono_l k
 unfold spec_roBack.f
 repeat' (first | (with_reducible first | exact ih0 _ _ _ | exact LeO.refl _ | exact LeO.none _ | refine LeO.ite ?_ ?_ | refine LeO.bind ?_ (fun _ => ?_)) | exact ih0 _ _ _ | exact LeO.none _ | refine LeO.ite ?_ ?_ | refine LeO.bind ?_ (fun _ => ?_))
set_option maxHeartbeats 8000000 in
set_option maxRecDepth 100000 in
theorem spec_roBack.calls (k : Nat) (A0 : Option Addr) (c0 : Nat) (l0 : List Int) (r : List Int) (w : World) (hr0 : Kd.C (Kd.int .i64) w A0 l0.length l0) (hc0 : l0.length ≤ c0) (h : spec_roBack.f k l0 = some r) :
  Calls Try.prog 147 #[.slice A0 l0.length c0] w fun e w' => ∃ v0_ : Value, e = .returned (v0_) ∧ Kd.R (Kd.int .i64) 3 w' w.heap.size (fun _ => True) v0_ r ∧ Below w.heap.size w w' := by
 have HR0 := Aside0.mk hr0
 have HC0 := Aside0.mk hc0
 clear hr0 hc0
 have HB := Aside0.mk (Below.refl w.heap.size w)
 have H := h
 unfold spec_roBack.f at H
 clear h
 have H' := Aside0.mk H
 clear H
 go_enter Try.func147, Try.ntmps147
 go_wp2
 go_loopg [3, 4] k (fun kq v3 v4 w' => ∃ (x3_1 : List Int) (x4_1 : Int), v4 = .int .i64 x4_1 ∧ Aside0 (spec_roBack.l0 kq l0 x3_1 x4_1 = some r) ∧ Aside0 (kq ≤ k) ∧ Aside0 (Kd.R (Kd.int .i64) 3 w' w.heap.size (fun _ => True) v3 x3_1) ∧ Aside0 (Below w.heap.size w w'))
 case atStart => exact ⟨(([] : List Int)), (wrap64 ((l0.length : Int) - 1)), eqd, H', ⟨Nat.le_refl _⟩, ⟨by first | exact Kd.R_nil _ _ _ _ _ | exact Kd.N_nil _ _ _ _ _ | exact Kd.V_nil _ _ _ _ _ | exact Kd.Q_nil _ _ _ _ _ | exact Kd.S_nil _ _ _ _ _⟩, ⟨atB HB⟩⟩
 case round =>
  clear H'
  try clear c1
  obtain ⟨x3_1, x4_1, rfl, HA, HK1, HO_3, HB⟩ := hrel
  cases gk with
  | zero => exact absurd HA.out (by simp [spec_roBack.l0])
  | succ k1 =>
   have H := HA.out
   clear HA
   simp only [spec_roBack.l0] at H
   by_cases c2 : x4_1 ≥ 0
   ·rw [if_pos c2] at H
    have c2b0 : decide (0 ≤ x4_1) = true := decide_eq_true c2
    clear c2
    by_cases c3 : 0 ≤ x4_1
    ·rw [if_pos c3] at H
     have c3b0 : decide (0 ≤ x4_1) = true := decide_eq_true c3
     clear c3
     by_cases c4 : x4_1 < (l0.length : Int)
     ·rw [if_pos c4] at H
      have c4b0 : decide (x4_1 < (l0.length : Int)) = true := decide_eq_true c4
      clear c4
      by_cases c5 : x3_1.length < 17592186044416
      ·rw [if_pos c5] at H
       have LMc5 := Aside0.mk c5
       clear c5
       obtain ⟨y557, hy557⟩ : ∃ y_ : List Int, y_ = (x3_1 ++ [rd l0 x4_1]) := ⟨_, rfl⟩
       replace H : (spec_roBack.l0 k1 l0 y557 (wrap64 (x4_1 - 1))) = some r := by first | (rw [hy557]; with_reducible exact H) | (have H2_ := (Option.bind_some _ _).symm.trans H; rw [hy557]; with_reducible exact H2_) | (have H2_ := (Option.bind_some _ _).symm.trans H; with_reducible exact H2_) | with_reducible exact H | (rw [hy557]; exact H) | exact H
       have Ny557 := Aside0.mk hy557
       clear hy557
       have H' := Aside0.mk H
       clear H
       have p556 : 0 ≤ (x4_1 : Int) := ofd
       have q556 : x4_1 < (l0.length : Int) := ofd
       obtain ⟨ad556, e556, hx556_0⟩ := Kd.at_int HR0.out x4_1 p556 q556
       cases e556
       (try replace hx556_0 := (HB.out.cell (World.block_lt_of_cell? w _ hx556_0)).trans hx556_0)
       replace p556 := eq_true p556
       replace q556 := eq_true q556
       go_wp2_with (first | ((with_reducible refine gate_builtin (b := .append) (xs := #[.tmp 12, .tmp 17]) rfl ?_); at_builtin; refine Kd.R_append (Kd.int .i64) (w0 := w) w.heap.size rfl (.tmp 12) (.tmp 17) 24 3 (.int .i64 0) 8 rfl Try.underlying24 info3 rfl (by decide) (by omega) u3 x3_1 (rd l0 x4_1) [.int .i64 (rd l0 x4_1)] (fun _ => True) (fun _ => False) rfl rfl ?aP (fun _ hk => hk.elim) ?aF ?aO ?aB ?aS ?aL ?_; (case aP => exact rfl); (case aB => exact (atB HB)); (case aF => exact (fun _ _ => trivial)); (case aO => exact (atR HO_3)); (case aS => exact (szB HB)); (case aL => have := LMc5.out; omega); intro v558 w6 ho hb hg hat; rw [← Ny557.out] at ho; have HO559 := Aside0.mk (ho); replace HB := Aside0.mk (hb); clear HO_3; clear ho hb hg hat))
       go_roundg k1
       case measure => have := HK1.out; omega
       case rel => exact ⟨(y557), (wrap64 (x4_1 - 1)), eqd, H', ⟨by have := HK1.out; omega⟩, ⟨atR HO559⟩, ⟨atB HB⟩⟩
      ·rw [if_neg c5] at H
       exact absurd H (by simp)
     ·rw [if_neg c4] at H
      exact absurd H (by simp)
    ·rw [if_neg c3] at H
     exact absurd H (by simp)
   ·rw [if_neg c2] at H
    have c2b0 : decide (0 ≤ x4_1) = false := decide_eq_false c2
    clear c2
    obtain rfl := Option.some.inj H
    go_wp2
    go_ret
    exact ⟨_, eqr, atR HO_3, atB HB⟩
noncomputable def spec_roBack.L0 (x0 : List Int) (x3 : List Int) (x4 : Int) : Option (List Int) := lim fun k => spec_roBack.l0 k x0 x3 x4
theorem spec_roBack.L0_lim (x0 : List Int) (x3 : List Int) (x4 : Int) : Lim (fun k => spec_roBack.l0 k x0 x3 x4) (spec_roBack.L0 x0 x3 x4) := Lim.of fun k => (spec_roBack.mono_l k) x0 x3 x4
noncomputable def spec_roBack.F (l0 : List Int) : Option (List Int) := lim fun k => spec_roBack.f k l0
theorem spec_roBack.F_lim (l0 : List Int) : Lim (fun k => spec_roBack.f k l0) (spec_roBack.F l0) := Lim.of fun k => spec_roBack.mono l0 k
theorem spec_roBack.L0_eq (x0 : List Int) (x3 : List Int) (x4 : Int) : spec_roBack.L0 x0 x3 x4 = (if x4 ≥ 0 then (if 0 ≤ x4 then (if x4 < (x0.length : Int) then (if x3.length < 17592186044416 then (spec_roBack.L0 x0 (x3 ++ [rd x0 x4]) (wrap64 (x4 - 1))) else (none)) else (none)) else (none)) else (some x3)) :=
 Lim.step (f := fun k => spec_roBack.l0 (k + 1) x0 x3 x4) (spec_roBack.L0_lim x0 x3 x4) (fun _ => rfl) (by
  simp only [spec_roBack.l0]
  repeat' (first | (with_reducible first | exact Lim.const _ | exact spec_roBack.L0_lim _ _ _ | refine Lim.ite ?_ ?_ | refine Lim.bind ?_ (fun _ => ?_))))
theorem spec_roBack.F_eq (l0 : List Int) : spec_roBack.F l0 = (spec_roBack.L0 l0 ([] : List Int) (wrap64 ((l0.length : Int) - 1))) :=
 Lim.unique (spec_roBack.F_lim l0) (by
  unfold spec_roBack.f
  repeat' (first | (with_reducible first | exact Lim.const _ | exact spec_roBack.L0_lim _ _ _ | refine Lim.ite ?_ ?_ | refine Lim.bind ?_ (fun _ => ?_))))
/-! ### spec_trLess: function 155 -/
def spec_trLess.l0 : Nat → List Int → List Int → Int → Int → Option (Bool)
 | 0, _, _, _, _ => none
 | k + 1, x0, x1, x7, x8 => if x8 < x7 then (if 0 ≤ x8 then (if x8 < (x0.length : Int) then (if x8 < (x1.length : Int) then (if (rd x0 x8) = (rd x1 x8) then (spec_trLess.l0 k x0 x1 x7 (wrap64 (x8 + 1))) else (some (decide ((rd x0 x8) < (rd x1 x8))))) else (none)) else (none)) else (none)) else (some false)
def spec_trLess.f (k : Nat) (l0 : List Int) (l1 : List Int) : Option (Bool) := spec_trLess.l0 k l0 l1 (l0.length : Int) 0
theorem spec_trLess.mono_l : ∀ k, (∀ y0 y1 y2 y3, LeO (spec_trLess.l0 k y0 y1 y2 y3) (spec_trLess.l0 (k + 1) y0 y1 y2 y3))
 | 0 => fun _ _ _ _ r h => by simp [spec_trLess.l0] at h
 | k + 1 => by
  have ih0 := spec_trLess.mono_l k
  ·intro y0 y1 y2 y3
   unfold spec_trLess.l0
   repeat' (first | (with_reducible first | exact ih0 _ _ _ _ | exact LeO.refl _ | exact LeO.none _ | refine LeO.ite ?_ ?_ | refine LeO.bind ?_ (fun _ => ?_)) | exact ih0 _ _ _ _ | exact LeO.none _ | refine LeO.ite ?_ ?_ | refine LeO.bind ?_ (fun _ => ?_))
theorem spec_trLess.mono : ∀ a0 a1 k, LeO (spec_trLess.f k a0 a1) (spec_trLess.f (k + 1) a0 a1) := by
 intro a0 a1 k
 have ih0 := spec_trLess.mono_l k
 unfold spec_trLess.f
 repeat' (first | (with_reducible first | exact ih0 _ _ _ _ | exact LeO.refl _ | exact LeO.none _ | refine LeO.ite ?_ ?_ | refine LeO.bind ?_ (fun _ => ?_)) | exact ih0 _ _ _ _ | exact LeO.none _ | refine LeO.ite ?_ ?_ | refine LeO.bind ?_ (fun _ => ?_))
set_option maxHeartbeats 8000000 in
set_option maxRecDepth 100000 in
theorem spec_trLess.calls (k : Nat) (A0 : Option Addr) (c0 : Nat) (l0 : List Int) (A1 : Option Addr) (c1 : Nat) (l1 : List Int) (r : Bool) (w : World) (hr0 : Kd.C (Kd.int .i64) w A0 l0.length l0) (hc0 : l0.length ≤ c0) (hr1 : Kd.C (Kd.int .i64) w A1 l1.length l1) (hc1 : l1.length ≤ c1) (h : spec_trLess.f k l0 l1 = some r) :
  Calls Try.prog 155 #[.slice A0 l0.length c0, .slice A1 l1.length c1] w fun e w' => e = .returned (.bool r) ∧ Drawn0 w w' := by
 have HR0 := Aside0.mk hr0
 have HC0 := Aside0.mk hc0
 clear hr0 hc0
 have HR1 := Aside0.mk hr1
 have HC1 := Aside0.mk hc1
 clear hr1 hc1
 have H := h
 unfold spec_trLess.f at H
 clear h
 have H' := Aside0.mk H
 clear H
 go_enter Try.func155, Try.ntmps155
 go_wp2
 repeat (go_quiet (fail); try go_wp2)
 go_loopg [8] k (fun kq v8 w' => ∃ (x8_1 : Int), v8 = .int .i64 x8_1 ∧ Aside0 (spec_trLess.l0 kq l0 l1 (l0.length : Int) x8_1 = some r) ∧ Aside0 (kq ≤ k) ∧ Drawn0 w w')
 case atStart => exact ⟨(0), eqd, H', ⟨Nat.le_refl _⟩, by repeat (first | exact Drawn0.refl _ | apply Drawn0.step)⟩
 case round =>
  clear H'
  try clear c1
  try clear p2
  obtain ⟨x8_1, rfl, HA, HK1, ⟨m1, rfl⟩⟩ := hrel
  cases gk with
  | zero => exact absurd HA.out (by simp [spec_trLess.l0])
  | succ k1 =>
   have H := HA.out
   clear HA
   simp only [spec_trLess.l0] at H
   by_cases c3 : x8_1 < (l0.length : Int)
   ·rw [if_pos c3] at H
    have c3b0 : decide (x8_1 < (l0.length : Int)) = true := decide_eq_true c3
    clear c3
    by_cases c4 : 0 ≤ x8_1
    ·rw [if_pos c4] at H
     have c4b0 : decide (0 ≤ x8_1) = true := decide_eq_true c4
     clear c4
     by_cases c5 : x8_1 < (l0.length : Int)
     ·rw [if_pos c5] at H
      have c5b0 : decide (x8_1 < (l0.length : Int)) = true := decide_eq_true c5
      clear c5
      by_cases c6 : x8_1 < (l1.length : Int)
      ·rw [if_pos c6] at H
       have c6b0 : decide (x8_1 < (l1.length : Int)) = true := decide_eq_true c6
       clear c6
       by_cases c7 : (rd l0 x8_1) = (rd l1 x8_1)
       ·rw [if_pos c7] at H
        have c7b0 : ((rd l0 x8_1) == (rd l1 x8_1)) = true := beq_iff_eq.mpr c7
        have c7b1 : ((rd l0 x8_1) != (rd l1 x8_1)) = false := bne_eq_false_iff_eq.mpr c7
        clear c7
        have H' := Aside0.mk H
        clear H
        have p936 : 0 ≤ (x8_1 : Int) := ofd
        have q936 : x8_1 < (l0.length : Int) := ofd
        obtain ⟨ad936, e936, hx936_0⟩ := Kd.at_int HR0.out x8_1 p936 q936
        cases e936
        replace p936 := eq_true p936
        replace q936 := eq_true q936
        have p937 : 0 ≤ (x8_1 : Int) := ofd
        have q937 : x8_1 < (l1.length : Int) := ofd
        obtain ⟨ad937, e937, hx937_0⟩ := Kd.at_int HR1.out x8_1 p937 q937
        cases e937
        replace p937 := eq_true p937
        replace q937 := eq_true q937
        go_wp2
        repeat (go_quiet (fail); try go_wp2)
        go_roundg k1
        case measure => have := HK1.out; omega
        case rel => exact ⟨(wrap64 (x8_1 + 1)), eqd, H', ⟨by have := HK1.out; omega⟩, by repeat (first | exact Drawn0.refl _ | apply Drawn0.step)⟩
       ·rw [if_neg c7] at H
        have c7b0 : ((rd l0 x8_1) == (rd l1 x8_1)) = false := beq_eq_false_iff_ne.mpr c7
        have c7b1 : ((rd l0 x8_1) != (rd l1 x8_1)) = true := bne_iff_ne.mpr c7
        obtain rfl := Option.some.inj H
        have p936 : 0 ≤ (x8_1 : Int) := ofd
        have q936 : x8_1 < (l0.length : Int) := ofd
        obtain ⟨ad936, e936, hx936_0⟩ := Kd.at_int HR0.out x8_1 p936 q936
        cases e936
        replace p936 := eq_true p936
        replace q936 := eq_true q936
        have p937 : 0 ≤ (x8_1 : Int) := ofd
        have q937 : x8_1 < (l1.length : Int) := ofd
        obtain ⟨ad937, e937, hx937_0⟩ := Kd.at_int HR1.out x8_1 p937 q937
        cases e937
        replace p937 := eq_true p937
        replace q937 := eq_true q937
        have p938 : 0 ≤ (x8_1 : Int) := ofd
        have q938 : x8_1 < (l0.length : Int) := ofd
        obtain ⟨ad938, e938, hx938_0⟩ := Kd.at_int HR0.out x8_1 p938 q938
        obtain rfl : ad936 = ad938 := (by injection e938)
        replace p938 := eq_true p938
        replace q938 := eq_true q938
        have p939 : 0 ≤ (x8_1 : Int) := ofd
        have q939 : x8_1 < (l1.length : Int) := ofd
        obtain ⟨ad939, e939, hx939_0⟩ := Kd.at_int HR1.out x8_1 p939 q939
        obtain rfl : ad937 = ad939 := (by injection e939)
        replace p939 := eq_true p939
        replace q939 := eq_true q939
        go_wp2
        repeat (go_quiet (fail); try go_wp2)
        go_ret
        exact ⟨by first | rfl | (simp; done) | (simp [*]; done), by repeat (first | exact Drawn0.refl _ | apply Drawn0.step)⟩
      ·rw [if_neg c6] at H
       exact absurd H (by simp)
     ·rw [if_neg c5] at H
      exact absurd H (by simp)
    ·rw [if_neg c4] at H
     exact absurd H (by simp)
   ·rw [if_neg c3] at H
    have c3b0 : decide (x8_1 < (l0.length : Int)) = false := decide_eq_false c3
    clear c3
    obtain rfl := Option.some.inj H
    go_wp2
    repeat (go_quiet (fail); try go_wp2)
    go_ret
    exact ⟨by first | rfl | (simp; done) | (simp [*]; done), by repeat (first | exact Drawn0.refl _ | apply Drawn0.step)⟩
noncomputable def spec_trLess.L0 (x0 : List Int) (x1 : List Int) (x7 : Int) (x8 : Int) : Option (Bool) := lim fun k => spec_trLess.l0 k x0 x1 x7 x8
theorem spec_trLess.L0_lim (x0 : List Int) (x1 : List Int) (x7 : Int) (x8 : Int) : Lim (fun k => spec_trLess.l0 k x0 x1 x7 x8) (spec_trLess.L0 x0 x1 x7 x8) := Lim.of fun k => (spec_trLess.mono_l k) x0 x1 x7 x8
noncomputable def spec_trLess.F (l0 : List Int) (l1 : List Int) : Option (Bool) := lim fun k => spec_trLess.f k l0 l1
theorem spec_trLess.F_lim (l0 : List Int) (l1 : List Int) : Lim (fun k => spec_trLess.f k l0 l1) (spec_trLess.F l0 l1) := Lim.of fun k => spec_trLess.mono l0 l1 k
theorem spec_trLess.L0_eq (x0 : List Int) (x1 : List Int) (x7 : Int) (x8 : Int) : spec_trLess.L0 x0 x1 x7 x8 = (if x8 < x7 then (if 0 ≤ x8 then (if x8 < (x0.length : Int) then (if x8 < (x1.length : Int) then (if (rd x0 x8) = (rd x1 x8) then (spec_trLess.L0 x0 x1 x7 (wrap64 (x8 + 1))) else (some (decide ((rd x0 x8) < (rd x1 x8))))) else (none)) else (none)) else (none)) else (some false)) :=
 Lim.step (f := fun k => spec_trLess.l0 (k + 1) x0 x1 x7 x8) (spec_trLess.L0_lim x0 x1 x7 x8) (fun _ => rfl) (by
  simp only [spec_trLess.l0]
  repeat' (first | (with_reducible first | exact Lim.const _ | exact spec_trLess.L0_lim _ _ _ _ | refine Lim.ite ?_ ?_ | refine Lim.bind ?_ (fun _ => ?_))))
theorem spec_trLess.F_eq (l0 : List Int) (l1 : List Int) : spec_trLess.F l0 l1 = (spec_trLess.L0 l0 l1 (l0.length : Int) 0) :=
 Lim.unique (spec_trLess.F_lim l0 l1) (by
  unfold spec_trLess.f
  repeat' (first | (with_reducible first | exact Lim.const _ | exact spec_trLess.L0_lim _ _ _ _ | refine Lim.ite ?_ ?_ | refine Lim.bind ?_ (fun _ => ?_))))
/-! ### spec_doTurn: function 156 -/
def spec_doTurn.l0 : Nat → List Int → List Int → List Int → Int → Int → Option (List Int)
 | 0, _, _, _, _, _ => none
 | k + 1, x0, x3, x9, x10, x11 => if x11 < x10 then (if 0 ≤ x11 then (if x11 < (x9.length : Int) then (if 0 ≤ (rd x9 x11) then (if (rd x9 x11) < (x3.length : Int) then (spec_doTurn.l0 k x0 (x3.set ((rd x9 x11) : Int).toNat (wrap64 ((wrap64 ((x0.length : Int) - 1)) - x11))) x9 x10 (wrap64 (x11 + 1))) else (none)) else (none)) else (none)) else (none)) else (some x3)
def spec_doTurn.f (k : Nat) (l0 : List Int) : Option (List Int) := if 0 ≤ (l0.length : Int) then (if ((l0.length : Int) : Int).toNat ≤ 35184372088832 then (spec_doTurn.l0 k l0 (List.replicate ((l0.length : Int) : Int).toNat 0) l0 (l0.length : Int) 0) else (none)) else (none)
theorem spec_doTurn.mono_l : ∀ k, (∀ y0 y1 y2 y3 y4, LeO (spec_doTurn.l0 k y0 y1 y2 y3 y4) (spec_doTurn.l0 (k + 1) y0 y1 y2 y3 y4))
 | 0 => fun _ _ _ _ _ r h => by simp [spec_doTurn.l0] at h
 | k + 1 => by
  have ih0 := spec_doTurn.mono_l k
  ·intro y0 y1 y2 y3 y4
   unfold spec_doTurn.l0
   repeat' (first | (with_reducible first | exact ih0 _ _ _ _ _ | exact LeO.refl _ | exact LeO.none _ | refine LeO.ite ?_ ?_ | refine LeO.bind ?_ (fun _ => ?_)) | exact ih0 _ _ _ _ _ | exact LeO.none _ | refine LeO.ite ?_ ?_ | refine LeO.bind ?_ (fun _ => ?_))
theorem spec_doTurn.mono : ∀ a0 k, LeO (spec_doTurn.f k a0) (spec_doTurn.f (k + 1) a0) := by
 intro a0 k
 have ih0 := spec_doTurn.mono_l k
 unfold spec_doTurn.f
 repeat' (first | (with_reducible first | exact ih0 _ _ _ _ _ | exact LeO.refl _ | exact LeO.none _ | refine LeO.ite ?_ ?_ | refine LeO.bind ?_ (fun _ => ?_)) | exact ih0 _ _ _ _ _ | exact LeO.none _ | refine LeO.ite ?_ ?_ | refine LeO.bind ?_ (fun _ => ?_))
set_option maxHeartbeats 8000000 in
set_option maxRecDepth 100000 in
theorem spec_doTurn.calls (k : Nat) (A0 : Option Addr) (c0 : Nat) (l0 : List Int) (r : List Int) (w : World) (hr0 : Kd.C (Kd.int .i64) w A0 l0.length l0) (hc0 : l0.length ≤ c0) (h : spec_doTurn.f k l0 = some r) :
  Calls Try.prog 156 #[.slice A0 l0.length c0] w fun e w' => ∃ v0_ : Value, e = .returned (v0_) ∧ Kd.R (Kd.int .i64) 3 w' w.heap.size (fun _ => True) v0_ r ∧ Below w.heap.size w w' := by
 have HR0 := Aside0.mk hr0
 have HC0 := Aside0.mk hc0
 clear hr0 hc0
 have HB := Aside0.mk (Below.refl w.heap.size w)
 have H := h
 unfold spec_doTurn.f at H
 clear h
 by_cases c2 : 0 ≤ (l0.length : Int)
 ·rw [if_pos c2] at H
  have c2b0 := eq_true c2
  have c2b1 : decide (0 ≤ (l0.length : Int)) = true := decide_eq_true c2
  clear c2
  by_cases c3 : ((l0.length : Int) : Int).toNat ≤ 35184372088832
  ·rw [if_pos c3] at H
   have c3b0 := eq_true c3
   have c3b1 : decide (((l0.length : Int) : Int).toNat ≤ 35184372088832) = true := decide_eq_true c3
   clear c3
   obtain ⟨y940, hy940⟩ : ∃ y_ : List Int, y_ = (List.replicate ((l0.length : Int) : Int).toNat 0) := ⟨_, rfl⟩
   replace H : (spec_doTurn.l0 k l0 y940 l0 (l0.length : Int) 0) = some r := by first | (rw [hy940]; with_reducible exact H) | (have H2_ := (Option.bind_some _ _).symm.trans H; rw [hy940]; with_reducible exact H2_) | (have H2_ := (Option.bind_some _ _).symm.trans H; with_reducible exact H2_) | with_reducible exact H | (rw [hy940]; exact H) | exact H
   have Ny940 := Aside0.mk hy940
   clear hy940
   have H' := Aside0.mk H
   clear H
   go_enter Try.func156, Try.ntmps156
   go_wp2_with (first | ((with_reducible refine gate_dst (N := 8) rfl ?_); refine Kd.R_make (Kd.int .i64) _ 3 rfl (N := 8) rfl 24 _ _ rfl (l0.length : Int) rfl rfl Try.underlying24 (.int .i64 0) 8 info3 rfl (by decide) (by omega) 0 (ok := fun _ => True) (okp := fun _ => True) rfl (fun _ hk => hk) trivial (of_decide_eq_true (by first | (with_reducible assumption) | assumption)) (Nat.le_trans (Nat.mul_le_mul_right _ (of_decide_eq_true (by first | (with_reducible assumption) | assumption) : (l0.length : Int).toNat ≤ 35184372088832)) (by omega)) (Below.refl _ _) (Nat.le_refl _) ?_; intro v941 w4 ho5 hb hg_ hnew_; clear hg_ hnew_; (first | rw [← Ny940.out] at ho5 | (simp only [Int.reduceToNat] at ho5; rw [← Ny940.out] at ho5)); have HO942 := lowR ho5 HB; replace HB := upB HB hb; clear hb ho5))
   go_loopg [11] k (fun kq v11 w' => ∃ (x3_1 : List Int) (x11_1 : Int), v11 = .int .i64 x11_1 ∧ Aside0 (spec_doTurn.l0 kq l0 x3_1 l0 (l0.length : Int) x11_1 = some r) ∧ Aside0 (kq ≤ k) ∧ Aside0 (Kd.R (Kd.int .i64) 3 w' w.heap.size (fun _ => True) v941 x3_1) ∧ Aside0 (Below w.heap.size w w'))
   case atStart => exact ⟨(y940), (0), eqd, H', ⟨Nat.le_refl _⟩, ⟨atR HO942⟩, ⟨atB HB⟩⟩
   case round =>
    clear H'
    try clear c1
    try clear c2
    try clear c2b0
    try clear c2b1
    try clear p2
    try clear c3
    try clear c3b0
    try clear c3b1
    obtain ⟨x3_1, x11_1, rfl, HA, HK1, HO_3, HB⟩ := hrel
    cases gk with
    | zero => exact absurd HA.out (by simp [spec_doTurn.l0])
    | succ k1 =>
     have H := HA.out
     clear HA
     simp only [spec_doTurn.l0] at H
     by_cases c6 : x11_1 < (l0.length : Int)
     ·rw [if_pos c6] at H
      have c6b0 : decide (x11_1 < (l0.length : Int)) = true := decide_eq_true c6
      clear c6
      by_cases c7 : 0 ≤ x11_1
      ·rw [if_pos c7] at H
       have c7b0 : decide (0 ≤ x11_1) = true := decide_eq_true c7
       clear c7
       by_cases c8 : x11_1 < (l0.length : Int)
       ·rw [if_pos c8] at H
        have c8b0 : decide (x11_1 < (l0.length : Int)) = true := decide_eq_true c8
        clear c8
        by_cases c9 : 0 ≤ (rd l0 x11_1)
        ·rw [if_pos c9] at H
         have c9b0 : decide (0 ≤ (rd l0 x11_1)) = true := decide_eq_true c9
         clear c9
         by_cases c10 : (rd l0 x11_1) < (x3_1.length : Int)
         ·rw [if_pos c10] at H
          have c10b0 : decide ((rd l0 x11_1) < (x3_1.length : Int)) = true := decide_eq_true c10
          clear c10
          obtain ⟨y944, hy944⟩ : ∃ y_ : List Int, y_ = (x3_1.set ((rd l0 x11_1) : Int).toNat (wrap64 ((wrap64 ((l0.length : Int) - 1)) - x11_1))) := ⟨_, rfl⟩
          replace H : (spec_doTurn.l0 k1 l0 y944 l0 (l0.length : Int) (wrap64 (x11_1 + 1))) = some r := by first | (rw [hy944]; with_reducible exact H) | (have H2_ := (Option.bind_some _ _).symm.trans H; rw [hy944]; with_reducible exact H2_) | (have H2_ := (Option.bind_some _ _).symm.trans H; with_reducible exact H2_) | with_reducible exact H | (rw [hy944]; exact H) | exact H
          have Ny944 := Aside0.mk hy944
          clear hy944
          have H' := Aside0.mk H
          clear H
          have p943 : 0 ≤ (x11_1 : Int) := ofd
          have q943 : x11_1 < (l0.length : Int) := ofd
          obtain ⟨ad943, e943, hx943_0⟩ := Kd.at_int HR0.out x11_1 p943 q943
          cases e943
          (try replace hx943_0 := (HB.out.cell (World.block_lt_of_cell? w _ hx943_0)).trans hx943_0)
          replace p943 := eq_true p943
          replace q943 := eq_true q943
          have p11 : 0 ≤ ((rd l0 x11_1) : Int) := ofd
          have q11 : ((rd l0 x11_1) : Int) < ((x3_1.length : Int) : Int) := ofd
          obtain ⟨go11, co11, eo11, gb11, gl11, cl11, HG11⟩ := Kd.R_form HO_3.out (by omega)
          (first | cases eo11 | (injection eo11 with ea_ en_ ec_; (first | subst ea_ | (injection ea_ with ea_; subst ea_)); subst ec_; clear en_))
          have GB11 := Aside0.mk gb11
          have GG11 := Aside0.mk HG11
          clear gb11 gl11 HG11
          obtain ⟨hx11_0, hf11_0⟩ := Kd.R_celln 0 HO_3.out ((rd l0 x11_1) : Int) p11 q11
          replace p11 := eq_true p11
          replace q11 := eq_true q11
          have HP12 := Kd.R_putg HO_3.out ((rd l0 x11_1) : Int) (wrap64 ((wrap64 ((l0.length : Int) - 1)) - x11_1))
          go_wp2_with (first | ((with_reducible refine gate_store (t := 3) (p := 23) rfl ?_); refine store_event (t := 3) (p := 23) (v := ?vo_w13) (w1 := (wr.setCell ⟨go11, ((rd l0 x11_1) : Int).toNat, none⟩ (.int .i64 (wrap64 ((wrap64 ((l0.length : Int) - 1)) - x11_1))))) ?hg ?ho ?hn ?hr ?_; (case ho => rfl); (case hg => rfl); (case hn => rfl); (case hr => first | (go_simp; done) | (go_simp; rfl)); intro w13 hw; have hg : wr.grownBy w13 (some go11) := (by rw [hw]; exact HP12.2); have hp_ : Kd.R (Kd.int .i64) 3 w13 w.heap.size (fun _ => True) (.slice (some ⟨go11, 0, none⟩) x3_1.length co11) y944 := (by rw [hw, Ny944.out]; exact HP12.1); clear HP12; replace HO_3 := Aside0.mk (hp_); replace HB := Aside0.mk ((by rw [hw]; exact below_set (HB.out) GB11.out : Below w.heap.size w w13)); clear hg hw hp_))
          go_roundg k1
          case measure => have := HK1.out; omega
          case rel => exact ⟨(y944), (wrap64 (x11_1 + 1)), eqd, H', ⟨by have := HK1.out; omega⟩, ⟨atR HO_3⟩, ⟨atB HB⟩⟩
         ·rw [if_neg c10] at H
          exact absurd H (by simp)
        ·rw [if_neg c9] at H
         exact absurd H (by simp)
       ·rw [if_neg c8] at H
        exact absurd H (by simp)
      ·rw [if_neg c7] at H
       exact absurd H (by simp)
     ·rw [if_neg c6] at H
      have c6b0 : decide (x11_1 < (l0.length : Int)) = false := decide_eq_false c6
      clear c6
      obtain rfl := Option.some.inj H
      go_wp2
      go_ret
      exact ⟨_, eqr, atR HO_3, atB HB⟩
  ·rw [if_neg c3] at H
   exact absurd H (by simp)
 ·rw [if_neg c2] at H
  exact absurd H (by simp)
noncomputable def spec_doTurn.L0 (x0 : List Int) (x3 : List Int) (x9 : List Int) (x10 : Int) (x11 : Int) : Option (List Int) := lim fun k => spec_doTurn.l0 k x0 x3 x9 x10 x11
theorem spec_doTurn.L0_lim (x0 : List Int) (x3 : List Int) (x9 : List Int) (x10 : Int) (x11 : Int) : Lim (fun k => spec_doTurn.l0 k x0 x3 x9 x10 x11) (spec_doTurn.L0 x0 x3 x9 x10 x11) := Lim.of fun k => (spec_doTurn.mono_l k) x0 x3 x9 x10 x11
noncomputable def spec_doTurn.F (l0 : List Int) : Option (List Int) := lim fun k => spec_doTurn.f k l0
theorem spec_doTurn.F_lim (l0 : List Int) : Lim (fun k => spec_doTurn.f k l0) (spec_doTurn.F l0) := Lim.of fun k => spec_doTurn.mono l0 k
theorem spec_doTurn.L0_eq (x0 : List Int) (x3 : List Int) (x9 : List Int) (x10 : Int) (x11 : Int) : spec_doTurn.L0 x0 x3 x9 x10 x11 = (if x11 < x10 then (if 0 ≤ x11 then (if x11 < (x9.length : Int) then (if 0 ≤ (rd x9 x11) then (if (rd x9 x11) < (x3.length : Int) then (spec_doTurn.L0 x0 (x3.set ((rd x9 x11) : Int).toNat (wrap64 ((wrap64 ((x0.length : Int) - 1)) - x11))) x9 x10 (wrap64 (x11 + 1))) else (none)) else (none)) else (none)) else (none)) else (some x3)) :=
 Lim.step (f := fun k => spec_doTurn.l0 (k + 1) x0 x3 x9 x10 x11) (spec_doTurn.L0_lim x0 x3 x9 x10 x11) (fun _ => rfl) (by
  simp only [spec_doTurn.l0]
  repeat' (first | (with_reducible first | exact Lim.const _ | exact spec_doTurn.L0_lim _ _ _ _ _ | refine Lim.ite ?_ ?_ | refine Lim.bind ?_ (fun _ => ?_))))
theorem spec_doTurn.F_eq (l0 : List Int) : spec_doTurn.F l0 = (if 0 ≤ (l0.length : Int) then (if ((l0.length : Int) : Int).toNat ≤ 35184372088832 then (spec_doTurn.L0 l0 (List.replicate ((l0.length : Int) : Int).toNat 0) l0 (l0.length : Int) 0) else (none)) else (none)) :=
 Lim.unique (spec_doTurn.F_lim l0) (by
  unfold spec_doTurn.f
  repeat' (first | (with_reducible first | exact Lim.const _ | exact spec_doTurn.L0_lim _ _ _ _ _ | refine Lim.ite ?_ ?_ | refine Lim.bind ?_ (fun _ => ?_))))
/-! ### spec_doLeast: function 130 -/
mutual
def spec_doLeast.l0 : Nat → List Int → List (List Int) → Int → Int → Option (List Int)
 | 0, _, _, _, _ => none
 | k + 1, x3, x12, x13, x14 => if x14 < x13 then (if 0 ≤ x14 then (if x14 < (x12.length : Int) then (spec_doLeast.l1 k x3 (rd_L2 x12 x14) 0 x12 x13 x14) else (none)) else (none)) else ((spec_l1Own.f x3).bind fun t954 => (some t954))
def spec_doLeast.l1 : Nat → List Int → List Int → Int → List (List Int) → Int → Int → Option (List Int)
 | 0, _, _, _, _, _, _ => none
 | k + 1, x3, x5, x6, x12, x13, x14 => if x6 < 4 then ((spec_trLess.f k x5 x3).bind fun t958 => (if t958 = true then ((spec_doTurn.f k x5).bind fun t959 => (spec_doLeast.l1 k x5 t959 (wrap64 (x6 + 1)) x12 x13 x14)) else ((spec_doTurn.f k x5).bind fun t962 => (spec_doLeast.l1 k x3 t962 (wrap64 (x6 + 1)) x12 x13 x14)))) else (spec_doLeast.l0 k x3 x12 x13 (wrap64 (x14 + 1)))
end
def spec_doLeast.f (k : Nat) (l0 : List Int) : Option (List Int) := (spec_l1Own.f l0).bind fun t945 => ((spec_roBack.f k l0).bind fun t948 => ((some (([l0, t948] : List (List Int)) : List (List Int))).bind fun y951 => (spec_doLeast.l0 k t945 y951 (y951.length : Int) 0)))
theorem spec_doLeast.mono_l : ∀ k, (∀ y0 y1 y2 y3, LeO (spec_doLeast.l0 k y0 y1 y2 y3) (spec_doLeast.l0 (k + 1) y0 y1 y2 y3)) ∧ (∀ y0 y1 y2 y3 y4 y5, LeO (spec_doLeast.l1 k y0 y1 y2 y3 y4 y5) (spec_doLeast.l1 (k + 1) y0 y1 y2 y3 y4 y5))
 | 0 => ⟨fun _ _ _ _ r h => by simp [spec_doLeast.l0] at h, fun _ _ _ _ _ _ r h => by simp [spec_doLeast.l1] at h⟩
 | k + 1 => by
  obtain ⟨ih0, ih1⟩ := spec_doLeast.mono_l k
  refine ⟨?_, ?_⟩
  ·intro y0 y1 y2 y3
   unfold spec_doLeast.l0
   repeat' (first | (with_reducible first | exact ih1 _ _ _ _ _ _ | exact LeO.refl _ | exact LeO.none _ | refine LeO.ite ?_ ?_ | refine LeO.bind ?_ (fun _ => ?_)) | exact ih1 _ _ _ _ _ _ | exact LeO.none _ | refine LeO.ite ?_ ?_ | refine LeO.bind ?_ (fun _ => ?_))
  ·intro y0 y1 y2 y3 y4 y5
   unfold spec_doLeast.l1
   repeat' (first | (with_reducible first | exact ih0 _ _ _ _ | exact ih1 _ _ _ _ _ _ | exact spec_doTurn.mono _ _ | exact spec_trLess.mono _ _ _ | exact LeO.refl _ | exact LeO.none _ | refine LeO.ite ?_ ?_ | refine LeO.bind ?_ (fun _ => ?_)) | exact ih0 _ _ _ _ | exact ih1 _ _ _ _ _ _ | exact spec_doTurn.mono _ _ | exact spec_trLess.mono _ _ _ | exact LeO.none _ | refine LeO.ite ?_ ?_ | refine LeO.bind ?_ (fun _ => ?_))
theorem spec_doLeast.mono : ∀ a0 k, LeO (spec_doLeast.f k a0) (spec_doLeast.f (k + 1) a0) := by
 intro a0 k
 obtain ⟨ih0, ih1⟩ := spec_doLeast.mono_l k
 unfold spec_doLeast.f
 repeat' (first | (with_reducible first | exact ih0 _ _ _ _ | exact spec_roBack.mono _ _ | exact LeO.refl _ | exact LeO.none _ | refine LeO.ite ?_ ?_ | refine LeO.bind ?_ (fun _ => ?_)) | exact ih0 _ _ _ _ | exact spec_roBack.mono _ _ | exact LeO.none _ | refine LeO.ite ?_ ?_ | refine LeO.bind ?_ (fun _ => ?_))
set_option maxHeartbeats 8000000 in
set_option maxRecDepth 100000 in
theorem spec_doLeast.calls (k : Nat) (P0_ : Nat → Prop) (A0 : Option Addr) (c0 : Nat) (l0 : List Int) (r : List Int) (w : World) (hs0 : Kd.V (Kd.int .i64) 3 w w.heap.size (fun k_ => P0_ k_) (.slice A0 l0.length c0) l0) (h : spec_doLeast.f k l0 = some r) :
  Calls Try.prog 130 #[.slice A0 l0.length c0] w fun e w' => ∃ v0_ : Value, e = .returned (v0_) ∧ Kd.R (Kd.int .i64) 3 w' w.heap.size (fun k_ => (w.heap.size ≤ k_)) v0_ r ∧ Below w.heap.size w w' := by
 have HO0 := Aside0.mk (show Kd.V (Kd.int .i64) 3 w w.heap.size (fun k_ => (P0_ k_ ∨ w.heap.size ≤ k_)) (.slice A0 l0.length c0) l0 from Kd.V_mono hs0 (fun k_ hk => .inl hk))
 have HB := Aside0.mk (Below.refl w.heap.size w)
 have H := h
 unfold spec_doLeast.f at H
 clear h
 replace H := Option.bind_eq_some_iff.mp H
 obtain ⟨t945, A20, H⟩ := H
 replace H : ((spec_roBack.f k l0).bind fun t948 => ((some (([l0, t948] : List (List Int)) : List (List Int))).bind fun y951 => (spec_doLeast.l0 k t945 y951 (y951.length : Int) 0))) = some r := H
 have A2 := Aside0.mk A20
 clear A20
 replace H := Option.bind_eq_some_iff.mp H
 obtain ⟨t948, A30, H⟩ := H
 replace H : ((some (([l0, t948] : List (List Int)) : List (List Int))).bind fun y951 => (spec_doLeast.l0 k t945 y951 (y951.length : Int) 0)) = some r := H
 have A3 := Aside0.mk A30
 clear A30
 obtain ⟨y951, hy951⟩ : ∃ y_ : List (List Int), y_ = (([l0, t948] : List (List Int))) := ⟨_, rfl⟩
 replace H : (spec_doLeast.l0 k t945 y951 (y951.length : Int) 0) = some r := by first | (rw [hy951]; with_reducible exact H) | (have H2_ := (Option.bind_some _ _).symm.trans H; rw [hy951]; with_reducible exact H2_) | (have H2_ := (Option.bind_some _ _).symm.trans H; with_reducible exact H2_) | with_reducible exact H | (rw [hy951]; exact H) | exact H
 have Ny951 := Aside0.mk hy951
 clear hy951
 have H' := Aside0.mk H
 clear H
 go_enter Try.func130, Try.ntmps130
 go_wp2_with (first | ((with_reducible refine gate_callee (f := 144) rfl ?_); refine goesA (some 8) Try.func144 #[.slice A0 l0.length c0] ?_; (with_reducible refine (spec_l1Own.calls _ _ l0 t945 _ ?side1 ?side2 A2.out).mono ?_); (case side1 => repeat (first | exact (Kd.V_reads' HO0.out).2.2 | (with_reducible refine Kd.C_alloc ?_ _) | (with_reducible refine Kd.C_drewN ?_ _) | (with_reducible refine Kd.C_drew ?_))); (case side2 => exact (Kd.V_reads' HO0.out).2.1); rintro e w4 ⟨v946, rfl, ho0, hb⟩; refine ⟨_, rfl, ?_⟩; have HO947 := Aside0.mk (Kd.R_lower (Kd.R_newM (M := fun k_ => (w.heap.size ≤ k_)) ho0 (szB HB) (fun k_ h_ => h_)) (szB HB)); replace HO0 := Aside0.mk (Kd.V_elder' (by (with_reducible repeat (first | apply Kd.V_alloc | apply Kd.V_drewN | apply Kd.V_drew)); exact HO0.out) (Kd.R_base ho0) hb); replace HB := upB HB hb; (try clear hb); (try clear hb2); (try clear hk); (try clear hi); (try clear ho0)) | ((with_reducible refine gate_callee (f := 147) rfl ?_); refine goesA (some 11) Try.func147 #[.slice A0 l0.length c0] ?_; (with_reducible refine (spec_roBack.calls k _ _ l0 t948 _ ?side1 ?side2 A3.out).mono ?_); (case side1 => repeat (first | exact (Kd.V_reads' HO0.out).2.2 | (with_reducible refine Kd.C_alloc ?_ _) | (with_reducible refine Kd.C_drewN ?_ _) | (with_reducible refine Kd.C_drew ?_))); (case side2 => exact (Kd.V_reads' HO0.out).2.1); rintro e w5 ⟨v949, rfl, ho0, hb⟩; refine ⟨_, rfl, ?_⟩; have HO950 := Aside0.mk (Kd.R_lower (Kd.R_new' (Kd.R_newM (M := fun k_ => (w.heap.size ≤ k_)) ho0 (szB HB) (fun k_ h_ => h_)) (ltR HO947)) (szB HB)); replace HO0 := Aside0.mk (Kd.V_elder' (by (with_reducible repeat (first | apply Kd.V_alloc | apply Kd.V_drewN | apply Kd.V_drew)); exact HO0.out) (Kd.R_base ho0) hb); replace HO947 := eldRR HO947 ho0 hb; replace HB := upB HB hb; (try clear hb); (try clear hb2); (try clear hk); (try clear hi); (try clear ho0); obtain ⟨Ao6, co6, eo6⟩ := Kd.R_slice HO950.out; subst eo6) | ((with_reducible refine gate_dst (N := 12) rfl ?_); refine N_lit0 (Kd.slice 3 (Kd.int .i64)) 24 ?hg (N' := 12) ?hd (xs := ([l0, t948] : List (List Int))) (inner := [.slice A0 l0.length c0, .slice Ao6 t948.length co6]) (ok := (fun k_ => (P0_ k_ ∨ w.heap.size ≤ k_) ∧ some k_ ≠ (v946 : Value).ownBlock)) (okp := (fun k_ => (P0_ k_ ∨ w.heap.size ≤ k_) ∧ some k_ ≠ (v946 : Value).ownBlock)) ?hr ?hp (fun _ hk => hk) (by exact (show ∀ k_, w5.heap.size ≤ k_ → (fun k_ => (P0_ k_ ∨ w.heap.size ≤ k_) ∧ some k_ ≠ (v946 : Value).ownBlock) k_ from fun k_ hk => ⟨(.inr (Nat.le_trans (szB HB) hk)), Kd.fresh' (ltR HO947) k_ hk⟩) _ (Nat.le_refl _)) (by simp) ?_; (case hd => rfl); (case hg => rfl); (case hr => first | (go_simp; done) | (go_simp; rfl)); (case hp => exact (Reps.one (show Kd.FK (Kd.slice 3 (Kd.int .i64)) _ _ l0 [.slice A0 l0.length c0] from (Kd.FK_slice_mk (Kd.V_reads' (Kd.V_mono (ok' := (fun k_ => (P0_ k_ ∨ w.heap.size ≤ k_) ∧ some k_ ≠ (v946 : Value).ownBlock)) (HO0.out) (fun k_ hk => ⟨hk.1.1, hk.1.2⟩))).2.1 (Kd.V_F (Kd.V_mono (ok' := (fun k_ => (P0_ k_ ∨ w.heap.size ≤ k_) ∧ some k_ ≠ (v946 : Value).ownBlock)) (by (with_reducible repeat (first | apply Kd.V_alloc | apply Kd.V_drewN | apply Kd.V_drew)); exact HO0.out) (by exact fun k_ hk => ⟨hk.1.1, hk.1.2⟩))))) (Reps.one (show Kd.FK (Kd.slice 3 (Kd.int .i64)) _ _ t948 [.slice Ao6 t948.length co6] from (Kd.FK_slice_mk (Kd.R_reads' (Kd.R_mono (ok' := (fun k_ => (P0_ k_ ∨ w.heap.size ≤ k_) ∧ some k_ ≠ (v946 : Value).ownBlock)) (HO950.out) (fun k_ hk => ⟨(.inr (hk.1.1)), hk.2⟩))).2.1 (Kd.R_F (Kd.R_mono (ok' := (fun k_ => (P0_ k_ ∨ w.heap.size ≤ k_) ∧ some k_ ≠ (v946 : Value).ownBlock)) (HO950.out) (fun k_ hk => ⟨(.inr (hk.1.1)), hk.2⟩))))) (Reps.none _ _)))); intro v952 w7 ho8 hb hg_ hnew_; clear hg_ hnew_; (first | rw [← Ny951.out] at ho8 | (simp only [Int.reduceToNat] at ho8; rw [← Ny951.out] at ho8)); have HO953 := Aside0.mk (Kd.N_lower ho8 (szB HB)); replace HO0 := Aside0.mk (Kd.V_elder' (by (with_reducible repeat (first | apply Kd.V_alloc | apply Kd.V_drewN | apply Kd.V_drew)); exact HO0.out) (Kd.N_base ho8) hb); replace HO947 := upR HO947 hb; replace HB := upB HB hb; clear HO950; clear hb ho8; obtain ⟨Ao9, co9, eo9⟩ := Kd.N_slice HO953.out; subst eo9))
 go_loopg [3, 14] k (fun kq v3 v14 w' => ∃ (x3_1 : List Int) (x14_1 : Int), v14 = .int .i64 x14_1 ∧ Aside0 (spec_doLeast.l0 kq x3_1 y951 (y951.length : Int) x14_1 = some r) ∧ Aside0 (kq ≤ k) ∧ Aside0 (Kd.V (Kd.int .i64) 3 w' w.heap.size (fun k_ => (P0_ k_ ∨ w.heap.size ≤ k_) ∧ some k_ ≠ ((.slice Ao9 y951.length co9) : Value).ownBlock) v3 x3_1) ∧ Aside0 (Kd.N (Kd.slice 3 (Kd.int .i64)) 24 w' w.heap.size (fun k_ => (P0_ k_ ∨ w.heap.size ≤ k_)) (.slice Ao9 y951.length co9) y951) ∧ Aside0 (Below w.heap.size w w'))
 case atStart => exact ⟨(t945), (0), eqd, H', ⟨Nat.le_refl _⟩, ⟨Kd.R_V (by (with_reducible repeat (first | apply Kd.R_alloc | apply Kd.R_drewN | apply Kd.R_drew)); exact Kd.R_mono (Kd.R_apart' HO947.out (Kd.N_typed HO953.out) (by decide)) (fun _ hk => ⟨.inr (hk.1.1.1), hk.2⟩))⟩, ⟨by (with_reducible repeat (first | apply Kd.N_alloc | apply Kd.N_drewN | apply Kd.N_drew)); exact Kd.N_mono HO953.out (fun _ hk => hk.1)⟩, ⟨atB HB⟩⟩
 case round =>
  clear H'
  try clear c1
  try clear p2
  obtain ⟨x3_1, x14_1, rfl, HA, HK1, HO_3, HO_12, HB⟩ := hrel
  cases gk with
  | zero => exact absurd HA.out (by simp [spec_doLeast.l0])
  | succ k1 =>
   have H := HA.out
   clear HA
   simp only [spec_doLeast.l0] at H
   by_cases c10 : x14_1 < (y951.length : Int)
   ·rw [if_pos c10] at H
    have c10b0 : decide (x14_1 < (y951.length : Int)) = true := decide_eq_true c10
    clear c10
    by_cases c11 : 0 ≤ x14_1
    ·rw [if_pos c11] at H
     have c11b0 : decide (0 ≤ x14_1) = true := decide_eq_true c11
     clear c11
     by_cases c12 : x14_1 < (y951.length : Int)
     ·rw [if_pos c12] at H
      have c12b0 : decide (x14_1 < (y951.length : Int)) = true := decide_eq_true c12
      clear c12
      have H' := Aside0.mk H
      clear H
      have p957 : 0 ≤ (x14_1 : Int) := ofd
      have q957 : x14_1 < (y951.length : Int) := ofd
      obtain ⟨ad957, A957_0, c957_0, e957, hx957_0, hl957_0, hi957_0⟩ := at_L2 (Kd.N_reads' HO_12.out).2.2 x14_1 p957 q957
      cases e957
      obtain ⟨ce957, hce957, hMe957, hcc957⟩ := Kd.N_get HO_12.out [] x14_1 p957 (by first | exact q957 | exact of_decide_eq_true (by first | (with_reducible assumption) | assumption) | (have e_ := (Kd.N_reads' HO_12.out).1; omega))
      obtain ⟨ua957_0, uc957_0, rfl, ul957_0, ge957_0⟩ := Kd.FK_slice_open hMe957
      have hv957_0 := hcc957 0 _ rfl
      rw [Nat.add_zero, show ((Kd.slice 3 (Kd.int .i64))).sz = 1 from rfl, Nat.mul_one] at hv957_0
      replace hv957_0 := Option.some.inj (hv957_0.symm.trans hx957_0)
      injection hv957_0 with hva_ hvn_ hvc_
      rw [hva_] at ge957_0
      rw [hvc_] at ul957_0
      have HL957_0 := Aside0.mk (show Kd.V (Kd.int .i64) 3 _ w.heap.size _ _ (rd_L2 y951 x14_1) from Kd.V_mk ul957_0 ge957_0)
      clear hva_ hvn_ hvc_ ge957_0 ul957_0
      clear hcc957 hce957
      have HR957_0 := Aside0.mk hi957_0
      have HC957_0 := Aside0.mk hl957_0
      clear hi957_0 hl957_0
      replace p957 := eq_true p957
      replace q957 := eq_true q957
      go_wp2
      go_loopg [3, 5, 6] k1 (fun kq v3 v5 v6 w' => ∃ (x3_2 : List Int) (x5_2 : List Int) (x6_2 : Int), v6 = .int .i64 x6_2 ∧ Aside0 (spec_doLeast.l1 kq x3_2 x5_2 x6_2 y951 (y951.length : Int) x14_1 = some r) ∧ Aside0 (kq ≤ k1) ∧ Aside0 (Kd.V (Kd.int .i64) 3 w' w.heap.size (fun k_ => (P0_ k_ ∨ w.heap.size ≤ k_) ∧ some k_ ≠ ((.slice (some ad957) y951.length co9) : Value).ownBlock) v3 x3_2) ∧ Aside0 (Kd.V (Kd.int .i64) 3 w' w.heap.size (fun k_ => (P0_ k_ ∨ w.heap.size ≤ k_) ∧ some k_ ≠ ((.slice (some ad957) y951.length co9) : Value).ownBlock) v5 x5_2) ∧ Aside0 (Kd.N (Kd.slice 3 (Kd.int .i64)) 24 w' w.heap.size (fun k_ => (P0_ k_ ∨ w.heap.size ≤ k_)) (.slice (some ad957) y951.length co9) y951) ∧ Aside0 (Kd.C (Kd.int .i64) w' A957_0 (rd_L2 y951 x14_1).length (rd_L2 y951 x14_1)) ∧ Aside0 (Below w.heap.size w w'))
      case atStart => exact ⟨(x3_1), (rd_L2 y951 x14_1), (0), eqd, H', ⟨Nat.le_refl _⟩, ⟨by (with_reducible repeat (first | apply Kd.V_alloc | apply Kd.V_drewN | apply Kd.V_drew)); exact HO_3.out⟩, ⟨by (with_reducible repeat (first | apply Kd.V_alloc | apply Kd.V_drewN | apply Kd.V_drew)); exact HL957_0.out⟩, ⟨by (with_reducible repeat (first | apply Kd.N_alloc | apply Kd.N_drewN | apply Kd.N_drew)); exact HO_12.out⟩, ⟨atC HR957_0⟩, ⟨atB HB⟩⟩
      case round =>
       clear H'
       try clear c1
       try clear p2
       try clear c9
       try clear p9
       try clear q9
       try clear hx9
       try clear c10
       try clear c10b0
       try clear c11
       try clear c11b0
       try clear c12
       try clear c12b0
       try clear hx957_0
       try clear p2
       try clear p957
       try clear q957
       obtain ⟨x3_2, x5_2, x6_2, rfl, HA, HK2, HO_3, HO_5, HO_12, HR957_0, HB⟩ := hrel
       cases gk with
       | zero => exact absurd HA.out (by simp [spec_doLeast.l1])
       | succ k2 =>
        have H := HA.out
        clear HA
        simp only [spec_doLeast.l1] at H
        by_cases c13 : x6_2 < 4
        ·rw [if_pos c13] at H
         have c13b0 : decide (x6_2 < 4) = true := decide_eq_true c13
         clear c13
         replace H := Option.bind_eq_some_iff.mp H
         obtain ⟨t958, A140, H⟩ := H
         replace H : (if t958 = true then ((spec_doTurn.f k2 x5_2).bind fun t959 => (spec_doLeast.l1 k2 x5_2 t959 (wrap64 (x6_2 + 1)) y951 (y951.length : Int) x14_1)) else ((spec_doTurn.f k2 x5_2).bind fun t962 => (spec_doLeast.l1 k2 x3_2 t962 (wrap64 (x6_2 + 1)) y951 (y951.length : Int) x14_1))) = some r := H
         have A14 := Aside0.mk A140
         clear A140
         by_cases c15 : t958 = true
         ·subst c15
          have H1 : ((spec_doTurn.f k2 x5_2).bind fun t959 => (spec_doLeast.l1 k2 x5_2 t959 (wrap64 (x6_2 + 1)) y951 (y951.length : Int) x14_1)) = some r := by rw [if_pos rfl] at H; exact H
          clear H
          have H := H1
          clear H1
          replace H := Option.bind_eq_some_iff.mp H
          obtain ⟨t959, A160, H⟩ := H
          replace H : (spec_doLeast.l1 k2 x5_2 t959 (wrap64 (x6_2 + 1)) y951 (y951.length : Int) x14_1) = some r := H
          have A16 := Aside0.mk A160
          clear A160
          have H' := Aside0.mk H
          clear H
          obtain ⟨Ao17, co17, eo17⟩ := Kd.V_slice HO_5.out
          subst eo17
          obtain ⟨Ao18, co18, eo18⟩ := Kd.V_slice HO_3.out
          subst eo18
          go_wp2_with (first | ((with_reducible refine gate_callee (f := 155) rfl ?_); refine goesA (some 24) Try.func155 #[.slice Ao17 x5_2.length co17, .slice Ao18 x3_2.length co18] ?_; (with_reducible refine (spec_trLess.calls k2 _ _ x5_2 _ _ x3_2 true _ ?side1 ?side2 ?side3 ?side4 A14.out).mono ?_); (case side1 => repeat (first | exact (Kd.V_reads' HO_5.out).2.2 | (with_reducible refine Kd.C_alloc ?_ _) | (with_reducible refine Kd.C_drewN ?_ _) | (with_reducible refine Kd.C_drew ?_))); (case side2 => exact (Kd.V_reads' HO_5.out).2.1); (case side3 => repeat (first | exact (Kd.V_reads' HO_3.out).2.2 | (with_reducible refine Kd.C_alloc ?_ _) | (with_reducible refine Kd.C_drewN ?_ _) | (with_reducible refine Kd.C_drew ?_))); (case side4 => exact (Kd.V_reads' HO_3.out).2.1); rintro e w' ⟨rfl, ⟨nd, rfl⟩⟩; refine ⟨_, rfl, ?_⟩) | ((with_reducible refine gate_callee (f := 156) rfl ?_); refine goesA (some 27) Try.func156 #[.slice Ao17 x5_2.length co17] ?_; (with_reducible refine (spec_doTurn.calls k2 _ _ x5_2 t959 _ ?side1 ?side2 A16.out).mono ?_); (case side1 => repeat (first | exact (Kd.V_reads' HO_5.out).2.2 | (with_reducible refine Kd.C_alloc ?_ _) | (with_reducible refine Kd.C_drewN ?_ _) | (with_reducible refine Kd.C_drew ?_))); (case side2 => exact (Kd.V_reads' HO_5.out).2.1); rintro e w19 ⟨v960, rfl, ho0, hb⟩; refine ⟨_, rfl, ?_⟩; have HO961 := Aside0.mk (Kd.R_lower (Kd.R_newM (M := fun k_ => (w.heap.size ≤ k_)) ho0 (szB HB) (fun k_ h_ => h_)) (szB HB)); replace HO_3 := Aside0.mk (Kd.V_elder' (by (with_reducible repeat (first | apply Kd.V_alloc | apply Kd.V_drewN | apply Kd.V_drew)); exact HO_3.out) (Kd.R_base ho0) hb); replace HO_5 := Aside0.mk (Kd.V_elder' (by (with_reducible repeat (first | apply Kd.V_alloc | apply Kd.V_drewN | apply Kd.V_drew)); exact HO_5.out) (Kd.R_base ho0) hb); replace HO_12 := Aside0.mk (Kd.N_elder' (by (with_reducible repeat (first | apply Kd.N_alloc | apply Kd.N_drewN | apply Kd.N_drew)); exact HO_12.out) (Kd.R_base ho0) hb); replace HR957_0 := upC HR957_0 hb; replace HB := upB HB hb; (try clear hb); (try clear hb2); (try clear hk); (try clear hi); (try clear ho0)))
          go_roundg k2
          case measure => have := HK1.out; have := HK2.out; omega
          case rel => exact ⟨(x5_2), (t959), (wrap64 (x6_2 + 1)), eqd, H', ⟨by have := HK1.out; have := HK2.out; omega⟩, ⟨by (with_reducible repeat (first | apply Kd.V_alloc | apply Kd.V_drewN | apply Kd.V_drew)); exact Kd.V_mono HO_5.out (fun _ hk => ⟨hk.1.1, hk.1.2⟩)⟩, ⟨Kd.R_V (by (with_reducible repeat (first | apply Kd.R_alloc | apply Kd.R_drewN | apply Kd.R_drew)); exact Kd.R_mono (Kd.R_apart' HO961.out (Kd.N_typed HO_12.out) (by decide)) (fun _ hk => ⟨.inr (hk.1.1), hk.2⟩))⟩, ⟨by (with_reducible repeat (first | apply Kd.N_alloc | apply Kd.N_drewN | apply Kd.N_drew)); exact Kd.N_mono HO_12.out (fun _ hk => hk.1)⟩, ⟨atC HR957_0⟩, ⟨atB HB⟩⟩
         ·replace c15 := Bool.eq_false_iff.mpr c15
          subst c15
          have H1 : ((spec_doTurn.f k2 x5_2).bind fun t962 => (spec_doLeast.l1 k2 x3_2 t962 (wrap64 (x6_2 + 1)) y951 (y951.length : Int) x14_1)) = some r := by rw [if_neg (show ¬ (false = true) by decide)] at H; exact H
          clear H
          have H := H1
          clear H1
          replace H := Option.bind_eq_some_iff.mp H
          obtain ⟨t962, A200, H⟩ := H
          replace H : (spec_doLeast.l1 k2 x3_2 t962 (wrap64 (x6_2 + 1)) y951 (y951.length : Int) x14_1) = some r := H
          have A20 := Aside0.mk A200
          clear A200
          have H' := Aside0.mk H
          clear H
          obtain ⟨Ao21, co21, eo21⟩ := Kd.V_slice HO_5.out
          subst eo21
          obtain ⟨Ao22, co22, eo22⟩ := Kd.V_slice HO_3.out
          subst eo22
          go_wp2_with (first | ((with_reducible refine gate_callee (f := 155) rfl ?_); refine goesA (some 24) Try.func155 #[.slice Ao21 x5_2.length co21, .slice Ao22 x3_2.length co22] ?_; (with_reducible refine (spec_trLess.calls k2 _ _ x5_2 _ _ x3_2 false _ ?side1 ?side2 ?side3 ?side4 A14.out).mono ?_); (case side1 => repeat (first | exact (Kd.V_reads' HO_5.out).2.2 | (with_reducible refine Kd.C_alloc ?_ _) | (with_reducible refine Kd.C_drewN ?_ _) | (with_reducible refine Kd.C_drew ?_))); (case side2 => exact (Kd.V_reads' HO_5.out).2.1); (case side3 => repeat (first | exact (Kd.V_reads' HO_3.out).2.2 | (with_reducible refine Kd.C_alloc ?_ _) | (with_reducible refine Kd.C_drewN ?_ _) | (with_reducible refine Kd.C_drew ?_))); (case side4 => exact (Kd.V_reads' HO_3.out).2.1); rintro e w' ⟨rfl, ⟨nd, rfl⟩⟩; refine ⟨_, rfl, ?_⟩) | ((with_reducible refine gate_callee (f := 156) rfl ?_); refine goesA (some 27) Try.func156 #[.slice Ao21 x5_2.length co21] ?_; (with_reducible refine (spec_doTurn.calls k2 _ _ x5_2 t962 _ ?side1 ?side2 A20.out).mono ?_); (case side1 => repeat (first | exact (Kd.V_reads' HO_5.out).2.2 | (with_reducible refine Kd.C_alloc ?_ _) | (with_reducible refine Kd.C_drewN ?_ _) | (with_reducible refine Kd.C_drew ?_))); (case side2 => exact (Kd.V_reads' HO_5.out).2.1); rintro e w23 ⟨v963, rfl, ho0, hb⟩; refine ⟨_, rfl, ?_⟩; have HO964 := Aside0.mk (Kd.R_lower (Kd.R_newM (M := fun k_ => (w.heap.size ≤ k_)) ho0 (szB HB) (fun k_ h_ => h_)) (szB HB)); replace HO_3 := Aside0.mk (Kd.V_elder' (by (with_reducible repeat (first | apply Kd.V_alloc | apply Kd.V_drewN | apply Kd.V_drew)); exact HO_3.out) (Kd.R_base ho0) hb); replace HO_5 := Aside0.mk (Kd.V_elder' (by (with_reducible repeat (first | apply Kd.V_alloc | apply Kd.V_drewN | apply Kd.V_drew)); exact HO_5.out) (Kd.R_base ho0) hb); replace HO_12 := Aside0.mk (Kd.N_elder' (by (with_reducible repeat (first | apply Kd.N_alloc | apply Kd.N_drewN | apply Kd.N_drew)); exact HO_12.out) (Kd.R_base ho0) hb); replace HR957_0 := upC HR957_0 hb; replace HB := upB HB hb; (try clear hb); (try clear hb2); (try clear hk); (try clear hi); (try clear ho0)))
          go_roundg k2
          case measure => have := HK1.out; have := HK2.out; omega
          case rel => exact ⟨(x3_2), (t962), (wrap64 (x6_2 + 1)), eqd, H', ⟨by have := HK1.out; have := HK2.out; omega⟩, ⟨by (with_reducible repeat (first | apply Kd.V_alloc | apply Kd.V_drewN | apply Kd.V_drew)); exact Kd.V_mono HO_3.out (fun _ hk => ⟨hk.1.1, hk.1.2⟩)⟩, ⟨Kd.R_V (by (with_reducible repeat (first | apply Kd.R_alloc | apply Kd.R_drewN | apply Kd.R_drew)); exact Kd.R_mono (Kd.R_apart' HO964.out (Kd.N_typed HO_12.out) (by decide)) (fun _ hk => ⟨.inr (hk.1.1), hk.2⟩))⟩, ⟨by (with_reducible repeat (first | apply Kd.N_alloc | apply Kd.N_drewN | apply Kd.N_drew)); exact Kd.N_mono HO_12.out (fun _ hk => hk.1)⟩, ⟨atC HR957_0⟩, ⟨atB HB⟩⟩
        ·rw [if_neg c13] at H
         have c13b0 : decide (x6_2 < 4) = false := decide_eq_false c13
         clear c13
         have H' := Aside0.mk H
         clear H
         go_wp2
         go_roundg k2
         case measure => have := HK1.out; have := HK2.out; omega
         case rel => exact ⟨(x3_2), (wrap64 (x14_1 + 1)), eqd, H', ⟨by have := HK1.out; have := HK2.out; omega⟩, ⟨by (with_reducible repeat (first | apply Kd.V_alloc | apply Kd.V_drewN | apply Kd.V_drew)); exact HO_3.out⟩, ⟨by (with_reducible repeat (first | apply Kd.N_alloc | apply Kd.N_drewN | apply Kd.N_drew)); exact HO_12.out⟩, ⟨atB HB⟩⟩
     ·rw [if_neg c12] at H
      exact absurd H (by simp)
    ·rw [if_neg c11] at H
     exact absurd H (by simp)
   ·rw [if_neg c10] at H
    have c10b0 : decide (x14_1 < (y951.length : Int)) = false := decide_eq_false c10
    clear c10
    replace H := Option.bind_eq_some_iff.mp H
    obtain ⟨t954, A240, H⟩ := H
    replace H : (some t954) = some r := H
    have A24 := Aside0.mk A240
    clear A240
    obtain rfl := Option.some.inj H
    obtain ⟨Ao25, co25, eo25⟩ := Kd.V_slice HO_3.out
    subst eo25
    go_wp2_with (first | ((with_reducible refine gate_callee (f := 144) rfl ?_); refine goesA (some 30) Try.func144 #[.slice Ao25 x3_1.length co25] ?_; (with_reducible refine (spec_l1Own.calls _ _ x3_1 t954 _ ?side1 ?side2 A24.out).mono ?_); (case side1 => repeat (first | exact (Kd.V_reads' HO_3.out).2.2 | (with_reducible refine Kd.C_alloc ?_ _) | (with_reducible refine Kd.C_drewN ?_ _) | (with_reducible refine Kd.C_drew ?_))); (case side2 => exact (Kd.V_reads' HO_3.out).2.1); rintro e w26 ⟨v955, rfl, ho0, hb⟩; refine ⟨_, rfl, ?_⟩; have HO956 := Aside0.mk (Kd.R_lower (Kd.R_newM (M := fun k_ => (w.heap.size ≤ k_)) ho0 (szB HB) (fun k_ h_ => h_)) (szB HB)); replace HO_3 := Aside0.mk (Kd.V_elder' (by (with_reducible repeat (first | apply Kd.V_alloc | apply Kd.V_drewN | apply Kd.V_drew)); exact HO_3.out) (Kd.R_base ho0) hb); replace HO_12 := Aside0.mk (Kd.N_elder' (by (with_reducible repeat (first | apply Kd.N_alloc | apply Kd.N_drewN | apply Kd.N_drew)); exact HO_12.out) (Kd.R_base ho0) hb); replace HB := upB HB hb; (try clear hb); (try clear hb2); (try clear hk); (try clear hi); (try clear ho0)))
    go_ret
    exact ⟨_, eqr, by (with_reducible repeat (first | apply Kd.R_alloc | apply Kd.R_drewN | apply Kd.R_drew)); exact Kd.R_mono HO956.out (fun _ hk => hk.1), atB HB⟩
noncomputable def spec_doLeast.L0 (x3 : List Int) (x12 : List (List Int)) (x13 : Int) (x14 : Int) : Option (List Int) := lim fun k => spec_doLeast.l0 k x3 x12 x13 x14
theorem spec_doLeast.L0_lim (x3 : List Int) (x12 : List (List Int)) (x13 : Int) (x14 : Int) : Lim (fun k => spec_doLeast.l0 k x3 x12 x13 x14) (spec_doLeast.L0 x3 x12 x13 x14) := Lim.of fun k => (spec_doLeast.mono_l k).1 x3 x12 x13 x14
noncomputable def spec_doLeast.L1 (x3 : List Int) (x5 : List Int) (x6 : Int) (x12 : List (List Int)) (x13 : Int) (x14 : Int) : Option (List Int) := lim fun k => spec_doLeast.l1 k x3 x5 x6 x12 x13 x14
theorem spec_doLeast.L1_lim (x3 : List Int) (x5 : List Int) (x6 : Int) (x12 : List (List Int)) (x13 : Int) (x14 : Int) : Lim (fun k => spec_doLeast.l1 k x3 x5 x6 x12 x13 x14) (spec_doLeast.L1 x3 x5 x6 x12 x13 x14) := Lim.of fun k => (spec_doLeast.mono_l k).2 x3 x5 x6 x12 x13 x14
noncomputable def spec_doLeast.F (l0 : List Int) : Option (List Int) := lim fun k => spec_doLeast.f k l0
theorem spec_doLeast.F_lim (l0 : List Int) : Lim (fun k => spec_doLeast.f k l0) (spec_doLeast.F l0) := Lim.of fun k => spec_doLeast.mono l0 k
theorem spec_doLeast.L0_eq (x3 : List Int) (x12 : List (List Int)) (x13 : Int) (x14 : Int) : spec_doLeast.L0 x3 x12 x13 x14 = (if x14 < x13 then (if 0 ≤ x14 then (if x14 < (x12.length : Int) then (spec_doLeast.L1 x3 (rd_L2 x12 x14) 0 x12 x13 x14) else (none)) else (none)) else ((spec_l1Own.f x3).bind fun t954 => (some t954))) :=
 Lim.step (f := fun k => spec_doLeast.l0 (k + 1) x3 x12 x13 x14) (spec_doLeast.L0_lim x3 x12 x13 x14) (fun _ => rfl) (by
  simp only [spec_doLeast.l0]
  repeat' (first | (with_reducible first | exact Lim.const _ | exact spec_doLeast.L1_lim _ _ _ _ _ _ | refine Lim.ite ?_ ?_ | refine Lim.bind ?_ (fun _ => ?_))))
theorem spec_doLeast.L1_eq (x3 : List Int) (x5 : List Int) (x6 : Int) (x12 : List (List Int)) (x13 : Int) (x14 : Int) : spec_doLeast.L1 x3 x5 x6 x12 x13 x14 = (if x6 < 4 then ((spec_trLess.F x5 x3).bind fun t958 => (if t958 = true then ((spec_doTurn.F x5).bind fun t959 => (spec_doLeast.L1 x5 t959 (wrap64 (x6 + 1)) x12 x13 x14)) else ((spec_doTurn.F x5).bind fun t962 => (spec_doLeast.L1 x3 t962 (wrap64 (x6 + 1)) x12 x13 x14)))) else (spec_doLeast.L0 x3 x12 x13 (wrap64 (x14 + 1)))) :=
 Lim.step (f := fun k => spec_doLeast.l1 (k + 1) x3 x5 x6 x12 x13 x14) (spec_doLeast.L1_lim x3 x5 x6 x12 x13 x14) (fun _ => rfl) (by
  simp only [spec_doLeast.l1]
  repeat' (first | (with_reducible first | exact Lim.const _ | exact spec_doLeast.L0_lim _ _ _ _ | exact spec_doLeast.L1_lim _ _ _ _ _ _ | exact spec_doTurn.F_lim _ | exact spec_trLess.F_lim _ _ | refine Lim.ite ?_ ?_ | refine Lim.bind ?_ (fun _ => ?_))))
theorem spec_doLeast.F_eq (l0 : List Int) : spec_doLeast.F l0 = ((spec_l1Own.f l0).bind fun t945 => ((spec_roBack.F l0).bind fun t948 => ((some (([l0, t948] : List (List Int)) : List (List Int))).bind fun y951 => (spec_doLeast.L0 t945 y951 (y951.length : Int) 0)))) :=
 Lim.unique (spec_doLeast.F_lim l0) (by
  unfold spec_doLeast.f
  repeat' (first | (with_reducible first | exact Lim.const _ | exact spec_doLeast.L0_lim _ _ _ _ | exact spec_roBack.F_lim _ | refine Lim.ite ?_ ?_ | refine Lim.bind ?_ (fun _ => ?_))))
/-! ### spec_CountClasses: function 69 -/
def spec_CountClasses.l0 : Nat → Int → List (List Int) → Int → Int → Option (Int × Bool)
 | 0, _, _, _, _ => none
 | k + 1, x4, x11, x12, x13 => if x13 < x12 then (if 0 ≤ x13 then (if x13 < (x11.length : Int) then ((spec_doLeast.f k (rd_L2 x11 x13)).bind fun t970 => ((spec_l1Same.f k t970 (rd_L2 x11 x13)).bind fun t973 => (if t973 = true then (spec_CountClasses.l0 k (wrap64 (x4 + 1)) x11 x12 (wrap64 (x13 + 1))) else (spec_CountClasses.l0 k x4 x11 x12 (wrap64 (x13 + 1)))))) else (none)) else (none)) else (some (x4, true))
def spec_CountClasses.f (k : Nat) (a0 : Int) : Option (Int × Bool) := (spec_l1In.f a0 1 7).bind fun t965 => (if t965 = true then ((spec_doAll.f k a0 ([] : List Int) 1073741824).bind fun t966 => (spec_CountClasses.l0 k 0 t966 (t966.length : Int) 0)) else (some (0, false)))
theorem spec_CountClasses.mono_l : ∀ k, (∀ y0 y1 y2 y3, LeO (spec_CountClasses.l0 k y0 y1 y2 y3) (spec_CountClasses.l0 (k + 1) y0 y1 y2 y3))
 | 0 => fun _ _ _ _ r h => by simp [spec_CountClasses.l0] at h
 | k + 1 => by
  have ih0 := spec_CountClasses.mono_l k
  ·intro y0 y1 y2 y3
   unfold spec_CountClasses.l0
   repeat' (first | (with_reducible first | exact ih0 _ _ _ _ | exact spec_doLeast.mono _ _ | exact spec_l1Same.mono _ _ _ | exact LeO.refl _ | exact LeO.none _ | refine LeO.ite ?_ ?_ | refine LeO.bind ?_ (fun _ => ?_)) | exact ih0 _ _ _ _ | exact spec_doLeast.mono _ _ | exact spec_l1Same.mono _ _ _ | exact LeO.none _ | refine LeO.ite ?_ ?_ | refine LeO.bind ?_ (fun _ => ?_))
theorem spec_CountClasses.mono : ∀ a0 k, LeO (spec_CountClasses.f k a0) (spec_CountClasses.f (k + 1) a0) := by
 intro a0 k
 have ih0 := spec_CountClasses.mono_l k
 unfold spec_CountClasses.f
 repeat' (first | (with_reducible first | exact ih0 _ _ _ _ | exact spec_doAll.mono _ _ _ _ | exact LeO.refl _ | exact LeO.none _ | refine LeO.ite ?_ ?_ | refine LeO.bind ?_ (fun _ => ?_)) | exact ih0 _ _ _ _ | exact spec_doAll.mono _ _ _ _ | exact LeO.none _ | refine LeO.ite ?_ ?_ | refine LeO.bind ?_ (fun _ => ?_))
set_option maxHeartbeats 8000000 in
set_option maxRecDepth 100000 in
theorem spec_CountClasses.calls (k : Nat) (a0 : Int) (r1 : Int) (r2 : Bool) (w : World) (h : spec_CountClasses.f k a0 = some (r1, r2)) :
  Calls Try.prog 69 #[.int .i64 a0] w fun e w' => e = .returned (.tuple #[.int .i64 r1, .bool r2]) ∧ Below w.heap.size w w' := by
 have HB := Aside0.mk (Below.refl w.heap.size w)
 have H := h
 unfold spec_CountClasses.f at H
 clear h
 replace H := Option.bind_eq_some_iff.mp H
 obtain ⟨t965, A20, H⟩ := H
 replace H : (if t965 = true then ((spec_doAll.f k a0 ([] : List Int) 1073741824).bind fun t966 => (spec_CountClasses.l0 k 0 t966 (t966.length : Int) 0)) else (some (0, false))) = some (r1, r2) := H
 have A2 := Aside0.mk A20
 clear A20
 by_cases c3 : t965 = true
 ·subst c3
  have H1 : ((spec_doAll.f k a0 ([] : List Int) 1073741824).bind fun t966 => (spec_CountClasses.l0 k 0 t966 (t966.length : Int) 0)) = some (r1, r2) := by rw [if_pos rfl] at H; exact H
  clear H
  have H := H1
  clear H1
  replace H := Option.bind_eq_some_iff.mp H
  obtain ⟨t966, A40, H⟩ := H
  replace H : (spec_CountClasses.l0 k 0 t966 (t966.length : Int) 0) = some (r1, r2) := H
  have A4 := Aside0.mk A40
  clear A40
  have H' := Aside0.mk H
  clear H
  go_enter Try.func69, Try.ntmps69
  go_wp2_with (first | ((with_reducible refine gate_callee (f := 102) rfl ?_); refine goesA (some 8) Try.func102 #[.int .i64 a0, .int .i64 1, .int .i64 7] ?_; (with_reducible refine (spec_l1In.calls a0 1 7 true _ A2.out).mono ?_); rintro e w' ⟨rfl, ⟨nd, rfl⟩⟩; refine ⟨_, rfl, ?_⟩) | ((with_reducible refine gate_callee (f := 126) rfl ?_); refine goesA (some 11) Try.func126 #[.int .i64 a0, .slice none 0 0, .int .i64 1073741824] ?_; (refine (spec_doAll.calls k a0 _ _ ([] : List Int) 1073741824 t966 _ ?side1 ?side2 A4.out).mono ?_); (case side1 => exact Kd.C_nil _ _); (case side2 => exact Nat.le_refl _); rintro e w5 ⟨v967, rfl, ho0, hb⟩; refine ⟨_, rfl, ?_⟩; have HO968 := Aside0.mk (Kd.N_lower (Kd.N_mono (ok' := fun k_ => True) ho0 (fun k_ hk_ => trivial)) (szB HB)); replace HB := upB HB hb; (try clear hb); (try clear hb2); (try clear hk); (try clear hi); (try clear ho0); obtain ⟨Ao6, co6, eo6⟩ := Kd.N_slice HO968.out; subst eo6))
  go_loopg [4, 13] k (fun kq v4 v13 w' => ∃ (x4_1 : Int) (x13_1 : Int), v4 = .int .i64 x4_1 ∧ v13 = .int .i64 x13_1 ∧ Aside0 (spec_CountClasses.l0 kq x4_1 t966 (t966.length : Int) x13_1 = some (r1, r2)) ∧ Aside0 (kq ≤ k) ∧ Aside0 (Kd.N (Kd.slice 3 (Kd.int .i64)) 24 w' w.heap.size (fun _ => True) (.slice Ao6 t966.length co6) t966) ∧ Aside0 (Below w.heap.size w w'))
  case atStart => exact ⟨(0), (0), eqd, eqd, H', ⟨Nat.le_refl _⟩, ⟨by (with_reducible repeat (first | apply Kd.N_alloc | apply Kd.N_drewN | apply Kd.N_drew)); exact HO968.out⟩, ⟨atB HB⟩⟩
  case round =>
   clear H'
   try clear c1
   try clear p2
   try clear c3
   try clear c6
   obtain ⟨x4_1, x13_1, rfl, rfl, HA, HK1, HO_11, HB⟩ := hrel
   cases gk with
   | zero => exact absurd HA.out (by simp [spec_CountClasses.l0])
   | succ k1 =>
    have H := HA.out
    clear HA
    simp only [spec_CountClasses.l0] at H
    by_cases c7 : x13_1 < (t966.length : Int)
    ·rw [if_pos c7] at H
     have c7b0 : decide (x13_1 < (t966.length : Int)) = true := decide_eq_true c7
     clear c7
     by_cases c8 : 0 ≤ x13_1
     ·rw [if_pos c8] at H
      have c8b0 : decide (0 ≤ x13_1) = true := decide_eq_true c8
      clear c8
      by_cases c9 : x13_1 < (t966.length : Int)
      ·rw [if_pos c9] at H
       have c9b0 : decide (x13_1 < (t966.length : Int)) = true := decide_eq_true c9
       clear c9
       replace H := Option.bind_eq_some_iff.mp H
       obtain ⟨t970, A100, H⟩ := H
       replace H : ((spec_l1Same.f k1 t970 (rd_L2 t966 x13_1)).bind fun t973 => (if t973 = true then (spec_CountClasses.l0 k1 (wrap64 (x4_1 + 1)) t966 (t966.length : Int) (wrap64 (x13_1 + 1))) else (spec_CountClasses.l0 k1 x4_1 t966 (t966.length : Int) (wrap64 (x13_1 + 1))))) = some (r1, r2) := H
       have A10 := Aside0.mk A100
       clear A100
       replace H := Option.bind_eq_some_iff.mp H
       obtain ⟨t973, A110, H⟩ := H
       replace H : (if t973 = true then (spec_CountClasses.l0 k1 (wrap64 (x4_1 + 1)) t966 (t966.length : Int) (wrap64 (x13_1 + 1))) else (spec_CountClasses.l0 k1 x4_1 t966 (t966.length : Int) (wrap64 (x13_1 + 1)))) = some (r1, r2) := H
       have A11 := Aside0.mk A110
       clear A110
       by_cases c12 : t973 = true
       ·subst c12
        have H1 : (spec_CountClasses.l0 k1 (wrap64 (x4_1 + 1)) t966 (t966.length : Int) (wrap64 (x13_1 + 1))) = some (r1, r2) := by rw [if_pos rfl] at H; exact H
        clear H
        have H := H1
        clear H1
        have H' := Aside0.mk H
        clear H
        have p969 : 0 ≤ (x13_1 : Int) := ofd
        have q969 : x13_1 < (t966.length : Int) := ofd
        obtain ⟨ad969, A969_0, c969_0, e969, hx969_0, hl969_0, hi969_0⟩ := at_L2 (Kd.N_reads' HO_11.out).2.2 x13_1 p969 q969
        cases e969
        obtain ⟨ce969, hce969, hMe969, hcc969⟩ := Kd.N_get HO_11.out [] x13_1 p969 (by first | exact q969 | exact of_decide_eq_true (by first | (with_reducible assumption) | assumption) | (have e_ := (Kd.N_reads' HO_11.out).1; omega))
        obtain ⟨ua969_0, uc969_0, rfl, ul969_0, ge969_0⟩ := Kd.FK_slice_open hMe969
        have hv969_0 := hcc969 0 _ rfl
        rw [Nat.add_zero, show ((Kd.slice 3 (Kd.int .i64))).sz = 1 from rfl, Nat.mul_one] at hv969_0
        replace hv969_0 := Option.some.inj (hv969_0.symm.trans hx969_0)
        injection hv969_0 with hva_ hvn_ hvc_
        rw [hva_] at ge969_0
        rw [hvc_] at ul969_0
        have HL969_0 := Aside0.mk (show Kd.V (Kd.int .i64) 3 _ w.heap.size _ _ (rd_L2 t966 x13_1) from Kd.V_mk ul969_0 ge969_0)
        clear hva_ hvn_ hvc_ ge969_0 ul969_0
        clear hcc969 hce969
        have HR969_0 := Aside0.mk hi969_0
        have HC969_0 := Aside0.mk hl969_0
        clear hi969_0 hl969_0
        replace p969 := eq_true p969
        replace q969 := eq_true q969
        go_wp2_with (first | ((with_reducible refine gate_callee (f := 130) rfl ?_); refine goesA (some 18) Try.func130 #[.slice A969_0 (rd_L2 t966 x13_1).length c969_0] ?_; (with_reducible refine (spec_doLeast.calls k1 (fun k_ => (True ∧ some k_ ≠ (.slice (some ad969) t966.length co6 : Value).ownBlock)) _ _ (rd_L2 t966 x13_1) t970 _ ?side1 A10.out).mono ?_); (case side1 => exact HL969_0.out); rintro e w13 ⟨v971, rfl, ho0, hb⟩; refine ⟨_, rfl, ?_⟩; have HO972 := Aside0.mk (Kd.R_lower (Kd.R_mono (ok' := fun k_ => True) ho0 (fun _ hk_ => trivial)) (szB HB)); replace HO_11 := Aside0.mk (Kd.N_elder' (by (with_reducible repeat (first | apply Kd.N_alloc | apply Kd.N_drewN | apply Kd.N_drew)); exact HO_11.out) (Kd.R_base ho0) hb); replace HL969_0 := Aside0.mk (Kd.V_elder' (by (with_reducible repeat (first | apply Kd.V_alloc | apply Kd.V_drewN | apply Kd.V_drew)); exact HL969_0.out) (Kd.R_base ho0) hb); replace HR969_0 := upC HR969_0 hb; replace HB := upB HB hb; (try clear hb); (try clear hb2); (try clear hk); (try clear hi); (try clear ho0); obtain ⟨Ao14, co14, eo14⟩ := Kd.R_slice HO972.out; subst eo14) | ((with_reducible refine gate_callee (f := 129) rfl ?_); refine goesA (some 20) Try.func129 #[.slice Ao14 t970.length co14, .slice A969_0 (rd_L2 t966 x13_1).length c969_0] ?_; (with_reducible refine (spec_l1Same.calls k1 _ _ t970 _ _ (rd_L2 t966 x13_1) true _ ?side1 ?side2 ?side3 ?side4 A11.out).mono ?_); (case side1 => exact atRC HO972); (case side2 => exact (Kd.R_reads' HO972.out).2.1); (case side3 => exact atC HR969_0); (case side4 => exact HC969_0.out); rintro e w' ⟨rfl, ⟨nd, rfl⟩⟩; refine ⟨_, rfl, ?_⟩))
        go_roundg k1
        case measure => have := HK1.out; omega
        case rel => exact ⟨(wrap64 (x4_1 + 1)), (wrap64 (x13_1 + 1)), eqd, eqd, H', ⟨by have := HK1.out; omega⟩, ⟨by (with_reducible repeat (first | apply Kd.N_alloc | apply Kd.N_drewN | apply Kd.N_drew)); exact Kd.N_mono HO_11.out (fun _ hk => trivial)⟩, ⟨atB HB⟩⟩
       ·replace c12 := Bool.eq_false_iff.mpr c12
        subst c12
        have H1 : (spec_CountClasses.l0 k1 x4_1 t966 (t966.length : Int) (wrap64 (x13_1 + 1))) = some (r1, r2) := by rw [if_neg (show ¬ (false = true) by decide)] at H; exact H
        clear H
        have H := H1
        clear H1
        have H' := Aside0.mk H
        clear H
        have p969 : 0 ≤ (x13_1 : Int) := ofd
        have q969 : x13_1 < (t966.length : Int) := ofd
        obtain ⟨ad969, A969_0, c969_0, e969, hx969_0, hl969_0, hi969_0⟩ := at_L2 (Kd.N_reads' HO_11.out).2.2 x13_1 p969 q969
        cases e969
        obtain ⟨ce969, hce969, hMe969, hcc969⟩ := Kd.N_get HO_11.out [] x13_1 p969 (by first | exact q969 | exact of_decide_eq_true (by first | (with_reducible assumption) | assumption) | (have e_ := (Kd.N_reads' HO_11.out).1; omega))
        obtain ⟨ua969_0, uc969_0, rfl, ul969_0, ge969_0⟩ := Kd.FK_slice_open hMe969
        have hv969_0 := hcc969 0 _ rfl
        rw [Nat.add_zero, show ((Kd.slice 3 (Kd.int .i64))).sz = 1 from rfl, Nat.mul_one] at hv969_0
        replace hv969_0 := Option.some.inj (hv969_0.symm.trans hx969_0)
        injection hv969_0 with hva_ hvn_ hvc_
        rw [hva_] at ge969_0
        rw [hvc_] at ul969_0
        have HL969_0 := Aside0.mk (show Kd.V (Kd.int .i64) 3 _ w.heap.size _ _ (rd_L2 t966 x13_1) from Kd.V_mk ul969_0 ge969_0)
        clear hva_ hvn_ hvc_ ge969_0 ul969_0
        clear hcc969 hce969
        have HR969_0 := Aside0.mk hi969_0
        have HC969_0 := Aside0.mk hl969_0
        clear hi969_0 hl969_0
        replace p969 := eq_true p969
        replace q969 := eq_true q969
        go_wp2_with (first | ((with_reducible refine gate_callee (f := 130) rfl ?_); refine goesA (some 18) Try.func130 #[.slice A969_0 (rd_L2 t966 x13_1).length c969_0] ?_; (with_reducible refine (spec_doLeast.calls k1 (fun k_ => (True ∧ some k_ ≠ (.slice (some ad969) t966.length co6 : Value).ownBlock)) _ _ (rd_L2 t966 x13_1) t970 _ ?side1 A10.out).mono ?_); (case side1 => exact HL969_0.out); rintro e w15 ⟨v971, rfl, ho0, hb⟩; refine ⟨_, rfl, ?_⟩; have HO972 := Aside0.mk (Kd.R_lower (Kd.R_mono (ok' := fun k_ => True) ho0 (fun _ hk_ => trivial)) (szB HB)); replace HO_11 := Aside0.mk (Kd.N_elder' (by (with_reducible repeat (first | apply Kd.N_alloc | apply Kd.N_drewN | apply Kd.N_drew)); exact HO_11.out) (Kd.R_base ho0) hb); replace HL969_0 := Aside0.mk (Kd.V_elder' (by (with_reducible repeat (first | apply Kd.V_alloc | apply Kd.V_drewN | apply Kd.V_drew)); exact HL969_0.out) (Kd.R_base ho0) hb); replace HR969_0 := upC HR969_0 hb; replace HB := upB HB hb; (try clear hb); (try clear hb2); (try clear hk); (try clear hi); (try clear ho0); obtain ⟨Ao16, co16, eo16⟩ := Kd.R_slice HO972.out; subst eo16) | ((with_reducible refine gate_callee (f := 129) rfl ?_); refine goesA (some 20) Try.func129 #[.slice Ao16 t970.length co16, .slice A969_0 (rd_L2 t966 x13_1).length c969_0] ?_; (with_reducible refine (spec_l1Same.calls k1 _ _ t970 _ _ (rd_L2 t966 x13_1) false _ ?side1 ?side2 ?side3 ?side4 A11.out).mono ?_); (case side1 => exact atRC HO972); (case side2 => exact (Kd.R_reads' HO972.out).2.1); (case side3 => exact atC HR969_0); (case side4 => exact HC969_0.out); rintro e w' ⟨rfl, ⟨nd, rfl⟩⟩; refine ⟨_, rfl, ?_⟩))
        go_roundg k1
        case measure => have := HK1.out; omega
        case rel => exact ⟨(x4_1), (wrap64 (x13_1 + 1)), eqd, eqd, H', ⟨by have := HK1.out; omega⟩, ⟨by (with_reducible repeat (first | apply Kd.N_alloc | apply Kd.N_drewN | apply Kd.N_drew)); exact Kd.N_mono HO_11.out (fun _ hk => trivial)⟩, ⟨atB HB⟩⟩
      ·rw [if_neg c9] at H
       exact absurd H (by simp)
     ·rw [if_neg c8] at H
      exact absurd H (by simp)
    ·rw [if_neg c7] at H
     have c7b0 : decide (x13_1 < (t966.length : Int)) = false := decide_eq_false c7
     clear c7
     simp only [Option.some.injEq, Prod.mk.injEq] at H
     obtain ⟨rfl, rfl⟩ := H
     go_wp2
     go_ret2
     exact ⟨eqr, atB HB⟩
 ·replace c3 := Bool.eq_false_iff.mpr c3
  subst c3
  have H1 : (some (0, false)) = some (r1, r2) := by rw [if_neg (show ¬ (false = true) by decide)] at H; exact H
  clear H
  have H := H1
  clear H1
  simp only [Option.some.injEq, Prod.mk.injEq] at H
  obtain ⟨rfl, rfl⟩ := H
  go_enter Try.func69, Try.ntmps69
  go_wp2_with (first | ((with_reducible refine gate_callee (f := 102) rfl ?_); refine goesA (some 8) Try.func102 #[.int .i64 a0, .int .i64 1, .int .i64 7] ?_; (with_reducible refine (spec_l1In.calls a0 1 7 false _ A2.out).mono ?_); rintro e w' ⟨rfl, ⟨nd, rfl⟩⟩; refine ⟨_, rfl, ?_⟩))
  go_ret2
  exact ⟨eqr, atB HB⟩
noncomputable def spec_CountClasses.L0 (x4 : Int) (x11 : List (List Int)) (x12 : Int) (x13 : Int) : Option (Int × Bool) := lim fun k => spec_CountClasses.l0 k x4 x11 x12 x13
theorem spec_CountClasses.L0_lim (x4 : Int) (x11 : List (List Int)) (x12 : Int) (x13 : Int) : Lim (fun k => spec_CountClasses.l0 k x4 x11 x12 x13) (spec_CountClasses.L0 x4 x11 x12 x13) := Lim.of fun k => (spec_CountClasses.mono_l k) x4 x11 x12 x13
noncomputable def spec_CountClasses.F (a0 : Int) : Option (Int × Bool) := lim fun k => spec_CountClasses.f k a0
theorem spec_CountClasses.F_lim (a0 : Int) : Lim (fun k => spec_CountClasses.f k a0) (spec_CountClasses.F a0) := Lim.of fun k => spec_CountClasses.mono a0 k
theorem spec_CountClasses.L0_eq (x4 : Int) (x11 : List (List Int)) (x12 : Int) (x13 : Int) : spec_CountClasses.L0 x4 x11 x12 x13 = (if x13 < x12 then (if 0 ≤ x13 then (if x13 < (x11.length : Int) then ((spec_doLeast.F (rd_L2 x11 x13)).bind fun t970 => ((spec_l1Same.F t970 (rd_L2 x11 x13)).bind fun t973 => (if t973 = true then (spec_CountClasses.L0 (wrap64 (x4 + 1)) x11 x12 (wrap64 (x13 + 1))) else (spec_CountClasses.L0 x4 x11 x12 (wrap64 (x13 + 1)))))) else (none)) else (none)) else (some (x4, true))) :=
 Lim.step (f := fun k => spec_CountClasses.l0 (k + 1) x4 x11 x12 x13) (spec_CountClasses.L0_lim x4 x11 x12 x13) (fun _ => rfl) (by
  simp only [spec_CountClasses.l0]
  repeat' (first | (with_reducible first | exact Lim.const _ | exact spec_CountClasses.L0_lim _ _ _ _ | exact spec_doLeast.F_lim _ | exact spec_l1Same.F_lim _ _ | refine Lim.ite ?_ ?_ | refine Lim.bind ?_ (fun _ => ?_))))
theorem spec_CountClasses.F_eq (a0 : Int) : spec_CountClasses.F a0 = ((spec_l1In.f a0 1 7).bind fun t965 => (if t965 = true then ((spec_doAll.F a0 ([] : List Int) 1073741824).bind fun t966 => (spec_CountClasses.L0 0 t966 (t966.length : Int) 0)) else (some (0, false)))) :=
 Lim.unique (spec_CountClasses.F_lim a0) (by
  unfold spec_CountClasses.f
  repeat' (first | (with_reducible first | exact Lim.const _ | exact spec_CountClasses.L0_lim _ _ _ _ | exact spec_doAll.F_lim _ _ _ | refine Lim.ite ?_ ?_ | refine Lim.bind ?_ (fun _ => ?_))))
/-! ### laws_zSame: function 72 -/
def laws_zSame.l0 : Nat → List Int → List Int → Int → Int → Option (Bool)
 | 0, _, _, _, _ => none
 | k + 1, x0, x1, x12, x13 => if x13 < x12 then (if 0 ≤ x13 then (if x13 < (x0.length : Int) then (if x13 < (x1.length : Int) then (if (rd x0 x13) = (rd x1 x13) then (laws_zSame.l0 k x0 x1 x12 (wrap64 (x13 + 1))) else (some false)) else (none)) else (none)) else (none)) else (some true)
def laws_zSame.f (k : Nat) (l0 : List Int) (l1 : List Int) : Option (Bool) := if (l0.length : Int) = (l1.length : Int) then (laws_zSame.l0 k l0 l1 (l0.length : Int) 0) else (some false)
theorem laws_zSame.mono_l : ∀ k, (∀ y0 y1 y2 y3, LeO (laws_zSame.l0 k y0 y1 y2 y3) (laws_zSame.l0 (k + 1) y0 y1 y2 y3))
 | 0 => fun _ _ _ _ r h => by simp [laws_zSame.l0] at h
 | k + 1 => by
  have ih0 := laws_zSame.mono_l k
  ·intro y0 y1 y2 y3
   unfold laws_zSame.l0
   repeat' (first | (with_reducible first | exact ih0 _ _ _ _ | exact LeO.refl _ | exact LeO.none _ | refine LeO.ite ?_ ?_ | refine LeO.bind ?_ (fun _ => ?_)) | exact ih0 _ _ _ _ | exact LeO.none _ | refine LeO.ite ?_ ?_ | refine LeO.bind ?_ (fun _ => ?_))
theorem laws_zSame.mono : ∀ a0 a1 k, LeO (laws_zSame.f k a0 a1) (laws_zSame.f (k + 1) a0 a1) := by
 intro a0 a1 k
 have ih0 := laws_zSame.mono_l k
 unfold laws_zSame.f
 repeat' (first | (with_reducible first | exact ih0 _ _ _ _ | exact LeO.refl _ | exact LeO.none _ | refine LeO.ite ?_ ?_ | refine LeO.bind ?_ (fun _ => ?_)) | exact ih0 _ _ _ _ | exact LeO.none _ | refine LeO.ite ?_ ?_ | refine LeO.bind ?_ (fun _ => ?_))
set_option maxHeartbeats 8000000 in
set_option maxRecDepth 100000 in
theorem laws_zSame.calls (k : Nat) (A0 : Option Addr) (c0 : Nat) (l0 : List Int) (A1 : Option Addr) (c1 : Nat) (l1 : List Int) (r : Bool) (w : World) (hr0 : Kd.C (Kd.int .i64) w A0 l0.length l0) (hc0 : l0.length ≤ c0) (hr1 : Kd.C (Kd.int .i64) w A1 l1.length l1) (hc1 : l1.length ≤ c1) (h : laws_zSame.f k l0 l1 = some r) :
  Calls Try.prog 72 #[.slice A0 l0.length c0, .slice A1 l1.length c1] w fun e w' => e = .returned (.bool r) ∧ Drawn0 w w' := by
 have HR0 := Aside0.mk hr0
 have HC0 := Aside0.mk hc0
 clear hr0 hc0
 have HR1 := Aside0.mk hr1
 have HC1 := Aside0.mk hc1
 clear hr1 hc1
 have H := h
 unfold laws_zSame.f at H
 clear h
 by_cases c3 : (l0.length : Int) = (l1.length : Int)
 ·rw [if_pos c3] at H
  have c3b0 : ((l0.length : Int) == (l1.length : Int)) = true := beq_iff_eq.mpr c3
  have c3b1 : ((l0.length : Int) != (l1.length : Int)) = false := bne_eq_false_iff_eq.mpr c3
  have c3b2 : (l0.length == l1.length) = true := by first | simpa using c3 | (simp at c3 ⊢; omega)
  clear c3
  have H' := Aside0.mk H
  clear H
  go_enter Try.func72, Try.ntmps72
  go_wp2
  repeat (go_quiet (fail); try go_wp2)
  go_loopg [13] k (fun kq v13 w' => ∃ (x13_1 : Int), v13 = .int .i64 x13_1 ∧ Aside0 (laws_zSame.l0 kq l0 l1 (l0.length : Int) x13_1 = some r) ∧ Aside0 (kq ≤ k) ∧ Drawn0 w w')
  case atStart => exact ⟨(0), eqd, H', ⟨Nat.le_refl _⟩, by repeat (first | exact Drawn0.refl _ | apply Drawn0.step)⟩
  case round =>
   clear H'
   try clear c1
   try clear p2
   try clear c3
   try clear c3b0
   try clear c3b1
   try clear c3b2
   obtain ⟨x13_1, rfl, HA, HK1, ⟨m1, rfl⟩⟩ := hrel
   cases gk with
   | zero => exact absurd HA.out (by simp [laws_zSame.l0])
   | succ k1 =>
    have H := HA.out
    clear HA
    simp only [laws_zSame.l0] at H
    by_cases c4 : x13_1 < (l0.length : Int)
    ·rw [if_pos c4] at H
     have c4b0 : decide (x13_1 < (l0.length : Int)) = true := decide_eq_true c4
     clear c4
     by_cases c5 : 0 ≤ x13_1
     ·rw [if_pos c5] at H
      have c5b0 : decide (0 ≤ x13_1) = true := decide_eq_true c5
      clear c5
      by_cases c6 : x13_1 < (l0.length : Int)
      ·rw [if_pos c6] at H
       have c6b0 : decide (x13_1 < (l0.length : Int)) = true := decide_eq_true c6
       clear c6
       by_cases c7 : x13_1 < (l1.length : Int)
       ·rw [if_pos c7] at H
        have c7b0 : decide (x13_1 < (l1.length : Int)) = true := decide_eq_true c7
        clear c7
        by_cases c8 : (rd l0 x13_1) = (rd l1 x13_1)
        ·rw [if_pos c8] at H
         have c8b0 : ((rd l0 x13_1) == (rd l1 x13_1)) = true := beq_iff_eq.mpr c8
         have c8b1 : ((rd l0 x13_1) != (rd l1 x13_1)) = false := bne_eq_false_iff_eq.mpr c8
         clear c8
         have H' := Aside0.mk H
         clear H
         have p974 : 0 ≤ (x13_1 : Int) := ofd
         have q974 : x13_1 < (l0.length : Int) := ofd
         obtain ⟨ad974, e974, hx974_0⟩ := Kd.at_int HR0.out x13_1 p974 q974
         cases e974
         replace p974 := eq_true p974
         replace q974 := eq_true q974
         have p975 : 0 ≤ (x13_1 : Int) := ofd
         have q975 : x13_1 < (l1.length : Int) := ofd
         obtain ⟨ad975, e975, hx975_0⟩ := Kd.at_int HR1.out x13_1 p975 q975
         cases e975
         replace p975 := eq_true p975
         replace q975 := eq_true q975
         go_wp2
         repeat (go_quiet (fail); try go_wp2)
         go_roundg k1
         case measure => have := HK1.out; omega
         case rel => exact ⟨(wrap64 (x13_1 + 1)), eqd, H', ⟨by have := HK1.out; omega⟩, by repeat (first | exact Drawn0.refl _ | apply Drawn0.step)⟩
        ·rw [if_neg c8] at H
         have c8b0 : ((rd l0 x13_1) == (rd l1 x13_1)) = false := beq_eq_false_iff_ne.mpr c8
         have c8b1 : ((rd l0 x13_1) != (rd l1 x13_1)) = true := bne_iff_ne.mpr c8
         obtain rfl := Option.some.inj H
         have p974 : 0 ≤ (x13_1 : Int) := ofd
         have q974 : x13_1 < (l0.length : Int) := ofd
         obtain ⟨ad974, e974, hx974_0⟩ := Kd.at_int HR0.out x13_1 p974 q974
         cases e974
         replace p974 := eq_true p974
         replace q974 := eq_true q974
         have p975 : 0 ≤ (x13_1 : Int) := ofd
         have q975 : x13_1 < (l1.length : Int) := ofd
         obtain ⟨ad975, e975, hx975_0⟩ := Kd.at_int HR1.out x13_1 p975 q975
         cases e975
         replace p975 := eq_true p975
         replace q975 := eq_true q975
         go_wp2
         repeat (go_quiet (fail); try go_wp2)
         go_ret
         exact ⟨by first | rfl | (simp; done) | (simp [*]; done), by repeat (first | exact Drawn0.refl _ | apply Drawn0.step)⟩
       ·rw [if_neg c7] at H
        exact absurd H (by simp)
      ·rw [if_neg c6] at H
       exact absurd H (by simp)
     ·rw [if_neg c5] at H
      exact absurd H (by simp)
    ·rw [if_neg c4] at H
     have c4b0 : decide (x13_1 < (l0.length : Int)) = false := decide_eq_false c4
     clear c4
     obtain rfl := Option.some.inj H
     go_wp2
     repeat (go_quiet (fail); try go_wp2)
     go_ret
     exact ⟨by first | rfl | (simp; done) | (simp [*]; done), by repeat (first | exact Drawn0.refl _ | apply Drawn0.step)⟩
 ·rw [if_neg c3] at H
  have c3b0 : ((l0.length : Int) == (l1.length : Int)) = false := beq_eq_false_iff_ne.mpr c3
  have c3b1 : ((l0.length : Int) != (l1.length : Int)) = true := bne_iff_ne.mpr c3
  have c3b2 : (l0.length == l1.length) = false := by first | simpa using c3 | (simp at c3 ⊢; omega)
  obtain rfl := Option.some.inj H
  go_enter Try.func72, Try.ntmps72
  go_wp2
  repeat (go_quiet (fail); try go_wp2)
  go_ret
  exact ⟨by first | rfl | (simp; done) | (simp [*]; done), by repeat (first | exact Drawn0.refl _ | apply Drawn0.step)⟩
noncomputable def laws_zSame.L0 (x0 : List Int) (x1 : List Int) (x12 : Int) (x13 : Int) : Option (Bool) := lim fun k => laws_zSame.l0 k x0 x1 x12 x13
theorem laws_zSame.L0_lim (x0 : List Int) (x1 : List Int) (x12 : Int) (x13 : Int) : Lim (fun k => laws_zSame.l0 k x0 x1 x12 x13) (laws_zSame.L0 x0 x1 x12 x13) := Lim.of fun k => (laws_zSame.mono_l k) x0 x1 x12 x13
noncomputable def laws_zSame.F (l0 : List Int) (l1 : List Int) : Option (Bool) := lim fun k => laws_zSame.f k l0 l1
theorem laws_zSame.F_lim (l0 : List Int) (l1 : List Int) : Lim (fun k => laws_zSame.f k l0 l1) (laws_zSame.F l0 l1) := Lim.of fun k => laws_zSame.mono l0 l1 k
theorem laws_zSame.L0_eq (x0 : List Int) (x1 : List Int) (x12 : Int) (x13 : Int) : laws_zSame.L0 x0 x1 x12 x13 = (if x13 < x12 then (if 0 ≤ x13 then (if x13 < (x0.length : Int) then (if x13 < (x1.length : Int) then (if (rd x0 x13) = (rd x1 x13) then (laws_zSame.L0 x0 x1 x12 (wrap64 (x13 + 1))) else (some false)) else (none)) else (none)) else (none)) else (some true)) :=
 Lim.step (f := fun k => laws_zSame.l0 (k + 1) x0 x1 x12 x13) (laws_zSame.L0_lim x0 x1 x12 x13) (fun _ => rfl) (by
  simp only [laws_zSame.l0]
  repeat' (first | (with_reducible first | exact Lim.const _ | exact laws_zSame.L0_lim _ _ _ _ | refine Lim.ite ?_ ?_ | refine Lim.bind ?_ (fun _ => ?_))))
theorem laws_zSame.F_eq (l0 : List Int) (l1 : List Int) : laws_zSame.F l0 l1 = (if (l0.length : Int) = (l1.length : Int) then (laws_zSame.L0 l0 l1 (l0.length : Int) 0) else (some false)) :=
 Lim.unique (laws_zSame.F_lim l0 l1) (by
  unfold laws_zSame.f
  repeat' (first | (with_reducible first | exact Lim.const _ | exact laws_zSame.L0_lim _ _ _ _ | refine Lim.ite ?_ ?_ | refine Lim.bind ?_ (fun _ => ?_))))
end Go.Proofs.Ytnhnpplccfojeaa.Fn
