/- The machine's side and plain lemmas for FnCombsAndRings: texts of this session, merged by its program (part 9). -/
import Derived.Test.YtapffhnkfgkboaaMFnCombsAndRings0
import Derived.Test.YtapffhnkfgkboaaMFnCombsAndRings1
import Derived.Test.YtapffhnkfgkboaaMFnCombsAndRings2
import Derived.Test.YtapffhnkfgkboaaMFnCombsAndRings3
import Derived.Test.YtapffhnkfgkboaaMFnCombsAndRings4
import Derived.Test.YtapffhnkfgkboaaMFnCombsAndRings5
import Derived.Test.YtapffhnkfgkboaaMFnCombsAndRings6
import Derived.Test.YtapffhnkfgkboaaMFnCombsAndRings7
import Derived.Test.YtapffhnkfgkboaaMFnCombsAndRings8
set_option maxHeartbeats 80000000
set_option maxRecDepth 100000
namespace Go.Proofs.Ytapffhnkfgkboaa.Fn
open Go.RowKit Go.Proofs.YtapffhnkfgkboaaW.PrintWords Go.Proofs.YtapffhnkfgkboaaW.PrintLast Go.Proofs.YtapffhnkfgkboaaW.PrintMore
attribute [local go_sem] max2_int min2_int max_two min_two max_three min_three max_four min_four
set_option linter.unusedVariables false
set_option linter.unusedSimpArgs false
theorem Zaa.calls (k : Nat) (A0 : Option Addr) (c0 : Nat) (l0 : List Int) (A1 : Option Addr) (c1 : Nat) (l1 : List Int) (r : Bool) (w : World) (hr0 : Kd.C (Kd.int .u8) w A0 l0.length l0) (hc0 : l0.length ≤ c0) (hr1 : Kd.C (Kd.int .u8) w A1 l1.length l1) (hc1 : l1.length ≤ c1) (ht_ : r = true) (h : Zaa.f k l0 l1 = some r) :
  Calls Try.prog 3 #[.slice A0 l0.length c0, .slice A1 l1.length c1] w fun e w' => e = .returned (.bool r) ∧ Below w.heap.size w w' := by
 have HR0 := Aside0.mk hr0
 have HC0 := Aside0.mk hc0
 clear hr0 hc0
 have HR1 := Aside0.mk hr1
 have HC1 := Aside0.mk hc1
 clear hr1 hc1
 have HB := Aside0.mk (Below.refl w.heap.size w)
 have H := h
 unfold Zaa.f at H
 clear h
 have HT := Aside0.mk ht_
 clear ht_
 obtain ⟨t639, A3, H⟩ := bs_ H
 (try dsimp only at H)
 by_cases c4 : t639 = true
 ·subst c4
  rw [if_pos rfl] at H
  obtain rfl := Option.some.inj H
  go_enter Try.func3, Try.ntmps3
  go_wp2_with (first | (go_at_call 4; (with_reducible refine (Zcz.calls _ _ l0 _ _ l1 true _ ?side1 ?side2 ?side3 ?side4 A3.out).mono ?_); (case side1 => repeat (first | exact HR0.out | (with_reducible refine Kd.C_alloc ?_ _) | (with_reducible refine Kd.C_drewN ?_ _) | (with_reducible refine Kd.C_drew ?_))); (case side2 => exact HC0.out); (case side3 => repeat (first | exact HR1.out | (with_reducible refine Kd.C_alloc ?_ _) | (with_reducible refine Kd.C_drewN ?_ _) | (with_reducible refine Kd.C_drew ?_))); (case side4 => exact HC1.out); rintro e w' ⟨rfl, ⟨nd, rfl⟩⟩; (try first | exact ⟨rfl, _, World.drewN_drewN _ _ _⟩ | exact ⟨rfl, _, Eq.trans (World.drewN_drewN _ _ _) (congrArg (World.drewN _) (Nat.add_assoc _ _ _))⟩)))
  repeat (go_quiet (first | (go_at_call 4; (with_reducible refine (Zcz.calls _ _ l0 _ _ l1 true _ ?side1 ?side2 ?side3 ?side4 A3.out).mono ?_); (case side1 => repeat (first | exact HR0.out | (with_reducible refine Kd.C_alloc ?_ _) | (with_reducible refine Kd.C_drewN ?_ _) | (with_reducible refine Kd.C_drew ?_))); (case side2 => exact HC0.out); (case side3 => repeat (first | exact HR1.out | (with_reducible refine Kd.C_alloc ?_ _) | (with_reducible refine Kd.C_drewN ?_ _) | (with_reducible refine Kd.C_drew ?_))); (case side4 => exact HC1.out); rintro e w' ⟨rfl, ⟨nd, rfl⟩⟩; (try first | exact ⟨rfl, _, World.drewN_drewN _ _ _⟩ | exact ⟨rfl, _, Eq.trans (World.drewN_drewN _ _ _) (congrArg (World.drewN _) (Nat.add_assoc _ _ _))⟩))); try go_wp2_with (first | (go_at_call 4; (with_reducible refine (Zcz.calls _ _ l0 _ _ l1 true _ ?side1 ?side2 ?side3 ?side4 A3.out).mono ?_); (case side1 => repeat (first | exact HR0.out | (with_reducible refine Kd.C_alloc ?_ _) | (with_reducible refine Kd.C_drewN ?_ _) | (with_reducible refine Kd.C_drew ?_))); (case side2 => exact HC0.out); (case side3 => repeat (first | exact HR1.out | (with_reducible refine Kd.C_alloc ?_ _) | (with_reducible refine Kd.C_drewN ?_ _) | (with_reducible refine Kd.C_drew ?_))); (case side4 => exact HC1.out); rintro e w' ⟨rfl, ⟨nd, rfl⟩⟩; (try first | exact ⟨rfl, _, World.drewN_drewN _ _ _⟩ | exact ⟨rfl, _, Eq.trans (World.drewN_drewN _ _ _) (congrArg (World.drewN _) (Nat.add_assoc _ _ _))⟩))))
  go_ret
  exact ⟨eqr, atB HB⟩
 replace c4 := Bool.eq_false_iff.mpr c4
 subst c4
 rw [if_neg (show ¬ (false = true) by decide)] at H
 obtain ⟨t640, A5, H⟩ := bs_ H
 (try dsimp only at H)
 replace H := Option.bind_eq_some_iff.mp H
 obtain ⟨⟨t643, t644⟩, A60, H⟩ := H
 (try dsimp only at H)
 have A6 := Aside0.mk A60
 clear A60
 replace H := Option.bind_eq_some_iff.mp H
 obtain ⟨⟨t647, t648⟩, A70, H⟩ := H
 (try dsimp only at H)
 have A7 := Aside0.mk A70
 clear A70
 replace H := Option.bind_eq_some_iff.mp H
 obtain ⟨⟨t651, t652⟩, A80, H⟩ := H
 (try dsimp only at H)
 have A8 := Aside0.mk A80
 clear A80
 replace H := Option.bind_eq_some_iff.mp H
 obtain ⟨⟨t655, t656⟩, A90, H⟩ := H
 (try dsimp only at H)
 have A9 := Aside0.mk A90
 clear A90
 by_cases c10 : (t644 != t648) = true
 ·rw [if_pos c10] at H
  have c10b0 : (t644 != t648) = true := c10
  (try (have c10b1 : decide (t644 = t648) = false := by simpa using c10))
  (try (have c10b2 : (t644 == t648) = false := by simpa using c10))
  (try (have c10b3 : ¬ (t644 = t648) := by simpa using c10))
  clear c10
  exact absurd ((Option.some.inj H).trans HT.out) (by decide)
 rw [if_neg c10] at H
 have c10b0 : (t644 != t648) = false := by simpa using c10
 (try (have c10b1 : decide (t644 = t648) = true := by simpa using c10))
 (try (have c10b2 : (t644 == t648) = true := by simpa using c10))
 clear c10
 obtain ⟨t659, A11, H⟩ := bs_ H
 (try dsimp only at H)
 by_cases c12 : t659 = true
 rotate_left
 ·replace c12 := Bool.eq_false_iff.mpr c12
  subst c12
  rw [if_neg (show ¬ (false = true) by decide)] at H
  exact absurd ((Option.some.inj H).trans HT.out) (by decide)
 subst c12
 rw [if_pos rfl] at H
 by_cases c13 : (t652 != t656) = true
 ·rw [if_pos c13] at H
  have c13b0 : (t652 != t656) = true := c13
  (try (have c13b1 : decide (t652 = t656) = false := by simpa using c13))
  (try (have c13b2 : (t652 == t656) = false := by simpa using c13))
  (try (have c13b3 : ¬ (t652 = t656) := by simpa using c13))
  clear c13
  exact absurd ((Option.some.inj H).trans HT.out) (by decide)
 rw [if_neg c13] at H
 have c13b0 : (t652 != t656) = false := by simpa using c13
 (try (have c13b1 : decide (t652 = t656) = true := by simpa using c13))
 (try (have c13b2 : (t652 == t656) = true := by simpa using c13))
 clear c13
 obtain ⟨t660, A14, H⟩ := bs_ H
 (try dsimp only at H)
 by_cases c15 : t660 = true
 rotate_left
 ·replace c15 := Bool.eq_false_iff.mpr c15
  subst c15
  rw [if_neg (show ¬ (false = true) by decide)] at H
  exact absurd ((Option.some.inj H).trans HT.out) (by decide)
 subst c15
 rw [if_pos rfl] at H
 by_cases c16 : (t652 != t644) = true
 ·rw [if_pos c16] at H
  have c16b0 : (t652 != t644) = true := c16
  (try (have c16b1 : decide (t652 = t644) = false := by simpa using c16))
  (try (have c16b2 : (t652 == t644) = false := by simpa using c16))
  (try (have c16b3 : ¬ (t652 = t644) := by simpa using c16))
  clear c16
  exact absurd ((Option.some.inj H).trans HT.out) (by decide)
 rw [if_neg c16] at H
 have c16b0 : (t652 != t644) = false := by simpa using c16
 (try (have c16b1 : decide (t652 = t644) = true := by simpa using c16))
 (try (have c16b2 : (t652 == t644) = true := by simpa using c16))
 clear c16
 have HC17 := Aside0.mk H
 clear H
 go_enter Try.func3, Try.ntmps3
 go_upto_if 116 with (first | (go_at_call 4; (with_reducible refine (Zcz.calls _ _ l0 _ _ l1 false _ ?side1 ?side2 ?side3 ?side4 A3.out).mono ?_); (case side1 => repeat (first | exact HR0.out | (with_reducible refine Kd.C_alloc ?_ _) | (with_reducible refine Kd.C_drewN ?_ _) | (with_reducible refine Kd.C_drew ?_))); (case side2 => exact HC0.out); (case side3 => repeat (first | exact HR1.out | (with_reducible refine Kd.C_alloc ?_ _) | (with_reducible refine Kd.C_drewN ?_ _) | (with_reducible refine Kd.C_drew ?_))); (case side4 => exact HC1.out); rintro e w' ⟨rfl, ⟨nd, rfl⟩⟩; (try first | exact ⟨rfl, _, World.drewN_drewN _ _ _⟩ | exact ⟨rfl, _, Eq.trans (World.drewN_drewN _ _ _) (congrArg (World.drewN _) (Nat.add_assoc _ _ _))⟩)) | (go_at_call 5; (with_reducible refine (Zbo.calls k _ _ l0 t640 _ ?side1 ?side2 A5.out).mono ?_); (case side1 => repeat (first | exact HR0.out | (with_reducible refine Kd.C_alloc ?_ _) | (with_reducible refine Kd.C_drewN ?_ _) | (with_reducible refine Kd.C_drew ?_))); (case side2 => exact HC0.out); rintro e w18 ⟨v641, rfl, ho0, hb⟩; have HO642 := lowR ho0 HB; replace HB := upB HB hb; obtain ⟨Ao19, co19, eo19⟩ := Kd.R_slice HO642.out; subst eo19) | (go_at_call 6; (with_reducible refine (Zcg.calls k _ _ t640 t643 t644 _ ?side1 ?side2 A6.out).mono ?_); (case side1 => exact atRC HO642); (case side2 => exact (Kd.R_reads' HO642.out).2.1); rintro e w20 ⟨v645, rfl, ho0, hb⟩; have HO646 := Aside0.mk (Kd.R_lower (Kd.R_new' ho0 (ltR HO642)) (szB HB)); replace HO642 := eldRR HO642 ho0 hb; replace HB := upB HB hb) | (go_at_call 7; (with_reducible refine (Zas.calls k _ _ t640 t647 t648 _ ?side1 ?side2 A7.out).mono ?_); (case side1 => exact atRC HO642); (case side2 => exact (Kd.R_reads' HO642.out).2.1); rintro e w21 ⟨v649, rfl, ho0, hb⟩; have HO650 := Aside0.mk (Kd.R_lower (Kd.R_new' (Kd.R_new' ho0 (ltR HO642)) (ltR HO646)) (szB HB)); replace HO642 := eldRR HO642 ho0 hb; replace HO646 := eldRR HO646 ho0 hb; replace HB := upB HB hb) | (go_at_call 8; (with_reducible refine (Zbh.calls k _ _ t640 t651 t652 _ ?side1 ?side2 A8.out).mono ?_); (case side1 => exact atRC HO642); (case side2 => exact (Kd.R_reads' HO642.out).2.1); rintro e w22 ⟨v653, rfl, ho0, hb⟩; have HO654 := Aside0.mk (Kd.R_lower (Kd.R_new' (Kd.R_new' (Kd.R_new' ho0 (ltR HO642)) (ltR HO646)) (ltR HO650)) (szB HB)); replace HO642 := eldRR HO642 ho0 hb; replace HO646 := eldRR HO646 ho0 hb; replace HO650 := eldRR HO650 ho0 hb; replace HB := upB HB hb) | (go_at_call 9; (with_reducible refine (Zch.calls k _ _ t640 t655 t656 _ ?side1 ?side2 A9.out).mono ?_); (case side1 => exact atRC HO642); (case side2 => exact (Kd.R_reads' HO642.out).2.1); rintro e w23 ⟨v657, rfl, ho0, hb⟩; have HO658 := Aside0.mk (Kd.R_lower (Kd.R_new' (Kd.R_new' (Kd.R_new' (Kd.R_new' ho0 (ltR HO642)) (ltR HO646)) (ltR HO650)) (ltR HO654)) (szB HB)); replace HO642 := eldRR HO642 ho0 hb; replace HO646 := eldRR HO646 ho0 hb; replace HO650 := eldRR HO650 ho0 hb; replace HO654 := eldRR HO654 ho0 hb; replace HB := upB HB hb; obtain ⟨Ao24, co24, eo24⟩ := Kd.R_slice HO646.out; subst eo24; obtain ⟨Ao25, co25, eo25⟩ := Kd.R_slice HO650.out; subst eo25) | (go_at_call 10; (with_reducible refine (Zam.calls k _ _ t643 _ _ t647 true _ ?side1 ?side2 ?side3 ?side4 A11.out).mono ?_); (case side1 => exact atRC HO646); (case side2 => exact (Kd.R_reads' HO646.out).2.1); (case side3 => exact atRC HO650); (case side4 => exact (Kd.R_reads' HO650.out).2.1); rintro e w' ⟨rfl, ⟨nd, rfl⟩⟩; (try first | exact ⟨rfl, _, World.drewN_drewN _ _ _⟩ | exact ⟨rfl, _, Eq.trans (World.drewN_drewN _ _ _) (congrArg (World.drewN _) (Nat.add_assoc _ _ _))⟩); obtain ⟨Ao26, co26, eo26⟩ := Kd.R_slice HO654.out; subst eo26; obtain ⟨Ao27, co27, eo27⟩ := Kd.R_slice HO658.out; subst eo27) | (go_at_call 10; (with_reducible refine (Zam.calls k _ _ t651 _ _ t655 true _ ?side1 ?side2 ?side3 ?side4 A14.out).mono ?_); (case side1 => exact atRC HO654); (case side2 => exact (Kd.R_reads' HO654.out).2.1); (case side3 => exact atRC HO658); (case side4 => exact (Kd.R_reads' HO658.out).2.1); rintro e w' ⟨rfl, ⟨nd, rfl⟩⟩; (try first | exact ⟨rfl, _, World.drewN_drewN _ _ _⟩ | exact ⟨rfl, _, Eq.trans (World.drewN_drewN _ _ _) (congrArg (World.drewN _) (Nat.add_assoc _ _ _))⟩)))
 repeat (go_quiet (first | (go_at_call 4; (with_reducible refine (Zcz.calls _ _ l0 _ _ l1 false _ ?side1 ?side2 ?side3 ?side4 A3.out).mono ?_); (case side1 => repeat (first | exact HR0.out | (with_reducible refine Kd.C_alloc ?_ _) | (with_reducible refine Kd.C_drewN ?_ _) | (with_reducible refine Kd.C_drew ?_))); (case side2 => exact HC0.out); (case side3 => repeat (first | exact HR1.out | (with_reducible refine Kd.C_alloc ?_ _) | (with_reducible refine Kd.C_drewN ?_ _) | (with_reducible refine Kd.C_drew ?_))); (case side4 => exact HC1.out); rintro e w' ⟨rfl, ⟨nd, rfl⟩⟩; (try first | exact ⟨rfl, _, World.drewN_drewN _ _ _⟩ | exact ⟨rfl, _, Eq.trans (World.drewN_drewN _ _ _) (congrArg (World.drewN _) (Nat.add_assoc _ _ _))⟩)) | (go_at_call 5; (with_reducible refine (Zbo.calls k _ _ l0 t640 _ ?side1 ?side2 A5.out).mono ?_); (case side1 => repeat (first | exact HR0.out | (with_reducible refine Kd.C_alloc ?_ _) | (with_reducible refine Kd.C_drewN ?_ _) | (with_reducible refine Kd.C_drew ?_))); (case side2 => exact HC0.out); rintro e w18 ⟨v641, rfl, ho0, hb⟩; have HO642 := lowR ho0 HB; replace HB := upB HB hb; obtain ⟨Ao19, co19, eo19⟩ := Kd.R_slice HO642.out; subst eo19) | (go_at_call 6; (with_reducible refine (Zcg.calls k _ _ t640 t643 t644 _ ?side1 ?side2 A6.out).mono ?_); (case side1 => exact atRC HO642); (case side2 => exact (Kd.R_reads' HO642.out).2.1); rintro e w20 ⟨v645, rfl, ho0, hb⟩; have HO646 := Aside0.mk (Kd.R_lower (Kd.R_new' ho0 (ltR HO642)) (szB HB)); replace HO642 := eldRR HO642 ho0 hb; replace HB := upB HB hb) | (go_at_call 7; (with_reducible refine (Zas.calls k _ _ t640 t647 t648 _ ?side1 ?side2 A7.out).mono ?_); (case side1 => exact atRC HO642); (case side2 => exact (Kd.R_reads' HO642.out).2.1); rintro e w21 ⟨v649, rfl, ho0, hb⟩; have HO650 := Aside0.mk (Kd.R_lower (Kd.R_new' (Kd.R_new' ho0 (ltR HO642)) (ltR HO646)) (szB HB)); replace HO642 := eldRR HO642 ho0 hb; replace HO646 := eldRR HO646 ho0 hb; replace HB := upB HB hb) | (go_at_call 8; (with_reducible refine (Zbh.calls k _ _ t640 t651 t652 _ ?side1 ?side2 A8.out).mono ?_); (case side1 => exact atRC HO642); (case side2 => exact (Kd.R_reads' HO642.out).2.1); rintro e w22 ⟨v653, rfl, ho0, hb⟩; have HO654 := Aside0.mk (Kd.R_lower (Kd.R_new' (Kd.R_new' (Kd.R_new' ho0 (ltR HO642)) (ltR HO646)) (ltR HO650)) (szB HB)); replace HO642 := eldRR HO642 ho0 hb; replace HO646 := eldRR HO646 ho0 hb; replace HO650 := eldRR HO650 ho0 hb; replace HB := upB HB hb) | (go_at_call 9; (with_reducible refine (Zch.calls k _ _ t640 t655 t656 _ ?side1 ?side2 A9.out).mono ?_); (case side1 => exact atRC HO642); (case side2 => exact (Kd.R_reads' HO642.out).2.1); rintro e w23 ⟨v657, rfl, ho0, hb⟩; have HO658 := Aside0.mk (Kd.R_lower (Kd.R_new' (Kd.R_new' (Kd.R_new' (Kd.R_new' ho0 (ltR HO642)) (ltR HO646)) (ltR HO650)) (ltR HO654)) (szB HB)); replace HO642 := eldRR HO642 ho0 hb; replace HO646 := eldRR HO646 ho0 hb; replace HO650 := eldRR HO650 ho0 hb; replace HO654 := eldRR HO654 ho0 hb; replace HB := upB HB hb; obtain ⟨Ao24, co24, eo24⟩ := Kd.R_slice HO646.out; subst eo24; obtain ⟨Ao25, co25, eo25⟩ := Kd.R_slice HO650.out; subst eo25) | (go_at_call 10; (with_reducible refine (Zam.calls k _ _ t643 _ _ t647 true _ ?side1 ?side2 ?side3 ?side4 A11.out).mono ?_); (case side1 => exact atRC HO646); (case side2 => exact (Kd.R_reads' HO646.out).2.1); (case side3 => exact atRC HO650); (case side4 => exact (Kd.R_reads' HO650.out).2.1); rintro e w' ⟨rfl, ⟨nd, rfl⟩⟩; (try first | exact ⟨rfl, _, World.drewN_drewN _ _ _⟩ | exact ⟨rfl, _, Eq.trans (World.drewN_drewN _ _ _) (congrArg (World.drewN _) (Nat.add_assoc _ _ _))⟩); obtain ⟨Ao26, co26, eo26⟩ := Kd.R_slice HO654.out; subst eo26; obtain ⟨Ao27, co27, eo27⟩ := Kd.R_slice HO658.out; subst eo27) | (go_at_call 10; (with_reducible refine (Zam.calls k _ _ t651 _ _ t655 true _ ?side1 ?side2 ?side3 ?side4 A14.out).mono ?_); (case side1 => exact atRC HO654); (case side2 => exact (Kd.R_reads' HO654.out).2.1); (case side3 => exact atRC HO658); (case side4 => exact (Kd.R_reads' HO658.out).2.1); rintro e w' ⟨rfl, ⟨nd, rfl⟩⟩; (try first | exact ⟨rfl, _, World.drewN_drewN _ _ _⟩ | exact ⟨rfl, _, Eq.trans (World.drewN_drewN _ _ _) (congrArg (World.drewN _) (Nat.add_assoc _ _ _))⟩))); go_upto_if 116 with (first | (go_at_call 4; (with_reducible refine (Zcz.calls _ _ l0 _ _ l1 false _ ?side1 ?side2 ?side3 ?side4 A3.out).mono ?_); (case side1 => repeat (first | exact HR0.out | (with_reducible refine Kd.C_alloc ?_ _) | (with_reducible refine Kd.C_drewN ?_ _) | (with_reducible refine Kd.C_drew ?_))); (case side2 => exact HC0.out); (case side3 => repeat (first | exact HR1.out | (with_reducible refine Kd.C_alloc ?_ _) | (with_reducible refine Kd.C_drewN ?_ _) | (with_reducible refine Kd.C_drew ?_))); (case side4 => exact HC1.out); rintro e w' ⟨rfl, ⟨nd, rfl⟩⟩; (try first | exact ⟨rfl, _, World.drewN_drewN _ _ _⟩ | exact ⟨rfl, _, Eq.trans (World.drewN_drewN _ _ _) (congrArg (World.drewN _) (Nat.add_assoc _ _ _))⟩)) | (go_at_call 5; (with_reducible refine (Zbo.calls k _ _ l0 t640 _ ?side1 ?side2 A5.out).mono ?_); (case side1 => repeat (first | exact HR0.out | (with_reducible refine Kd.C_alloc ?_ _) | (with_reducible refine Kd.C_drewN ?_ _) | (with_reducible refine Kd.C_drew ?_))); (case side2 => exact HC0.out); rintro e w18 ⟨v641, rfl, ho0, hb⟩; have HO642 := lowR ho0 HB; replace HB := upB HB hb; obtain ⟨Ao19, co19, eo19⟩ := Kd.R_slice HO642.out; subst eo19) | (go_at_call 6; (with_reducible refine (Zcg.calls k _ _ t640 t643 t644 _ ?side1 ?side2 A6.out).mono ?_); (case side1 => exact atRC HO642); (case side2 => exact (Kd.R_reads' HO642.out).2.1); rintro e w20 ⟨v645, rfl, ho0, hb⟩; have HO646 := Aside0.mk (Kd.R_lower (Kd.R_new' ho0 (ltR HO642)) (szB HB)); replace HO642 := eldRR HO642 ho0 hb; replace HB := upB HB hb) | (go_at_call 7; (with_reducible refine (Zas.calls k _ _ t640 t647 t648 _ ?side1 ?side2 A7.out).mono ?_); (case side1 => exact atRC HO642); (case side2 => exact (Kd.R_reads' HO642.out).2.1); rintro e w21 ⟨v649, rfl, ho0, hb⟩; have HO650 := Aside0.mk (Kd.R_lower (Kd.R_new' (Kd.R_new' ho0 (ltR HO642)) (ltR HO646)) (szB HB)); replace HO642 := eldRR HO642 ho0 hb; replace HO646 := eldRR HO646 ho0 hb; replace HB := upB HB hb) | (go_at_call 8; (with_reducible refine (Zbh.calls k _ _ t640 t651 t652 _ ?side1 ?side2 A8.out).mono ?_); (case side1 => exact atRC HO642); (case side2 => exact (Kd.R_reads' HO642.out).2.1); rintro e w22 ⟨v653, rfl, ho0, hb⟩; have HO654 := Aside0.mk (Kd.R_lower (Kd.R_new' (Kd.R_new' (Kd.R_new' ho0 (ltR HO642)) (ltR HO646)) (ltR HO650)) (szB HB)); replace HO642 := eldRR HO642 ho0 hb; replace HO646 := eldRR HO646 ho0 hb; replace HO650 := eldRR HO650 ho0 hb; replace HB := upB HB hb) | (go_at_call 9; (with_reducible refine (Zch.calls k _ _ t640 t655 t656 _ ?side1 ?side2 A9.out).mono ?_); (case side1 => exact atRC HO642); (case side2 => exact (Kd.R_reads' HO642.out).2.1); rintro e w23 ⟨v657, rfl, ho0, hb⟩; have HO658 := Aside0.mk (Kd.R_lower (Kd.R_new' (Kd.R_new' (Kd.R_new' (Kd.R_new' ho0 (ltR HO642)) (ltR HO646)) (ltR HO650)) (ltR HO654)) (szB HB)); replace HO642 := eldRR HO642 ho0 hb; replace HO646 := eldRR HO646 ho0 hb; replace HO650 := eldRR HO650 ho0 hb; replace HO654 := eldRR HO654 ho0 hb; replace HB := upB HB hb; obtain ⟨Ao24, co24, eo24⟩ := Kd.R_slice HO646.out; subst eo24; obtain ⟨Ao25, co25, eo25⟩ := Kd.R_slice HO650.out; subst eo25) | (go_at_call 10; (with_reducible refine (Zam.calls k _ _ t643 _ _ t647 true _ ?side1 ?side2 ?side3 ?side4 A11.out).mono ?_); (case side1 => exact atRC HO646); (case side2 => exact (Kd.R_reads' HO646.out).2.1); (case side3 => exact atRC HO650); (case side4 => exact (Kd.R_reads' HO650.out).2.1); rintro e w' ⟨rfl, ⟨nd, rfl⟩⟩; (try first | exact ⟨rfl, _, World.drewN_drewN _ _ _⟩ | exact ⟨rfl, _, Eq.trans (World.drewN_drewN _ _ _) (congrArg (World.drewN _) (Nat.add_assoc _ _ _))⟩); obtain ⟨Ao26, co26, eo26⟩ := Kd.R_slice HO654.out; subst eo26; obtain ⟨Ao27, co27, eo27⟩ := Kd.R_slice HO658.out; subst eo27) | (go_at_call 10; (with_reducible refine (Zam.calls k _ _ t651 _ _ t655 true _ ?side1 ?side2 ?side3 ?side4 A14.out).mono ?_); (case side1 => exact atRC HO654); (case side2 => exact (Kd.R_reads' HO654.out).2.1); (case side3 => exact atRC HO658); (case side4 => exact (Kd.R_reads' HO658.out).2.1); rintro e w' ⟨rfl, ⟨nd, rfl⟩⟩; (try first | exact ⟨rfl, _, World.drewN_drewN _ _ _⟩ | exact ⟨rfl, _, Eq.trans (World.drewN_drewN _ _ _) (congrArg (World.drewN _) (Nat.add_assoc _ _ _))⟩))))
 (try simp only [Act.put, List.setIfInBounds_toArray, List.set_cons_zero, List.set_cons_succ])
 go_cut [] (fun wc => ∃ (kq : Nat), Aside0 (Zaa.j0 kq l1 = some r) ∧ Aside0 (kq ≤ k) ∧ Aside0 (Below w.heap.size w wc))
 case first => as_aux_lemma =>
  have H := HC17.out
  clear HC17
  by_cases c28 : t644 = true
  rotate_left
  ·replace c28 := Bool.eq_false_iff.mpr c28
   subst c28
   obtain rfl : t648 = false := (by simpa using c10b0)
   obtain rfl : t652 = false := (by simpa using c16b0)
   rw [if_neg (show ¬ (false = true) by decide)] at H
   have H' := Aside0.mk H
   clear H
   as_aux_lemma =>
    go_wp2
    repeat (go_quiet (fail); try go_wp2)
    go_meet
    case rel => exact ⟨_, H', ⟨leD⟩, ⟨atB HB⟩⟩
  subst c28
  obtain rfl : t648 = true := (by simpa using c10b0)
  obtain rfl : t652 = true := (by simpa using c16b0)
  rw [if_pos rfl] at H
  replace H := Option.bind_eq_some_iff.mp H
  obtain ⟨⟨t661, t662⟩, A290, H⟩ := H
  (try dsimp only at H)
  have A29 := Aside0.mk A290
  clear A290
  replace H := Option.bind_eq_some_iff.mp H
  obtain ⟨⟨t663, t664⟩, A300, H⟩ := H
  (try dsimp only at H)
  have A30 := Aside0.mk A300
  clear A300
  replace H := Option.bind_eq_some_iff.mp H
  obtain ⟨⟨t665, t666⟩, A310, H⟩ := H
  (try dsimp only at H)
  have A31 := Aside0.mk A310
  clear A310
  by_cases c32 : t662 = true
  rotate_left
  ·replace c32 := Bool.eq_false_iff.mpr c32
   subst c32
   rw [if_neg (show ¬ (false = true) by decide)] at H
   exact absurd ((Option.some.inj H).trans HT.out) (by decide)
  subst c32
  rw [if_pos rfl] at H
  by_cases c33 : t661 = true
  rotate_left
  ·replace c33 := Bool.eq_false_iff.mpr c33
   subst c33
   rw [if_neg (show ¬ (false = true) by decide)] at H
   exact absurd ((Option.some.inj H).trans HT.out) (by decide)
  subst c33
  rw [if_pos rfl] at H
  by_cases c34 : t664 = true
  rotate_left
  ·replace c34 := Bool.eq_false_iff.mpr c34
   subst c34
   rw [if_neg (show ¬ (false = true) by decide)] at H
   exact absurd ((Option.some.inj H).trans HT.out) (by decide)
  subst c34
  rw [if_pos rfl] at H
  by_cases c35 : t663 = true
  rotate_left
  ·replace c35 := Bool.eq_false_iff.mpr c35
   subst c35
   rw [if_neg (show ¬ (false = true) by decide)] at H
   exact absurd ((Option.some.inj H).trans HT.out) (by decide)
  subst c35
  rw [if_pos rfl] at H
  by_cases c36 : (t666 != (decide ((t651.length : Int) > 1))) = true
  ·rw [if_pos c36] at H
   have c36b0 : (t666 != (decide ((t651.length : Int) > 1))) = true := c36
   (try (have c36b1 : decide (t666 = (decide ((t651.length : Int) > 1))) = false := by simpa using c36))
   (try (have c36b2 : (t666 == (decide ((t651.length : Int) > 1))) = false := by simpa using c36))
   (try (have c36b3 : ¬ (t666 = (decide ((t651.length : Int) > 1))) := by simpa using c36))
   clear c36
   (first | rw [c36b0] | (simp only [i64_w, i32_w]; rw [c36b0]) | skip)
   exact absurd ((Option.some.inj H).trans HT.out) (by decide)
  rw [if_neg c36] at H
  have c36b0 : (t666 != (decide ((t651.length : Int) > 1))) = false := by simpa using c36
  (try (have c36b1 : decide (t666 = (decide ((t651.length : Int) > 1))) = true := by simpa using c36))
  (try (have c36b2 : (t666 == (decide ((t651.length : Int) > 1))) = true := by simpa using c36))
  clear c36
  (first | rw [c36b0] | (simp only [i64_w, i32_w]; rw [c36b0]) | skip)
  by_cases c37 : t666 = true
  rotate_left
  ·replace c37 := Bool.eq_false_iff.mpr c37
   subst c37
   rw [if_neg (show ¬ (false = true) by decide)] at H
   have H' := Aside0.mk H
   clear H
   as_aux_lemma =>
    go_wp2_with (first | (go_at_call 11; (with_reducible refine (Zbq.calls k _ _ t651 _ _ t643 true true _ ?side1 ?side2 ?side3 ?side4 A29.out).mono ?_); (case side1 => exact atRC HO654); (case side2 => exact (Kd.R_reads' HO654.out).2.1); (case side3 => exact atRC HO646); (case side4 => exact (Kd.R_reads' HO646.out).2.1); rintro e w43 ⟨rfl, hb⟩; replace HO642 := upR HO642 hb; replace HO646 := upR HO646 hb; replace HO650 := upR HO650 hb; replace HO654 := upR HO654 hb; replace HO658 := upR HO658 hb; replace HB := upB HB hb) | (go_at_call 12; (with_reducible refine (Zaf.calls k _ _ t651 true true _ ?side1 ?side2 A30.out).mono ?_); (case side1 => exact atRC HO654); (case side2 => exact (Kd.R_reads' HO654.out).2.1); rintro e w44 ⟨rfl, hb⟩; replace HO642 := upR HO642 hb; replace HO646 := upR HO646 hb; replace HO650 := upR HO650 hb; replace HO654 := upR HO654 hb; replace HO658 := upR HO658 hb; replace HB := upB HB hb) | (go_at_call 13; (with_reducible refine (Zap.calls k _ _ t651 _ _ t643 t665 false _ ?side1 ?side2 ?side3 ?side4 A31.out).mono ?_); (case side1 => exact atRC HO654); (case side2 => exact (Kd.R_reads' HO654.out).2.1); (case side3 => exact atRC HO646); (case side4 => exact (Kd.R_reads' HO646.out).2.1); rintro e w45 ⟨rfl, hb⟩; replace HO642 := upR HO642 hb; replace HO646 := upR HO646 hb; replace HO650 := upR HO650 hb; replace HO654 := upR HO654 hb; replace HO658 := upR HO658 hb; replace HB := upB HB hb))
    repeat (go_quiet (first | (go_at_call 11; (with_reducible refine (Zbq.calls k _ _ t651 _ _ t643 true true _ ?side1 ?side2 ?side3 ?side4 A29.out).mono ?_); (case side1 => exact atRC HO654); (case side2 => exact (Kd.R_reads' HO654.out).2.1); (case side3 => exact atRC HO646); (case side4 => exact (Kd.R_reads' HO646.out).2.1); rintro e w43 ⟨rfl, hb⟩; replace HO642 := upR HO642 hb; replace HO646 := upR HO646 hb; replace HO650 := upR HO650 hb; replace HO654 := upR HO654 hb; replace HO658 := upR HO658 hb; replace HB := upB HB hb) | (go_at_call 12; (with_reducible refine (Zaf.calls k _ _ t651 true true _ ?side1 ?side2 A30.out).mono ?_); (case side1 => exact atRC HO654); (case side2 => exact (Kd.R_reads' HO654.out).2.1); rintro e w44 ⟨rfl, hb⟩; replace HO642 := upR HO642 hb; replace HO646 := upR HO646 hb; replace HO650 := upR HO650 hb; replace HO654 := upR HO654 hb; replace HO658 := upR HO658 hb; replace HB := upB HB hb) | (go_at_call 13; (with_reducible refine (Zap.calls k _ _ t651 _ _ t643 t665 false _ ?side1 ?side2 ?side3 ?side4 A31.out).mono ?_); (case side1 => exact atRC HO654); (case side2 => exact (Kd.R_reads' HO654.out).2.1); (case side3 => exact atRC HO646); (case side4 => exact (Kd.R_reads' HO646.out).2.1); rintro e w45 ⟨rfl, hb⟩; replace HO642 := upR HO642 hb; replace HO646 := upR HO646 hb; replace HO650 := upR HO650 hb; replace HO654 := upR HO654 hb; replace HO658 := upR HO658 hb; replace HB := upB HB hb)); try go_wp2_with (first | (go_at_call 11; (with_reducible refine (Zbq.calls k _ _ t651 _ _ t643 true true _ ?side1 ?side2 ?side3 ?side4 A29.out).mono ?_); (case side1 => exact atRC HO654); (case side2 => exact (Kd.R_reads' HO654.out).2.1); (case side3 => exact atRC HO646); (case side4 => exact (Kd.R_reads' HO646.out).2.1); rintro e w43 ⟨rfl, hb⟩; replace HO642 := upR HO642 hb; replace HO646 := upR HO646 hb; replace HO650 := upR HO650 hb; replace HO654 := upR HO654 hb; replace HO658 := upR HO658 hb; replace HB := upB HB hb) | (go_at_call 12; (with_reducible refine (Zaf.calls k _ _ t651 true true _ ?side1 ?side2 A30.out).mono ?_); (case side1 => exact atRC HO654); (case side2 => exact (Kd.R_reads' HO654.out).2.1); rintro e w44 ⟨rfl, hb⟩; replace HO642 := upR HO642 hb; replace HO646 := upR HO646 hb; replace HO650 := upR HO650 hb; replace HO654 := upR HO654 hb; replace HO658 := upR HO658 hb; replace HB := upB HB hb) | (go_at_call 13; (with_reducible refine (Zap.calls k _ _ t651 _ _ t643 t665 false _ ?side1 ?side2 ?side3 ?side4 A31.out).mono ?_); (case side1 => exact atRC HO654); (case side2 => exact (Kd.R_reads' HO654.out).2.1); (case side3 => exact atRC HO646); (case side4 => exact (Kd.R_reads' HO646.out).2.1); rintro e w45 ⟨rfl, hb⟩; replace HO642 := upR HO642 hb; replace HO646 := upR HO646 hb; replace HO650 := upR HO650 hb; replace HO654 := upR HO654 hb; replace HO658 := upR HO658 hb; replace HB := upB HB hb)))
    go_meet
    case rel => exact ⟨_, H', ⟨leD⟩, ⟨atB HB⟩⟩
  subst c37
  rw [if_pos rfl] at H
  by_cases c38 : t665 < 0
  ·rw [if_pos c38] at H
   have c38b0 := decide_eq_true c38
   clear c38
   exact absurd ((Option.some.inj H).trans HT.out) (by decide)
  rw [if_neg c38] at H
  have c38b0 := decide_eq_false c38
  clear c38
  by_cases c39 : t665 ≥ (wrap64 ((t651.length : Int) - 1))
  ·rw [if_pos c39] at H
   have c39b0 := decide_eq_true c39
   clear c39
   exact absurd ((Option.some.inj H).trans HT.out) (by decide)
  rw [if_neg c39] at H
  have c39b0 := decide_eq_false c39
  clear c39
  have H' := Aside0.mk H
  clear H
  as_aux_lemma =>
   go_wp2_with (first | (go_at_call 11; (with_reducible refine (Zbq.calls k _ _ t651 _ _ t643 true true _ ?side1 ?side2 ?side3 ?side4 A29.out).mono ?_); (case side1 => exact atRC HO654); (case side2 => exact (Kd.R_reads' HO654.out).2.1); (case side3 => exact atRC HO646); (case side4 => exact (Kd.R_reads' HO646.out).2.1); rintro e w40 ⟨rfl, hb⟩; replace HO642 := upR HO642 hb; replace HO646 := upR HO646 hb; replace HO650 := upR HO650 hb; replace HO654 := upR HO654 hb; replace HO658 := upR HO658 hb; replace HB := upB HB hb) | (go_at_call 12; (with_reducible refine (Zaf.calls k _ _ t651 true true _ ?side1 ?side2 A30.out).mono ?_); (case side1 => exact atRC HO654); (case side2 => exact (Kd.R_reads' HO654.out).2.1); rintro e w41 ⟨rfl, hb⟩; replace HO642 := upR HO642 hb; replace HO646 := upR HO646 hb; replace HO650 := upR HO650 hb; replace HO654 := upR HO654 hb; replace HO658 := upR HO658 hb; replace HB := upB HB hb) | (go_at_call 13; (with_reducible refine (Zap.calls k _ _ t651 _ _ t643 t665 true _ ?side1 ?side2 ?side3 ?side4 A31.out).mono ?_); (case side1 => exact atRC HO654); (case side2 => exact (Kd.R_reads' HO654.out).2.1); (case side3 => exact atRC HO646); (case side4 => exact (Kd.R_reads' HO646.out).2.1); rintro e w42 ⟨rfl, hb⟩; replace HO642 := upR HO642 hb; replace HO646 := upR HO646 hb; replace HO650 := upR HO650 hb; replace HO654 := upR HO654 hb; replace HO658 := upR HO658 hb; replace HB := upB HB hb))
   repeat (go_quiet (first | (go_at_call 11; (with_reducible refine (Zbq.calls k _ _ t651 _ _ t643 true true _ ?side1 ?side2 ?side3 ?side4 A29.out).mono ?_); (case side1 => exact atRC HO654); (case side2 => exact (Kd.R_reads' HO654.out).2.1); (case side3 => exact atRC HO646); (case side4 => exact (Kd.R_reads' HO646.out).2.1); rintro e w40 ⟨rfl, hb⟩; replace HO642 := upR HO642 hb; replace HO646 := upR HO646 hb; replace HO650 := upR HO650 hb; replace HO654 := upR HO654 hb; replace HO658 := upR HO658 hb; replace HB := upB HB hb) | (go_at_call 12; (with_reducible refine (Zaf.calls k _ _ t651 true true _ ?side1 ?side2 A30.out).mono ?_); (case side1 => exact atRC HO654); (case side2 => exact (Kd.R_reads' HO654.out).2.1); rintro e w41 ⟨rfl, hb⟩; replace HO642 := upR HO642 hb; replace HO646 := upR HO646 hb; replace HO650 := upR HO650 hb; replace HO654 := upR HO654 hb; replace HO658 := upR HO658 hb; replace HB := upB HB hb) | (go_at_call 13; (with_reducible refine (Zap.calls k _ _ t651 _ _ t643 t665 true _ ?side1 ?side2 ?side3 ?side4 A31.out).mono ?_); (case side1 => exact atRC HO654); (case side2 => exact (Kd.R_reads' HO654.out).2.1); (case side3 => exact atRC HO646); (case side4 => exact (Kd.R_reads' HO646.out).2.1); rintro e w42 ⟨rfl, hb⟩; replace HO642 := upR HO642 hb; replace HO646 := upR HO646 hb; replace HO650 := upR HO650 hb; replace HO654 := upR HO654 hb; replace HO658 := upR HO658 hb; replace HB := upB HB hb)); try go_wp2_with (first | (go_at_call 11; (with_reducible refine (Zbq.calls k _ _ t651 _ _ t643 true true _ ?side1 ?side2 ?side3 ?side4 A29.out).mono ?_); (case side1 => exact atRC HO654); (case side2 => exact (Kd.R_reads' HO654.out).2.1); (case side3 => exact atRC HO646); (case side4 => exact (Kd.R_reads' HO646.out).2.1); rintro e w40 ⟨rfl, hb⟩; replace HO642 := upR HO642 hb; replace HO646 := upR HO646 hb; replace HO650 := upR HO650 hb; replace HO654 := upR HO654 hb; replace HO658 := upR HO658 hb; replace HB := upB HB hb) | (go_at_call 12; (with_reducible refine (Zaf.calls k _ _ t651 true true _ ?side1 ?side2 A30.out).mono ?_); (case side1 => exact atRC HO654); (case side2 => exact (Kd.R_reads' HO654.out).2.1); rintro e w41 ⟨rfl, hb⟩; replace HO642 := upR HO642 hb; replace HO646 := upR HO646 hb; replace HO650 := upR HO650 hb; replace HO654 := upR HO654 hb; replace HO658 := upR HO658 hb; replace HB := upB HB hb) | (go_at_call 13; (with_reducible refine (Zap.calls k _ _ t651 _ _ t643 t665 true _ ?side1 ?side2 ?side3 ?side4 A31.out).mono ?_); (case side1 => exact atRC HO654); (case side2 => exact (Kd.R_reads' HO654.out).2.1); (case side3 => exact atRC HO646); (case side4 => exact (Kd.R_reads' HO646.out).2.1); rintro e w42 ⟨rfl, hb⟩; replace HO642 := upR HO642 hb; replace HO646 := upR HO646 hb; replace HO650 := upR HO650 hb; replace HO654 := upR HO654 hb; replace HO658 := upR HO658 hb; replace HB := upB HB hb)))
   go_meet
   case rel => exact ⟨_, H', ⟨leD⟩, ⟨atB HB⟩⟩
 case rest =>
  rename_i z1_0 z1_1 z1_2 z1_3 z1_4
  exact Zaa.rest1 k A0 c0 l0 A1 c1 l1 r w HR1 HC1 HT t640 t643 t644 t647 t648 t651 t652 t655 t656 c10b0 c10b1 c10b2 c13b0 c13b1 c13b2 c16b0 c16b1 c16b2 HC17 Ao19 co19 w23 HB Ao24 co24 Ao25 co25 Ao26 co26 Ao27 co27 z1_3 (by rfl) z1_4 wc u4 u14 u15 u16 u17 u18 u19 u66 u67 u68 u69 u70 u71 u72 u73 u74 u75 u76 u77 u78 u79 u80 u81 u82 u83 u84 u85 u86 u87 u88 u89 u90 u91 u92 u93 u94 u95 u96 u97 u98 u99 u100 u101 u102 u103 u104 u105 u106 u107 u108 u109 u110 u111 u112 u113 u114 u115 u116 u117 u118 u119 u120 u121 u122 u123 u124 u125 u126 u127 u128 u129 u130 u131 u132 u133 u134 u135 u136 u137 u138 u139 u140 u141 u142 u143 u144 u145 u146 u147 u148 u149 u150 u151 u152 u153 u154 u155 u156 u157 u158 u159 u160 u161 u162 u163 u164 u165 u166 u167 u168 u169 u170 u171 u172 u173 u174 u175 u176 u177 u178 u179 u180 u181 u182 u183 u184 u185 u186 u187 u188 u189 u190 u191 u192 u193 u194 u195 u196 u197 u198 u199 u200 u201 u202 u203 u204 u205 u206 u207 u208 u209 u210 u211 u212 u213 u214 u215 u216 u217 u218 u219 u220 u221 u222 u223 u224 u225 u226 u227 u228 u229 u230 u231 u232 u233 u234 u235 u236 u237 u238 u239 u240 u241 u242 u243 u244 u245 u246 u247 u248 u249 u250 u251 u252 u253 u254 u255 u256 u257 u258 u259 u260 u261 u262 u263 u264 u265 u266 u267 u268 u269 u270 u271 u272 u273 u274 u275 u276 u277 u278 u279 u280 u281 u282 u283 u284 u285 u286 u287 u288 u289 u290 u291 u292 u293 u294 u295 u296 u297 u298 u299 u300 u301 u302 u303 u304 u305 u306 u307 u308 u309 u310 u311 u312 u313 u314 u315 u316 u317 u318 u319 u320 u321 u322 u323 u324 u325 u326 u327 u328 u329 u330 u331 u332 u333 u334 u335 u336 u337 u338 u339 u340 u341 u342 u343 u344 u345 u346 u347 u348 u349 u350 u351 u352 u353 u354 u355 u356 u357 u358 u359 u360 u361 u362 u363 u364 u365 u366 u367 u368 u369 u370 u371 u372 u373 u374 u375 u376 u377 u378 u379 u380 u381 u382 u383 u384 u385 u386 u387 u388 u389 u390 u391 u392 u393 u394 u395 u396 u397 u398 u399 u403 u404 u405 u406 u407 u408 u409 u410 u411 u412 u413 u414 u415 u416 u417 u418 u419 u420 u421 u422 u423 u424 u425 u426 u427 u428 u429 u430 u431 u432 u433 u434 u435 u436 u437 u438 u439 u440 u441 u442 u443 u444 u445 u446 u447 u448 u449 u450 u451 u452 u453 u454 u455 u456 u457 u458 u459 u460 u461 u462 u463 u464 u465 u466 u467 u468 u469 u470 u471 u472 u473 u474 u475 u476 u477 u478 u479 u480 u481 u482 u483 u484 u485 u486 u487 u488 u489 u490 u491 u492 u493 u494 u495 u496 u497 u498 u499 u500 u501 u502 u503 u504 u505 hcut
theorem Zaa.walk (P : Zaa.Pure) (a0 : Option Addr) (len0 cap0 : Nat) (z0 : List Int) (a1 : Option Addr) (len1 cap1 : Nat) (z1 : List Int) (w : World) (w0 : (a0 = none ∧ len0 = 0 ∧ cap0 = 0 ∧ z0 = []) ∨ ∃ x, a0 = some x ∧ len0 ≤ cap0 ∧ cap0 ≤ maxLen ∧ z0.length = cap0 ∧ (∀ i, i < z0.length → w.cell? (x.add i) = some (.int .u8 (z0.getD i 0))) ∧ ∀ n ∈ z0, (Lit.int .u8 n).wf = true) (y0 : len0 * 1 ≤ 140737488351232) (w1 : (a1 = none ∧ len1 = 0 ∧ cap1 = 0 ∧ z1 = []) ∨ ∃ x, a1 = some x ∧ len1 ≤ cap1 ∧ cap1 ≤ maxLen ∧ z1.length = cap1 ∧ (∀ i, i < z1.length → w.cell? (x.add i) = some (.int .u8 (z1.getD i 0))) ∧ ∀ n ∈ z1, (Lit.int .u8 n).wf = true) (y1 : len1 * 1 ≤ 140737488351232) :
  Calls Try.prog 3 #[.slice a0 len0 cap0, .slice a1 len1 cap1] w fun e w' => e = .returned (.bool true) ∧ Below w.heap.size w w' := by
 obtain ⟨l0, rfl, hr0, hm0, hw0, hc0⟩ := ReadsInt.ofRowC w0
 obtain ⟨l1, rfl, hr1, hm1, hw1, hc1⟩ := ReadsInt.ofRowC w1
 obtain ⟨k, h⟩ := P l0 l1 hm0 y0 hw0 hm1 y1 hw1
 refine (Zaa.calls k _ _ l0 _ _ l1 true w (Kd.C_of_reads (d := (0 : Int)) (h1 := fun _ => rfl) hr0) hc0 (Kd.C_of_reads (d := (0 : Int)) (h1 := fun _ => rfl) hr1) hc1 rfl h).mono ?_
 rintro e w' ⟨rfl, hd⟩
 exact ⟨rfl, hd⟩
end Go.Proofs.Ytapffhnkfgkboaa.Fn
