/- The machine's side and plain lemmas for FnLangfordThere: texts of this session, merged by its program (part 1). -/
import Derived.Laws.Rows
import Derived.Lib.SliceRun
import Derived.Test.YtaohgllnoomaeaaMFnLangfordThere0
namespace Go.Proofs.Ytaohgllnoomaeaa.Fn
open Go.RowKit Go.Proofs.YtaohgllnoomaeaaW.PrintWords Go.Proofs.YtaohgllnoomaeaaW.PrintLast Go.Proofs.YtaohgllnoomaeaaW.PrintMore
attribute [local go_sem] max2_int min2_int max_two min_two max_three min_three max_four min_four   -- for this text's walks alone
set_option linter.unusedVariables false
set_option linter.unusedSimpArgs false

/-! ### spec_roFits: function 193 -/
def spec_roFits.l0 : Nat → List Int → Int → List Int → Int → Int → Option (Bool)
 | 0, _, _, _, _, _ => none
 | k + 1, x0, x1, x9, x10, x11 => if x11 < x10 then (if 0 ≤ x11 then (if x11 < (x9.length : Int) then ((spec_roPlaces.f k x0 (rd x9 x11)).bind fun t595 => (if 1 < (t595.length : Int) then (if 0 < (t595.length : Int) then (if (wrap64 ((rd t595 1) - (rd t595 0))) = (wrap64 ((rd x9 x11) + x1)) then (spec_roFits.l0 k x0 x1 x9 x10 (wrap64 (x11 + 1))) else (some false)) else (none)) else (none))) else (none)) else (none)) else (some true)
def spec_roFits.f (k : Nat) (l0 : List Int) (a1 : Int) : Option (Bool) := (spec_roNumbers.f k l0).bind fun t591 => (spec_roFits.l0 k l0 a1 t591 (t591.length : Int) 0)
theorem spec_roFits.mono_l : ∀ k, (∀ y0 y1 y2 y3 y4, LeO (spec_roFits.l0 k y0 y1 y2 y3 y4) (spec_roFits.l0 (k + 1) y0 y1 y2 y3 y4))
 | 0 => fun _ _ _ _ _ r h => by simp [spec_roFits.l0] at h
 | k + 1 => by
  have ih0 := spec_roFits.mono_l k
  ·intro y0 y1 y2 y3 y4
   unfold spec_roFits.l0
   repeat' (first | (with_reducible first | exact ih0 _ _ _ _ _ | exact spec_roPlaces.mono _ _ _ | exact LeO.refl _ | exact LeO.none _ | refine LeO.ite ?_ ?_ | refine LeO.bind ?_ (fun _ => ?_)) | exact ih0 _ _ _ _ _ | exact spec_roPlaces.mono _ _ _ | exact LeO.none _ | refine LeO.ite ?_ ?_ | refine LeO.bind ?_ (fun _ => ?_))
theorem spec_roFits.mono : ∀ a0 a1 k, LeO (spec_roFits.f k a0 a1) (spec_roFits.f (k + 1) a0 a1) := by
 intro a0 a1 k
 have ih0 := spec_roFits.mono_l k
 unfold spec_roFits.f
 repeat' (first | (with_reducible first | exact ih0 _ _ _ _ _ | exact spec_roNumbers.mono _ _ | exact LeO.refl _ | exact LeO.none _ | refine LeO.ite ?_ ?_ | refine LeO.bind ?_ (fun _ => ?_)) | exact ih0 _ _ _ _ _ | exact spec_roNumbers.mono _ _ | exact LeO.none _ | refine LeO.ite ?_ ?_ | refine LeO.bind ?_ (fun _ => ?_))
set_option maxHeartbeats 8000000 in
set_option maxRecDepth 100000 in
theorem spec_roFits.calls (k : Nat) (A0 : Option Addr) (c0 : Nat) (l0 : List Int) (a1 : Int) (r : Bool) (w : World) (hr0 : Kd.C (Kd.int .i64) w A0 l0.length l0) (hc0 : l0.length ≤ c0) (h : spec_roFits.f k l0 a1 = some r) :
  Calls Try.prog 193 #[.slice A0 l0.length c0, .int .i64 a1] w fun e w' => e = .returned (.bool r) ∧ Below w.heap.size w w' := by
 have HR0 := Aside0.mk hr0
 have HC0 := Aside0.mk hc0
 clear hr0 hc0
 have HB := Aside0.mk (Below.refl w.heap.size w)
 have H : ((spec_roNumbers.f k l0).bind fun t591 => (spec_roFits.l0 k l0 a1 t591 (t591.length : Int) 0)) = some r := h
 clear h
 replace H := Option.bind_eq_some_iff.mp H
 obtain ⟨t591, A30, H⟩ := H
 replace H : (spec_roFits.l0 k l0 a1 t591 (t591.length : Int) 0) = some r := H
 have A3 := Aside0.mk A30
 clear A30
 have H' := Aside0.mk H
 clear H
 go_enter Try.func193, Try.ntmps193
 go_wp2_with (first | (go_at_call 178; (with_reducible refine (spec_roNumbers.calls k _ _ l0 t591 _ ?side1 ?side2 A3.out).mono ?_); (case side1 => repeat (first | exact HR0.out | (with_reducible refine Kd.C_alloc ?_ _) | (with_reducible refine Kd.C_drewN ?_ _) | (with_reducible refine Kd.C_drew ?_))); (case side2 => exact HC0.out); rintro e w4 ⟨v592, rfl, ho0, hb⟩; have HO593 := lowR ho0 HB; replace HB := upB HB hb; (try clear hb); (try clear hb2); (try clear hk); (try clear hi); (try clear ho0); obtain ⟨Ao5, co5, eo5⟩ := Kd.R_slice HO593.out; subst eo5))
 repeat (go_quiet (first | (go_at_call 178; (with_reducible refine (spec_roNumbers.calls k _ _ l0 t591 _ ?side1 ?side2 A3.out).mono ?_); (case side1 => repeat (first | exact HR0.out | (with_reducible refine Kd.C_alloc ?_ _) | (with_reducible refine Kd.C_drewN ?_ _) | (with_reducible refine Kd.C_drew ?_))); (case side2 => exact HC0.out); rintro e w4 ⟨v592, rfl, ho0, hb⟩; have HO593 := lowR ho0 HB; replace HB := upB HB hb; (try clear hb); (try clear hb2); (try clear hk); (try clear hi); (try clear ho0); obtain ⟨Ao5, co5, eo5⟩ := Kd.R_slice HO593.out; subst eo5)); try go_wp2_with (first | (go_at_call 178; (with_reducible refine (spec_roNumbers.calls k _ _ l0 t591 _ ?side1 ?side2 A3.out).mono ?_); (case side1 => repeat (first | exact HR0.out | (with_reducible refine Kd.C_alloc ?_ _) | (with_reducible refine Kd.C_drewN ?_ _) | (with_reducible refine Kd.C_drew ?_))); (case side2 => exact HC0.out); rintro e w4 ⟨v592, rfl, ho0, hb⟩; have HO593 := lowR ho0 HB; replace HB := upB HB hb; (try clear hb); (try clear hb2); (try clear hk); (try clear hi); (try clear ho0); obtain ⟨Ao5, co5, eo5⟩ := Kd.R_slice HO593.out; subst eo5)))
 go_loopg [11] k (fun kq v11 w' => ∃ (x11_1 : Int), v11 = .int .i64 x11_1 ∧ Aside0 (spec_roFits.l0 kq l0 a1 t591 (t591.length : Int) x11_1 = some r) ∧ Aside0 (kq ≤ k) ∧ Aside0 (Kd.R (Kd.int .i64) 3 w' w.heap.size (fun _ => True) (.slice Ao5 t591.length co5) t591) ∧ Aside0 (Below w.heap.size w w'))
 case atStart => exact ⟨(0), (by first | rfl | (simp; done) | (simp [*]; done)), H', ⟨Nat.le_refl _⟩, ⟨atR HO593⟩, ⟨atB HB⟩⟩
 case round =>
  clear H'
  try clear c1
  try clear p2
  obtain ⟨x11_1, rfl, HA, HK1, HO_9, HB⟩ := hrel
  cases gk with
  | zero => exact absurd HA.out (by simp [spec_roFits.l0])
  | succ k1 =>
   have H := HA.out
   clear HA
   simp only [spec_roFits.l0] at H
   by_cases c6 : x11_1 < (t591.length : Int)
   ·rw [if_pos c6] at H
    have c6b0 : decide (x11_1 < (t591.length : Int)) = true := decide_eq_true c6
    clear c6
    by_cases c7 : 0 ≤ x11_1
    ·rw [if_pos c7] at H
     have c7b0 : decide (0 ≤ x11_1) = true := decide_eq_true c7
     clear c7
     by_cases c8 : x11_1 < (t591.length : Int)
     ·rw [if_pos c8] at H
      have c8b0 : decide (x11_1 < (t591.length : Int)) = true := decide_eq_true c8
      clear c8
      replace H := Option.bind_eq_some_iff.mp H
      obtain ⟨t595, A90, H⟩ := H
      replace H : (if 1 < (t595.length : Int) then (if 0 < (t595.length : Int) then (if (wrap64 ((rd t595 1) - (rd t595 0))) = (wrap64 ((rd t591 x11_1) + a1)) then (spec_roFits.l0 k1 l0 a1 t591 (t591.length : Int) (wrap64 (x11_1 + 1))) else (some false)) else (none)) else (none)) = some r := H
      have A9 := Aside0.mk A90
      clear A90
      by_cases c10 : 1 < (t595.length : Int)
      ·rw [if_pos c10] at H
       have c10b0 : decide (1 < (t595.length : Int)) = true := decide_eq_true c10
       have c10b1 : decide (1 < t595.length) = true := decide_eq_true (by omega)
       clear c10
       by_cases c11 : 0 < (t595.length : Int)
       ·rw [if_pos c11] at H
        have c11b0 : decide (0 < (t595.length : Int)) = true := decide_eq_true c11
        have c11b1 : decide (0 < t595.length) = true := decide_eq_true (by omega)
        clear c11
        by_cases c12 : (wrap64 ((rd t595 1) - (rd t595 0))) = (wrap64 ((rd t591 x11_1) + a1))
        ·rw [if_pos c12] at H
         have c12b0 : ((wrap64 ((rd t595 1) - (rd t595 0))) == (wrap64 ((rd t591 x11_1) + a1))) = true := beq_iff_eq.mpr c12
         have c12b1 : ((wrap64 ((rd t595 1) - (rd t595 0))) != (wrap64 ((rd t591 x11_1) + a1))) = false := bne_eq_false_iff_eq.mpr c12
         clear c12
         have H' := Aside0.mk H
         clear H
         have p594 : 0 ≤ (x11_1 : Int) := ofd
         have q594 : x11_1 < (t591.length : Int) := ofd
         obtain ⟨ad594, e594, hx594_0⟩ := Kd.at_int (Kd.R_reads' HO_9.out).2.2 x11_1 p594 q594
         cases e594
         replace p594 := eq_true p594
         replace q594 := eq_true q594
         go_wp2_with (first | (go_at_call 179; (with_reducible refine (spec_roPlaces.calls k1 _ _ l0 (rd t591 x11_1) t595 _ ?side1 ?side2 A9.out).mono ?_); (case side1 => repeat (first | exact (Kd.C_below HR0.out HB.out) | (with_reducible refine Kd.C_alloc ?_ _) | (with_reducible refine Kd.C_drewN ?_ _) | (with_reducible refine Kd.C_drew ?_))); (case side2 => exact HC0.out); rintro e w13 ⟨v596, rfl, ho0, hb⟩; have HO597 := Aside0.mk (Kd.R_lower (Kd.R_new' ho0 (ltR HO_9)) (szB HB)); replace HO_9 := eldRR HO_9 ho0 hb; replace HB := upB HB hb; (try clear hb); (try clear hb2); (try clear hk); (try clear hi); (try clear ho0); obtain ⟨Ao14, co14, eo14⟩ := Kd.R_slice HO597.out; subst eo14; have p598 : 0 ≤ (1 : Int) := (by omega); have q598 : 1 < (t595.length : Int) := ofd; obtain ⟨ad598, e598, hx598_0⟩ := Kd.at_int (Kd.R_reads' HO597.out).2.2 1 p598 q598; cases e598; (try simp only [show (1 : Int).toNat = 1 from rfl, Nat.reduceMul, Nat.reduceEqDiff, Go.Addr.add, ↓reduceIte] at hx598_0); have qi598 : (1 < t595.length) = True := eq_true (by omega); (try rw [show ((1 : Int)).toNat = 1 from rfl] at hx598_0); replace p598 := eq_true p598; replace q598 := eq_true q598; have p599 : 0 ≤ (0 : Int) := (by omega); have q599 : 0 < (t595.length : Int) := ofd; obtain ⟨ad599, e599, hx599_0⟩ := Kd.at_int (Kd.R_reads' HO597.out).2.2 0 p599 q599; obtain rfl : ad598 = ad599 := (by injection e599); have qi599 : (0 < t595.length) = True := eq_true (by omega); (try rw [show ((0 : Int)).toNat = 0 from rfl] at hx599_0); (try rw [Addr.add_zero'] at hx599_0); replace p599 := eq_true p599; replace q599 := eq_true q599))
         repeat (go_quiet (first | (go_at_call 179; (with_reducible refine (spec_roPlaces.calls k1 _ _ l0 (rd t591 x11_1) t595 _ ?side1 ?side2 A9.out).mono ?_); (case side1 => repeat (first | exact (Kd.C_below HR0.out HB.out) | (with_reducible refine Kd.C_alloc ?_ _) | (with_reducible refine Kd.C_drewN ?_ _) | (with_reducible refine Kd.C_drew ?_))); (case side2 => exact HC0.out); rintro e w13 ⟨v596, rfl, ho0, hb⟩; have HO597 := Aside0.mk (Kd.R_lower (Kd.R_new' ho0 (ltR HO_9)) (szB HB)); replace HO_9 := eldRR HO_9 ho0 hb; replace HB := upB HB hb; (try clear hb); (try clear hb2); (try clear hk); (try clear hi); (try clear ho0); obtain ⟨Ao14, co14, eo14⟩ := Kd.R_slice HO597.out; subst eo14; have p598 : 0 ≤ (1 : Int) := (by omega); have q598 : 1 < (t595.length : Int) := ofd; obtain ⟨ad598, e598, hx598_0⟩ := Kd.at_int (Kd.R_reads' HO597.out).2.2 1 p598 q598; cases e598; (try simp only [show (1 : Int).toNat = 1 from rfl, Nat.reduceMul, Nat.reduceEqDiff, Go.Addr.add, ↓reduceIte] at hx598_0); have qi598 : (1 < t595.length) = True := eq_true (by omega); (try rw [show ((1 : Int)).toNat = 1 from rfl] at hx598_0); replace p598 := eq_true p598; replace q598 := eq_true q598; have p599 : 0 ≤ (0 : Int) := (by omega); have q599 : 0 < (t595.length : Int) := ofd; obtain ⟨ad599, e599, hx599_0⟩ := Kd.at_int (Kd.R_reads' HO597.out).2.2 0 p599 q599; obtain rfl : ad598 = ad599 := (by injection e599); have qi599 : (0 < t595.length) = True := eq_true (by omega); (try rw [show ((0 : Int)).toNat = 0 from rfl] at hx599_0); (try rw [Addr.add_zero'] at hx599_0); replace p599 := eq_true p599; replace q599 := eq_true q599)); try go_wp2_with (first | (go_at_call 179; (with_reducible refine (spec_roPlaces.calls k1 _ _ l0 (rd t591 x11_1) t595 _ ?side1 ?side2 A9.out).mono ?_); (case side1 => repeat (first | exact (Kd.C_below HR0.out HB.out) | (with_reducible refine Kd.C_alloc ?_ _) | (with_reducible refine Kd.C_drewN ?_ _) | (with_reducible refine Kd.C_drew ?_))); (case side2 => exact HC0.out); rintro e w13 ⟨v596, rfl, ho0, hb⟩; have HO597 := Aside0.mk (Kd.R_lower (Kd.R_new' ho0 (ltR HO_9)) (szB HB)); replace HO_9 := eldRR HO_9 ho0 hb; replace HB := upB HB hb; (try clear hb); (try clear hb2); (try clear hk); (try clear hi); (try clear ho0); obtain ⟨Ao14, co14, eo14⟩ := Kd.R_slice HO597.out; subst eo14; have p598 : 0 ≤ (1 : Int) := (by omega); have q598 : 1 < (t595.length : Int) := ofd; obtain ⟨ad598, e598, hx598_0⟩ := Kd.at_int (Kd.R_reads' HO597.out).2.2 1 p598 q598; cases e598; (try simp only [show (1 : Int).toNat = 1 from rfl, Nat.reduceMul, Nat.reduceEqDiff, Go.Addr.add, ↓reduceIte] at hx598_0); have qi598 : (1 < t595.length) = True := eq_true (by omega); (try rw [show ((1 : Int)).toNat = 1 from rfl] at hx598_0); replace p598 := eq_true p598; replace q598 := eq_true q598; have p599 : 0 ≤ (0 : Int) := (by omega); have q599 : 0 < (t595.length : Int) := ofd; obtain ⟨ad599, e599, hx599_0⟩ := Kd.at_int (Kd.R_reads' HO597.out).2.2 0 p599 q599; obtain rfl : ad598 = ad599 := (by injection e599); have qi599 : (0 < t595.length) = True := eq_true (by omega); (try rw [show ((0 : Int)).toNat = 0 from rfl] at hx599_0); (try rw [Addr.add_zero'] at hx599_0); replace p599 := eq_true p599; replace q599 := eq_true q599)))
         go_roundg k1
         case measure => have := HK1.out; omega
         case rel => exact ⟨(wrap64 (x11_1 + 1)), (by first | rfl | (simp; done) | (simp [*]; done)), H', ⟨by have := HK1.out; omega⟩, ⟨by (with_reducible repeat (first | apply Kd.R_alloc | apply Kd.R_drewN | apply Kd.R_drew)); exact Kd.R_mono HO_9.out (fun _ hk => trivial)⟩, ⟨atB HB⟩⟩
        ·rw [if_neg c12] at H
         have c12b0 : ((wrap64 ((rd t595 1) - (rd t595 0))) == (wrap64 ((rd t591 x11_1) + a1))) = false := beq_eq_false_iff_ne.mpr c12
         have c12b1 : ((wrap64 ((rd t595 1) - (rd t595 0))) != (wrap64 ((rd t591 x11_1) + a1))) = true := bne_iff_ne.mpr c12
         obtain rfl := Option.some.inj H
         have p594 : 0 ≤ (x11_1 : Int) := ofd
         have q594 : x11_1 < (t591.length : Int) := ofd
         obtain ⟨ad594, e594, hx594_0⟩ := Kd.at_int (Kd.R_reads' HO_9.out).2.2 x11_1 p594 q594
         cases e594
         replace p594 := eq_true p594
         replace q594 := eq_true q594
         go_wp2_with (first | (go_at_call 179; (with_reducible refine (spec_roPlaces.calls k1 _ _ l0 (rd t591 x11_1) t595 _ ?side1 ?side2 A9.out).mono ?_); (case side1 => repeat (first | exact (Kd.C_below HR0.out HB.out) | (with_reducible refine Kd.C_alloc ?_ _) | (with_reducible refine Kd.C_drewN ?_ _) | (with_reducible refine Kd.C_drew ?_))); (case side2 => exact HC0.out); rintro e w15 ⟨v596, rfl, ho0, hb⟩; have HO597 := Aside0.mk (Kd.R_lower (Kd.R_new' ho0 (ltR HO_9)) (szB HB)); replace HO_9 := eldRR HO_9 ho0 hb; replace HB := upB HB hb; (try clear hb); (try clear hb2); (try clear hk); (try clear hi); (try clear ho0); obtain ⟨Ao16, co16, eo16⟩ := Kd.R_slice HO597.out; subst eo16; have p598 : 0 ≤ (1 : Int) := (by omega); have q598 : 1 < (t595.length : Int) := ofd; obtain ⟨ad598, e598, hx598_0⟩ := Kd.at_int (Kd.R_reads' HO597.out).2.2 1 p598 q598; cases e598; (try simp only [show (1 : Int).toNat = 1 from rfl, Nat.reduceMul, Nat.reduceEqDiff, Go.Addr.add, ↓reduceIte] at hx598_0); have qi598 : (1 < t595.length) = True := eq_true (by omega); (try rw [show ((1 : Int)).toNat = 1 from rfl] at hx598_0); replace p598 := eq_true p598; replace q598 := eq_true q598; have p599 : 0 ≤ (0 : Int) := (by omega); have q599 : 0 < (t595.length : Int) := ofd; obtain ⟨ad599, e599, hx599_0⟩ := Kd.at_int (Kd.R_reads' HO597.out).2.2 0 p599 q599; obtain rfl : ad598 = ad599 := (by injection e599); have qi599 : (0 < t595.length) = True := eq_true (by omega); (try rw [show ((0 : Int)).toNat = 0 from rfl] at hx599_0); (try rw [Addr.add_zero'] at hx599_0); replace p599 := eq_true p599; replace q599 := eq_true q599))
         repeat (go_quiet (first | (go_at_call 179; (with_reducible refine (spec_roPlaces.calls k1 _ _ l0 (rd t591 x11_1) t595 _ ?side1 ?side2 A9.out).mono ?_); (case side1 => repeat (first | exact (Kd.C_below HR0.out HB.out) | (with_reducible refine Kd.C_alloc ?_ _) | (with_reducible refine Kd.C_drewN ?_ _) | (with_reducible refine Kd.C_drew ?_))); (case side2 => exact HC0.out); rintro e w15 ⟨v596, rfl, ho0, hb⟩; have HO597 := Aside0.mk (Kd.R_lower (Kd.R_new' ho0 (ltR HO_9)) (szB HB)); replace HO_9 := eldRR HO_9 ho0 hb; replace HB := upB HB hb; (try clear hb); (try clear hb2); (try clear hk); (try clear hi); (try clear ho0); obtain ⟨Ao16, co16, eo16⟩ := Kd.R_slice HO597.out; subst eo16; have p598 : 0 ≤ (1 : Int) := (by omega); have q598 : 1 < (t595.length : Int) := ofd; obtain ⟨ad598, e598, hx598_0⟩ := Kd.at_int (Kd.R_reads' HO597.out).2.2 1 p598 q598; cases e598; (try simp only [show (1 : Int).toNat = 1 from rfl, Nat.reduceMul, Nat.reduceEqDiff, Go.Addr.add, ↓reduceIte] at hx598_0); have qi598 : (1 < t595.length) = True := eq_true (by omega); (try rw [show ((1 : Int)).toNat = 1 from rfl] at hx598_0); replace p598 := eq_true p598; replace q598 := eq_true q598; have p599 : 0 ≤ (0 : Int) := (by omega); have q599 : 0 < (t595.length : Int) := ofd; obtain ⟨ad599, e599, hx599_0⟩ := Kd.at_int (Kd.R_reads' HO597.out).2.2 0 p599 q599; obtain rfl : ad598 = ad599 := (by injection e599); have qi599 : (0 < t595.length) = True := eq_true (by omega); (try rw [show ((0 : Int)).toNat = 0 from rfl] at hx599_0); (try rw [Addr.add_zero'] at hx599_0); replace p599 := eq_true p599; replace q599 := eq_true q599)); try go_wp2_with (first | (go_at_call 179; (with_reducible refine (spec_roPlaces.calls k1 _ _ l0 (rd t591 x11_1) t595 _ ?side1 ?side2 A9.out).mono ?_); (case side1 => repeat (first | exact (Kd.C_below HR0.out HB.out) | (with_reducible refine Kd.C_alloc ?_ _) | (with_reducible refine Kd.C_drewN ?_ _) | (with_reducible refine Kd.C_drew ?_))); (case side2 => exact HC0.out); rintro e w15 ⟨v596, rfl, ho0, hb⟩; have HO597 := Aside0.mk (Kd.R_lower (Kd.R_new' ho0 (ltR HO_9)) (szB HB)); replace HO_9 := eldRR HO_9 ho0 hb; replace HB := upB HB hb; (try clear hb); (try clear hb2); (try clear hk); (try clear hi); (try clear ho0); obtain ⟨Ao16, co16, eo16⟩ := Kd.R_slice HO597.out; subst eo16; have p598 : 0 ≤ (1 : Int) := (by omega); have q598 : 1 < (t595.length : Int) := ofd; obtain ⟨ad598, e598, hx598_0⟩ := Kd.at_int (Kd.R_reads' HO597.out).2.2 1 p598 q598; cases e598; (try simp only [show (1 : Int).toNat = 1 from rfl, Nat.reduceMul, Nat.reduceEqDiff, Go.Addr.add, ↓reduceIte] at hx598_0); have qi598 : (1 < t595.length) = True := eq_true (by omega); (try rw [show ((1 : Int)).toNat = 1 from rfl] at hx598_0); replace p598 := eq_true p598; replace q598 := eq_true q598; have p599 : 0 ≤ (0 : Int) := (by omega); have q599 : 0 < (t595.length : Int) := ofd; obtain ⟨ad599, e599, hx599_0⟩ := Kd.at_int (Kd.R_reads' HO597.out).2.2 0 p599 q599; obtain rfl : ad598 = ad599 := (by injection e599); have qi599 : (0 < t595.length) = True := eq_true (by omega); (try rw [show ((0 : Int)).toNat = 0 from rfl] at hx599_0); (try rw [Addr.add_zero'] at hx599_0); replace p599 := eq_true p599; replace q599 := eq_true q599)))
         go_ret
         exact ⟨by first | rfl | (simp [errW_none, errW_some] <;> rfl) | (simp [*, errW_none, errW_some] <;> rfl), atB HB⟩
       ·rw [if_neg c11] at H
        exact absurd H (by simp)
      ·rw [if_neg c10] at H
       exact absurd H (by simp)
     ·rw [if_neg c8] at H
      exact absurd H (by simp)
    ·rw [if_neg c7] at H
     exact absurd H (by simp)
   ·rw [if_neg c6] at H
    have c6b0 : decide (x11_1 < (t591.length : Int)) = false := decide_eq_false c6
    clear c6
    obtain rfl := Option.some.inj H
    go_wp2
    repeat (go_quiet (fail); try go_wp2)
    go_ret
    exact ⟨by first | rfl | (simp [errW_none, errW_some] <;> rfl) | (simp [*, errW_none, errW_some] <;> rfl), atB HB⟩

noncomputable def spec_roFits.L0 (x0 : List Int) (x1 : Int) (x9 : List Int) (x10 : Int) (x11 : Int) : Option (Bool) := lim fun k => spec_roFits.l0 k x0 x1 x9 x10 x11
theorem spec_roFits.L0_lim (x0 : List Int) (x1 : Int) (x9 : List Int) (x10 : Int) (x11 : Int) : Lim (fun k => spec_roFits.l0 k x0 x1 x9 x10 x11) (spec_roFits.L0 x0 x1 x9 x10 x11) := Lim.of fun k => (spec_roFits.mono_l k) x0 x1 x9 x10 x11
noncomputable def spec_roFits.F (l0 : List Int) (a1 : Int) : Option (Bool) := lim fun k => spec_roFits.f k l0 a1
theorem spec_roFits.F_lim (l0 : List Int) (a1 : Int) : Lim (fun k => spec_roFits.f k l0 a1) (spec_roFits.F l0 a1) := Lim.of fun k => spec_roFits.mono l0 a1 k
theorem spec_roFits.L0_eq (x0 : List Int) (x1 : Int) (x9 : List Int) (x10 : Int) (x11 : Int) : spec_roFits.L0 x0 x1 x9 x10 x11 = (if x11 < x10 then (if 0 ≤ x11 then (if x11 < (x9.length : Int) then ((spec_roPlaces.F x0 (rd x9 x11)).bind fun t595 => (if 1 < (t595.length : Int) then (if 0 < (t595.length : Int) then (if (wrap64 ((rd t595 1) - (rd t595 0))) = (wrap64 ((rd x9 x11) + x1)) then (spec_roFits.L0 x0 x1 x9 x10 (wrap64 (x11 + 1))) else (some false)) else (none)) else (none))) else (none)) else (none)) else (some true)) :=
 Lim.step (f := fun k => spec_roFits.l0 (k + 1) x0 x1 x9 x10 x11) (spec_roFits.L0_lim x0 x1 x9 x10 x11) (fun _ => rfl) (by
  simp only [spec_roFits.l0]
  repeat' (first | (with_reducible first | exact Lim.const _ | exact spec_roFits.L0_lim _ _ _ _ _ | exact spec_roPlaces.F_lim _ _ | refine Lim.ite ?_ ?_ | refine Lim.bind ?_ (fun _ => ?_))))
theorem spec_roFits.F_eq (l0 : List Int) (a1 : Int) : spec_roFits.F l0 a1 = ((spec_roNumbers.F l0).bind fun t591 => (spec_roFits.L0 l0 a1 t591 (t591.length : Int) 0)) :=
 Lim.unique (spec_roFits.F_lim l0 a1) (by
  unfold spec_roFits.f
  repeat' (first | (with_reducible first | exact Lim.const _ | exact spec_roFits.L0_lim _ _ _ _ _ | exact spec_roNumbers.F_lim _ | refine Lim.ite ?_ ?_ | refine Lim.bind ?_ (fun _ => ?_))))

end Go.Proofs.Ytaohgllnoomaeaa.Fn
namespace Go.Proofs.Ytaohgllnoomaeaa.Fn
open Go.RowKit Go.Proofs.YtaohgllnoomaeaaW.PrintWords Go.Proofs.YtaohgllnoomaeaaW.PrintLast Go.Proofs.YtaohgllnoomaeaaW.PrintMore
attribute [local go_sem] max2_int min2_int max_two min_two max_three min_three max_four min_four   -- for this text's walks alone
set_option linter.unusedVariables false
set_option linter.unusedSimpArgs false

/-! ### impl_rows: function 237 (given) -/
/-! ### rows: three rows are made, and filled -/
theorem zeros_rd (n j : Nat) : rd (List.replicate n (0 : Int)) (j : Int) = 0 := by
  unfold rd
  rw [Int.toNat_natCast, List.getD_eq_getElem?_getD, List.getElem?_replicate]
  split <;> rfl
/-- The row before it is filled: all places free, but the hole. -/
def rowStart (places : Nat) (hole : Int) : List Int := if 0 ≤ hole then (List.replicate places (-1)).set hole.toNat 0 else List.replicate places (-1)
theorem rowStart_len (places : Nat) (hole : Int) : (rowStart places hole).length = places := by
  unfold rowStart
  split <;> simp
/-- What rows does with the function that it calls. -/
def rowsRun (places n : Nat) (d shift hole : Int) {σ : Type} (each : σ → List Int → Option (σ × Bool)) (s : σ) : Option (σ × Bool) := fillF each (List.replicate places 0) shift (places + 1) s (rowStart places hole) (numbersUp d n)
set_option maxHeartbeats 16000000 in
set_option maxRecDepth 100000 in
theorem rows_call {σ : Type} {base : Nat} {fid : FuncId} {ecaps : Array Value} {each : σ → List Int → Option (σ × Bool)} {I : (Nat → Prop) → σ → World → Prop} (places n : Nat) (d shift hole : Int) (s s' : σ) (b : Bool) (w : World) (hp : places ≤ 100) (hn : n ≤ 100) (hd : 0 ≤ d ∧ d ≤ 100) (hs : 0 ≤ shift ∧ shift ≤ 1) (hh : -1 ≤ hole ∧ hole < places) (hbase : base ≤ w.heap.size)
    (hE : ∀ X : Nat → Prop, (∀ k, X k → w.heap.size ≤ k) → EachOk base X fid ecaps each (I X)) (hI : ∀ (X : Nat → Prop) w', Below w.heap.size w w' → (∀ k, X k → w.heap.size ≤ k ∧ k < w'.heap.size) → I X s w')
    (h : rowsRun places n d shift hole each s = some (s', b)) :
    Calls Try.prog 237 #[.int .i64 (places : Int), .int .i64 (n : Int), .int .i64 d, .int .i64 shift, .int .i64 hole, .func (.func fid) #[] ecaps] w fun e w' => e = .returned (.tuple #[]) ∧ (∃ X : Nat → Prop, (∀ k, X k → w.heap.size ≤ k) ∧ I X s' w') ∧ Below base w w' := by
  have HP := Aside0.mk hp
  have HN := Aside0.mk hn
  have HD := Aside0.mk hd
  have HS := Aside0.mk hs
  have HH := Aside0.mk hh
  have HBASE := Aside0.mk hbase
  have HE := Aside0.mk hE
  have HI := Aside0.mk hI
  have HF := Aside0.mk h
  clear hs hbase hE hI h hd hh
  go_enter Try.func237, Try.ntmps237
  go_upto_region 0 with (fail)
  go_cut [12, 13] (fun v12 v13 wc => ∃ gr gl : Nat, v12 = .slice (some ⟨gr, 0, none⟩) places places ∧ v13 = .slice (some ⟨gl, 0, none⟩) n n ∧ gr ≠ gl ∧ Aside0 (IB wc gr (List.replicate places 0)) ∧ Aside0 (IB wc gl (List.replicate n 0)) ∧ Aside0 (Below w.heap.size w wc) ∧ w.heap.size ≤ gr ∧ w.heap.size ≤ gl)
  case first =>
    refine start_ (n := 6) (S := fun _ => True) (ds := []) #[false, false, false, false, false, false] (by kernel_rfl) rfl rfl trivial (fun hHeld => ?_)
    have HB1 := Aside0.mk (below_drew1 (Below.refl w.heap.size w))
    have HSZ := Aside0.mk (show w.heap.size ≤ w.drew.heap.size from Nat.le_refl _)
    generalize w.drew = w1 at HB1 HSZ hHeld ⊢
    refine pure_ (i := 0) (N := some 16) (v := ?_) (a' := ?_) #[true, false, false, false, false, false] rfl rfl (by kernel_rfl) (fun _ _ _ h => h) (Or.inl ⟨by rfl, ?_⟩) ?_ ?_
    rotate_left
    · intro w'
      go_simp
      with_reducible rfl
    rotate_left
    · simp only [Act.put, List.setIfInBounds_toArray, List.set_cons_zero, List.set_cons_succ, i64_w, i32_w]
      rfl
    refine pure_ (i := 2) (N := some 18) (v := ?_) (a' := ?_) #[true, false, true, false, false, false] rfl rfl (by kernel_rfl) (fun _ _ _ h => h) (Or.inl ⟨by rfl, ?_⟩) ?_ ?_
    rotate_left
    · intro w'
      go_simp
      with_reducible rfl
    rotate_left
    · simp only [Act.put, List.setIfInBounds_toArray, List.set_cons_zero, List.set_cons_succ, i64_w, i32_w]
      rfl
    refine two_ (i := 1) (j := 3) #[true, true, true, false, false, false] #[true, false, true, true, false, false] rfl rfl rfl rfl (by kernel_rfl) (by decide) (by decide) (fun K hK => ?_) (fun K hK => ?_)
    · refine IB_make_step (n := places) (by rfl) rfl rfl rfl rfl (by omega) ?_
      intro w2 hI2 hB2
      refine hK.out _ _ trivial (fun hHeld => ?_)
      clear hK K
      refine norm_ (a' := ?_) ?_ ?_
      rotate_left
      · show Act.put _ (some 17) _ = _
        simp only [Act.put, List.setIfInBounds_toArray, List.set_cons_zero, List.set_cons_succ, i64_w, i32_w]
        rfl
      refine pure_ (i := 4) (N := some 12) (v := ?_) (a' := ?_) #[true, true, true, false, true, false] rfl rfl (by kernel_rfl) (fun _ _ _ h => h) (Or.inl ⟨by rfl, ?_⟩) ?_ ?_
      rotate_left
      · intro w'
        go_simp
        with_reducible rfl
      rotate_left
      · simp only [Act.put, List.setIfInBounds_toArray, List.set_cons_zero, List.set_cons_succ, i64_w, i32_w]
        rfl
      refine one_ (i := 3) (N := some 19) #[true, true, true, true, true, false] rfl rfl (by kernel_rfl) (by decide) (fun K hK => ?_)
      refine IB_make_step (n := n) (by rfl) rfl rfl rfl rfl (by omega) ?_
      intro w3 hI3 hB3
      refine hK.out _ _ trivial (fun hHeld => ?_)
      clear hK K
      refine norm_ (a' := ?_) ?_ ?_
      rotate_left
      · show Act.put _ (some 19) _ = _
        simp only [Act.put, List.setIfInBounds_toArray, List.set_cons_zero, List.set_cons_succ, i64_w, i32_w]
        rfl
      refine pure_ (i := 5) (N := some 13) (v := ?_) (a' := ?_) #[true, true, true, true, true, true] rfl rfl (by kernel_rfl) (fun _ _ _ h => h) (Or.inl ⟨by rfl, ?_⟩) ?_ ?_
      rotate_left
      · intro w'
        go_simp
        with_reducible rfl
      rotate_left
      · simp only [Act.put, List.setIfInBounds_toArray, List.set_cons_zero, List.set_cons_succ, i64_w, i32_w]
        rfl
      refine done_ (by kernel_rfl) ?_
      try go_wp2
      go_meet
      case rel => exact ⟨w1.heap.size, w2.heap.size, rfl, rfl, by have := blk_lt hI2; omega, ⟨IB_below hI2 hB3⟩, ⟨hI3⟩, ⟨HB1.out.trans ((hB2.mono HSZ.out).trans (hB3.mono (Nat.le_trans HSZ.out hB2.size)))⟩, HSZ.out, Nat.le_trans HSZ.out hB2.size⟩
    · refine IB_make_step (n := n) (by rfl) rfl rfl rfl rfl (by omega) ?_
      intro w2 hI2 hB2
      refine hK.out _ _ trivial (fun hHeld => ?_)
      clear hK K
      refine norm_ (a' := ?_) ?_ ?_
      rotate_left
      · show Act.put _ (some 19) _ = _
        simp only [Act.put, List.setIfInBounds_toArray, List.set_cons_zero, List.set_cons_succ, i64_w, i32_w]
        rfl
      refine one_ (i := 1) (N := some 17) #[true, true, true, true, false, false] rfl rfl (by kernel_rfl) (by decide) (fun K hK => ?_)
      refine IB_make_step (n := places) (by rfl) rfl rfl rfl rfl (by omega) ?_
      intro w3 hI3 hB3
      refine hK.out _ _ trivial (fun hHeld => ?_)
      clear hK K
      refine norm_ (a' := ?_) ?_ ?_
      rotate_left
      · show Act.put _ (some 17) _ = _
        simp only [Act.put, List.setIfInBounds_toArray, List.set_cons_zero, List.set_cons_succ, i64_w, i32_w]
        rfl
      refine pure_ (i := 4) (N := some 12) (v := ?_) (a' := ?_) #[true, true, true, true, true, false] rfl rfl (by kernel_rfl) (fun _ _ _ h => h) (Or.inl ⟨by rfl, ?_⟩) ?_ ?_
      rotate_left
      · intro w'
        go_simp
        with_reducible rfl
      rotate_left
      · simp only [Act.put, List.setIfInBounds_toArray, List.set_cons_zero, List.set_cons_succ, i64_w, i32_w]
        rfl
      refine pure_ (i := 5) (N := some 13) (v := ?_) (a' := ?_) #[true, true, true, true, true, true] rfl rfl (by kernel_rfl) (fun _ _ _ h => h) (Or.inl ⟨by rfl, ?_⟩) ?_ ?_
      rotate_left
      · intro w'
        go_simp
        with_reducible rfl
      rotate_left
      · simp only [Act.put, List.setIfInBounds_toArray, List.set_cons_zero, List.set_cons_succ, i64_w, i32_w]
        rfl
      refine done_ (by kernel_rfl) ?_
      try go_wp2
      go_meet
      case rel => exact ⟨w2.heap.size, w1.heap.size, rfl, rfl, by have := blk_lt hI2; omega, ⟨hI3⟩, ⟨IB_below hI2 hB3⟩, ⟨HB1.out.trans ((hB2.mono HSZ.out).trans (hB3.mono (Nat.le_trans HSZ.out hB2.size)))⟩, Nat.le_trans HSZ.out hB2.size, HSZ.out⟩
  case rest =>
    obtain ⟨gr, gl, rfl, rfl, hne, HR, HL, HB, hgr, hgl⟩ := hcut
    have HNE := Aside0.mk hne
    have HGR := Aside0.mk hgr
    have HGL := Aside0.mk hgl
    clear hne hgr hgl
    go_wp2
    go_loopw [22] (fun v22 wr => ∃ i : Nat, i ≤ places ∧ v22 = .int .i64 i ∧ Aside0 (At2 w.heap.size gr gl wc wr (List.replicate i (-1) ++ List.replicate (places - i) 0) (List.replicate n 0))) (fun v _ => places - (intOf v).toNat)
    case atStart => exact ⟨0, Nat.zero_le _, rfl, ⟨At2.refl _ HR.out HL.out⟩⟩
    case round =>
      obtain ⟨i, hi, rfl, HA⟩ := hrel
      by_cases hlt : i < places
      · have hc1 := HA.out.row.cell i (by simp; omega)
        have hf1 := blk_frozen HA.out.row i
        have HLT := Aside0.mk hlt
        go_wp2
        go_roundw
        case rel =>
          refine ⟨i + 1, HLT.out, by go_num, ⟨?_⟩⟩
          have h := HA.out.putR HNE.out (by have := HGR.out; omega) i (-1) rfl
          rw [set_at (by simp) HLT.out, ← List.replicate_succ'] at h
          exact h
        case measure => simp [intOf]; have := HLT.out; omega
      · obtain rfl : i = places := by omega
        have HA := Aside0.mk (show At2 w.heap.size gr gl wc wr (List.replicate i (-1)) (List.replicate n 0) by simpa using HA.out)
        clear hlt hi
        have hd := HD.out
        by_cases hz : 0 ≤ hole
        · obtain ⟨hn0, rfl⟩ : ∃ hn : Nat, hole = (hn : Int) := ⟨hole.toNat, by omega⟩
          have hlh : hn0 < i := by have := HH.out.2; omega
          have hc1 := HA.out.row.cell hn0 (by simp; omega)
          have hf1 := blk_frozen HA.out.row hn0
          have hA9 : ∀ w', w' = wr.setCell ⟨gr, hn0, none⟩ (.int .i64 0) → At2 w.heap.size gr gl wc w' (rowStart i (hn0 : Int)) (List.replicate n 0) := fun w' hw => by
            have h := HA.out.putR HNE.out (by have := HGR.out; omega) hn0 0 hw
            unfold rowStart
            rw [if_pos (by omega), Int.toNat_natCast]
            exact h
          have HA9 := Aside0.mk hA9
          clear hA9
          go_wp2
          have HA := Aside0.mk (HA9.out _ rfl)
          generalize hW : wr.setCell _ _ = wr2 at HA ⊢
          clear hc1 hf1
          go_loopw [36] (fun v36 wq => ∃ j : Nat, j ≤ n ∧ v36 = .int .i64 j ∧ Aside0 (At2 w.heap.size gr gl wc wq (rowStart i (hn0 : Int)) (numbersUp d j ++ List.replicate (n - j) 0))) (fun v _ => n - (intOf v).toNat)
          case atStart => exact ⟨0, Nat.zero_le _, rfl, ⟨by simpa [numbersUp] using HA.out⟩⟩
          case round =>
            obtain ⟨j, hj, rfl, HA2⟩ := hrel
            by_cases hlt : j < n
            · have hc1 := HA2.out.left.cell j (by simp [numbersUp_len]; omega)
              have hf1 := blk_frozen HA2.out.left j
              have HLT := Aside0.mk hlt
              go_wp2
              go_roundw
              case rel =>
                refine ⟨j + 1, HLT.out, by go_num, ⟨?_⟩⟩
                have h := HA2.out.putL HNE.out (by have := HGL.out; omega) j (d + (j : Int)) rfl
                rw [set_at (numbersUp_len _ _) HLT.out, ← numbersUp_succ] at h
                exact h
              case measure => simp [intOf]; have := HLT.out; omega
            · obtain rfl : j = n := by omega
              have HA3 := Aside0.mk (show At2 w.heap.size gr gl wc wr (rowStart i (hn0 : Int)) (numbersUp d j) by simpa using HA2.out)
              clear hlt hj HA2 HA
              go_wp2_with (first | ((with_reducible refine gate_dst (N := 48) rfl ?_); refine IB_make_event (N := 48) (x := .tmp 47) (y := .tmp 47) (n := i) ?hg ?hd ?ho ?hx ?hy (Nat.le_trans HP.out (by decide)) ?_; (case hg => rfl); (case hd => rfl); (case ho => rfl); (case hx => rfl); (case hy => rfl); intro gt hgt w4 hI4 hB4; have HGT := Aside0.mk hgt; have HI4 := Aside0.mk hI4; have HB4 := Aside0.mk hB4; have HX := Aside0.mk (show ∀ k, (k = gr ∨ k = gl ∨ k = gt) → w.heap.size ≤ k from fun k hk => by have h1 := HGR.out; have h2 := HGL.out; have h3 := (HB.out.trans HA3.out.below).size; omega); have HB0 := Aside0.mk (below_step (HB.out.trans HA3.out.below) hB4); have hcall := fill_calls (HE.out (fun k => k = gr ∨ k = gl ∨ k = gt) HX.out) (List.replicate i 0) ⟨gt, 0, none⟩ i shift HS.out gr gl (.inl rfl) (.inr (.inl rfl)) HNE.out (by have := HGR.out; have := HBASE.out; omega) (by have := HGL.out; have := HBASE.out; omega) (fun e => by have h1 := blk_lt HA3.out.row; have h2 : gt = gr := e; omega) (fun e => by have h1 := blk_lt HA3.out.left; have h2 : gt = gl := e; omega) (.inr (.inr (.inr rfl))) (i + 1) s s' b (rowStart i (hn0 : Int)) (numbersUp d j) w4 (by rw [rowStart_len]; simp) (by rw [rowStart_len]; have := HP.out; omega) (by rw [numbersUp_len]; have := HN.out; omega) (fun x hx => by have h1 := mem_numbersUp hx; have h2 := HN.out; have h3 := HD.out; omega) (HI.out _ w4 HB0.out (fun k hk => ⟨HX.out k hk, by have h1 := blk_lt HA3.out.row; have h2 := blk_lt HA3.out.left; have h3 := blk_lt hI4; have h4 := hB4.size; omega⟩)) (IB_below HA3.out.row hB4) (IB_below HA3.out.left hB4) (fun x hx => by rw [zeros_rd, add_block0]; have h1 := hI4.cell x (by simpa using hx); rw [zeros_rd] at h1; exact h1) HF.out; rw [rowStart_len, numbersUp_len, List.length_replicate] at hcall; have HCALL := Aside0.mk hcall; clear hcall hgt hI4 hB4) | ((with_reducible refine gate_callee (f := 260) rfl ?_); refine goesL_ (some 52) rfl rfl Try.func260 (by kernel_rfl) rfl #[.slice (some ⟨gr, 0, none⟩) i i, .slice (some ⟨gt, 0, none⟩) i i, .slice (some ⟨gl, 0, none⟩) j j, .int .i64 shift, .func (.func fid) #[] ecaps] rfl (by (try simp only [List.map_toArray, List.map_cons, List.map_nil]); first | done | rfl) ?_; refine HCALL.out.mono ?_; rintro e w5 ⟨rfl, hI5, hB5, hX5⟩; refine ⟨_, rfl, ?_⟩; have HI5 := Aside0.mk hI5; have HB5 := Aside0.mk hB5; clear hI5 hB5 hX5))
              first | go_end0 | ((try simp only [Exit.inBlock, Exit.then]); refine bodyPost_ret (results_none rfl _ _ _) rfl ?_)
              exact ⟨rfl, ⟨_, HX.out, HI5.out⟩, (HB0.out.mono HBASE.out).trans HB5.out⟩
        · have HA9 := Aside0.mk (show At2 w.heap.size gr gl wc wr (rowStart i hole) (List.replicate n 0) by
            unfold rowStart
            rw [if_neg hz]
            exact HA.out)
          have hz1 : hole < 0 := by omega
          clear HA
          have HA := HA9
          clear HA9
          go_wp2
          go_loopw [36] (fun v36 wq => ∃ j : Nat, j ≤ n ∧ v36 = .int .i64 j ∧ Aside0 (At2 w.heap.size gr gl wc wq (rowStart i hole) (numbersUp d j ++ List.replicate (n - j) 0))) (fun v _ => n - (intOf v).toNat)
          case atStart => exact ⟨0, Nat.zero_le _, rfl, ⟨by simpa [numbersUp] using HA.out⟩⟩
          case round =>
            obtain ⟨j, hj, rfl, HA2⟩ := hrel
            by_cases hlt : j < n
            · have hc1 := HA2.out.left.cell j (by simp [numbersUp_len]; omega)
              have hf1 := blk_frozen HA2.out.left j
              have HLT := Aside0.mk hlt
              go_wp2
              go_roundw
              case rel =>
                refine ⟨j + 1, HLT.out, by go_num, ⟨?_⟩⟩
                have h := HA2.out.putL HNE.out (by have := HGL.out; omega) j (d + (j : Int)) rfl
                rw [set_at (numbersUp_len _ _) HLT.out, ← numbersUp_succ] at h
                exact h
              case measure => simp [intOf]; have := HLT.out; omega
            · obtain rfl : j = n := by omega
              have HA3 := Aside0.mk (show At2 w.heap.size gr gl wc wr (rowStart i hole) (numbersUp d j) by simpa using HA2.out)
              clear hlt hj HA2 HA
              go_wp2_with (first | ((with_reducible refine gate_dst (N := 48) rfl ?_); refine IB_make_event (N := 48) (x := .tmp 47) (y := .tmp 47) (n := i) ?hg ?hd ?ho ?hx ?hy (Nat.le_trans HP.out (by decide)) ?_; (case hg => rfl); (case hd => rfl); (case ho => rfl); (case hx => rfl); (case hy => rfl); intro gt hgt w4 hI4 hB4; have HGT := Aside0.mk hgt; have HI4 := Aside0.mk hI4; have HB4 := Aside0.mk hB4; have HX := Aside0.mk (show ∀ k, (k = gr ∨ k = gl ∨ k = gt) → w.heap.size ≤ k from fun k hk => by have h1 := HGR.out; have h2 := HGL.out; have h3 := (HB.out.trans HA3.out.below).size; omega); have HB0 := Aside0.mk (below_step (HB.out.trans HA3.out.below) hB4); have hcall := fill_calls (HE.out (fun k => k = gr ∨ k = gl ∨ k = gt) HX.out) (List.replicate i 0) ⟨gt, 0, none⟩ i shift HS.out gr gl (.inl rfl) (.inr (.inl rfl)) HNE.out (by have := HGR.out; have := HBASE.out; omega) (by have := HGL.out; have := HBASE.out; omega) (fun e => by have h1 := blk_lt HA3.out.row; have h2 : gt = gr := e; omega) (fun e => by have h1 := blk_lt HA3.out.left; have h2 : gt = gl := e; omega) (.inr (.inr (.inr rfl))) (i + 1) s s' b (rowStart i hole) (numbersUp d j) w4 (by rw [rowStart_len]; simp) (by rw [rowStart_len]; have := HP.out; omega) (by rw [numbersUp_len]; have := HN.out; omega) (fun x hx => by have h1 := mem_numbersUp hx; have h2 := HN.out; have h3 := HD.out; omega) (HI.out _ w4 HB0.out (fun k hk => ⟨HX.out k hk, by have h1 := blk_lt HA3.out.row; have h2 := blk_lt HA3.out.left; have h3 := blk_lt hI4; have h4 := hB4.size; omega⟩)) (IB_below HA3.out.row hB4) (IB_below HA3.out.left hB4) (fun x hx => by rw [zeros_rd, add_block0]; have h1 := hI4.cell x (by simpa using hx); rw [zeros_rd] at h1; exact h1) HF.out; rw [rowStart_len, numbersUp_len, List.length_replicate] at hcall; have HCALL := Aside0.mk hcall; clear hcall hgt hI4 hB4) | ((with_reducible refine gate_callee (f := 260) rfl ?_); refine goesL_ (some 52) rfl rfl Try.func260 (by kernel_rfl) rfl #[.slice (some ⟨gr, 0, none⟩) i i, .slice (some ⟨gt, 0, none⟩) i i, .slice (some ⟨gl, 0, none⟩) j j, .int .i64 shift, .func (.func fid) #[] ecaps] rfl (by (try simp only [List.map_toArray, List.map_cons, List.map_nil]); first | done | rfl) ?_; refine HCALL.out.mono ?_; rintro e w5 ⟨rfl, hI5, hB5, hX5⟩; refine ⟨_, rfl, ?_⟩; have HI5 := Aside0.mk hI5; have HB5 := Aside0.mk hB5; clear hI5 hB5 hX5))
              first | go_end0 | ((try simp only [Exit.inBlock, Exit.then]); refine bodyPost_ret (results_none rfl _ _ _) rfl ?_)
              exact ⟨rfl, ⟨_, HX.out, HI5.out⟩, (HB0.out.mono HBASE.out).trans HB5.out⟩


end Go.Proofs.Ytaohgllnoomaeaa.Fn
namespace Go.Proofs.Ytaohgllnoomaeaa.Fn
open Go.RowKit Go.Proofs.YtaohgllnoomaeaaW.PrintWords Go.Proofs.YtaohgllnoomaeaaW.PrintLast Go.Proofs.YtaohgllnoomaeaaW.PrintMore
attribute [local go_sem] max2_int min2_int max_two min_two max_three min_three max_four min_four   -- for this text's walks alone
set_option linter.unusedVariables false
set_option linter.unusedSimpArgs false

/-! ### laws_big: function 10 -/
def laws_big.f (l0 : List Int) (l1 : List Int) : Option (Bool) := if (l0.length : Int) > 1048576 then (some true) else (some (decide ((l1.length : Int) > (wrap64 (1048576 - (l0.length : Int))))))
set_option maxHeartbeats 8000000 in
set_option maxRecDepth 100000 in
theorem laws_big.calls (A0 : Option Addr) (c0 : Nat) (l0 : List Int) (A1 : Option Addr) (c1 : Nat) (l1 : List Int) (r : Bool) (w : World) (hr0 : Kd.C (Kd.int .u8) w A0 l0.length l0) (hc0 : l0.length ≤ c0) (hr1 : Kd.C (Kd.int .u8) w A1 l1.length l1) (hc1 : l1.length ≤ c1) (h : laws_big.f l0 l1 = some r) :
  Calls Try.prog 10 #[.slice A0 l0.length c0, .slice A1 l1.length c1] w fun e w' => e = .returned (.bool r) ∧ Drawn0 w w' := by
 have HR0 := Aside0.mk hr0
 have HC0 := Aside0.mk hc0
 clear hr0 hc0
 have HR1 := Aside0.mk hr1
 have HC1 := Aside0.mk hc1
 clear hr1 hc1
 have H : (if (l0.length : Int) > 1048576 then (some true) else (some (decide ((l1.length : Int) > (wrap64 (1048576 - (l0.length : Int))))))) = some r := h
 clear h
 by_cases c3 : (l0.length : Int) > 1048576
 ·rw [if_pos c3] at H
  have c3b0 : decide (1048576 < (l0.length : Int)) = true := decide_eq_true c3
  have c3b1 : decide (1048576 < l0.length) = true := decide_eq_true (by omega)
  clear c3
  obtain rfl := Option.some.inj H
  go_enter Try.func10, Try.ntmps10
  go_wp2
  go_ret
  exact ⟨by first | rfl | (simp; done) | (simp [*]; done), by repeat (first | exact Drawn0.refl _ | apply Drawn0.step)⟩
 ·rw [if_neg c3] at H
  have c3b0 : decide (1048576 < (l0.length : Int)) = false := decide_eq_false c3
  have c3b1 : decide (1048576 < l0.length) = false := decide_eq_false (by omega)
  clear c3
  obtain rfl := Option.some.inj H
  go_enter Try.func10, Try.ntmps10
  go_wp2
  go_ret
  exact ⟨by first | rfl | (simp; done) | (simp [*]; done), by repeat (first | exact Drawn0.refl _ | apply Drawn0.step)⟩


end Go.Proofs.Ytaohgllnoomaeaa.Fn
namespace Go.Proofs.Ytaohgllnoomaeaa.Fn
open Go.RowKit Go.Proofs.YtaohgllnoomaeaaW.PrintWords Go.Proofs.YtaohgllnoomaeaaW.PrintLast Go.Proofs.YtaohgllnoomaeaaW.PrintMore
attribute [local go_sem] max2_int min2_int max_two min_two max_three min_three max_four min_four   -- for this text's walks alone
set_option linter.unusedVariables false
set_option linter.unusedSimpArgs false

/-! ### slices_Clone_int_int: function 156 (given) -/
def slices_Clone_int_int.f (l0 : List Int) : Option (List Int) := if l0.length < 17592186044416 then some l0 else none
theorem slices_Clone_int_int.app_room {y l : List Int} (h1 : l.length < 17592186044416) (h2 : y = []) : (y.length + l.length) * 8 ≤ 140737488355328 := by
  subst h2; simp; omega
set_option maxHeartbeats 8000000 in
set_option maxRecDepth 100000 in
theorem slices_Clone_int_int.calls (A0 : Option Addr) (c0 : Nat) (l0 : List Int) (r : List Int) (w : World) (hr0 : Kd.C (Kd.int .i64) w A0 l0.length l0) (hc0 : l0.length ≤ c0) (h : slices_Clone_int_int.f l0 = some r) :
    Calls Try.prog 156 #[.slice A0 l0.length c0] w fun e w' => ∃ v0_ : Value, e = .returned (v0_) ∧ Kd.R (Kd.int .i64) 3 w' w.heap.size (fun _ => True) v0_ r ∧ Below w.heap.size w w' := by
  have HR0 := Aside0.mk hr0
  have hlen : l0.length < 17592186044416 := by
    unfold slices_Clone_int_int.f at h
    split at h
    · assumption
    · cases h
  obtain rfl : l0 = r := by
    unfold slices_Clone_int_int.f at h
    rw [if_pos hlen] at h
    exact Option.some.inj h
  have LM := Aside0.mk hlen
  have HB := Aside0.mk (Below.refl w.heap.size w)
  have hu := Try.underlying31
  have heq := fun (w : World) => Lib.run_eql_slice_nil (P := Try.prog) w 31 3 A0 l0.length c0 0 0 hu
  clear h hlen hc0
  cases A0 with
  | none =>
    have hl : l0 = [] := by
      cases l0 with
      | nil => rfl
      | cons x xs =>
        obtain ⟨ad, e, _⟩ := hr0.2.2 (by simp)
        cases e
    have HL := Aside0.mk hl
    clear hr0 hl
    go_enter Try.func156, Try.ntmps156
    go_wp2
    go_ret
    exact ⟨_, rfl, by rw [HL.out]; exact Kd.R_nil _ _ _ _ _, by repeat (first | (with_reducible first | exact HB.out | apply below_alloc | apply pw_below_drewN | apply below_drew1) | exact HB.out)⟩
  | some ad =>
    clear hr0
    obtain ⟨y113, hy113⟩ : ∃ y_ : List Int, y_ = (([] : List Int)) := ⟨_, rfl⟩
    have Ny113 := Aside0.mk hy113
    clear hy113
    obtain ⟨y116, hy116⟩ : ∃ y_ : List Int, y_ = (y113 ++ l0) := ⟨_, rfl⟩
    have Ny116 := Aside0.mk hy116
    clear hy116
    go_enter Try.func156, Try.ntmps156
    go_wp2_with (first | ((with_reducible refine gate_dst (N := 5) rfl ?_); refine Kd.R_lit (Kd.int .i64) _ 3 ?hg (N := 5) ?hd (xs := ([] : List Int)) (inner := []) (ok := fun _ => True) (okp := fun _ => True) ?hr ?hp (fun _ hk => hk) trivial (Below.refl _ _) (Nat.le_refl _) (by simp) ?_; (case hd => rfl); (case hg => rfl); (case hr => first | (go_simp; done) | (go_simp; rfl)); (case hp => exact (Reps.none _ _)); intro v114 w3 ho4 hb hg_ hnew_; clear hg_ hnew_; (first | rw [← Ny113.out] at ho4 | (simp only [Int.reduceToNat] at ho4; rw [← Ny113.out] at ho4)); have n0_ := Aside0.mk (Kd.R_lower ho4 (below_size (by repeat (first | (with_reducible first | exact HB.out | apply below_alloc | apply pw_below_drewN | apply below_drew1) | exact HB.out)))); have n1_ := Aside0.mk (below_step (by repeat (first | (with_reducible first | exact HB.out | apply below_alloc | apply pw_below_drewN | apply below_drew1) | exact HB.out)) hb); clear HB; have HO115 := n0_; have HB := n1_; clear n0_ n1_; clear hb ho4) | ((with_reducible refine gate_builtin (b := .append) (xs := #[.tmp 5, .tmp 6]) rfl ?_); at_builtin; refine Kd.R_append_rows (Kd.int .i64) (w0 := w) w.heap.size rfl (.tmp 5) (.tmp 6) 31 3 (.int .i64 0) 8 rfl Try.underlying31 info3 rfl (by decide) (by omega) v114 y113 l0 _ _ _ (fun _ => True) (fun _ => False) rfl rfl ?aO ?aR (fun _ _ h => h) (fun _ h => h.elim) ?aF ?aB ?aS ?aL ?_; (case aR => repeat (first | exact (Kd.C_below HR0.out HB.out) | (with_reducible refine Kd.C_alloc ?_ _) | (with_reducible refine Kd.C_drewN ?_ _) | (with_reducible refine Kd.C_drew ?_))); (case aB => exact (by repeat (first | (with_reducible first | exact HB.out | apply below_alloc | apply pw_below_drewN | apply below_drew1) | exact HB.out))); (case aF => exact (fun _ _ => trivial)); (case aO => exact (by (with_reducible repeat (first | apply Kd.R_alloc | apply Kd.R_drewN | apply Kd.R_drew)); exact HO115.out)); (case aS => exact (below_size (by repeat (first | (with_reducible first | exact HB.out | apply below_alloc | apply pw_below_drewN | apply below_drew1) | exact HB.out)))); (case aL => exact slices_Clone_int_int.app_room LM.out Ny113.out); intro v117 w5 ho hb hg hat; rw [← Ny116.out] at ho; have n0_ := Aside0.mk (hb); have n1_ := Aside0.mk (ho); clear HB; clear HO115; have HB := n0_; have HO118 := n1_; clear n0_ n1_; clear ho hb hg hat))
    go_ret
    exact ⟨_, rfl, by (with_reducible repeat (first | apply Kd.R_alloc | apply Kd.R_drewN | apply Kd.R_drew)); have h := HO118.out; rw [Ny116.out, Ny113.out, List.nil_append] at h; exact h, by repeat (first | (with_reducible first | exact HB.out | apply below_alloc | apply pw_below_drewN | apply below_drew1) | exact HB.out)⟩


end Go.Proofs.Ytaohgllnoomaeaa.Fn
namespace Go.Proofs.Ytaohgllnoomaeaa.Fn
open Go.RowKit Go.Proofs.YtaohgllnoomaeaaW.PrintWords Go.Proofs.YtaohgllnoomaeaaW.PrintLast Go.Proofs.YtaohgllnoomaeaaW.PrintMore
attribute [local go_sem] max2_int min2_int max_two min_two max_three min_three max_four min_four   -- for this text's walks alone
set_option linter.unusedVariables false
set_option linter.unusedSimpArgs false

/-! ### impl_kind_all: function 149 (given) -/
/-! ### what kind.all calls: each row is kept, until there are too many -/
/-- The rows that were found lie in the variable at bo; none of their blocks is one of X. -/
structure AllI (base bo bm : Nat) (most : Int) (X : Nat → Prop) (xs : List (List Int)) (w : World) : Prop where
  out : ∃ v, w.heap[bo]? = some (.cells #[v] 28 (0, 0)) ∧ Kd.S (Kd.slice 3 (Kd.int .i64)) 31 w base (fun k => ¬ X k) v xs
  most : w.heap[bm]? = some (.cells #[.int .i64 most] 3 (0, 0))
  bo : base ≤ bo
  bm : base ≤ bm
  lt : ∀ k, X k → k < w.heap.size
def eachAll (most : Int) (xs : List (List Int)) (row : List Int) : Option (List (List Int) × Bool) := if xs.length < 5864062014805 then some (xs ++ [row], decide (most < ((xs.length + 1 : Nat) : Int))) else none
set_option maxHeartbeats 8000000 in
set_option maxRecDepth 100000 in
theorem all1_call {base bo bm : Nat} {most : Int} {X : Nat → Prop} (hXo : ¬ X bo) (hXm : ¬ X bm) (xs : List (List Int)) (row : List Int) (A : Option Addr) (c : Nat) (w : World) (hI : AllI base bo bm most X xs w) (hr : Kd.C (Kd.int .i64) w A row.length row) (hc : row.length ≤ c) (hl : row.length ≤ 1000) (hx : xs.length < 5864062014805) :
    Calls Try.prog 239 #[.slice A row.length c, .pointer (some ⟨bo, 0, none⟩), .pointer (some ⟨bm, 0, none⟩)] w fun e w' => e = .returned (.bool (decide (most < ((xs.length + 1 : Nat) : Int)))) ∧ AllI base bo bm most X (xs ++ [row]) w' ∧ Below base w w' ∧ (∀ k, X k → w'.heap[k]? = w.heap[k]?) := by
  obtain ⟨⟨v, h1, h2⟩, h3, h4, h5, h6⟩ := hI
  have HO := Aside0.mk h1
  have HS := Aside0.mk h2
  have HM := Aside0.mk h3
  have H4 := Aside0.mk h4
  have H5 := Aside0.mk h5
  have H6 := Aside0.mk h6
  have HR := Aside0.mk hr
  have HC := Aside0.mk hc
  have HL := Aside0.mk hl
  have HX := Aside0.mk hx
  have HXO := Aside0.mk hXo
  have HXM := Aside0.mk hXm
  clear h1 h2 h3 h4 h5 h6 hr hc hl hx hXo hXm
  have hcl : slices_Clone_int_int.f row = some row := if_pos (by have := HL.out; omega)
  have HCL := Aside0.mk hcl
  clear hcl
  go_enter Try.func239, Try.ntmps239
  go_upto_region 1 with (fail)
  refine start_ (n := 6) (S := fun w' => w'.cell? ⟨bo, 0, none⟩ = some v) (ds := [5]) #[false, false, false, false, false, false] (by kernel_rfl) rfl rfl (show w.drew.cell? ⟨bo, 0, none⟩ = some v from cell_of_one HO.out) (fun hHeld => ?_)
  have HO1 := Aside0.mk (show w.drew.heap[bo]? = some (.cells #[v] 28 (0, 0)) from HO.out)
  have HM1 := Aside0.mk (show w.drew.heap[bm]? = some (.cells #[.int .i64 most] 3 (0, 0)) from HM.out)
  have HS1 := Aside0.mk (Kd.S_drew HS.out)
  have HR1 := Aside0.mk (Kd.C_drew HR.out)
  have HB1 := Aside0.mk (below_drew1 (Below.refl base w))
  have HK1 := Aside0.mk (show ∀ k, X k → w.drew.heap[k]? = w.heap[k]? from fun _ _ => rfl)
  have HL1 := Aside0.mk (show ∀ k, X k → k < w.drew.heap.size from H6.out)
  generalize w.drew = w1 at HO1 HM1 HS1 HR1 HB1 HK1 HL1 hHeld ⊢
  refine take_ (i := 0) (N := some 5) (v := ?_) (a' := ?_) #[true, false, false, false, false, false] rfl rfl (by kernel_rfl) (fun _ _ _ h => h) (Or.inl ⟨by rfl, ?_⟩) hHeld ?_ ?_
  rotate_left
  · rintro w' s0
    go_simp
    with_reducible rfl
  rotate_left
  · simp only [Act.put, List.setIfInBounds_toArray, List.set_cons_zero, List.set_cons_succ, i64_w, i32_w]
    rfl
  refine pure_ (i := 1) (N := some 6) (v := ?_) (a' := ?_) #[true, true, false, false, false, false] rfl rfl (by kernel_rfl) (fun _ _ _ h => h) (Or.inl ⟨by rfl, ?_⟩) ?_ ?_
  rotate_left
  · intro w'
    go_simp
    with_reducible rfl
  rotate_left
  · simp only [Act.put, List.setIfInBounds_toArray, List.set_cons_zero, List.set_cons_succ, i64_w, i32_w]
    rfl
  refine one_ (i := 2) (N := some 7) #[true, true, true, false, false, false] rfl rfl (by kernel_rfl) (by decide) (fun K hK => ?_)
  refine goes_ Try.func156 (by kernel_rfl) rfl #[.slice A row.length c] (by rfl) rfl rfl (by (try simp only [List.map_toArray, List.map_cons, List.map_nil]); first | done | rfl) ?_
  refine (slices_Clone_int_int.calls A c row row w1 HR1.out HC.out HCL.out).mono ?_
  rintro e w2 ⟨v2, rfl, hv2, hb2⟩
  refine ⟨_, rfl, ?_⟩
  have HV2 := Aside0.mk hv2
  have HB2 := Aside0.mk hb2
  have HO2 := Aside0.mk (blk_below HO1.out hb2)
  have HM2 := Aside0.mk (blk_below HM1.out hb2)
  have HS2 := Aside0.mk (Kd.S_below (Kd.S_bound HS1.out) hb2)
  clear hv2 hb2
  refine hK.out _ _ (cell_of_one HO2.out) (fun hHeld => ?_)
  clear hK K
  refine norm_ (a' := ?_) ?_ ?_
  rotate_left
  · show Act.put _ (some 7) _ = _
    simp only [Act.put, List.setIfInBounds_toArray, List.set_cons_zero, List.set_cons_succ, i64_w, i32_w]
    rfl
  obtain ⟨A2, c2, e2⟩ := Kd.R_slice HV2.out
  subst e2
  refine one_ (i := 3) (N := some 8) #[true, true, true, true, false, false] rfl rfl (by kernel_rfl) (by decide) (fun K hK => ?_)
  refine value_ (v := .slice (some ⟨w2.heap.size, 0, none⟩) 1 1) (w1 := w2.alloc (.cells #[.slice A2 row.length c2] 31)) (by rfl) rfl ?_ ?_
  · first | (go_simp; done) | (go_simp; rfl)
  refine hK.out _ _ (cell_of_one (blk_alloc HO2.out _)) (fun hHeld => ?_)
  clear hK K
  refine norm_ (a' := ?_) ?_ ?_
  rotate_left
  · show Act.put _ (some 8) _ = _
    simp only [Act.put, List.setIfInBounds_toArray, List.set_cons_zero, List.set_cons_succ, i64_w, i32_w]
    rfl
  refine one_ (i := 4) (N := some 9) #[true, true, true, true, true, false] rfl rfl (by kernel_rfl) (by decide) (fun K hK => ?_)
  have hsz := HB2.out.size
  have hb1 : base ≤ w1.heap.size := by have := blk_lt HO1.out; have := H4.out; omega
  refine Kd.S_append_step (Kd.slice 3 (Kd.int .i64)) (w0 := w) (W := w2) base (by rfl) (.tmp 5) (.tmp 8) 28 31 (.slice none 0 0) 24 rfl Try.underlying28 info31 rfl (by decide) (by omega) v xs row [.slice A2 row.length c2] (fun k => ¬ X k) (fun k_ => some k_ = (.slice A2 row.length c2 : Value).ownBlock) rfl rfl ?aP ?aK ?aF ?aO ?aB ?aS ?aL ?_
  case aP => exact Kd.M_row (Kd.R_mono (Kd.R_tight rfl (Kd.R_lower HV2.out hb1)) (fun _ h_ => h_))
  case aK =>
    intro k hk
    have h1 := Kd.R_base HV2.out k hk.symm
    exact ⟨fun hx => by have := HL1.out k hx; omega, fun e => by have := Kd.S_lt HS1.out k e.symm; omega⟩
  case aF => exact fun k hk hx => by have := HL1.out k hx; omega
  case aO =>
    refine Kd.S_mono HS2.out (fun k hk => ⟨hk.1, fun e => ?_⟩)
    have h1 := Kd.R_base HV2.out k e.symm
    have := hk.2.2.1
    omega
  case aB => exact HB1.out.trans (HB2.out.mono hb1)
  case aS => omega
  case aL => have := HX.out; omega
  intro v1 w3 hS3 hB3 hg3 hat3
  have HO3 := blk_grown HO2.out hg3 (Kd.S_ne HS2.out HO2.out (by decide))
  have HM3 := Aside0.mk (blk_grown HM2.out hg3 (Kd.S_ne HS2.out HM2.out (by decide)))
  have HK3 := Aside0.mk (show ∀ k, X k → w3.heap[k]? = w.heap[k]? from fun k hk => (hg3.block k (by have := HL1.out k hk; omega) (fun e => ((Kd.S_R HS2.out).1 k e.symm).1 hk)).trans ((HB2.out.block k (HL1.out k hk)).trans (HK1.out k hk)))
  have HB3 := Aside0.mk hB3
  have HS3 := Aside0.mk hS3
  have HL3 := Aside0.mk (show ∀ k, X k → k < w3.heap.size from fun k hk => by have := HL1.out k hk; have := hg3.size; omega)
  clear hsz hb1 hS3 hB3 hg3 hat3
  have hHeld0 := cell_of_one HO3
  have hc3 := hHeld0
  have hf3 := free_of_one HO3
  have HO3 := Aside0.mk HO3
  obtain ⟨A4, c4, e4⟩ := Kd.S_slice HS3.out
  subst e4
  refine hK.out _ _ hHeld0 (fun hHeld => ?_)
  clear hK K
  refine norm_ (a' := ?_) ?_ ?_
  rotate_left
  · show Act.put _ (some 9) _ = _
    simp only [Act.put, List.setIfInBounds_toArray, List.set_cons_zero, List.set_cons_succ, i64_w, i32_w]
    rfl
  refine last_ (i := 5) (N := none) #[true, true, true, true, true, true] rfl rfl (by kernel_rfl) (by decide) (fun K hK => ?_)
  refine skip_ (w1 := w3.setCell ⟨bo, 0, none⟩ (.slice A4 (xs ++ [row]).length c4)) (by rfl) rfl ?_ ?_
  · first | (go_simp; done) | (go_simp; rfl)
  refine hK.out _ _ ?_
  clear hK K
  refine done_ (by kernel_rfl) ?_
  have hno : bo ≠ bm := fun e => by
    have h1 := HO3.out
    rw [e, HM3.out] at h1
    simp at h1
  have HO4 := Aside0.mk (one_setCell (u := (.slice A4 (xs ++ [row]).length c4)) HO3.out)
  have HM4 := Aside0.mk (blk_far HM3.out (show bm ≠ (⟨bo, 0, none⟩ : Addr).block from fun e => hno e.symm) (.slice A4 (xs ++ [row]).length c4))
  have HS4 := Aside0.mk (Kd.S_set HS3.out HO3.out (by decide) 0 (.slice A4 (xs ++ [row]).length c4))
  have HB4 := Aside0.mk (HB3.out.setCell (show base ≤ (⟨bo, 0, none⟩ : Addr).block from H4.out) (.slice A4 (xs ++ [row]).length c4))
  have HK4 := Aside0.mk (show ∀ k, X k → (w3.setCell ⟨bo, 0, none⟩ (.slice A4 (xs ++ [row]).length c4)).heap[k]? = w.heap[k]? from fun k hk => (Below.heap_setCell w3 _ _ k (fun e => HXO.out (by rw [show k = bo from e] at hk; exact hk))).trans (HK3.out k hk))
  have HL4 := Aside0.mk (show ∀ k, X k → k < (w3.setCell ⟨bo, 0, none⟩ (.slice A4 (xs ++ [row]).length c4)).heap.size from fun k hk => by rw [size_setCell]; exact HL3.out k hk)
  clear hno hc3 hf3 hHeld hHeld0
  generalize w3.setCell ⟨bo, 0, none⟩ (.slice A4 (xs ++ [row]).length c4) = w4 at HO4 HM4 HS4 HB4 HK4 HL4 ⊢
  have hc4 := cell_of_one HO4.out
  have hc5 := cell_of_one HM4.out
  have hlen : (xs ++ [row]).length = xs.length + 1 := by simp
  rw [hlen] at hc4
  have HLEN := Aside0.mk hlen
  clear hlen
  go_wp2
  go_ret
  refine ⟨rfl, ⟨⟨_, HO4.out, HS4.out⟩, HM4.out, H4.out, H5.out, HL4.out⟩, HB4.out, HK4.out⟩
theorem AllI.stable {base bo bm : Nat} {most : Int} {X : Nat → Prop} (hXo : ¬ X bo) (hXm : ¬ X bm) {xs : List (List Int)} {w w' : World} (h : AllI base bo bm most X xs w) (hs : w.heap.size ≤ w'.heap.size) (hk : ∀ k, k < w.heap.size → ¬ X k → w'.heap[k]? = w.heap[k]?) : AllI base bo bm most X xs w' := by
  obtain ⟨⟨v, h1, h2⟩, h3, h4, h5, h6⟩ := h
  exact ⟨⟨v, (hk bo (blk_lt h1) hXo).trans h1, Kd.S_step h2 (fun k ho hl => hk k hl ho)⟩, (hk bm (blk_lt h3) hXm).trans h3, h4, h5, fun k hx => Nat.lt_of_lt_of_le (h6 k hx) hs⟩
theorem all1_ok {base bo bm N : Nat} {most : Int} {X : Nat → Prop} (hX : ∀ k, X k → N ≤ k) (hbo : bo < N) (hbm : bm < N) : EachOk base X 239 #[.pointer (some ⟨bo, 0, none⟩), .pointer (some ⟨bm, 0, none⟩)] (eachAll most) (AllI base bo bm most X) := by
  have hXo : ¬ X bo := fun h => by have := hX bo h; omega
  have hXm : ¬ X bm := fun h => by have := hX bm h; omega
  refine ⟨⟨_, Try.func239, by kernel_rfl, rfl⟩, fun s w w' h hs hk => h.stable hXo hXm hs hk, fun s row A c w s' b hI hr hc hl h => ?_⟩
  unfold eachAll at h
  split at h
  · rename_i hx
    obtain ⟨rfl, rfl⟩ := Prod.mk.inj (Option.some.inj h)
    exact all1_call hXo hXm s row A c w hI hr hc hl hx
  · cases h
/-- What kind.all asks of a kind, a function of a function: it comes to the state s', whatever else there is. -/
def KindAll (kf : FuncId) (first caps : Array Value) (base : Nat) (Pre : World → Prop) (most : Int) (xs : List (List Int)) : Prop :=
  ∀ (bo bm : Nat) (w : World), Pre w → base ≤ w.heap.size → base ≤ bo → base ≤ bm → bo < w.heap.size → bm < w.heap.size →
    (∀ (X : Nat → Prop) w', Below w.heap.size w w' → (∀ k, X k → w.heap.size ≤ k ∧ k < w'.heap.size) → AllI base bo bm most X [] w') →
    Calls Try.prog kf (first ++ #[.func (.func 239) #[] #[.pointer (some ⟨bo, 0, none⟩), .pointer (some ⟨bm, 0, none⟩)]] ++ caps) w fun e w' => e = .returned (.tuple #[]) ∧ (∃ X : Nat → Prop, (∀ k, X k → w.heap.size ≤ k) ∧ AllI base bo bm most X xs w') ∧ Below base w w'
section
variable {P : Program} {ops : Array Oper} {Q : Exit → Act → World → Prop}
/-- A call of a function value with arguments of its own. -/
theorem goesW_ {rest : List Oper} {oi : Oper} {a : Act} {w : World} (N : Option Tmp) (hd : oi.dst = N) (hg : oi.guard = none) {f : FuncId} {fn : Func} {p : Tmp} {xs : Array Operand} {ts : Array TypeId} {first caps : Array Value} (hf : P.funcs[f]? = some fn) (hname : (fn.name == "runtime.NumGoroutine") = false) (hb : fn.body.isSome = true) (args : Array Value)
    (hop : oi.op = .call { callee := .value (.tmp p), args := xs, argTypes := ts }) (hv : a.eval (.tmp p) = .func (.func f) first caps) (hargs : xs.map a.eval = args)
    (h : Calls P f (first ++ args ++ caps) w fun e w' => ∃ v, e = .returned v ∧ wpList P ops Q rest (a.put N v) w') : wpList P ops Q (oi :: rest) a w := by
  refine wpList_plain hg fun K hK => ?_
  have he := enters_ hf hname hb (first ++ args ++ caps) w
  have hrun : (execOp a.eval oi).run P w = .ok (.enter f (first ++ args ++ caps)) w := by
    rw [Array.append_assoc] at he ⊢
    unfold execOp
    simp [hop, resolve, Deferred.ofValue, invoke, hv, hargs, he]
  unfold Oper.wp
  rw [hrun, Oper.upon_enter]
  refine h.mono fun e w'' hh => ?_
  obtain ⟨v, rfl, hk⟩ := hh
  subst hd
  exact hK _ _ hk
end
set_option maxHeartbeats 8000000 in
set_option maxRecDepth 100000 in
theorem kind_all_call {kf : FuncId} {kfn : Func} {first caps : Array Value} {Pre : World → Prop} {most : Int} {xs : List (List Int)} (w : World) (hf1 : Try.prog.funcs[kf]? = some kfn) (hf2 : (kfn.name == "runtime.NumGoroutine") = false) (hf3 : kfn.body.isSome = true) (hP : ∀ w', Below w.heap.size w w' → Pre w') (h : KindAll kf first caps w.heap.size Pre most xs) (r1 : List (List Int)) (r2 : Bool) (hr1 : r1 = if (xs.length : Int) ≤ most then xs else []) (hr2 : r2 = decide ((xs.length : Int) ≤ most)) :
    Calls Try.prog 149 #[.func (.func kf) first caps, .int .i64 most] w fun e w' => ∃ v0_ : Value, e = .returned (.tuple #[v0_, .bool r2]) ∧ Kd.S (Kd.slice 3 (Kd.int .i64)) 31 w' w.heap.size (fun _ => True) v0_ r1 ∧ Below w.heap.size w w' := by
  have HF1 := Aside0.mk hf1
  have HF2 := Aside0.mk hf2
  have HF3 := Aside0.mk hf3
  have HP := Aside0.mk hP
  have H := Aside0.mk h
  clear hf1 hf2 hf3 hP h
  go_enter Try.func149, Try.ntmps149
  go_upto_region 2 with (fail)
  have hb1 : Below w.heap.size w ((w.alloc (.cells #[.int .i64 most] 3)).alloc (.cells #[.slice none 0 0] 28)) := below_alloc (below_alloc (Below.refl _ _) _) _
  have hm1 : ((w.alloc (.cells #[.int .i64 most] 3)).alloc (.cells #[.slice none 0 0] 28)).heap[w.heap.size]? = some (.cells #[.int .i64 most] 3 (0, 0)) := heap_alloc2_old w _ _
  have ho1 : ((w.alloc (.cells #[.int .i64 most] 3)).alloc (.cells #[.slice none 0 0] 28)).heap[w.heap.size + 1]? = some (.cells #[.slice none 0 0] 28 (0, 0)) := heap_alloc2_new w _ _
  have HB1 := Aside0.mk hb1
  have HM1 := Aside0.mk hm1
  have HO1 := Aside0.mk ho1
  clear hb1 hm1 ho1
  generalize ((w.alloc (.cells #[.int .i64 most] 3)).alloc (.cells #[.slice none 0 0] 28)) = w2 at HB1 HM1 HO1 ⊢
  have HCALL := Aside0.mk (H.out (w.heap.size + 1) w.heap.size w2 (HP.out w2 HB1.out) HB1.out.size (Nat.le_succ _) (Nat.le_refl _) (blk_lt HO1.out) (blk_lt HM1.out) (fun X w' hb hX => ⟨⟨_, blk_below HO1.out hb, Kd.S_nil _ _ _ _ _⟩, blk_below HM1.out hb, Nat.le_succ _, Nat.le_refl _, fun k hk => (hX k hk).2⟩))
  by_cases hle : (xs.length : Int) ≤ most
  · have b1 : decide (most < (xs.length : Int)) = false := decide_eq_false (by omega)
    rw [if_pos hle] at hr1
    rw [decide_eq_true hle] at hr2
    subst hr1
    subst hr2
    clear hle
    go_wp2_with (first | ((with_reducible refine gate_value (p := 7) rfl ?_); refine goesW_ (some 9) rfl rfl HF1.out HF2.out HF3.out #[.func (.func 239) #[] #[.pointer (some ⟨w.heap.size + 1, 0, none⟩), .pointer (some ⟨w.heap.size, 0, none⟩)]] rfl (by first | rfl | (simp [Act.eval]; done)) (by (try simp only [List.map_toArray, List.map_cons, List.map_nil]); first | done | rfl) ?_; refine HCALL.out.mono ?_; rintro e w3 ⟨rfl, ⟨X, hX, hI⟩, hB⟩; refine ⟨_, rfl, ?_⟩; obtain ⟨⟨v3, ho, hs⟩, hm, _, _, _⟩ := hI; obtain ⟨A3, c3, e3⟩ := Kd.S_slice hs; subst e3; have hc1 := cell_of_one ho; have hc2 := cell_of_one hm; have HS3 := Aside0.mk hs; have HB3 := Aside0.mk hB; clear hX ho hs hm hB))
    go_ret2
    exact ⟨_, rfl, Kd.S_mono HS3.out (fun _ _ => trivial), HB1.out.trans HB3.out⟩
  · have b1 : decide (most < (xs.length : Int)) = true := decide_eq_true (by omega)
    rw [if_neg hle] at hr1
    rw [decide_eq_false hle] at hr2
    subst hr1
    subst hr2
    clear hle
    go_wp2_with (first | ((with_reducible refine gate_value (p := 7) rfl ?_); refine goesW_ (some 9) rfl rfl HF1.out HF2.out HF3.out #[.func (.func 239) #[] #[.pointer (some ⟨w.heap.size + 1, 0, none⟩), .pointer (some ⟨w.heap.size, 0, none⟩)]] rfl (by first | rfl | (simp [Act.eval]; done)) (by (try simp only [List.map_toArray, List.map_cons, List.map_nil]); first | done | rfl) ?_; refine HCALL.out.mono ?_; rintro e w3 ⟨rfl, ⟨X, hX, hI⟩, hB⟩; refine ⟨_, rfl, ?_⟩; obtain ⟨⟨v3, ho, hs⟩, hm, _, _, _⟩ := hI; obtain ⟨A3, c3, e3⟩ := Kd.S_slice hs; subst e3; have hc1 := cell_of_one ho; have hc2 := cell_of_one hm; have HS3 := Aside0.mk hs; have HB3 := Aside0.mk hB; clear hX ho hs hm hB))
    go_ret2
    exact ⟨_, rfl, Kd.S_nil _ _ _ _ _, HB1.out.trans HB3.out⟩


end Go.Proofs.Ytaohgllnoomaeaa.Fn
namespace Go.Proofs.Ytaohgllnoomaeaa.Fn
open Go.RowKit Go.Proofs.YtaohgllnoomaeaaW.PrintWords Go.Proofs.YtaohgllnoomaeaaW.PrintLast Go.Proofs.YtaohgllnoomaeaaW.PrintMore
attribute [local go_sem] max2_int min2_int max_two min_two max_three min_three max_four min_four   -- for this text's walks alone
set_option linter.unusedVariables false
set_option linter.unusedSimpArgs false

/-! ### impl_isNumber: function 153 -/
def impl_isNumber.f (a0 : Int) : Option (Bool) := if a0 ≥ 1 then (some (decide (a0 ≤ 20))) else (some false)
set_option maxHeartbeats 8000000 in
set_option maxRecDepth 100000 in
theorem impl_isNumber.calls (a0 : Int) (r : Bool) (w : World) (h : impl_isNumber.f a0 = some r) :
  Calls Try.prog 153 #[.int .i64 a0] w fun e w' => e = .returned (.bool r) ∧ Drawn0 w w' := by
 have H : (if a0 ≥ 1 then (some (decide (a0 ≤ 20))) else (some false)) = some r := h
 clear h
 by_cases c2 : a0 ≥ 1
 ·rw [if_pos c2] at H
  have c2b0 : decide (1 ≤ a0) = true := decide_eq_true c2
  clear c2
  obtain rfl := Option.some.inj H
  go_enter Try.func153, Try.ntmps153
  go_wp2
  go_ret
  exact ⟨by first | rfl | (simp; done) | (simp [*]; done), by repeat (first | exact Drawn0.refl _ | apply Drawn0.step)⟩
 ·rw [if_neg c2] at H
  have c2b0 : decide (1 ≤ a0) = false := decide_eq_false c2
  clear c2
  obtain rfl := Option.some.inj H
  go_enter Try.func153, Try.ntmps153
  go_wp2
  go_ret
  exact ⟨by first | rfl | (simp; done) | (simp [*]; done), by repeat (first | exact Drawn0.refl _ | apply Drawn0.step)⟩


end Go.Proofs.Ytaohgllnoomaeaa.Fn
namespace Go.Proofs.Ytaohgllnoomaeaa.Fn
open Go.RowKit Go.Proofs.YtaohgllnoomaeaaW.PrintWords Go.Proofs.YtaohgllnoomaeaaW.PrintLast Go.Proofs.YtaohgllnoomaeaaW.PrintMore
attribute [local go_sem] max2_int min2_int max_two min_two max_three min_three max_four min_four   -- for this text's walks alone
set_option linter.unusedVariables false
set_option linter.unusedSimpArgs false

/-! ### impl_sought: function 160 -/
def impl_sought.f (a0 : Int) : Option (Bool) := if a0 ≥ 1 then (some (decide (a0 ≤ 9))) else (some false)
set_option maxHeartbeats 8000000 in
set_option maxRecDepth 100000 in
theorem impl_sought.calls (a0 : Int) (r : Bool) (w : World) (h : impl_sought.f a0 = some r) :
  Calls Try.prog 160 #[.int .i64 a0] w fun e w' => e = .returned (.bool r) ∧ Drawn0 w w' := by
 have H : (if a0 ≥ 1 then (some (decide (a0 ≤ 9))) else (some false)) = some r := h
 clear h
 by_cases c2 : a0 ≥ 1
 ·rw [if_pos c2] at H
  have c2b0 : decide (1 ≤ a0) = true := decide_eq_true c2
  clear c2
  obtain rfl := Option.some.inj H
  go_enter Try.func160, Try.ntmps160
  go_wp2
  go_ret
  exact ⟨by first | rfl | (simp; done) | (simp [*]; done), by repeat (first | exact Drawn0.refl _ | apply Drawn0.step)⟩
 ·rw [if_neg c2] at H
  have c2b0 : decide (1 ≤ a0) = false := decide_eq_false c2
  clear c2
  obtain rfl := Option.some.inj H
  go_enter Try.func160, Try.ntmps160
  go_wp2
  go_ret
  exact ⟨by first | rfl | (simp; done) | (simp [*]; done), by repeat (first | exact Drawn0.refl _ | apply Drawn0.step)⟩


end Go.Proofs.Ytaohgllnoomaeaa.Fn
namespace Go.Proofs.Ytaohgllnoomaeaa.Fn
open Go.RowKit Go.Proofs.YtaohgllnoomaeaaW.PrintWords Go.Proofs.YtaohgllnoomaeaaW.PrintLast Go.Proofs.YtaohgllnoomaeaaW.PrintMore
attribute [local go_sem] max2_int min2_int max_two min_two max_three min_three max_four min_four   -- for this text's walks alone
set_option linter.unusedVariables false
set_option linter.unusedSimpArgs false

/-! ### impl_soughtFrom: function 145 -/
def impl_soughtFrom.f (a0 : Int) (a1 : Int) : Option (Bool) := (impl_sought.f a0).bind fun t127 => (if t127 = true then ((impl_isNumber.f a1).bind fun t128 => (if t128 = true then (some (decide ((wrap64 (a1 + a0)) ≤ 20))) else (some false))) else (some false))
set_option maxHeartbeats 8000000 in
set_option maxRecDepth 100000 in
theorem impl_soughtFrom.calls (a0 : Int) (a1 : Int) (r : Bool) (w : World) (h : impl_soughtFrom.f a0 a1 = some r) :
  Calls Try.prog 145 #[.int .i64 a0, .int .i64 a1] w fun e w' => e = .returned (.bool r) ∧ Drawn0 w w' := by
 have H : ((impl_sought.f a0).bind fun t127 => (if t127 = true then ((impl_isNumber.f a1).bind fun t128 => (if t128 = true then (some (decide ((wrap64 (a1 + a0)) ≤ 20))) else (some false))) else (some false))) = some r := h
 clear h
 replace H := Option.bind_eq_some_iff.mp H
 obtain ⟨t127, A30, H⟩ := H
 replace H : (if t127 = true then ((impl_isNumber.f a1).bind fun t128 => (if t128 = true then (some (decide ((wrap64 (a1 + a0)) ≤ 20))) else (some false))) else (some false)) = some r := H
 have A3 := Aside0.mk A30
 clear A30
 by_cases c4 : t127 = true
 ·subst c4
  have H1 : ((impl_isNumber.f a1).bind fun t128 => (if t128 = true then (some (decide ((wrap64 (a1 + a0)) ≤ 20))) else (some false))) = some r := by rw [if_pos rfl] at H; exact H
  clear H
  have H := H1
  clear H1
  replace H := Option.bind_eq_some_iff.mp H
  obtain ⟨t128, A50, H⟩ := H
  replace H : (if t128 = true then (some (decide ((wrap64 (a1 + a0)) ≤ 20))) else (some false)) = some r := H
  have A5 := Aside0.mk A50
  clear A50
  by_cases c6 : t128 = true
  ·subst c6
   have H1 : (some (decide ((wrap64 (a1 + a0)) ≤ 20))) = some r := by rw [if_pos rfl] at H; exact H
   clear H
   have H := H1
   clear H1
   obtain rfl := Option.some.inj H
   go_enter Try.func145, Try.ntmps145
   go_wp2_with (first | ((with_reducible refine gate_callee (f := 160) rfl ?_); refine goesA (some 6) Try.func160 #[.int .i64 a0] ?_; (with_reducible refine (impl_sought.calls a0 true _ A3.out).mono ?_); rintro e w' ⟨rfl, ⟨nd, rfl⟩⟩; refine ⟨_, rfl, ?_⟩) | (go_at_call 153; (with_reducible refine (impl_isNumber.calls a1 true _ A5.out).mono ?_); rintro e w' ⟨rfl, ⟨nd, rfl⟩⟩))
   go_ret
   exact ⟨by first | rfl | (simp; done) | (simp [*]; done), by repeat (first | exact Drawn0.refl _ | apply Drawn0.step)⟩
  ·replace c6 := Bool.eq_false_iff.mpr c6
   subst c6
   have H1 : (some false) = some r := by rw [if_neg (show ¬ (false = true) by decide)] at H; exact H
   clear H
   have H := H1
   clear H1
   obtain rfl := Option.some.inj H
   go_enter Try.func145, Try.ntmps145
   go_wp2_with (first | ((with_reducible refine gate_callee (f := 160) rfl ?_); refine goesA (some 6) Try.func160 #[.int .i64 a0] ?_; (with_reducible refine (impl_sought.calls a0 true _ A3.out).mono ?_); rintro e w' ⟨rfl, ⟨nd, rfl⟩⟩; refine ⟨_, rfl, ?_⟩) | (go_at_call 153; (with_reducible refine (impl_isNumber.calls a1 false _ A5.out).mono ?_); rintro e w' ⟨rfl, ⟨nd, rfl⟩⟩))
   go_ret
   exact ⟨by first | rfl | (simp; done) | (simp [*]; done), by repeat (first | exact Drawn0.refl _ | apply Drawn0.step)⟩
 ·replace c4 := Bool.eq_false_iff.mpr c4
  subst c4
  have H1 : (some false) = some r := by rw [if_neg (show ¬ (false = true) by decide)] at H; exact H
  clear H
  have H := H1
  clear H1
  obtain rfl := Option.some.inj H
  go_enter Try.func145, Try.ntmps145
  go_wp2_with (first | ((with_reducible refine gate_callee (f := 160) rfl ?_); refine goesA (some 6) Try.func160 #[.int .i64 a0] ?_; (with_reducible refine (impl_sought.calls a0 false _ A3.out).mono ?_); rintro e w' ⟨rfl, ⟨nd, rfl⟩⟩; refine ⟨_, rfl, ?_⟩))
  go_ret
  exact ⟨by first | rfl | (simp; done) | (simp [*]; done), by repeat (first | exact Drawn0.refl _ | apply Drawn0.step)⟩


end Go.Proofs.Ytaohgllnoomaeaa.Fn
namespace Go.Proofs.Ytaohgllnoomaeaa.Fn
open Go.RowKit Go.Proofs.YtaohgllnoomaeaaW.PrintWords Go.Proofs.YtaohgllnoomaeaaW.PrintLast Go.Proofs.YtaohgllnoomaeaaW.PrintMore
attribute [local go_sem] max2_int min2_int max_two min_two max_three min_three max_four min_four   -- for this text's walks alone
set_option linter.unusedVariables false
set_option linter.unusedSimpArgs false

/-! ### impl_kind_count: function 147 (given) -/
/-! ### kinds: what each of them asks of the function that it is given, and kind.count -/
/-- A kind, a function of a function: it calls it for some rows, one after the other, as `run` says. -/
def KindOk (kf : FuncId) (kcaps : Array Value) (Pre : World → Prop) (run : {σ : Type} → (σ → List Int → Option (σ × Bool)) → σ → Option (σ × Bool)) : Prop :=
  ∀ {σ : Type} {base : Nat} {fid : FuncId} {ecaps : Array Value} {each : σ → List Int → Option (σ × Bool)} {I : (Nat → Prop) → σ → World → Prop} (s s' : σ) (b : Bool) (w : World), Pre w → base ≤ w.heap.size → (∀ X : Nat → Prop, (∀ k, X k → w.heap.size ≤ k) → EachOk base X fid ecaps each (I X)) → (∀ (X : Nat → Prop) w', Below w.heap.size w w' → (∀ k, X k → w.heap.size ≤ k ∧ k < w'.heap.size) → I X s w') → run each s = some (s', b) →
    Calls Try.prog kf (#[.func (.func fid) #[] ecaps] ++ kcaps) w fun e w' => e = .returned (.tuple #[]) ∧ (∃ X : Nat → Prop, (∀ k, X k → w.heap.size ≤ k) ∧ I X s' w') ∧ Below base w w'
structure KindFn (kf : FuncId) : Prop where
  fn : ∃ fn, Try.prog.funcs[kf]? = some fn ∧ (fn.name == "runtime.NumGoroutine") = false ∧ fn.body.isSome = true
structure CountI (base bo : Nat) (X : Nat → Prop) (m : Nat) (w : World) : Prop where
  out : w.heap[bo]? = some (.cells #[.int .i64 (m : Int)] 3 (0, 0))
  bo : base ≤ bo
  lt : ∀ k, X k → k < w.heap.size
def eachCount (m : Nat) (_row : List Int) : Option (Nat × Bool) := if m < 1000000000000 then some (m + 1, false) else none
set_option maxHeartbeats 8000000 in
set_option maxRecDepth 100000 in
theorem count1_call {base bo : Nat} {X : Nat → Prop} (hXo : ¬ X bo) (m : Nat) (A : Option Addr) (n c : Nat) (w : World) (hI : CountI base bo X m w) (hm : m < 1000000000000) :
    Calls Try.prog 238 #[.slice A n c, .pointer (some ⟨bo, 0, none⟩)] w fun e w' => e = .returned (.bool false) ∧ CountI base bo X (m + 1) w' ∧ Below base w w' ∧ (∀ k, X k → w'.heap[k]? = w.heap[k]?) := by
  obtain ⟨h1, h4, h6⟩ := hI
  have HO := Aside0.mk h1
  have H4 := Aside0.mk h4
  have H6 := Aside0.mk h6
  have HXO := Aside0.mk hXo
  have hc := cell_of_one h1
  have hf := free_of_one h1
  have hw := wrap_in (n := (m : Int) + 1) (by omega) (by omega)
  clear h1 h4 h6 hXo
  go_enter Try.func238, Try.ntmps238
  go_wp2
  go_ret
  refine ⟨rfl, ⟨?_, H4.out, fun k hk => ?_⟩, Below.setCell (Below.refl _ _) (show base ≤ (⟨bo, 0, none⟩ : Addr).block from H4.out) _, fun k hk => Below.heap_setCell w _ _ k (fun e => HXO.out (by rw [show k = bo from e] at hk; exact hk))⟩
  · exact one_setCell HO.out
  · rw [size_setCell]; exact H6.out k hk
theorem count1_ok {base bo N : Nat} {X : Nat → Prop} (hX : ∀ k, X k → N ≤ k) (hbo : bo < N) : EachOk base X 238 #[.pointer (some ⟨bo, 0, none⟩)] eachCount (CountI base bo X) := by
  have hXo : ¬ X bo := fun h => by have := hX bo h; omega
  refine ⟨⟨_, Try.func238, by kernel_rfl, rfl⟩, fun s w w' h hs hk => ⟨(hk bo (blk_lt h.out) hXo).trans h.out, h.bo, fun k hx => Nat.lt_of_lt_of_le (h.lt k hx) hs⟩, fun s row A c w s' b hI hr hc hl h => ?_⟩
  unfold eachCount at h
  split at h
  · rename_i hx
    obtain ⟨rfl, rfl⟩ := Prod.mk.inj (Option.some.inj h)
    exact count1_call hXo s A row.length c w hI hx
  · cases h
section
variable {P : Program} {ops : Array Oper} {Q : Exit → Act → World → Prop}
/-- A call of a function value that has no arguments of its own ahead. -/
theorem goesX_ {rest : List Oper} {oi : Oper} {a : Act} {w : World} (N : Option Tmp) (hd : oi.dst = N) (hg : oi.guard = none) {f : FuncId} {p : Tmp} {xs : Array Operand} {ts : Array TypeId} {caps : Array Value} (hf : ∃ fn, P.funcs[f]? = some fn ∧ (fn.name == "runtime.NumGoroutine") = false ∧ fn.body.isSome = true) (args : Array Value)
    (hop : oi.op = .call { callee := .value (.tmp p), args := xs, argTypes := ts }) (hv : a.eval (.tmp p) = .func (.func f) #[] caps) (hargs : xs.map a.eval = args)
    (h : Calls P f (args ++ caps) w fun e w' => ∃ v, e = .returned v ∧ wpList P ops Q rest (a.put N v) w') : wpList P ops Q (oi :: rest) a w := by
  obtain ⟨fn, h1, h2, h3⟩ := hf
  exact goesV_ N hd hg h1 h2 h3 args hop hv hargs h
end
set_option maxHeartbeats 8000000 in
set_option maxRecDepth 100000 in
theorem kind_count_call {kf : FuncId} {kcaps : Array Value} {Pre : World → Prop} {run : {σ : Type} → (σ → List Int → Option (σ × Bool)) → σ → Option (σ × Bool)} (w : World) (hf : KindFn kf) (hP : ∀ w', Below w.heap.size w w' → Pre w') (h : KindOk kf kcaps Pre run) (m : Nat) (b : Bool) (hr : run eachCount 0 = some (m, b)) :
    Calls Try.prog 147 #[.func (.func kf) #[] kcaps] w fun e w' => e = .returned (.int .i64 (m : Int)) ∧ Below w.heap.size w w' := by
  have HF := Aside0.mk hf
  have HP := Aside0.mk hP
  have H := Aside0.mk @h
  have HR := Aside0.mk hr
  clear hf hP h hr
  go_enter Try.func147, Try.ntmps147
  go_wp2_with (first | ((with_reducible refine gate_dst (N := 3) rfl ?_); refine box_event ?hg (N := 3) ?hd (cs := #[.int .i64 0]) (t := 3) ?hr ?_; (case hd => rfl); (case hg => rfl); (case hr => first | (go_simp; done) | (go_simp; rfl)); intro g3 hg w1 hbox hb; have BK := Aside0.mk hbox; have HB := Aside0.mk (show Below w.heap.size w w1 from hb); have G3 := Aside0.mk (show w.heap.size ≤ g3 by omega); clear hb hbox hg; have hc3 := blk_cell BK.out 0; simp only [List.getElem?_toArray, List.getElem?_cons_zero] at hc3; have hf3 := blk_frozen BK.out 0) | ((with_reducible refine gate_value (p := 4) rfl ?_); obtain ⟨W1, hW1⟩ : ∃ W1, W1 = w1.setCell ⟨g3, 0, none⟩ (.int .i64 0) := ⟨_, rfl⟩; have BK1 := Aside0.mk (show W1.heap[g3]? = some (.cells #[.int .i64 0] 3 (0, 0)) by rw [hW1]; exact one_setCell BK.out); have HB1 := Aside0.mk (show Below w.heap.size w W1 by rw [hW1]; exact below_set HB.out G3.out); (first | rw [← hW1] | skip); have HCALL := Aside0.mk (H.out (base := w.heap.size) (fid := 238) (ecaps := #[.pointer (some ⟨g3, 0, none⟩)]) (each := eachCount) (I := fun X => CountI w.heap.size g3 X) 0 m b W1 (HP.out W1 HB1.out) HB1.out.size (fun X hX => count1_ok hX (blk_lt BK1.out)) (fun X w' hb hX => ⟨blk_below BK1.out hb, G3.out, fun k hk => (hX k hk).2⟩) HR.out); refine goesX_ (some 6) rfl rfl HF.out.fn #[.func (.func 238) #[] #[.pointer (some ⟨g3, 0, none⟩)]] rfl (by first | rfl | (simp [Act.eval]; done)) (by (try simp only [List.map_toArray, List.map_cons, List.map_nil]); first | done | rfl) ?_; refine HCALL.out.mono ?_; rintro e w3 ⟨rfl, ⟨X, hX3, hI3⟩, hB3⟩; refine ⟨_, rfl, ?_⟩; have HI3 := Aside0.mk hI3; have HB3 := Aside0.mk hB3; have hc4 := cell_of_one HI3.out.out; clear hX3 hI3 hB3 HCALL))
  go_ret
  exact ⟨rfl, HB1.out.trans HB3.out⟩


end Go.Proofs.Ytaohgllnoomaeaa.Fn
namespace Go.Proofs.Ytaohgllnoomaeaa.Fn
open Go.RowKit Go.Proofs.YtaohgllnoomaeaaW.PrintWords Go.Proofs.YtaohgllnoomaeaaW.PrintLast Go.Proofs.YtaohgllnoomaeaaW.PrintMore
attribute [local go_sem] max2_int min2_int max_two min_two max_three min_three max_four min_four   -- for this text's walks alone
set_option linter.unusedVariables false
set_option linter.unusedSimpArgs false

/-! ### impl_langfordKind: function 146 (given) -/
/-! ### langfordKind -/
def langfordRun (n : Nat) (d : Int) {σ : Type} (each : σ → List Int → Option (σ × Bool)) (s : σ) : Option (σ × Bool) := rowsRun (2 * n) n d 1 (-1) each s
set_option maxHeartbeats 8000000 in
set_option maxRecDepth 100000 in
theorem langfordKind1_ok (g1 g2 n : Nat) (d : Int) (hn : 1 ≤ n ∧ n ≤ 40) (hd : 0 ≤ d ∧ d ≤ 100) : KindOk 236 #[.pointer (some ⟨g1, 0, none⟩), .pointer (some ⟨g2, 0, none⟩)] (fun w => w.heap[g1]? = some (.cells #[.int .i64 (n : Int)] 3 (0, 0)) ∧ w.heap[g2]? = some (.cells #[.int .i64 d] 3 (0, 0))) (fun {σ} each s => langfordRun n d (σ := σ) each s) := by
  intro σ base fid ecaps each I s s' b w hPre hbase hE hI hr
  have hc1 := cell_of_one hPre.1
  have hc2 := cell_of_one hPre.2
  have hw1 := wrap_in (n := 2 * (n : Int)) (by omega) (by omega)
  have HCALL := Aside0.mk (rows_call (2 * n) n d 1 (-1) s s' b w (by omega) (by omega) (by omega) (by omega) (by omega) hbase hE hI hr)
  have hcast : ((2 * n : Nat) : Int) = 2 * (n : Int) := by omega
  rw [hcast] at HCALL
  clear hr hE hI hbase hPre hn hd hcast
  show Calls Try.prog 236 #[.func (.func fid) #[] ecaps, .pointer (some ⟨g1, 0, none⟩), .pointer (some ⟨g2, 0, none⟩)] w _
  go_enter Try.func236, Try.ntmps236
  go_wp2_with (first | ((with_reducible refine gate_callee (f := 237) rfl ?_); refine goesL_ (some 9) rfl rfl Try.func237 (by kernel_rfl) rfl #[.int .i64 (wrap64 (2 * (n : Int))), .int .i64 (n : Int), .int .i64 d, .int .i64 1, .int .i64 (-1), .func (.func fid) #[] ecaps] rfl (by (try simp only [List.map_toArray, List.map_cons, List.map_nil]); first | done | rfl) ?_; rw [hw1]; refine HCALL.out.mono ?_; rintro e w5 ⟨rfl, hI5, hB5⟩; refine ⟨_, rfl, ?_⟩; have HI5 := Aside0.mk hI5; have HB5 := Aside0.mk hB5; clear hI5 hB5))
  first | go_end0 | ((try simp only [Exit.inBlock, Exit.then]); refine bodyPost_ret (results_none rfl _ _ _) rfl ?_)
  exact ⟨rfl, HI5.out, HB5.out⟩
def langfordKindRet (n : Nat) (d : Int) (w : World) (e : Ending) (w' : World) : Prop := ∃ (kf : FuncId) (kcaps : Array Value) (Pre : World → Prop), e = .returned (.func (.func kf) #[] kcaps) ∧ KindFn kf ∧ (∀ w2, Below w'.heap.size w' w2 → Pre w2) ∧ KindOk kf kcaps Pre (fun {σ} each s => langfordRun n d (σ := σ) each s) ∧ Below w.heap.size w w'
set_option maxHeartbeats 8000000 in
set_option maxRecDepth 100000 in
theorem langfordKind_call (n : Nat) (d : Int) (hn : 1 ≤ n ∧ n ≤ 40) (hd : 0 ≤ d ∧ d ≤ 100) (w : World) : Calls Try.prog 146 #[.int .i64 (n : Int), .int .i64 d] w (langfordKindRet n d w) := by
  have HN := Aside0.mk hn
  have HD := Aside0.mk hd
  clear hn hd
  go_enter Try.func146, Try.ntmps146
  go_wp2_with (first | ((with_reducible refine gate_dst (N := 2) rfl ?_); refine box_event ?hg (N := 2) ?hd (cs := #[.int .i64 (n : Int)]) (t := 3) ?hr ?_; (case hd => rfl); (case hg => rfl); (case hr => first | (go_simp; done) | (go_simp; rfl)); intro g2 hg w1 hbox hb; have BK2 := Aside0.mk hbox; have HB2 := Aside0.mk hb; clear hb hbox hg) | ((with_reducible refine gate_dst (N := 3) rfl ?_); refine box_event ?hg (N := 3) ?hd (cs := #[.int .i64 d]) (t := 3) ?hr ?_; (case hd => rfl); (case hg => rfl); (case hr => first | (go_simp; done) | (go_simp; rfl)); intro g3 hg w2 hbox hb; have BK3 := Aside0.mk hbox; have HB3 := Aside0.mk hb; have BK2n := Aside0.mk (blk_below BK2.out hb); clear BK2; have BK2 := BK2n; clear BK2n; have hc2 := blk_cell BK2.out 0; have hc3 := blk_cell BK3.out 0; simp only [List.getElem?_toArray, List.getElem?_cons_zero] at hc2 hc3; have HB := Aside0.mk (show Below w.heap.size w w2 from HB2.out.trans (HB3.out.mono HB2.out.size)); clear hb hbox hg))
  go_ret
  refine ⟨236, #[.pointer (some ⟨g2, 0, none⟩), .pointer (some ⟨g3, 0, none⟩)], fun w => w.heap[g2]? = some (.cells #[.int .i64 (n : Int)] 3 (0, 0)) ∧ w.heap[g3]? = some (.cells #[.int .i64 d] 3 (0, 0)), rfl, ⟨_, Try.func236, by kernel_rfl, rfl⟩, fun w3 hb => ⟨blk_below BK2.out hb, blk_below BK3.out hb⟩, langfordKind1_ok g2 g3 n d HN.out HD.out, HB.out⟩


end Go.Proofs.Ytaohgllnoomaeaa.Fn
namespace Go.Proofs.Ytaohgllnoomaeaa.Fn
open Go.RowKit Go.Proofs.YtaohgllnoomaeaaW.PrintWords Go.Proofs.YtaohgllnoomaeaaW.PrintLast Go.Proofs.YtaohgllnoomaeaaW.PrintMore
attribute [local go_sem] max2_int min2_int max_two min_two max_three min_three max_four min_four   -- for this text's walks alone
set_option linter.unusedVariables false
set_option linter.unusedSimpArgs false

/-! ### impl_AllLangford: function 14 (given) -/
def impl_AllLangford.f (a0 : Int) (a1 : Int) : Option (List (List Int) × Bool) := if impl_soughtFrom.f a0 a1 = some true then (langfordRun a0.toNat a1 (eachAll 600) []).bind fun p => some (if (p.1.length : Int) ≤ 600 then p.1 else [], decide ((p.1.length : Int) ≤ 600)) else some ([], false)
/-- A kind, as kind.all asks for it. -/
theorem kind_all_ofLangford {kf : FuncId} {kcaps : Array Value} {Pre : World → Prop} {run : {σ : Type} → (σ → List Int → Option (σ × Bool)) → σ → Option (σ × Bool)} (base : Nat) (h : KindOk kf kcaps Pre run) (most : Int) (xs : List (List Int)) (b : Bool) (hr : run (eachAll most) [] = some (xs, b)) : KindAll kf #[] kcaps base Pre most xs := by
  intro bo bm w hP hb hb1 hb2 hlo hlm hI
  have := h (I := fun X => AllI base bo bm most X) [] xs b w hP hb (fun X hX => all1_ok hX hlo hlm) hI hr
  simpa using this
theorem AllLangford_sought {a0 a1 : Int} (h : impl_soughtFrom.f a0 a1 = some true) : 1 ≤ a0 ∧ a0 ≤ 9 ∧ 1 ≤ a1 ∧ a1 ≤ 20 := by
  unfold impl_soughtFrom.f impl_sought.f impl_isNumber.f at h
  by_cases h1 : a0 ≥ 1
  · rw [if_pos h1] at h
    by_cases h2 : a0 ≤ 9
    · by_cases h3 : a1 ≥ 1
      · by_cases h4 : a1 ≤ 20
        · omega
        · simp [h1, h2, h3, h4] at h
      · simp [h1, h2, h3] at h
    · simp [h2] at h
  · simp [h1] at h
theorem AllLangford_some {a0 a1 : Int} : impl_soughtFrom.f a0 a1 = some true ∨ impl_soughtFrom.f a0 a1 = some false := by
  unfold impl_soughtFrom.f impl_sought.f impl_isNumber.f
  by_cases h1 : a0 ≥ 1 <;> by_cases h2 : a0 ≤ 9 <;> by_cases h3 : a1 ≥ 1 <;> by_cases h4 : a1 ≤ 20 <;> by_cases h5 : wrap64 (a1 + a0) ≤ 20 <;> simp [h1, h2, h3, h4, h5]
set_option maxHeartbeats 8000000 in
set_option maxRecDepth 100000 in
theorem impl_AllLangford.calls (a0 : Int) (a1 : Int) (r1 : List (List Int)) (r2 : Bool) (w : World) (h : impl_AllLangford.f a0 a1 = some (r1, r2)) :
    Calls Try.prog 14 #[.int .i64 a0, .int .i64 a1] w fun e w' => ∃ v0_ : Value, e = .returned (.tuple #[v0_, .bool r2]) ∧ Kd.S (Kd.slice 3 (Kd.int .i64)) 31 w' w.heap.size (fun _ => True) v0_ r1 ∧ Below w.heap.size w w' := by
  by_cases hs : impl_soughtFrom.f a0 a1 = some true
  · rw [impl_AllLangford.f, if_pos hs] at h
    obtain ⟨⟨xs, b⟩, hrun, h⟩ := Option.bind_eq_some_iff.1 h
    obtain ⟨hr1, rfl⟩ := Prod.mk.inj (Option.some.inj h)
    have HR1 := Aside0.mk hr1.symm
    clear hr1
    have hb := AllLangford_sought hs
    have HS := Aside0.mk hs
    have HRUN := Aside0.mk hrun
    have HNB := Aside0.mk (show 1 ≤ a0.toNat ∧ a0.toNat ≤ 40 from by omega)
    have HNI := Aside0.mk (show ((a0.toNat : Nat) : Int) = a0 from by omega)
    have HD := Aside0.mk (show 0 ≤ a1 ∧ a1 ≤ 100 from by omega)
    clear h hrun hs hb
    go_enter Try.func14, Try.ntmps14
    go_wp2_with (first | ((with_reducible refine gate_callee (f := 145) rfl ?_); refine goesL_ (some 8) rfl rfl Try.func145 (by kernel_rfl) rfl #[.int .i64 a0, .int .i64 a1] rfl (by (try simp only [List.map_toArray, List.map_cons, List.map_nil]); first | done | rfl) ?_; refine (impl_soughtFrom.calls a0 a1 true _ HS.out).mono ?_; rintro e w0 ⟨rfl, hd⟩; refine ⟨_, rfl, ?_⟩; have HB0 := Aside0.mk hd.below; clear hd) | ((with_reducible refine gate_callee (f := 146) rfl ?_); refine goesL_ (some 12) rfl rfl Try.func146 (by kernel_rfl) rfl #[.int .i64 a0, .int .i64 a1] rfl (by (try simp only [List.map_toArray, List.map_cons, List.map_nil]); first | done | rfl) ?_; have hk_ := langfordKind_call a0.toNat a1 HNB.out HD.out; rw [HNI.out] at hk_; refine (hk_ w0).mono ?_; rintro e w1 ⟨kf, kcaps, Pre, rfl, hF1, hP1, hK1, hB1⟩; refine ⟨_, rfl, ?_⟩; have HF1 := Aside0.mk hF1; have HP1 := Aside0.mk hP1; have HK1 := Aside0.mk @hK1; have HB1 := Aside0.mk hB1; clear hF1 hP1 hK1 hB1 hk_) | ((with_reducible refine gate_callee (f := 149) rfl ?_); refine goesL_ (some 13) rfl rfl Try.func149 (by kernel_rfl) rfl #[.func (.func kf) #[] kcaps, .int .i64 600] rfl (by (try simp only [List.map_toArray, List.map_cons, List.map_nil]); first | done | rfl) ?_; refine (kind_all_call w1 HF1.out.fn.choose_spec.1 HF1.out.fn.choose_spec.2.1 HF1.out.fn.choose_spec.2.2 HP1.out (kind_all_ofLangford w1.heap.size HK1.out 600 xs b HRUN.out) r1 (decide ((xs.length : Int) ≤ 600)) HR1.out rfl).mono ?_; rintro e w2 ⟨v2, rfl, hS2, hB2⟩; refine ⟨_, rfl, ?_⟩; have HS2 := Aside0.mk hS2; have HB2 := Aside0.mk hB2; clear hS2 hB2))
    go_ret2
    exact ⟨_, rfl, Kd.S_lower HS2.out (Nat.le_trans HB0.out.size HB1.out.size), HB0.out.trans ((HB1.out.trans (HB2.out.mono HB1.out.size)).mono HB0.out.size)⟩
  · rw [impl_AllLangford.f, if_neg hs] at h
    obtain ⟨rfl, rfl⟩ := Prod.mk.inj (Option.some.inj h)
    have HS := Aside0.mk (AllLangford_some.resolve_left hs)
    clear h hs
    go_enter Try.func14, Try.ntmps14
    go_wp2_with (first | ((with_reducible refine gate_callee (f := 145) rfl ?_); refine goesL_ (some 8) rfl rfl Try.func145 (by kernel_rfl) rfl #[.int .i64 a0, .int .i64 a1] rfl (by (try simp only [List.map_toArray, List.map_cons, List.map_nil]); first | done | rfl) ?_; refine (impl_soughtFrom.calls a0 a1 false _ HS.out).mono ?_; rintro e w0 ⟨rfl, hd⟩; refine ⟨_, rfl, ?_⟩; have HB0 := Aside0.mk hd.below; clear hd))
    go_ret2
    exact ⟨_, rfl, Kd.S_nil _ _ _ _ _, HB0.out⟩


end Go.Proofs.Ytaohgllnoomaeaa.Fn
namespace Go.Proofs.Ytaohgllnoomaeaa.Fn
open Go.RowKit Go.Proofs.YtaohgllnoomaeaaW.PrintWords Go.Proofs.YtaohgllnoomaeaaW.PrintLast Go.Proofs.YtaohgllnoomaeaaW.PrintMore
attribute [local go_sem] max2_int min2_int max_two min_two max_three min_three max_four min_four   -- for this text's walks alone
set_option linter.unusedVariables false
set_option linter.unusedSimpArgs false

/-! ### impl_CountLangford: function 12 (given) -/
def impl_CountLangford.f (a0 : Int) (a1 : Int) : Option (Int × Bool) := if impl_soughtFrom.f a0 a1 = some true then (langfordRun a0.toNat a1 eachCount 0).bind fun p => some ((p.1 : Int), true) else some (0, false)
theorem CountLangford_sought {a0 a1 : Int} (h : impl_soughtFrom.f a0 a1 = some true) : 1 ≤ a0 ∧ a0 ≤ 9 ∧ 1 ≤ a1 ∧ a1 ≤ 20 := by
  unfold impl_soughtFrom.f impl_sought.f impl_isNumber.f at h
  by_cases h1 : a0 ≥ 1
  · rw [if_pos h1] at h
    by_cases h2 : a0 ≤ 9
    · by_cases h3 : a1 ≥ 1
      · by_cases h4 : a1 ≤ 20
        · omega
        · simp [h1, h2, h3, h4] at h
      · simp [h1, h2, h3] at h
    · simp [h2] at h
  · simp [h1] at h
theorem CountLangford_some {a0 a1 : Int} : impl_soughtFrom.f a0 a1 = some true ∨ impl_soughtFrom.f a0 a1 = some false := by
  unfold impl_soughtFrom.f impl_sought.f impl_isNumber.f
  by_cases h1 : a0 ≥ 1 <;> by_cases h2 : a0 ≤ 9 <;> by_cases h3 : a1 ≥ 1 <;> by_cases h4 : a1 ≤ 20 <;> by_cases h5 : wrap64 (a1 + a0) ≤ 20 <;> simp [h1, h2, h3, h4, h5]
set_option maxHeartbeats 8000000 in
set_option maxRecDepth 100000 in
theorem impl_CountLangford.calls (a0 : Int) (a1 : Int) (r1 : Int) (r2 : Bool) (w : World) (h : impl_CountLangford.f a0 a1 = some (r1, r2)) :
    Calls Try.prog 12 #[.int .i64 a0, .int .i64 a1] w fun e w' => e = .returned (.tuple #[.int .i64 r1, .bool r2]) ∧ Below w.heap.size w w' := by
  by_cases hs : impl_soughtFrom.f a0 a1 = some true
  · rw [impl_CountLangford.f, if_pos hs] at h
    obtain ⟨⟨xs, b⟩, hrun, h⟩ := Option.bind_eq_some_iff.1 h
    obtain ⟨rfl, rfl⟩ := Prod.mk.inj (Option.some.inj h)
    have hb := CountLangford_sought hs
    have HS := Aside0.mk hs
    have HRUN := Aside0.mk hrun
    have HNB := Aside0.mk (show 1 ≤ a0.toNat ∧ a0.toNat ≤ 40 from by omega)
    have HNI := Aside0.mk (show ((a0.toNat : Nat) : Int) = a0 from by omega)
    have HD := Aside0.mk (show 0 ≤ a1 ∧ a1 ≤ 100 from by omega)
    clear h hrun hs hb
    go_enter Try.func12, Try.ntmps12
    go_wp2_with (first | ((with_reducible refine gate_callee (f := 145) rfl ?_); refine goesL_ (some 8) rfl rfl Try.func145 (by kernel_rfl) rfl #[.int .i64 a0, .int .i64 a1] rfl (by (try simp only [List.map_toArray, List.map_cons, List.map_nil]); first | done | rfl) ?_; refine (impl_soughtFrom.calls a0 a1 true _ HS.out).mono ?_; rintro e w0 ⟨rfl, hd⟩; refine ⟨_, rfl, ?_⟩; have HB0 := Aside0.mk hd.below; clear hd) | ((with_reducible refine gate_callee (f := 146) rfl ?_); refine goesL_ (some 12) rfl rfl Try.func146 (by kernel_rfl) rfl #[.int .i64 a0, .int .i64 a1] rfl (by (try simp only [List.map_toArray, List.map_cons, List.map_nil]); first | done | rfl) ?_; have hk_ := langfordKind_call a0.toNat a1 HNB.out HD.out; rw [HNI.out] at hk_; refine (hk_ w0).mono ?_; rintro e w1 ⟨kf, kcaps, Pre, rfl, hF1, hP1, hK1, hB1⟩; refine ⟨_, rfl, ?_⟩; have HF1 := Aside0.mk hF1; have HP1 := Aside0.mk hP1; have HK1 := Aside0.mk @hK1; have HB1 := Aside0.mk hB1; clear hF1 hP1 hK1 hB1 hk_) | ((with_reducible refine gate_callee (f := 147) rfl ?_); refine goesL_ (some 13) rfl rfl Try.func147 (by kernel_rfl) rfl #[.func (.func kf) #[] kcaps] rfl (by (try simp only [List.map_toArray, List.map_cons, List.map_nil]); first | done | rfl) ?_; refine (kind_count_call w1 HF1.out HP1.out HK1.out xs b HRUN.out).mono ?_; rintro e w2 ⟨rfl, hB2⟩; refine ⟨_, rfl, ?_⟩; have HB2 := Aside0.mk hB2; clear hB2))
    go_ret2
    exact ⟨rfl, HB0.out.trans ((HB1.out.trans (HB2.out.mono HB1.out.size)).mono HB0.out.size)⟩
  · rw [impl_CountLangford.f, if_neg hs] at h
    obtain ⟨rfl, rfl⟩ := Prod.mk.inj (Option.some.inj h)
    have HS := Aside0.mk (CountLangford_some.resolve_left hs)
    clear h hs
    go_enter Try.func12, Try.ntmps12
    go_wp2_with (first | ((with_reducible refine gate_callee (f := 145) rfl ?_); refine goesL_ (some 8) rfl rfl Try.func145 (by kernel_rfl) rfl #[.int .i64 a0, .int .i64 a1] rfl (by (try simp only [List.map_toArray, List.map_cons, List.map_nil]); first | done | rfl) ?_; refine (impl_soughtFrom.calls a0 a1 false _ HS.out).mono ?_; rintro e w0 ⟨rfl, hd⟩; refine ⟨_, rfl, ?_⟩; have HB0 := Aside0.mk hd.below; clear hd))
    go_ret2
    exact ⟨rfl, HB0.out⟩


end Go.Proofs.Ytaohgllnoomaeaa.Fn
namespace Go.Proofs.Ytaohgllnoomaeaa.Fn
open Go.RowKit Go.Proofs.YtaohgllnoomaeaaW.PrintWords Go.Proofs.YtaohgllnoomaeaaW.PrintLast Go.Proofs.YtaohgllnoomaeaaW.PrintMore
attribute [local go_sem] max2_int min2_int max_two min_two max_three min_three max_four min_four   -- for this text's walks alone
set_option linter.unusedVariables false
set_option linter.unusedSimpArgs false

/-! ### impl_kind_first: function 151 (given) -/
/-! ### kind.first -/
structure FirstI (base bo : Nat) (X : Nat → Prop) (xs : List Int) (w : World) : Prop where
  out : ∃ v, w.heap[bo]? = some (.cells #[v] 31 (0, 0)) ∧ Kd.R (Kd.int .i64) 3 w base (fun k => ¬ X k) v xs
  bo : base ≤ bo
  lt : ∀ k, X k → k < w.heap.size
def eachFirst (_xs : List Int) (row : List Int) : Option (List Int × Bool) := some (row, true)
set_option maxHeartbeats 8000000 in
set_option maxRecDepth 100000 in
theorem first1_call {base bo : Nat} {X : Nat → Prop} (hXo : ¬ X bo) (xs row : List Int) (A : Option Addr) (c : Nat) (w : World) (hI : FirstI base bo X xs w) (hr : Kd.C (Kd.int .i64) w A row.length row) (hc : row.length ≤ c) (hl : row.length ≤ 1000) :
    Calls Try.prog 240 #[.slice A row.length c, .pointer (some ⟨bo, 0, none⟩)] w fun e w' => e = .returned (.bool true) ∧ FirstI base bo X row w' ∧ Below base w w' ∧ (∀ k, X k → w'.heap[k]? = w.heap[k]?) := by
  obtain ⟨⟨v, h1, h2⟩, h4, h6⟩ := hI
  have HO := Aside0.mk h1
  have H4 := Aside0.mk h4
  have H6 := Aside0.mk h6
  have HXO := Aside0.mk hXo
  have HR := Aside0.mk hr
  have HC := Aside0.mk hc
  have hcl : slices_Clone_int_int.f row = some row := if_pos (by omega)
  have HCL := Aside0.mk hcl
  clear h1 h2 h4 h6 hXo hr hc hl hcl
  go_enter Try.func240, Try.ntmps240
  go_wp2_with (first | ((with_reducible refine gate_callee (f := 156) rfl ?_); refine goesL_ (some 5) rfl rfl Try.func156 (by kernel_rfl) rfl #[.slice A row.length c] rfl (by (try simp only [List.map_toArray, List.map_cons, List.map_nil]); first | done | rfl) ?_; refine (slices_Clone_int_int.calls A c row row w HR.out HC.out HCL.out).mono ?_; rintro e w2 ⟨v2, rfl, hv2, hb2⟩; refine ⟨_, rfl, ?_⟩; have HV2 := Aside0.mk hv2; have HB2 := Aside0.mk hb2; have HO2 := Aside0.mk (blk_below HO.out hb2); have hc2 := cell_of_one HO2.out; have hf2 := free_of_one HO2.out; obtain ⟨A2, c2, e2⟩ := Kd.R_slice hv2; subst e2; clear hv2 hb2))
  go_ret
  have hsz : base ≤ w.heap.size := by have := blk_lt HO.out; have := H4.out; omega
  refine ⟨rfl, ⟨⟨_, one_setCell HO2.out, ?_⟩, H4.out, fun k hk => ?_⟩, (HB2.out.mono hsz).setCell (show base ≤ (⟨bo, 0, none⟩ : Addr).block from H4.out) _, fun k hk => (Below.heap_setCell w2 _ _ k (fun e => HXO.out (by rw [show k = bo from e] at hk; exact hk))).trans (HB2.out.block k (H6.out k hk))⟩
  · refine Kd.R_mono (Kd.R_far (p := ⟨bo, 0, none⟩) (Kd.R_types (Kd.R_tight rfl (Kd.R_lower HV2.out hsz)) HO2.out (by decide)) (fun _ hk => hk.2) _) (fun k hk hx => ?_)
    have h1 := Kd.R_base HV2.out k hk.1.symm
    have h2 := H6.out k hx
    omega
  · rw [size_setCell]; exact Nat.lt_of_lt_of_le (H6.out k hk) HB2.out.size
theorem first1_ok {base bo N : Nat} {X : Nat → Prop} (hX : ∀ k, X k → N ≤ k) (hbo : bo < N) : EachOk base X 240 #[.pointer (some ⟨bo, 0, none⟩)] eachFirst (FirstI base bo X) := by
  have hXo : ¬ X bo := fun h => by have := hX bo h; omega
  refine ⟨⟨_, Try.func240, by kernel_rfl, rfl⟩, fun s w w' h hs hk => ?_, fun s row A c w s' b hI hr hc hl h => ?_⟩
  · obtain ⟨⟨v, h1, h2⟩, h4, h6⟩ := h
    exact ⟨⟨v, (hk bo (blk_lt h1) hXo).trans h1, Kd.R_step h2 (fun k ho hl => hk k hl ho)⟩, h4, fun k hx => Nat.lt_of_lt_of_le (h6 k hx) hs⟩
  · unfold eachFirst at h
    obtain ⟨rfl, rfl⟩ := Prod.mk.inj (Option.some.inj h)
    exact first1_call hXo s row A c w hI hr hc hl
set_option maxHeartbeats 8000000 in
set_option maxRecDepth 100000 in
theorem kind_first_call {kf : FuncId} {kcaps : Array Value} {Pre : World → Prop} {run : {σ : Type} → (σ → List Int → Option (σ × Bool)) → σ → Option (σ × Bool)} (w : World) (hf : KindFn kf) (hP : ∀ w', Below w.heap.size w w' → Pre w') (h : KindOk kf kcaps Pre run) (xs : List Int) (b : Bool) (hr : run eachFirst [] = some (xs, b)) :
    Calls Try.prog 151 #[.func (.func kf) #[] kcaps] w fun e w' => ∃ v0_ : Value, e = .returned (.tuple #[v0_, .bool (decide ((0 : Int) < (xs.length : Int)))]) ∧ Kd.R (Kd.int .i64) 3 w' w.heap.size (fun _ => True) v0_ xs ∧ Below w.heap.size w w' := by
  have HF := Aside0.mk hf
  have HP := Aside0.mk hP
  have H := Aside0.mk @h
  have HR := Aside0.mk hr
  clear hf hP h hr
  go_enter Try.func151, Try.ntmps151
  go_wp2_with (first | ((with_reducible refine gate_dst (N := 4) rfl ?_); refine box_event ?hg (N := 4) ?hd (cs := #[.slice none 0 0]) (t := 31) ?hr ?_; (case hd => rfl); (case hg => rfl); (case hr => first | (go_simp; done) | (go_simp; rfl)); intro g4 hg w1 hbox hb; have BK := Aside0.mk hbox; have HB := Aside0.mk (show Below w.heap.size w w1 from hb); have G4 := Aside0.mk (show w.heap.size ≤ g4 by omega); clear hb hbox hg) | ((with_reducible refine gate_value (p := 5) rfl ?_); have HCALL := Aside0.mk (H.out (base := w.heap.size) (fid := 240) (ecaps := #[.pointer (some ⟨g4, 0, none⟩)]) (each := eachFirst) (I := fun X => FirstI w.heap.size g4 X) [] xs b w1 (HP.out w1 HB.out) HB.out.size (fun X hX => first1_ok hX (blk_lt BK.out)) (fun X w' hb hX => ⟨⟨_, blk_below BK.out hb, Kd.R_nil _ _ _ _ _⟩, G4.out, fun k hk => (hX k hk).2⟩) HR.out); refine goesX_ (some 7) rfl rfl HF.out.fn #[.func (.func 240) #[] #[.pointer (some ⟨g4, 0, none⟩)]] rfl (by first | rfl | (simp [Act.eval]; done)) (by (try simp only [List.map_toArray, List.map_cons, List.map_nil]); first | done | rfl) ?_; refine HCALL.out.mono ?_; rintro e w3 ⟨rfl, ⟨X, hX3, hI3⟩, hB3⟩; refine ⟨_, rfl, ?_⟩; obtain ⟨v3, ho3, hr3⟩ := hI3.out; obtain ⟨A3, c3, e3⟩ := Kd.R_slice hr3; subst e3; have HR3 := Aside0.mk hr3; have HB3 := Aside0.mk hB3; have hc3 := cell_of_one ho3; clear hX3 hI3 hB3 HCALL ho3 hr3))
  go_quiet (fail)
  go_wp2_with fail
  go_ret2
  exact ⟨_, by first | rfl | simp, Kd.R_mono (Kd.R_drewN HR3.out _) (fun _ _ => trivial), HB.out.trans (HB3.out.trans (pw_below_drewN (Below.refl _ _) _))⟩


end Go.Proofs.Ytaohgllnoomaeaa.Fn
namespace Go.Proofs.Ytaohgllnoomaeaa.Fn
open Go.RowKit Go.Proofs.YtaohgllnoomaeaaW.PrintWords Go.Proofs.YtaohgllnoomaeaaW.PrintLast Go.Proofs.YtaohgllnoomaeaaW.PrintMore
attribute [local go_sem] max2_int min2_int max_two min_two max_three min_three max_four min_four   -- for this text's walks alone
set_option linter.unusedVariables false
set_option linter.unusedSimpArgs false

/-! ### impl_FirstLangford: function 16 (given) -/
def impl_FirstLangford.f (a0 : Int) (a1 : Int) : Option (List Int × Bool) := if impl_soughtFrom.f a0 a1 = some true then (langfordRun a0.toNat a1 eachFirst []).bind fun p => some (p.1, decide ((0 : Int) < (p.1.length : Int))) else some ([], false)
theorem FirstLangford_sought {a0 a1 : Int} (h : impl_soughtFrom.f a0 a1 = some true) : 1 ≤ a0 ∧ a0 ≤ 9 ∧ 1 ≤ a1 ∧ a1 ≤ 20 := by
  unfold impl_soughtFrom.f impl_sought.f impl_isNumber.f at h
  by_cases h1 : a0 ≥ 1
  · rw [if_pos h1] at h
    by_cases h2 : a0 ≤ 9
    · by_cases h3 : a1 ≥ 1
      · by_cases h4 : a1 ≤ 20
        · omega
        · simp [h1, h2, h3, h4] at h
      · simp [h1, h2, h3] at h
    · simp [h2] at h
  · simp [h1] at h
theorem FirstLangford_some {a0 a1 : Int} : impl_soughtFrom.f a0 a1 = some true ∨ impl_soughtFrom.f a0 a1 = some false := by
  unfold impl_soughtFrom.f impl_sought.f impl_isNumber.f
  by_cases h1 : a0 ≥ 1 <;> by_cases h2 : a0 ≤ 9 <;> by_cases h3 : a1 ≥ 1 <;> by_cases h4 : a1 ≤ 20 <;> by_cases h5 : wrap64 (a1 + a0) ≤ 20 <;> simp [h1, h2, h3, h4, h5]
set_option maxHeartbeats 8000000 in
set_option maxRecDepth 100000 in
theorem impl_FirstLangford.calls (a0 : Int) (a1 : Int) (r1 : List Int) (r2 : Bool) (w : World) (h : impl_FirstLangford.f a0 a1 = some (r1, r2)) :
    Calls Try.prog 16 #[.int .i64 a0, .int .i64 a1] w fun e w' => ∃ v0_ : Value, e = .returned (.tuple #[v0_, .bool r2]) ∧ Kd.R (Kd.int .i64) 3 w' w.heap.size (fun _ => True) v0_ r1 ∧ Below w.heap.size w w' := by
  by_cases hs : impl_soughtFrom.f a0 a1 = some true
  · rw [impl_FirstLangford.f, if_pos hs] at h
    obtain ⟨⟨xs, b⟩, hrun, h⟩ := Option.bind_eq_some_iff.1 h
    obtain ⟨rfl, rfl⟩ := Prod.mk.inj (Option.some.inj h)
    have hb := FirstLangford_sought hs
    have HS := Aside0.mk hs
    have HRUN := Aside0.mk hrun
    have HNB := Aside0.mk (show 1 ≤ a0.toNat ∧ a0.toNat ≤ 40 from by omega)
    have HNI := Aside0.mk (show ((a0.toNat : Nat) : Int) = a0 from by omega)
    have HD := Aside0.mk (show 0 ≤ a1 ∧ a1 ≤ 100 from by omega)
    clear h hrun hs hb
    go_enter Try.func16, Try.ntmps16
    go_wp2_with (first | ((with_reducible refine gate_callee (f := 145) rfl ?_); refine goesL_ (some 8) rfl rfl Try.func145 (by kernel_rfl) rfl #[.int .i64 a0, .int .i64 a1] rfl (by (try simp only [List.map_toArray, List.map_cons, List.map_nil]); first | done | rfl) ?_; refine (impl_soughtFrom.calls a0 a1 true _ HS.out).mono ?_; rintro e w0 ⟨rfl, hd⟩; refine ⟨_, rfl, ?_⟩; have HB0 := Aside0.mk hd.below; clear hd) | ((with_reducible refine gate_callee (f := 146) rfl ?_); refine goesL_ (some 12) rfl rfl Try.func146 (by kernel_rfl) rfl #[.int .i64 a0, .int .i64 a1] rfl (by (try simp only [List.map_toArray, List.map_cons, List.map_nil]); first | done | rfl) ?_; have hk_ := langfordKind_call a0.toNat a1 HNB.out HD.out; rw [HNI.out] at hk_; refine (hk_ w0).mono ?_; rintro e w1 ⟨kf, kcaps, Pre, rfl, hF1, hP1, hK1, hB1⟩; refine ⟨_, rfl, ?_⟩; have HF1 := Aside0.mk hF1; have HP1 := Aside0.mk hP1; have HK1 := Aside0.mk @hK1; have HB1 := Aside0.mk hB1; clear hF1 hP1 hK1 hB1 hk_) | ((with_reducible refine gate_callee (f := 151) rfl ?_); refine goesL_ (some 13) rfl rfl Try.func151 (by kernel_rfl) rfl #[.func (.func kf) #[] kcaps] rfl (by (try simp only [List.map_toArray, List.map_cons, List.map_nil]); first | done | rfl) ?_; refine (kind_first_call w1 HF1.out HP1.out HK1.out xs b HRUN.out).mono ?_; rintro e w2 ⟨v2, rfl, hR2, hB2⟩; refine ⟨_, rfl, ?_⟩; have HR2 := Aside0.mk hR2; have HB2 := Aside0.mk hB2; clear hR2 hB2))
    go_ret2
    exact ⟨_, rfl, Kd.R_lower HR2.out (Nat.le_trans HB0.out.size HB1.out.size), HB0.out.trans ((HB1.out.trans (HB2.out.mono HB1.out.size)).mono HB0.out.size)⟩
  · rw [impl_FirstLangford.f, if_neg hs] at h
    obtain ⟨rfl, rfl⟩ := Prod.mk.inj (Option.some.inj h)
    have HS := Aside0.mk (FirstLangford_some.resolve_left hs)
    clear h hs
    go_enter Try.func16, Try.ntmps16
    go_wp2_with (first | ((with_reducible refine gate_callee (f := 145) rfl ?_); refine goesL_ (some 8) rfl rfl Try.func145 (by kernel_rfl) rfl #[.int .i64 a0, .int .i64 a1] rfl (by (try simp only [List.map_toArray, List.map_cons, List.map_nil]); first | done | rfl) ?_; refine (impl_soughtFrom.calls a0 a1 false _ HS.out).mono ?_; rintro e w0 ⟨rfl, hd⟩; refine ⟨_, rfl, ?_⟩; have HB0 := Aside0.mk hd.below; clear hd))
    go_ret2
    exact ⟨_, rfl, Kd.R_nil _ _ _ _ _, HB0.out⟩


end Go.Proofs.Ytaohgllnoomaeaa.Fn
namespace Go.Proofs.Ytaohgllnoomaeaa.Fn
open Go.RowKit Go.Proofs.YtaohgllnoomaeaaW.PrintWords Go.Proofs.YtaohgllnoomaeaaW.PrintLast Go.Proofs.YtaohgllnoomaeaaW.PrintMore
attribute [local go_sem] max2_int min2_int max_two min_two max_three min_three max_four min_four   -- for this text's walks alone
set_option linter.unusedVariables false
set_option linter.unusedSimpArgs false

/-! ### impl_isShift: function 157 -/
def impl_isShift.f (a0 : Int) : Option (Bool) := if a0 = 0 then (some true) else (some (a0 == 1))
set_option maxHeartbeats 8000000 in
set_option maxRecDepth 100000 in
theorem impl_isShift.calls (a0 : Int) (r : Bool) (w : World) (h : impl_isShift.f a0 = some r) :
  Calls Try.prog 157 #[.int .i64 a0] w fun e w' => e = .returned (.bool r) ∧ Drawn0 w w' := by
 have H : (if a0 = 0 then (some true) else (some (a0 == 1))) = some r := h
 clear h
 by_cases c2 : a0 = 0
 ·rw [if_pos c2] at H
  have c2b0 : (a0 == 0) = true := beq_iff_eq.mpr c2
  have c2b1 : (a0 != 0) = false := bne_eq_false_iff_eq.mpr c2
  clear c2
  obtain rfl := Option.some.inj H
  go_enter Try.func157, Try.ntmps157
  go_wp2
  go_ret
  exact ⟨by first | rfl | (simp; done) | (simp [*]; done), by repeat (first | exact Drawn0.refl _ | apply Drawn0.step)⟩
 ·rw [if_neg c2] at H
  have c2b0 : (a0 == 0) = false := beq_eq_false_iff_ne.mpr c2
  have c2b1 : (a0 != 0) = true := bne_iff_ne.mpr c2
  obtain rfl := Option.some.inj H
  go_enter Try.func157, Try.ntmps157
  go_wp2
  go_ret
  exact ⟨by first | rfl | (simp; done) | (simp [*]; done), by repeat (first | exact Drawn0.refl _ | apply Drawn0.step)⟩


end Go.Proofs.Ytaohgllnoomaeaa.Fn
namespace Go.Proofs.Ytaohgllnoomaeaa.Fn
open Go.RowKit Go.Proofs.YtaohgllnoomaeaaW.PrintWords Go.Proofs.YtaohgllnoomaeaaW.PrintLast Go.Proofs.YtaohgllnoomaeaaW.PrintMore
attribute [local go_sem] max2_int min2_int max_two min_two max_three min_three max_four min_four   -- for this text's walks alone
set_option linter.unusedVariables false
set_option linter.unusedSimpArgs false

/-! ### impl_FitsShift: function 27 -/
def impl_FitsShift.f (k : Nat) (l0 : List Int) (a1 : Int) : Option (Bool × Bool) := (impl_isPairs.f k l0).bind fun t189 => (if t189 = true then ((impl_isShift.f a1).bind fun t190 => (if t190 = true then ((impl_fits.f k l0 a1).bind fun t191 => (some (t191, true))) else (some (false, false)))) else (some (false, false)))
theorem impl_FitsShift.mono : ∀ a0 a1 k, LeO (impl_FitsShift.f k a0 a1) (impl_FitsShift.f (k + 1) a0 a1) := by
 intro a0 a1 k
 unfold impl_FitsShift.f
 repeat' (first | (with_reducible first | exact impl_fits.mono _ _ _ | exact impl_isPairs.mono _ _ | exact LeO.refl _ | exact LeO.none _ | refine LeO.ite ?_ ?_ | refine LeO.bind ?_ (fun _ => ?_)) | exact impl_fits.mono _ _ _ | exact impl_isPairs.mono _ _ | exact LeO.none _ | refine LeO.ite ?_ ?_ | refine LeO.bind ?_ (fun _ => ?_))
set_option maxHeartbeats 8000000 in
set_option maxRecDepth 100000 in
theorem impl_FitsShift.calls (k : Nat) (A0 : Option Addr) (c0 : Nat) (l0 : List Int) (a1 : Int) (r1 : Bool) (r2 : Bool) (w : World) (hr0 : Kd.C (Kd.int .i64) w A0 l0.length l0) (hc0 : l0.length ≤ c0) (h : impl_FitsShift.f k l0 a1 = some (r1, r2)) :
  Calls Try.prog 27 #[.slice A0 l0.length c0, .int .i64 a1] w fun e w' => e = .returned (.tuple #[.bool r1, .bool r2]) ∧ Below w.heap.size w w' := by
 have HR0 := Aside0.mk hr0
 have HC0 := Aside0.mk hc0
 clear hr0 hc0
 have HB := Aside0.mk (Below.refl w.heap.size w)
 have H : ((impl_isPairs.f k l0).bind fun t189 => (if t189 = true then ((impl_isShift.f a1).bind fun t190 => (if t190 = true then ((impl_fits.f k l0 a1).bind fun t191 => (some (t191, true))) else (some (false, false)))) else (some (false, false)))) = some (r1, r2) := h
 clear h
 replace H := Option.bind_eq_some_iff.mp H
 obtain ⟨t189, A30, H⟩ := H
 replace H : (if t189 = true then ((impl_isShift.f a1).bind fun t190 => (if t190 = true then ((impl_fits.f k l0 a1).bind fun t191 => (some (t191, true))) else (some (false, false)))) else (some (false, false))) = some (r1, r2) := H
 have A3 := Aside0.mk A30
 clear A30
 by_cases c4 : t189 = true
 ·subst c4
  have H1 : ((impl_isShift.f a1).bind fun t190 => (if t190 = true then ((impl_fits.f k l0 a1).bind fun t191 => (some (t191, true))) else (some (false, false)))) = some (r1, r2) := by rw [if_pos rfl] at H; exact H
  clear H
  have H := H1
  clear H1
  replace H := Option.bind_eq_some_iff.mp H
  obtain ⟨t190, A50, H⟩ := H
  replace H : (if t190 = true then ((impl_fits.f k l0 a1).bind fun t191 => (some (t191, true))) else (some (false, false))) = some (r1, r2) := H
  have A5 := Aside0.mk A50
  clear A50
  by_cases c6 : t190 = true
  ·subst c6
   have H1 : ((impl_fits.f k l0 a1).bind fun t191 => (some (t191, true))) = some (r1, r2) := by rw [if_pos rfl] at H; exact H
   clear H
   have H := H1
   clear H1
   replace H := Option.bind_eq_some_iff.mp H
   obtain ⟨t191, A70, H⟩ := H
   replace H : (some (t191, true)) = some (r1, r2) := H
   have A7 := Aside0.mk A70
   clear A70
   simp only [Option.some.injEq, Prod.mk.injEq] at H
   obtain ⟨rfl, rfl⟩ := H
   go_enter Try.func27, Try.ntmps27
   go_wp2_with (first | ((with_reducible refine gate_callee (f := 154) rfl ?_); refine goesA (some 7) Try.func154 #[.slice A0 l0.length c0] ?_; (with_reducible refine (impl_isPairs.calls k _ _ l0 true _ ?side1 ?side2 A3.out).mono ?_); (case side1 => repeat (first | exact HR0.out | (with_reducible refine Kd.C_alloc ?_ _) | (with_reducible refine Kd.C_drewN ?_ _) | (with_reducible refine Kd.C_drew ?_))); (case side2 => exact HC0.out); rintro e w8 ⟨rfl, hb⟩; refine ⟨_, rfl, ?_⟩; replace HB := upB HB hb; (try clear hb); (try clear hb2); (try clear hk); (try clear hi)) | (go_at_call 157; (with_reducible refine (impl_isShift.calls a1 true _ A5.out).mono ?_); rintro e w' ⟨rfl, ⟨nd, rfl⟩⟩) | ((with_reducible refine gate_callee (f := 158) rfl ?_); refine goesA (some 16) Try.func158 #[.slice A0 l0.length c0, .int .i64 a1] ?_; (with_reducible refine (impl_fits.calls k _ _ l0 a1 t191 _ ?side1 ?side2 A7.out).mono ?_); (case side1 => repeat (first | exact (Kd.C_below HR0.out (atB HB)) | (with_reducible refine Kd.C_alloc ?_ _) | (with_reducible refine Kd.C_drewN ?_ _) | (with_reducible refine Kd.C_drew ?_))); (case side2 => exact HC0.out); rintro e w9 ⟨rfl, hb⟩; refine ⟨_, rfl, ?_⟩; replace HB := upB HB hb; (try clear hb); (try clear hb2); (try clear hk); (try clear hi)))
   go_ret2
   exact ⟨by first | rfl | (simp [errW_none, errW_some] <;> rfl) | (simp [*, errW_none, errW_some] <;> rfl), atB HB⟩
  ·replace c6 := Bool.eq_false_iff.mpr c6
   subst c6
   have H1 : (some (false, false)) = some (r1, r2) := by rw [if_neg (show ¬ (false = true) by decide)] at H; exact H
   clear H
   have H := H1
   clear H1
   simp only [Option.some.injEq, Prod.mk.injEq] at H
   obtain ⟨rfl, rfl⟩ := H
   go_enter Try.func27, Try.ntmps27
   go_wp2_with (first | ((with_reducible refine gate_callee (f := 154) rfl ?_); refine goesA (some 7) Try.func154 #[.slice A0 l0.length c0] ?_; (with_reducible refine (impl_isPairs.calls k _ _ l0 true _ ?side1 ?side2 A3.out).mono ?_); (case side1 => repeat (first | exact HR0.out | (with_reducible refine Kd.C_alloc ?_ _) | (with_reducible refine Kd.C_drewN ?_ _) | (with_reducible refine Kd.C_drew ?_))); (case side2 => exact HC0.out); rintro e w10 ⟨rfl, hb⟩; refine ⟨_, rfl, ?_⟩; replace HB := upB HB hb; (try clear hb); (try clear hb2); (try clear hk); (try clear hi)) | (go_at_call 157; (with_reducible refine (impl_isShift.calls a1 false _ A5.out).mono ?_); rintro e w' ⟨rfl, ⟨nd, rfl⟩⟩))
   go_ret2
   exact ⟨by first | rfl | (simp [errW_none, errW_some] <;> rfl) | (simp [*, errW_none, errW_some] <;> rfl), atB HB⟩
 ·replace c4 := Bool.eq_false_iff.mpr c4
  subst c4
  have H1 : (some (false, false)) = some (r1, r2) := by rw [if_neg (show ¬ (false = true) by decide)] at H; exact H
  clear H
  have H := H1
  clear H1
  simp only [Option.some.injEq, Prod.mk.injEq] at H
  obtain ⟨rfl, rfl⟩ := H
  go_enter Try.func27, Try.ntmps27
  go_wp2_with (first | ((with_reducible refine gate_callee (f := 154) rfl ?_); refine goesA (some 7) Try.func154 #[.slice A0 l0.length c0] ?_; (with_reducible refine (impl_isPairs.calls k _ _ l0 false _ ?side1 ?side2 A3.out).mono ?_); (case side1 => repeat (first | exact HR0.out | (with_reducible refine Kd.C_alloc ?_ _) | (with_reducible refine Kd.C_drewN ?_ _) | (with_reducible refine Kd.C_drew ?_))); (case side2 => exact HC0.out); rintro e w11 ⟨rfl, hb⟩; refine ⟨_, rfl, ?_⟩; replace HB := upB HB hb; (try clear hb); (try clear hb2); (try clear hk); (try clear hi)))
  go_ret2
  exact ⟨by first | rfl | (simp [errW_none, errW_some] <;> rfl) | (simp [*, errW_none, errW_some] <;> rfl), atB HB⟩

noncomputable def impl_FitsShift.F (l0 : List Int) (a1 : Int) : Option (Bool × Bool) := lim fun k => impl_FitsShift.f k l0 a1
theorem impl_FitsShift.F_lim (l0 : List Int) (a1 : Int) : Lim (fun k => impl_FitsShift.f k l0 a1) (impl_FitsShift.F l0 a1) := Lim.of fun k => impl_FitsShift.mono l0 a1 k
theorem impl_FitsShift.F_eq (l0 : List Int) (a1 : Int) : impl_FitsShift.F l0 a1 = ((impl_isPairs.F l0).bind fun t189 => (if t189 = true then ((impl_isShift.f a1).bind fun t190 => (if t190 = true then ((impl_fits.F l0 a1).bind fun t191 => (some (t191, true))) else (some (false, false)))) else (some (false, false)))) :=
 Lim.unique (impl_FitsShift.F_lim l0 a1) (by
  unfold impl_FitsShift.f
  repeat' (first | (with_reducible first | exact Lim.const _ | exact impl_fits.F_lim _ _ | exact impl_isPairs.F_lim _ | refine Lim.ite ?_ ?_ | refine Lim.bind ?_ (fun _ => ?_))))

end Go.Proofs.Ytaohgllnoomaeaa.Fn
namespace Go.Proofs.Ytaohgllnoomaeaa.Fn
open Go.RowKit Go.Proofs.YtaohgllnoomaeaaW.PrintWords Go.Proofs.YtaohgllnoomaeaaW.PrintLast Go.Proofs.YtaohgllnoomaeaaW.PrintMore
attribute [local go_sem] max2_int min2_int max_two min_two max_three min_three max_four min_four   -- for this text's walks alone
set_option linter.unusedVariables false
set_option linter.unusedSimpArgs false

/-! ### slices_Contains_int_int: function 186 -/
def slices_Contains_int_int.f (k : Nat) (l0 : List Int) (a1 : Int) : Option (Bool) := (slices_Index_int_int.f k l0 a1).bind fun t146 => (some (decide (t146 ≥ 0)))
theorem slices_Contains_int_int.mono : ∀ a0 a1 k, LeO (slices_Contains_int_int.f k a0 a1) (slices_Contains_int_int.f (k + 1) a0 a1) := by
 intro a0 a1 k
 unfold slices_Contains_int_int.f
 repeat' (first | (with_reducible first | exact slices_Index_int_int.mono _ _ _ | exact LeO.refl _ | exact LeO.none _ | refine LeO.ite ?_ ?_ | refine LeO.bind ?_ (fun _ => ?_)) | exact slices_Index_int_int.mono _ _ _ | exact LeO.none _ | refine LeO.ite ?_ ?_ | refine LeO.bind ?_ (fun _ => ?_))
set_option maxHeartbeats 8000000 in
set_option maxRecDepth 100000 in
theorem slices_Contains_int_int.calls (k : Nat) (A0 : Option Addr) (c0 : Nat) (l0 : List Int) (a1 : Int) (r : Bool) (w : World) (hr0 : Kd.C (Kd.int .i64) w A0 l0.length l0) (hc0 : l0.length ≤ c0) (h : slices_Contains_int_int.f k l0 a1 = some r) :
  Calls Try.prog 186 #[.slice A0 l0.length c0, .int .i64 a1] w fun e w' => e = .returned (.bool r) ∧ Drawn0 w w' := by
 have HR0 := Aside0.mk hr0
 have HC0 := Aside0.mk hc0
 clear hr0 hc0
 have H : ((slices_Index_int_int.f k l0 a1).bind fun t146 => (some (decide (t146 ≥ 0)))) = some r := h
 clear h
 replace H := Option.bind_eq_some_iff.mp H
 obtain ⟨t146, A30, H⟩ := H
 replace H : (some (decide (t146 ≥ 0))) = some r := H
 have A3 := Aside0.mk A30
 clear A30
 obtain rfl := Option.some.inj H
 go_enter Try.func186, Try.ntmps186
 go_wp2_with (first | ((with_reducible refine gate_callee (f := 248) rfl ?_); refine goesA (some 7) Try.func248 #[.slice A0 l0.length c0, .int .i64 a1] ?_; (with_reducible refine (slices_Index_int_int.calls k _ _ l0 a1 t146 _ ?side1 ?side2 A3.out).mono ?_); (case side1 => repeat (first | exact HR0.out | (with_reducible refine Kd.C_alloc ?_ _) | (with_reducible refine Kd.C_drewN ?_ _) | (with_reducible refine Kd.C_drew ?_))); (case side2 => exact HC0.out); rintro e w' ⟨rfl, ⟨nd, rfl⟩⟩; refine ⟨_, rfl, ?_⟩))
 go_ret
 exact ⟨by first | rfl | (simp; done) | (simp [*]; done), by repeat (first | exact Drawn0.refl _ | apply Drawn0.step)⟩

noncomputable def slices_Contains_int_int.F (l0 : List Int) (a1 : Int) : Option (Bool) := lim fun k => slices_Contains_int_int.f k l0 a1
theorem slices_Contains_int_int.F_lim (l0 : List Int) (a1 : Int) : Lim (fun k => slices_Contains_int_int.f k l0 a1) (slices_Contains_int_int.F l0 a1) := Lim.of fun k => slices_Contains_int_int.mono l0 a1 k
theorem slices_Contains_int_int.F_eq (l0 : List Int) (a1 : Int) : slices_Contains_int_int.F l0 a1 = ((slices_Index_int_int.F l0 a1).bind fun t146 => (some (decide (t146 ≥ 0)))) :=
 Lim.unique (slices_Contains_int_int.F_lim l0 a1) (by
  unfold slices_Contains_int_int.f
  repeat' (first | (with_reducible first | exact Lim.const _ | exact slices_Index_int_int.F_lim _ _ | refine Lim.ite ?_ ?_ | refine Lim.bind ?_ (fun _ => ?_))))

end Go.Proofs.Ytaohgllnoomaeaa.Fn
namespace Go.Proofs.Ytaohgllnoomaeaa.Fn
open Go.RowKit Go.Proofs.YtaohgllnoomaeaaW.PrintWords Go.Proofs.YtaohgllnoomaeaaW.PrintLast Go.Proofs.YtaohgllnoomaeaaW.PrintMore
attribute [local go_sem] max2_int min2_int max_two min_two max_three min_three max_four min_four   -- for this text's walks alone
set_option linter.unusedVariables false
set_option linter.unusedSimpArgs false

/-! ### impl_numbers: function 176 -/
def impl_numbers.l0 : Nat → List Int → List Int → Int → Option (List Int)
 | 0, _, _, _ => none
 | k + 1, x0, x3, x4 => if x4 ≤ 20 then ((slices_Contains_int_int.f k x0 x4).bind fun t147 => (if t147 = true then (if x3.length < 17592186044416 then (impl_numbers.l0 k x0 (x3 ++ [x4]) (wrap64 (x4 + 1))) else (none)) else (impl_numbers.l0 k x0 x3 (wrap64 (x4 + 1))))) else (some x3)
def impl_numbers.f (k : Nat) (l0 : List Int) : Option (List Int) := impl_numbers.l0 k l0 ([] : List Int) 1
theorem impl_numbers.mono_l : ∀ k, (∀ y0 y1 y2, LeO (impl_numbers.l0 k y0 y1 y2) (impl_numbers.l0 (k + 1) y0 y1 y2))
 | 0 => fun _ _ _ r h => by simp [impl_numbers.l0] at h
 | k + 1 => by
  have ih0 := impl_numbers.mono_l k
  ·intro y0 y1 y2
   unfold impl_numbers.l0
   repeat' (first | (with_reducible first | exact ih0 _ _ _ | exact slices_Contains_int_int.mono _ _ _ | exact LeO.refl _ | exact LeO.none _ | refine LeO.ite ?_ ?_ | refine LeO.bind ?_ (fun _ => ?_)) | exact ih0 _ _ _ | exact slices_Contains_int_int.mono _ _ _ | exact LeO.none _ | refine LeO.ite ?_ ?_ | refine LeO.bind ?_ (fun _ => ?_))
theorem impl_numbers.mono : ∀ a0 k, LeO (impl_numbers.f k a0) (impl_numbers.f (k + 1) a0) := by
 intro a0 k
 have ih0 := impl_numbers.mono_l k
 unfold impl_numbers.f
 repeat' (first | (with_reducible first | exact ih0 _ _ _ | exact LeO.refl _ | exact LeO.none _ | refine LeO.ite ?_ ?_ | refine LeO.bind ?_ (fun _ => ?_)) | exact ih0 _ _ _ | exact LeO.none _ | refine LeO.ite ?_ ?_ | refine LeO.bind ?_ (fun _ => ?_))
set_option maxHeartbeats 8000000 in
set_option maxRecDepth 100000 in
theorem impl_numbers.calls (k : Nat) (A0 : Option Addr) (c0 : Nat) (l0 : List Int) (r : List Int) (w : World) (hr0 : Kd.C (Kd.int .i64) w A0 l0.length l0) (hc0 : l0.length ≤ c0) (h : impl_numbers.f k l0 = some r) :
  Calls Try.prog 176 #[.slice A0 l0.length c0] w fun e w' => ∃ v0_ : Value, e = .returned (v0_) ∧ Kd.R (Kd.int .i64) 3 w' w.heap.size (fun _ => True) v0_ r ∧ Below w.heap.size w w' := by
 have HR0 := Aside0.mk hr0
 have HC0 := Aside0.mk hc0
 clear hr0 hc0
 have HB := Aside0.mk (Below.refl w.heap.size w)
 have H : (impl_numbers.l0 k l0 ([] : List Int) 1) = some r := h
 clear h
 have H' := Aside0.mk H
 clear H
 go_enter Try.func176, Try.ntmps176
 go_wp2
 go_loopg [3, 4] k (fun kq v3 v4 w' => ∃ (x3_1 : List Int) (x4_1 : Int), v4 = .int .i64 x4_1 ∧ Aside0 (impl_numbers.l0 kq l0 x3_1 x4_1 = some r) ∧ Aside0 (kq ≤ k) ∧ Aside0 (Kd.R (Kd.int .i64) 3 w' w.heap.size (fun _ => True) v3 x3_1) ∧ Aside0 (Below w.heap.size w w'))
 case atStart => exact ⟨(([] : List Int)), (1), (by first | rfl | (simp; done) | (simp [*]; done)), H', ⟨Nat.le_refl _⟩, ⟨by first | exact Kd.R_nil _ _ _ _ _ | exact Kd.N_nil _ _ _ _ _ | exact Kd.V_nil _ _ _ _ _ | exact Kd.Q_nil _ _ _ _ _ | exact Kd.S_nil _ _ _ _ _⟩, ⟨atB HB⟩⟩
 case round =>
  clear H'
  try clear c1
  obtain ⟨x3_1, x4_1, rfl, HA, HK1, HO_3, HB⟩ := hrel
  cases gk with
  | zero => exact absurd HA.out (by simp [impl_numbers.l0])
  | succ k1 =>
   have H := HA.out
   clear HA
   simp only [impl_numbers.l0] at H
   by_cases c2 : x4_1 ≤ 20
   ·rw [if_pos c2] at H
    have c2b0 : decide (x4_1 ≤ 20) = true := decide_eq_true c2
    clear c2
    replace H := Option.bind_eq_some_iff.mp H
    obtain ⟨t147, A30, H⟩ := H
    replace H : (if t147 = true then (if x3_1.length < 17592186044416 then (impl_numbers.l0 k1 l0 (x3_1 ++ [x4_1]) (wrap64 (x4_1 + 1))) else (none)) else (impl_numbers.l0 k1 l0 x3_1 (wrap64 (x4_1 + 1)))) = some r := H
    have A3 := Aside0.mk A30
    clear A30
    by_cases c4 : t147 = true
    ·subst c4
     have H1 : (if x3_1.length < 17592186044416 then (impl_numbers.l0 k1 l0 (x3_1 ++ [x4_1]) (wrap64 (x4_1 + 1))) else (none)) = some r := by rw [if_pos rfl] at H; exact H
     clear H
     have H := H1
     clear H1
     by_cases c5 : x3_1.length < 17592186044416
     ·rw [if_pos c5] at H
      have LMc5 := Aside0.mk c5
      clear c5
      obtain ⟨y148, hy148⟩ : ∃ y_ : List Int, y_ = (x3_1 ++ [x4_1]) := ⟨_, rfl⟩
      replace H : (impl_numbers.l0 k1 l0 y148 (wrap64 (x4_1 + 1))) = some r := by first | (rw [hy148]; with_reducible exact H) | (have H2_ := (Option.bind_some _ _).symm.trans H; rw [hy148]; with_reducible exact H2_) | (have H2_ := (Option.bind_some _ _).symm.trans H; with_reducible exact H2_) | with_reducible exact H | (rw [hy148]; exact H) | exact H
      have Ny148 := Aside0.mk hy148
      clear hy148
      have H' := Aside0.mk H
      clear H
      go_wp2_with (first | ((with_reducible refine gate_callee (f := 186) rfl ?_); refine goesA (some 11) Try.func186 #[.slice A0 l0.length c0, .int .i64 x4_1] ?_; (with_reducible refine (slices_Contains_int_int.calls k1 _ _ l0 x4_1 true _ ?side1 ?side2 A3.out).mono ?_); (case side1 => repeat (first | exact (Kd.C_below HR0.out HB.out) | (with_reducible refine Kd.C_alloc ?_ _) | (with_reducible refine Kd.C_drewN ?_ _) | (with_reducible refine Kd.C_drew ?_))); (case side2 => exact HC0.out); rintro e w' ⟨rfl, ⟨nd, rfl⟩⟩; refine ⟨_, rfl, ?_⟩) | ((with_reducible refine gate_builtin (b := .append) (xs := #[.tmp 12, .tmp 14]) rfl ?_); at_builtin; refine Kd.R_append (Kd.int .i64) (w0 := w) w.heap.size rfl (.tmp 12) (.tmp 14) 31 3 (.int .i64 0) 8 rfl Try.underlying31 info3 rfl (by decide) (by omega) u3 x3_1 x4_1 [.int .i64 x4_1] (fun _ => True) (fun _ => False) rfl rfl ?aP (fun _ hk => hk.elim) ?aF ?aO ?aB ?aS ?aL ?_; (case aP => exact rfl); (case aB => exact (atB HB)); (case aF => exact (fun _ _ => trivial)); (case aO => exact (atR HO_3)); (case aS => exact (szB HB)); (case aL => have := LMc5.out; omega); intro v149 w6 ho hb hg hat; rw [← Ny148.out] at ho; have HO150 := Aside0.mk (ho); replace HB := Aside0.mk (hb); clear HO_3; clear ho hb hg hat))
      go_roundg k1
      case measure => have := HK1.out; omega
      case rel => exact ⟨(y148), (wrap64 (x4_1 + 1)), (by first | rfl | (simp; done) | (simp [*]; done)), H', ⟨by have := HK1.out; omega⟩, ⟨atR HO150⟩, ⟨atB HB⟩⟩
     ·rw [if_neg c5] at H
      exact absurd H (by simp)
    ·replace c4 := Bool.eq_false_iff.mpr c4
     subst c4
     have H1 : (impl_numbers.l0 k1 l0 x3_1 (wrap64 (x4_1 + 1))) = some r := by rw [if_neg (show ¬ (false = true) by decide)] at H; exact H
     clear H
     have H := H1
     clear H1
     have H' := Aside0.mk H
     clear H
     go_wp2_with (first | ((with_reducible refine gate_callee (f := 186) rfl ?_); refine goesA (some 11) Try.func186 #[.slice A0 l0.length c0, .int .i64 x4_1] ?_; (with_reducible refine (slices_Contains_int_int.calls k1 _ _ l0 x4_1 false _ ?side1 ?side2 A3.out).mono ?_); (case side1 => repeat (first | exact (Kd.C_below HR0.out HB.out) | (with_reducible refine Kd.C_alloc ?_ _) | (with_reducible refine Kd.C_drewN ?_ _) | (with_reducible refine Kd.C_drew ?_))); (case side2 => exact HC0.out); rintro e w' ⟨rfl, ⟨nd, rfl⟩⟩; refine ⟨_, rfl, ?_⟩))
     go_roundg k1
     case measure => have := HK1.out; omega
     case rel => exact ⟨(x3_1), (wrap64 (x4_1 + 1)), (by first | rfl | (simp; done) | (simp [*]; done)), H', ⟨by have := HK1.out; omega⟩, ⟨atR HO_3⟩, ⟨atB HB⟩⟩
   ·rw [if_neg c2] at H
    have c2b0 : decide (x4_1 ≤ 20) = false := decide_eq_false c2
    clear c2
    obtain rfl := Option.some.inj H
    go_wp2
    go_ret
    exact ⟨_, by first | rfl | (simp [errW_none, errW_some] <;> rfl) | (simp [*, errW_none, errW_some] <;> rfl), atR HO_3, atB HB⟩

noncomputable def impl_numbers.L0 (x0 : List Int) (x3 : List Int) (x4 : Int) : Option (List Int) := lim fun k => impl_numbers.l0 k x0 x3 x4
theorem impl_numbers.L0_lim (x0 : List Int) (x3 : List Int) (x4 : Int) : Lim (fun k => impl_numbers.l0 k x0 x3 x4) (impl_numbers.L0 x0 x3 x4) := Lim.of fun k => (impl_numbers.mono_l k) x0 x3 x4
noncomputable def impl_numbers.F (l0 : List Int) : Option (List Int) := lim fun k => impl_numbers.f k l0
theorem impl_numbers.F_lim (l0 : List Int) : Lim (fun k => impl_numbers.f k l0) (impl_numbers.F l0) := Lim.of fun k => impl_numbers.mono l0 k
theorem impl_numbers.L0_eq (x0 : List Int) (x3 : List Int) (x4 : Int) : impl_numbers.L0 x0 x3 x4 = (if x4 ≤ 20 then ((slices_Contains_int_int.F x0 x4).bind fun t147 => (if t147 = true then (if x3.length < 17592186044416 then (impl_numbers.L0 x0 (x3 ++ [x4]) (wrap64 (x4 + 1))) else (none)) else (impl_numbers.L0 x0 x3 (wrap64 (x4 + 1))))) else (some x3)) :=
 Lim.step (f := fun k => impl_numbers.l0 (k + 1) x0 x3 x4) (impl_numbers.L0_lim x0 x3 x4) (fun _ => rfl) (by
  simp only [impl_numbers.l0]
  repeat' (first | (with_reducible first | exact Lim.const _ | exact impl_numbers.L0_lim _ _ _ | exact slices_Contains_int_int.F_lim _ _ | refine Lim.ite ?_ ?_ | refine Lim.bind ?_ (fun _ => ?_))))
theorem impl_numbers.F_eq (l0 : List Int) : impl_numbers.F l0 = (impl_numbers.L0 l0 ([] : List Int) 1) :=
 Lim.unique (impl_numbers.F_lim l0) (by
  unfold impl_numbers.f
  repeat' (first | (with_reducible first | exact Lim.const _ | exact impl_numbers.L0_lim _ _ _ | refine Lim.ite ?_ ?_ | refine Lim.bind ?_ (fun _ => ?_))))

end Go.Proofs.Ytaohgllnoomaeaa.Fn
namespace Go.Proofs.Ytaohgllnoomaeaa.Fn
open Go.RowKit Go.Proofs.YtaohgllnoomaeaaW.PrintWords Go.Proofs.YtaohgllnoomaeaaW.PrintLast Go.Proofs.YtaohgllnoomaeaaW.PrintMore
attribute [local go_sem] max2_int min2_int max_two min_two max_three min_three max_four min_four   -- for this text's walks alone
set_option linter.unusedVariables false
set_option linter.unusedSimpArgs false

/-! ### impl_holes: function 182 -/
def impl_holes.l0 : Nat → List Int → List Int → Int → Int → Option (List Int)
 | 0, _, _, _, _ => none
 | k + 1, x3, x6, x7, x8 => if x8 < x7 then (if 0 ≤ x8 then (if x8 < (x6.length : Int) then (if (rd x6 x8) = 0 then (if x3.length < 17592186044416 then (impl_holes.l0 k (x3 ++ [x8]) x6 x7 (wrap64 (x8 + 1))) else (none)) else (impl_holes.l0 k x3 x6 x7 (wrap64 (x8 + 1)))) else (none)) else (none)) else (some x3)
def impl_holes.f (k : Nat) (l0 : List Int) : Option (List Int) := impl_holes.l0 k ([] : List Int) l0 (l0.length : Int) 0
theorem impl_holes.mono_l : ∀ k, (∀ y0 y1 y2 y3, LeO (impl_holes.l0 k y0 y1 y2 y3) (impl_holes.l0 (k + 1) y0 y1 y2 y3))
 | 0 => fun _ _ _ _ r h => by simp [impl_holes.l0] at h
 | k + 1 => by
  have ih0 := impl_holes.mono_l k
  ·intro y0 y1 y2 y3
   unfold impl_holes.l0
   repeat' (first | (with_reducible first | exact ih0 _ _ _ _ | exact LeO.refl _ | exact LeO.none _ | refine LeO.ite ?_ ?_ | refine LeO.bind ?_ (fun _ => ?_)) | exact ih0 _ _ _ _ | exact LeO.none _ | refine LeO.ite ?_ ?_ | refine LeO.bind ?_ (fun _ => ?_))
theorem impl_holes.mono : ∀ a0 k, LeO (impl_holes.f k a0) (impl_holes.f (k + 1) a0) := by
 intro a0 k
 have ih0 := impl_holes.mono_l k
 unfold impl_holes.f
 repeat' (first | (with_reducible first | exact ih0 _ _ _ _ | exact LeO.refl _ | exact LeO.none _ | refine LeO.ite ?_ ?_ | refine LeO.bind ?_ (fun _ => ?_)) | exact ih0 _ _ _ _ | exact LeO.none _ | refine LeO.ite ?_ ?_ | refine LeO.bind ?_ (fun _ => ?_))
set_option maxHeartbeats 8000000 in
set_option maxRecDepth 100000 in
theorem impl_holes.calls (k : Nat) (A0 : Option Addr) (c0 : Nat) (l0 : List Int) (r : List Int) (w : World) (hr0 : Kd.C (Kd.int .i64) w A0 l0.length l0) (hc0 : l0.length ≤ c0) (h : impl_holes.f k l0 = some r) :
  Calls Try.prog 182 #[.slice A0 l0.length c0] w fun e w' => ∃ v0_ : Value, e = .returned (v0_) ∧ Kd.R (Kd.int .i64) 3 w' w.heap.size (fun _ => True) v0_ r ∧ Below w.heap.size w w' := by
 have HR0 := Aside0.mk hr0
 have HC0 := Aside0.mk hc0
 clear hr0 hc0
 have HB := Aside0.mk (Below.refl w.heap.size w)
 have H : (impl_holes.l0 k ([] : List Int) l0 (l0.length : Int) 0) = some r := h
 clear h
 have H' := Aside0.mk H
 clear H
 go_enter Try.func182, Try.ntmps182
 go_wp2
 go_loopg [3, 8] k (fun kq v3 v8 w' => ∃ (x3_1 : List Int) (x8_1 : Int), v8 = .int .i64 x8_1 ∧ Aside0 (impl_holes.l0 kq x3_1 l0 (l0.length : Int) x8_1 = some r) ∧ Aside0 (kq ≤ k) ∧ Aside0 (Kd.R (Kd.int .i64) 3 w' w.heap.size (fun _ => True) v3 x3_1) ∧ Aside0 (Below w.heap.size w w'))
 case atStart => exact ⟨(([] : List Int)), (0), (by first | rfl | (simp; done) | (simp [*]; done)), H', ⟨Nat.le_refl _⟩, ⟨by first | exact Kd.R_nil _ _ _ _ _ | exact Kd.N_nil _ _ _ _ _ | exact Kd.V_nil _ _ _ _ _ | exact Kd.Q_nil _ _ _ _ _ | exact Kd.S_nil _ _ _ _ _⟩, ⟨atB HB⟩⟩
 case round =>
  clear H'
  try clear c1
  obtain ⟨x3_1, x8_1, rfl, HA, HK1, HO_3, HB⟩ := hrel
  cases gk with
  | zero => exact absurd HA.out (by simp [impl_holes.l0])
  | succ k1 =>
   have H := HA.out
   clear HA
   simp only [impl_holes.l0] at H
   by_cases c2 : x8_1 < (l0.length : Int)
   ·rw [if_pos c2] at H
    have c2b0 : decide (x8_1 < (l0.length : Int)) = true := decide_eq_true c2
    clear c2
    by_cases c3 : 0 ≤ x8_1
    ·rw [if_pos c3] at H
     have c3b0 : decide (0 ≤ x8_1) = true := decide_eq_true c3
     clear c3
     by_cases c4 : x8_1 < (l0.length : Int)
     ·rw [if_pos c4] at H
      have c4b0 : decide (x8_1 < (l0.length : Int)) = true := decide_eq_true c4
      clear c4
      by_cases c5 : (rd l0 x8_1) = 0
      ·rw [if_pos c5] at H
       have c5b0 : ((rd l0 x8_1) == 0) = true := beq_iff_eq.mpr c5
       have c5b1 : ((rd l0 x8_1) != 0) = false := bne_eq_false_iff_eq.mpr c5
       clear c5
       by_cases c6 : x3_1.length < 17592186044416
       ·rw [if_pos c6] at H
        have LMc6 := Aside0.mk c6
        clear c6
        obtain ⟨y152, hy152⟩ : ∃ y_ : List Int, y_ = (x3_1 ++ [x8_1]) := ⟨_, rfl⟩
        replace H : (impl_holes.l0 k1 y152 l0 (l0.length : Int) (wrap64 (x8_1 + 1))) = some r := by first | (rw [hy152]; with_reducible exact H) | (have H2_ := (Option.bind_some _ _).symm.trans H; rw [hy152]; with_reducible exact H2_) | (have H2_ := (Option.bind_some _ _).symm.trans H; with_reducible exact H2_) | with_reducible exact H | (rw [hy152]; exact H) | exact H
        have Ny152 := Aside0.mk hy152
        clear hy152
        have H' := Aside0.mk H
        clear H
        have p151 : 0 ≤ (x8_1 : Int) := ofd
        have q151 : x8_1 < (l0.length : Int) := ofd
        obtain ⟨ad151, e151, hx151_0⟩ := Kd.at_int HR0.out x8_1 p151 q151
        cases e151
        replace hx151_0 := (HB.out.cell (World.block_lt_of_cell? w _ hx151_0)).trans hx151_0
        replace p151 := eq_true p151
        replace q151 := eq_true q151
        go_wp2_with (first | ((with_reducible refine gate_builtin (b := .append) (xs := #[.tmp 15, .tmp 17]) rfl ?_); at_builtin; refine Kd.R_append (Kd.int .i64) (w0 := w) w.heap.size rfl (.tmp 15) (.tmp 17) 31 3 (.int .i64 0) 8 rfl Try.underlying31 info3 rfl (by decide) (by omega) u3 x3_1 x8_1 [.int .i64 x8_1] (fun _ => True) (fun _ => False) rfl rfl ?aP (fun _ hk => hk.elim) ?aF ?aO ?aB ?aS ?aL ?_; (case aP => exact rfl); (case aB => exact (atB HB)); (case aF => exact (fun _ _ => trivial)); (case aO => exact (atR HO_3)); (case aS => exact (szB HB)); (case aL => have := LMc6.out; omega); intro v153 w7 ho hb hg hat; rw [← Ny152.out] at ho; have HO154 := Aside0.mk (ho); replace HB := Aside0.mk (hb); clear HO_3; clear ho hb hg hat))
        go_roundg k1
        case measure => have := HK1.out; omega
        case rel => exact ⟨(y152), (wrap64 (x8_1 + 1)), (by first | rfl | (simp; done) | (simp [*]; done)), H', ⟨by have := HK1.out; omega⟩, ⟨atR HO154⟩, ⟨atB HB⟩⟩
       ·rw [if_neg c6] at H
        exact absurd H (by simp)
      ·rw [if_neg c5] at H
       have c5b0 : ((rd l0 x8_1) == 0) = false := beq_eq_false_iff_ne.mpr c5
       have c5b1 : ((rd l0 x8_1) != 0) = true := bne_iff_ne.mpr c5
       have H' := Aside0.mk H
       clear H
       have p151 : 0 ≤ (x8_1 : Int) := ofd
       have q151 : x8_1 < (l0.length : Int) := ofd
       obtain ⟨ad151, e151, hx151_0⟩ := Kd.at_int HR0.out x8_1 p151 q151
       cases e151
       replace hx151_0 := (HB.out.cell (World.block_lt_of_cell? w _ hx151_0)).trans hx151_0
       replace p151 := eq_true p151
       replace q151 := eq_true q151
       go_wp2
       go_roundg k1
       case measure => have := HK1.out; omega
       case rel => exact ⟨(x3_1), (wrap64 (x8_1 + 1)), (by first | rfl | (simp; done) | (simp [*]; done)), H', ⟨by have := HK1.out; omega⟩, ⟨atR HO_3⟩, ⟨atB HB⟩⟩
     ·rw [if_neg c4] at H
      exact absurd H (by simp)
    ·rw [if_neg c3] at H
     exact absurd H (by simp)
   ·rw [if_neg c2] at H
    have c2b0 : decide (x8_1 < (l0.length : Int)) = false := decide_eq_false c2
    clear c2
    obtain rfl := Option.some.inj H
    go_wp2
    go_ret
    exact ⟨_, by first | rfl | (simp [errW_none, errW_some] <;> rfl) | (simp [*, errW_none, errW_some] <;> rfl), atR HO_3, atB HB⟩

noncomputable def impl_holes.L0 (x3 : List Int) (x6 : List Int) (x7 : Int) (x8 : Int) : Option (List Int) := lim fun k => impl_holes.l0 k x3 x6 x7 x8
theorem impl_holes.L0_lim (x3 : List Int) (x6 : List Int) (x7 : Int) (x8 : Int) : Lim (fun k => impl_holes.l0 k x3 x6 x7 x8) (impl_holes.L0 x3 x6 x7 x8) := Lim.of fun k => (impl_holes.mono_l k) x3 x6 x7 x8
noncomputable def impl_holes.F (l0 : List Int) : Option (List Int) := lim fun k => impl_holes.f k l0
theorem impl_holes.F_lim (l0 : List Int) : Lim (fun k => impl_holes.f k l0) (impl_holes.F l0) := Lim.of fun k => impl_holes.mono l0 k
theorem impl_holes.L0_eq (x3 : List Int) (x6 : List Int) (x7 : Int) (x8 : Int) : impl_holes.L0 x3 x6 x7 x8 = (if x8 < x7 then (if 0 ≤ x8 then (if x8 < (x6.length : Int) then (if (rd x6 x8) = 0 then (if x3.length < 17592186044416 then (impl_holes.L0 (x3 ++ [x8]) x6 x7 (wrap64 (x8 + 1))) else (none)) else (impl_holes.L0 x3 x6 x7 (wrap64 (x8 + 1)))) else (none)) else (none)) else (some x3)) :=
 Lim.step (f := fun k => impl_holes.l0 (k + 1) x3 x6 x7 x8) (impl_holes.L0_lim x3 x6 x7 x8) (fun _ => rfl) (by
  simp only [impl_holes.l0]
  repeat' (first | (with_reducible first | exact Lim.const _ | exact impl_holes.L0_lim _ _ _ _ | refine Lim.ite ?_ ?_ | refine Lim.bind ?_ (fun _ => ?_))))
theorem impl_holes.F_eq (l0 : List Int) : impl_holes.F l0 = (impl_holes.L0 ([] : List Int) l0 (l0.length : Int) 0) :=
 Lim.unique (impl_holes.F_lim l0) (by
  unfold impl_holes.f
  repeat' (first | (with_reducible first | exact Lim.const _ | exact impl_holes.L0_lim _ _ _ _ | refine Lim.ite ?_ ?_ | refine Lim.bind ?_ (fun _ => ?_))))

end Go.Proofs.Ytaohgllnoomaeaa.Fn
namespace Go.Proofs.Ytaohgllnoomaeaa.Fn
open Go.RowKit Go.Proofs.YtaohgllnoomaeaaW.PrintWords Go.Proofs.YtaohgllnoomaeaaW.PrintLast Go.Proofs.YtaohgllnoomaeaaW.PrintMore
attribute [local go_sem] max2_int min2_int max_two min_two max_three min_three max_four min_four   -- for this text's walks alone
set_option linter.unusedVariables false
set_option linter.unusedSimpArgs false

/-! ### impl_isFrom: function 241 -/
def impl_isFrom.l0 : Nat → Int → List Int → List Int → Int → Int → Option (Int × Bool)
 | 0, _, _, _, _, _ => none
 | k + 1, x1, x6, x11, x12, x13 => if x13 < x12 then (if 0 ≤ x13 then (if x13 < (x11.length : Int) then (if (rd x11 x13) = (wrap64 (x1 + x13)) then (impl_isFrom.l0 k x1 x6 x11 x12 (wrap64 (x13 + 1))) else (some (0, false))) else (none)) else (none)) else (some ((x6.length : Int), decide ((x6.length : Int) > 0)))
def impl_isFrom.f (k : Nat) (l0 : List Int) (a1 : Int) : Option (Int × Bool) := (impl_numbers.f k l0).bind fun t155 => (impl_isFrom.l0 k a1 t155 t155 (t155.length : Int) 0)
theorem impl_isFrom.mono_l : ∀ k, (∀ y0 y1 y2 y3 y4, LeO (impl_isFrom.l0 k y0 y1 y2 y3 y4) (impl_isFrom.l0 (k + 1) y0 y1 y2 y3 y4))
 | 0 => fun _ _ _ _ _ r h => by simp [impl_isFrom.l0] at h
 | k + 1 => by
  have ih0 := impl_isFrom.mono_l k
  ·intro y0 y1 y2 y3 y4
   unfold impl_isFrom.l0
   repeat' (first | (with_reducible first | exact ih0 _ _ _ _ _ | exact LeO.refl _ | exact LeO.none _ | refine LeO.ite ?_ ?_ | refine LeO.bind ?_ (fun _ => ?_)) | exact ih0 _ _ _ _ _ | exact LeO.none _ | refine LeO.ite ?_ ?_ | refine LeO.bind ?_ (fun _ => ?_))
theorem impl_isFrom.mono : ∀ a0 a1 k, LeO (impl_isFrom.f k a0 a1) (impl_isFrom.f (k + 1) a0 a1) := by
 intro a0 a1 k
 have ih0 := impl_isFrom.mono_l k
 unfold impl_isFrom.f
 repeat' (first | (with_reducible first | exact ih0 _ _ _ _ _ | exact impl_numbers.mono _ _ | exact LeO.refl _ | exact LeO.none _ | refine LeO.ite ?_ ?_ | refine LeO.bind ?_ (fun _ => ?_)) | exact ih0 _ _ _ _ _ | exact impl_numbers.mono _ _ | exact LeO.none _ | refine LeO.ite ?_ ?_ | refine LeO.bind ?_ (fun _ => ?_))
set_option maxHeartbeats 8000000 in
set_option maxRecDepth 100000 in
theorem impl_isFrom.calls (k : Nat) (A0 : Option Addr) (c0 : Nat) (l0 : List Int) (a1 : Int) (r1 : Int) (r2 : Bool) (w : World) (hr0 : Kd.C (Kd.int .i64) w A0 l0.length l0) (hc0 : l0.length ≤ c0) (h : impl_isFrom.f k l0 a1 = some (r1, r2)) :
  Calls Try.prog 241 #[.slice A0 l0.length c0, .int .i64 a1] w fun e w' => e = .returned (.tuple #[.int .i64 r1, .bool r2]) ∧ Below w.heap.size w w' := by
 have HR0 := Aside0.mk hr0
 have HC0 := Aside0.mk hc0
 clear hr0 hc0
 have HB := Aside0.mk (Below.refl w.heap.size w)
 have H : ((impl_numbers.f k l0).bind fun t155 => (impl_isFrom.l0 k a1 t155 t155 (t155.length : Int) 0)) = some (r1, r2) := h
 clear h
 replace H := Option.bind_eq_some_iff.mp H
 obtain ⟨t155, A30, H⟩ := H
 replace H : (impl_isFrom.l0 k a1 t155 t155 (t155.length : Int) 0) = some (r1, r2) := H
 have A3 := Aside0.mk A30
 clear A30
 have H' := Aside0.mk H
 clear H
 go_enter Try.func241, Try.ntmps241
 go_wp2_with (first | ((with_reducible refine gate_callee (f := 176) rfl ?_); refine goesA (some 10) Try.func176 #[.slice A0 l0.length c0] ?_; (with_reducible refine (impl_numbers.calls k _ _ l0 t155 _ ?side1 ?side2 A3.out).mono ?_); (case side1 => repeat (first | exact HR0.out | (with_reducible refine Kd.C_alloc ?_ _) | (with_reducible refine Kd.C_drewN ?_ _) | (with_reducible refine Kd.C_drew ?_))); (case side2 => exact HC0.out); rintro e w4 ⟨v156, rfl, ho0, hb⟩; refine ⟨_, rfl, ?_⟩; have HO157 := lowR ho0 HB; replace HB := upB HB hb; (try clear hb); (try clear hb2); (try clear hk); (try clear hi); (try clear ho0); obtain ⟨Ao5, co5, eo5⟩ := Kd.R_slice HO157.out; subst eo5))
 go_loopg [13] k (fun kq v13 w' => ∃ (x13_1 : Int), v13 = .int .i64 x13_1 ∧ Aside0 (impl_isFrom.l0 kq a1 t155 t155 (t155.length : Int) x13_1 = some (r1, r2)) ∧ Aside0 (kq ≤ k) ∧ Aside0 (Kd.R (Kd.int .i64) 3 w' w.heap.size (fun _ => True) (.slice Ao5 t155.length co5) t155) ∧ Aside0 (Kd.R (Kd.int .i64) 3 w' w.heap.size (fun _ => True) (.slice Ao5 t155.length co5) t155) ∧ Aside0 (Below w.heap.size w w'))
 case atStart => exact ⟨(0), (by first | rfl | (simp; done) | (simp [*]; done)), H', ⟨Nat.le_refl _⟩, ⟨atR HO157⟩, ⟨atR HO157⟩, ⟨atB HB⟩⟩
 case round =>
  clear H'
  try clear c1
  try clear c2
  try clear p2
  obtain ⟨x13_1, rfl, HA, HK1, HO_6, HO_11, HB⟩ := hrel
  cases gk with
  | zero => exact absurd HA.out (by simp [impl_isFrom.l0])
  | succ k1 =>
   have H := HA.out
   clear HA
   simp only [impl_isFrom.l0] at H
   by_cases c6 : x13_1 < (t155.length : Int)
   ·rw [if_pos c6] at H
    have c6b0 : decide (x13_1 < (t155.length : Int)) = true := decide_eq_true c6
    clear c6
    by_cases c7 : 0 ≤ x13_1
    ·rw [if_pos c7] at H
     have c7b0 : decide (0 ≤ x13_1) = true := decide_eq_true c7
     clear c7
     by_cases c8 : x13_1 < (t155.length : Int)
     ·rw [if_pos c8] at H
      have c8b0 : decide (x13_1 < (t155.length : Int)) = true := decide_eq_true c8
      clear c8
      by_cases c9 : (rd t155 x13_1) = (wrap64 (a1 + x13_1))
      ·rw [if_pos c9] at H
       have c9b0 : ((rd t155 x13_1) == (wrap64 (a1 + x13_1))) = true := beq_iff_eq.mpr c9
       have c9b1 : ((rd t155 x13_1) != (wrap64 (a1 + x13_1))) = false := bne_eq_false_iff_eq.mpr c9
       clear c9
       have H' := Aside0.mk H
       clear H
       have p158 : 0 ≤ (x13_1 : Int) := ofd
       have q158 : x13_1 < (t155.length : Int) := ofd
       obtain ⟨ad158, e158, hx158_0⟩ := Kd.at_int (Kd.R_reads' HO_11.out).2.2 x13_1 p158 q158
       cases e158
       replace p158 := eq_true p158
       replace q158 := eq_true q158
       go_wp2
       go_roundg k1
       case measure => have := HK1.out; omega
       case rel => exact ⟨(wrap64 (x13_1 + 1)), (by first | rfl | (simp; done) | (simp [*]; done)), H', ⟨by have := HK1.out; omega⟩, ⟨atR HO_6⟩, ⟨atR HO_11⟩, ⟨atB HB⟩⟩
      ·rw [if_neg c9] at H
       have c9b0 : ((rd t155 x13_1) == (wrap64 (a1 + x13_1))) = false := beq_eq_false_iff_ne.mpr c9
       have c9b1 : ((rd t155 x13_1) != (wrap64 (a1 + x13_1))) = true := bne_iff_ne.mpr c9
       simp only [Option.some.injEq, Prod.mk.injEq] at H
       obtain ⟨rfl, rfl⟩ := H
       have p158 : 0 ≤ (x13_1 : Int) := ofd
       have q158 : x13_1 < (t155.length : Int) := ofd
       obtain ⟨ad158, e158, hx158_0⟩ := Kd.at_int (Kd.R_reads' HO_11.out).2.2 x13_1 p158 q158
       cases e158
       replace p158 := eq_true p158
       replace q158 := eq_true q158
       go_wp2
       go_ret2
       exact ⟨by first | rfl | (simp [errW_none, errW_some] <;> rfl) | (simp [*, errW_none, errW_some] <;> rfl), atB HB⟩
     ·rw [if_neg c8] at H
      exact absurd H (by simp)
    ·rw [if_neg c7] at H
     exact absurd H (by simp)
   ·rw [if_neg c6] at H
    have c6b0 : decide (x13_1 < (t155.length : Int)) = false := decide_eq_false c6
    clear c6
    simp only [Option.some.injEq, Prod.mk.injEq] at H
    obtain ⟨rfl, rfl⟩ := H
    go_wp2
    go_ret2
    exact ⟨by first | rfl | (simp [errW_none, errW_some] <;> rfl) | (simp [*, errW_none, errW_some] <;> rfl), atB HB⟩

noncomputable def impl_isFrom.L0 (x1 : Int) (x6 : List Int) (x11 : List Int) (x12 : Int) (x13 : Int) : Option (Int × Bool) := lim fun k => impl_isFrom.l0 k x1 x6 x11 x12 x13
theorem impl_isFrom.L0_lim (x1 : Int) (x6 : List Int) (x11 : List Int) (x12 : Int) (x13 : Int) : Lim (fun k => impl_isFrom.l0 k x1 x6 x11 x12 x13) (impl_isFrom.L0 x1 x6 x11 x12 x13) := Lim.of fun k => (impl_isFrom.mono_l k) x1 x6 x11 x12 x13
noncomputable def impl_isFrom.F (l0 : List Int) (a1 : Int) : Option (Int × Bool) := lim fun k => impl_isFrom.f k l0 a1
theorem impl_isFrom.F_lim (l0 : List Int) (a1 : Int) : Lim (fun k => impl_isFrom.f k l0 a1) (impl_isFrom.F l0 a1) := Lim.of fun k => impl_isFrom.mono l0 a1 k
theorem impl_isFrom.L0_eq (x1 : Int) (x6 : List Int) (x11 : List Int) (x12 : Int) (x13 : Int) : impl_isFrom.L0 x1 x6 x11 x12 x13 = (if x13 < x12 then (if 0 ≤ x13 then (if x13 < (x11.length : Int) then (if (rd x11 x13) = (wrap64 (x1 + x13)) then (impl_isFrom.L0 x1 x6 x11 x12 (wrap64 (x13 + 1))) else (some (0, false))) else (none)) else (none)) else (some ((x6.length : Int), decide ((x6.length : Int) > 0)))) :=
 Lim.step (f := fun k => impl_isFrom.l0 (k + 1) x1 x6 x11 x12 x13) (impl_isFrom.L0_lim x1 x6 x11 x12 x13) (fun _ => rfl) (by
  simp only [impl_isFrom.l0]
  repeat' (first | (with_reducible first | exact Lim.const _ | exact impl_isFrom.L0_lim _ _ _ _ _ | refine Lim.ite ?_ ?_ | refine Lim.bind ?_ (fun _ => ?_))))
theorem impl_isFrom.F_eq (l0 : List Int) (a1 : Int) : impl_isFrom.F l0 a1 = ((impl_numbers.F l0).bind fun t155 => (impl_isFrom.L0 a1 t155 t155 (t155.length : Int) 0)) :=
 Lim.unique (impl_isFrom.F_lim l0 a1) (by
  unfold impl_isFrom.f
  repeat' (first | (with_reducible first | exact Lim.const _ | exact impl_isFrom.L0_lim _ _ _ _ _ | exact impl_numbers.F_lim _ | refine Lim.ite ?_ ?_ | refine Lim.bind ?_ (fun _ => ?_))))

end Go.Proofs.Ytaohgllnoomaeaa.Fn
namespace Go.Proofs.Ytaohgllnoomaeaa.Fn
open Go.RowKit Go.Proofs.YtaohgllnoomaeaaW.PrintWords Go.Proofs.YtaohgllnoomaeaaW.PrintLast Go.Proofs.YtaohgllnoomaeaaW.PrintMore
attribute [local go_sem] max2_int min2_int max_two min_two max_three min_three max_four min_four   -- for this text's walks alone
set_option linter.unusedVariables false
set_option linter.unusedSimpArgs false

/-! ### impl_langford: function 155 -/
def impl_langford.j0 : Nat → List Int → Bool → Option (Int)
 | 0, _, _ => none
 | k + 1, x0, x19 => if x19 = true then (some 0) else ((impl_numbers.f k x0).bind fun t163 => (if 0 < (t163.length : Int) then ((impl_isFrom.f k x0 (rd t163 0)).bind fun bt167 => (if bt167.2 = true then (some (rd t163 0)) else (some 0))) else (none)))
def impl_langford.f (k : Nat) (l0 : List Int) : Option (Int) := (impl_fits.f k l0 1).bind fun t159 => (if t159 = true then (if (l0.length : Int) = 0 then (impl_langford.j0 k l0 true) else ((impl_holes.f k l0).bind fun t160 => (impl_langford.j0 k l0 (decide ((t160.length : Int) > 0))))) else (impl_langford.j0 k l0 true))
theorem impl_langford.mono_l : ∀ k, (∀ y0 y1, LeO (impl_langford.j0 k y0 y1) (impl_langford.j0 (k + 1) y0 y1))
 | 0 => fun _ _ r h => by simp [impl_langford.j0] at h
 | k + 1 => by
  have ih0 := impl_langford.mono_l k
  ·intro y0 y1
   unfold impl_langford.j0
   repeat' (first | (with_reducible first | exact impl_isFrom.mono _ _ _ | exact impl_numbers.mono _ _ | exact LeO.refl _ | exact LeO.none _ | refine LeO.ite ?_ ?_ | refine LeO.bind ?_ (fun _ => ?_)) | exact impl_isFrom.mono _ _ _ | exact impl_numbers.mono _ _ | exact LeO.none _ | refine LeO.ite ?_ ?_ | refine LeO.bind ?_ (fun _ => ?_))
theorem impl_langford.mono : ∀ a0 k, LeO (impl_langford.f k a0) (impl_langford.f (k + 1) a0) := by
 intro a0 k
 have ih0 := impl_langford.mono_l k
 unfold impl_langford.f
 repeat' (first | (with_reducible first | exact ih0 _ _ | exact impl_fits.mono _ _ _ | exact impl_holes.mono _ _ | exact LeO.refl _ | exact LeO.none _ | refine LeO.ite ?_ ?_ | refine LeO.bind ?_ (fun _ => ?_)) | exact ih0 _ _ | exact impl_fits.mono _ _ _ | exact impl_holes.mono _ _ | exact LeO.none _ | refine LeO.ite ?_ ?_ | refine LeO.bind ?_ (fun _ => ?_))
set_option maxHeartbeats 8000000 in
set_option maxRecDepth 100000 in
theorem impl_langford.calls (k : Nat) (A0 : Option Addr) (c0 : Nat) (l0 : List Int) (r : Int) (w : World) (hr0 : Kd.C (Kd.int .i64) w A0 l0.length l0) (hc0 : l0.length ≤ c0) (h : impl_langford.f k l0 = some r) :
  Calls Try.prog 155 #[.slice A0 l0.length c0] w fun e w' => e = .returned (.int .i64 r) ∧ Below w.heap.size w w' := by
 have HR0 := Aside0.mk hr0
 have HC0 := Aside0.mk hc0
 clear hr0 hc0
 have HB := Aside0.mk (Below.refl w.heap.size w)
 have H : ((impl_fits.f k l0 1).bind fun t159 => (if t159 = true then (if (l0.length : Int) = 0 then (impl_langford.j0 k l0 true) else ((impl_holes.f k l0).bind fun t160 => (impl_langford.j0 k l0 (decide ((t160.length : Int) > 0))))) else (impl_langford.j0 k l0 true))) = some r := h
 clear h
 have HC2 := Aside0.mk H
 clear H
 go_enter Try.func155, Try.ntmps155
 go_upto_region 1 with (fail)
 go_cut [19] (fun v19 wc => ∃ (kq : Nat) (x19_1 : Bool), v19 = .bool x19_1 ∧ Aside0 (impl_langford.j0 kq l0 x19_1 = some r) ∧ Aside0 (kq ≤ k) ∧ Aside0 (Below w.heap.size w wc))
 case first =>
  have H := HC2.out
  clear HC2
  replace H := Option.bind_eq_some_iff.mp H
  obtain ⟨t159, A30, H⟩ := H
  replace H : (if t159 = true then (if (l0.length : Int) = 0 then (impl_langford.j0 k l0 true) else ((impl_holes.f k l0).bind fun t160 => (impl_langford.j0 k l0 (decide ((t160.length : Int) > 0))))) else (impl_langford.j0 k l0 true)) = some r := H
  have A3 := Aside0.mk A30
  clear A30
  by_cases c4 : t159 = true
  ·subst c4
   have H1 : (if (l0.length : Int) = 0 then (impl_langford.j0 k l0 true) else ((impl_holes.f k l0).bind fun t160 => (impl_langford.j0 k l0 (decide ((t160.length : Int) > 0))))) = some r := by rw [if_pos rfl] at H; exact H
   clear H
   have H := H1
   clear H1
   by_cases c5 : (l0.length : Int) = 0
   ·rw [if_pos c5] at H
    have c5b0 : ((l0.length : Int) == 0) = true := beq_iff_eq.mpr c5
    have c5b1 : ((l0.length : Int) != 0) = false := bne_eq_false_iff_eq.mpr c5
    clear c5
    (first | rw [c5b0] | (simp only [i64_w, i32_w]; rw [c5b0]) | skip)
    have H' := Aside0.mk H
    clear H
    go_wp2_with (first | ((with_reducible refine gate_callee (f := 158) rfl ?_); refine goesA (some 7) Try.func158 #[.slice A0 l0.length c0, .int .i64 1] ?_; (with_reducible refine (impl_fits.calls k _ _ l0 1 true _ ?side1 ?side2 A3.out).mono ?_); (case side1 => repeat (first | exact (Kd.C_below HR0.out HB.out) | (with_reducible refine Kd.C_alloc ?_ _) | (with_reducible refine Kd.C_drewN ?_ _) | (with_reducible refine Kd.C_drew ?_))); (case side2 => exact HC0.out); rintro e w6 ⟨rfl, hb⟩; refine ⟨_, rfl, ?_⟩; replace HB := upB HB hb; (try clear hb); (try clear hb2); (try clear hk); (try clear hi)))
    go_meet
    case rel => exact ⟨_, (true), (by first | rfl | (simp; done) | (simp [*]; done)), H', ⟨by first | omega | exact Nat.le_refl _⟩, ⟨atB HB⟩⟩
   ·rw [if_neg c5] at H
    have c5b0 : ((l0.length : Int) == 0) = false := beq_eq_false_iff_ne.mpr c5
    have c5b1 : ((l0.length : Int) != 0) = true := bne_iff_ne.mpr c5
    have c5b2 : ¬ (l0 = []) := fun h_ => c5 (by rw [h_]; rfl)
    (first | rw [c5b0] | (simp only [i64_w, i32_w]; rw [c5b0]) | skip)
    replace H := Option.bind_eq_some_iff.mp H
    obtain ⟨t160, A70, H⟩ := H
    replace H : (impl_langford.j0 k l0 (decide ((t160.length : Int) > 0))) = some r := H
    have A7 := Aside0.mk A70
    clear A70
    have H' := Aside0.mk H
    clear H
    go_wp2_with (first | ((with_reducible refine gate_callee (f := 158) rfl ?_); refine goesA (some 7) Try.func158 #[.slice A0 l0.length c0, .int .i64 1] ?_; (with_reducible refine (impl_fits.calls k _ _ l0 1 true _ ?side1 ?side2 A3.out).mono ?_); (case side1 => repeat (first | exact (Kd.C_below HR0.out HB.out) | (with_reducible refine Kd.C_alloc ?_ _) | (with_reducible refine Kd.C_drewN ?_ _) | (with_reducible refine Kd.C_drew ?_))); (case side2 => exact HC0.out); rintro e w8 ⟨rfl, hb⟩; refine ⟨_, rfl, ?_⟩; replace HB := upB HB hb; (try clear hb); (try clear hb2); (try clear hk); (try clear hi)) | (go_at_call 182; (with_reducible refine (impl_holes.calls k _ _ l0 t160 _ ?side1 ?side2 A7.out).mono ?_); (case side1 => repeat (first | exact (Kd.C_below HR0.out HB.out) | (with_reducible refine Kd.C_alloc ?_ _) | (with_reducible refine Kd.C_drewN ?_ _) | (with_reducible refine Kd.C_drew ?_))); (case side2 => exact HC0.out); rintro e w9 ⟨v161, rfl, ho0, hb⟩; have HO162 := lowR ho0 HB; replace HB := upB HB hb; (try clear hb); (try clear hb2); (try clear hk); (try clear hi); (try clear ho0); obtain ⟨Ao10, co10, eo10⟩ := Kd.R_slice HO162.out; subst eo10))
    go_meet
    case rel => exact ⟨_, (decide ((t160.length : Int) > 0)), (by first | rfl | (simp; done) | (simp [*]; done)), H', ⟨by first | omega | exact Nat.le_refl _⟩, ⟨atB HB⟩⟩
  ·replace c4 := Bool.eq_false_iff.mpr c4
   subst c4
   have H1 : (impl_langford.j0 k l0 true) = some r := by rw [if_neg (show ¬ (false = true) by decide)] at H; exact H
   clear H
   have H := H1
   clear H1
   have H' := Aside0.mk H
   clear H
   go_wp2_with (first | ((with_reducible refine gate_callee (f := 158) rfl ?_); refine goesA (some 7) Try.func158 #[.slice A0 l0.length c0, .int .i64 1] ?_; (with_reducible refine (impl_fits.calls k _ _ l0 1 false _ ?side1 ?side2 A3.out).mono ?_); (case side1 => repeat (first | exact (Kd.C_below HR0.out HB.out) | (with_reducible refine Kd.C_alloc ?_ _) | (with_reducible refine Kd.C_drewN ?_ _) | (with_reducible refine Kd.C_drew ?_))); (case side2 => exact HC0.out); rintro e w11 ⟨rfl, hb⟩; refine ⟨_, rfl, ?_⟩; replace HB := upB HB hb; (try clear hb); (try clear hb2); (try clear hk); (try clear hi)))
   go_meet
   case rel => exact ⟨_, (true), (by first | rfl | (simp; done) | (simp [*]; done)), H', ⟨by first | omega | exact Nat.le_refl _⟩, ⟨atB HB⟩⟩
 case rest =>
  clear HC2
  try clear c1
  try clear p2
  try clear c4
  try clear c5
  try clear c5b0
  try clear c5b1
  try clear c5b2
  obtain ⟨kq, x19_1, rfl, HA, HJ1, HB⟩ := hcut
  cases kq with
  | zero => exact absurd HA.out (by simp [impl_langford.j0])
  | succ kj1 =>
   have H := HA.out
   clear HA
   simp only [impl_langford.j0] at H
   by_cases c12 : x19_1 = true
   ·subst c12
    have H1 : (some 0) = some r := by rw [if_pos rfl] at H; exact H
    clear H
    have H := H1
    clear H1
    obtain rfl := Option.some.inj H
    go_wp2
    go_ret
    exact ⟨by first | rfl | (simp [errW_none, errW_some] <;> rfl) | (simp [*, errW_none, errW_some] <;> rfl), atB HB⟩
   ·replace c12 := Bool.eq_false_iff.mpr c12
    subst c12
    have H1 : ((impl_numbers.f kj1 l0).bind fun t163 => (if 0 < (t163.length : Int) then ((impl_isFrom.f kj1 l0 (rd t163 0)).bind fun bt167 => (if bt167.2 = true then (some (rd t163 0)) else (some 0))) else (none))) = some r := by rw [if_neg (show ¬ (false = true) by decide)] at H; exact H
    clear H
    have H := H1
    clear H1
    replace H := Option.bind_eq_some_iff.mp H
    obtain ⟨t163, A130, H⟩ := H
    replace H : (if 0 < (t163.length : Int) then ((impl_isFrom.f kj1 l0 (rd t163 0)).bind fun bt167 => (if bt167.2 = true then (some (rd t163 0)) else (some 0))) else (none)) = some r := H
    have A13 := Aside0.mk A130
    clear A130
    by_cases c14 : 0 < (t163.length : Int)
    ·rw [if_pos c14] at H
     have c14b0 : decide (0 < (t163.length : Int)) = true := decide_eq_true c14
     have c14b1 : decide (0 < t163.length) = true := decide_eq_true (by omega)
     clear c14
     replace H := Option.bind_eq_some_iff.mp H
     obtain ⟨⟨t167, t168⟩, A150, H⟩ := H
     replace H : (if t168 = true then (some (rd t163 0)) else (some 0)) = some r := H
     have A15 := Aside0.mk A150
     clear A150
     by_cases c16 : t168 = true
     ·subst c16
      have H1 : (some (rd t163 0)) = some r := by rw [if_pos rfl] at H; exact H
      clear H
      have H := H1
      clear H1
      obtain rfl := Option.some.inj H
      go_wp2_with (first | ((with_reducible refine gate_callee (f := 176) rfl ?_); refine goesA (some 21) Try.func176 #[.slice A0 l0.length c0] ?_; (with_reducible refine (impl_numbers.calls kj1 _ _ l0 t163 _ ?side1 ?side2 A13.out).mono ?_); (case side1 => repeat (first | exact (Kd.C_below HR0.out HB.out) | (with_reducible refine Kd.C_alloc ?_ _) | (with_reducible refine Kd.C_drewN ?_ _) | (with_reducible refine Kd.C_drew ?_))); (case side2 => exact HC0.out); rintro e w17 ⟨v164, rfl, ho0, hb⟩; refine ⟨_, rfl, ?_⟩; have HO165 := lowR ho0 HB; replace HB := upB HB hb; (try clear hb); (try clear hb2); (try clear hk); (try clear hi); (try clear ho0); obtain ⟨Ao18, co18, eo18⟩ := Kd.R_slice HO165.out; subst eo18; have p166 : 0 ≤ (0 : Int) := (by omega); have q166 : 0 < (t163.length : Int) := ofd; obtain ⟨ad166, e166, hx166_0⟩ := Kd.at_int (Kd.R_reads' HO165.out).2.2 0 p166 q166; cases e166; have qi166 : (0 < t163.length) = True := eq_true (by omega); (try rw [show ((0 : Int)).toNat = 0 from rfl] at hx166_0); (try rw [Addr.add_zero'] at hx166_0); replace p166 := eq_true p166; replace q166 := eq_true q166) | ((with_reducible refine gate_callee (f := 241) rfl ?_); refine goesA (some 27) Try.func241 #[.slice A0 l0.length c0, .int .i64 (rd t163 0)] ?_; (with_reducible refine (impl_isFrom.calls kj1 _ _ l0 (rd t163 0) t167 true _ ?side1 ?side2 A15.out).mono ?_); (case side1 => repeat (first | exact (Kd.C_below HR0.out HB.out) | (with_reducible refine Kd.C_alloc ?_ _) | (with_reducible refine Kd.C_drewN ?_ _) | (with_reducible refine Kd.C_drew ?_))); (case side2 => exact HC0.out); rintro e w19 ⟨rfl, hb⟩; refine ⟨_, rfl, ?_⟩; replace HO165 := upR HO165 hb; replace HB := upB HB hb; (try clear hb); (try clear hb2); (try clear hk); (try clear hi)))
      go_ret
      exact ⟨by first | rfl | (simp [errW_none, errW_some] <;> rfl) | (simp [*, errW_none, errW_some] <;> rfl), atB HB⟩
     ·replace c16 := Bool.eq_false_iff.mpr c16
      subst c16
      have H1 : (some 0) = some r := by rw [if_neg (show ¬ (false = true) by decide)] at H; exact H
      clear H
      have H := H1
      clear H1
      obtain rfl := Option.some.inj H
      go_wp2_with (first | ((with_reducible refine gate_callee (f := 176) rfl ?_); refine goesA (some 21) Try.func176 #[.slice A0 l0.length c0] ?_; (with_reducible refine (impl_numbers.calls kj1 _ _ l0 t163 _ ?side1 ?side2 A13.out).mono ?_); (case side1 => repeat (first | exact (Kd.C_below HR0.out HB.out) | (with_reducible refine Kd.C_alloc ?_ _) | (with_reducible refine Kd.C_drewN ?_ _) | (with_reducible refine Kd.C_drew ?_))); (case side2 => exact HC0.out); rintro e w20 ⟨v164, rfl, ho0, hb⟩; refine ⟨_, rfl, ?_⟩; have HO165 := lowR ho0 HB; replace HB := upB HB hb; (try clear hb); (try clear hb2); (try clear hk); (try clear hi); (try clear ho0); obtain ⟨Ao21, co21, eo21⟩ := Kd.R_slice HO165.out; subst eo21; have p166 : 0 ≤ (0 : Int) := (by omega); have q166 : 0 < (t163.length : Int) := ofd; obtain ⟨ad166, e166, hx166_0⟩ := Kd.at_int (Kd.R_reads' HO165.out).2.2 0 p166 q166; cases e166; have qi166 : (0 < t163.length) = True := eq_true (by omega); (try rw [show ((0 : Int)).toNat = 0 from rfl] at hx166_0); (try rw [Addr.add_zero'] at hx166_0); replace p166 := eq_true p166; replace q166 := eq_true q166) | ((with_reducible refine gate_callee (f := 241) rfl ?_); refine goesA (some 27) Try.func241 #[.slice A0 l0.length c0, .int .i64 (rd t163 0)] ?_; (with_reducible refine (impl_isFrom.calls kj1 _ _ l0 (rd t163 0) t167 false _ ?side1 ?side2 A15.out).mono ?_); (case side1 => repeat (first | exact (Kd.C_below HR0.out HB.out) | (with_reducible refine Kd.C_alloc ?_ _) | (with_reducible refine Kd.C_drewN ?_ _) | (with_reducible refine Kd.C_drew ?_))); (case side2 => exact HC0.out); rintro e w22 ⟨rfl, hb⟩; refine ⟨_, rfl, ?_⟩; replace HO165 := upR HO165 hb; replace HB := upB HB hb; (try clear hb); (try clear hb2); (try clear hk); (try clear hi)))
      go_ret
      exact ⟨by first | rfl | (simp [errW_none, errW_some] <;> rfl) | (simp [*, errW_none, errW_some] <;> rfl), atB HB⟩
    ·rw [if_neg c14] at H
     exact absurd H (by simp)

noncomputable def impl_langford.J0 (x0 : List Int) (x19 : Bool) : Option (Int) := lim fun k => impl_langford.j0 k x0 x19
theorem impl_langford.J0_lim (x0 : List Int) (x19 : Bool) : Lim (fun k => impl_langford.j0 k x0 x19) (impl_langford.J0 x0 x19) := Lim.of fun k => (impl_langford.mono_l k) x0 x19
noncomputable def impl_langford.F (l0 : List Int) : Option (Int) := lim fun k => impl_langford.f k l0
theorem impl_langford.F_lim (l0 : List Int) : Lim (fun k => impl_langford.f k l0) (impl_langford.F l0) := Lim.of fun k => impl_langford.mono l0 k
theorem impl_langford.J0_eq (x0 : List Int) (x19 : Bool) : impl_langford.J0 x0 x19 = (if x19 = true then (some 0) else ((impl_numbers.F x0).bind fun t163 => (if 0 < (t163.length : Int) then ((impl_isFrom.F x0 (rd t163 0)).bind fun bt167 => (if bt167.2 = true then (some (rd t163 0)) else (some 0))) else (none)))) :=
 Lim.step (f := fun k => impl_langford.j0 (k + 1) x0 x19) (impl_langford.J0_lim x0 x19) (fun _ => rfl) (by
  simp only [impl_langford.j0]
  repeat' (first | (with_reducible first | exact Lim.const _ | exact impl_isFrom.F_lim _ _ | exact impl_numbers.F_lim _ | refine Lim.ite ?_ ?_ | refine Lim.bind ?_ (fun _ => ?_))))
theorem impl_langford.F_eq (l0 : List Int) : impl_langford.F l0 = ((impl_fits.F l0 1).bind fun t159 => (if t159 = true then (if (l0.length : Int) = 0 then (impl_langford.J0 l0 true) else ((impl_holes.F l0).bind fun t160 => (impl_langford.J0 l0 (decide ((t160.length : Int) > 0))))) else (impl_langford.J0 l0 true))) :=
 Lim.unique (impl_langford.F_lim l0) (by
  unfold impl_langford.f
  repeat' (first | (with_reducible first | exact Lim.const _ | exact impl_fits.F_lim _ _ | exact impl_holes.F_lim _ | exact impl_langford.J0_lim _ _ | refine Lim.ite ?_ ?_ | refine Lim.bind ?_ (fun _ => ?_))))

end Go.Proofs.Ytaohgllnoomaeaa.Fn
namespace Go.Proofs.Ytaohgllnoomaeaa.Fn
open Go.RowKit Go.Proofs.YtaohgllnoomaeaaW.PrintWords Go.Proofs.YtaohgllnoomaeaaW.PrintLast Go.Proofs.YtaohgllnoomaeaaW.PrintMore
attribute [local go_sem] max2_int min2_int max_two min_two max_three min_three max_four min_four   -- for this text's walks alone
set_option linter.unusedVariables false
set_option linter.unusedSimpArgs false

/-! ### impl_IsLangford: function 21 -/
def impl_IsLangford.f (k : Nat) (l0 : List Int) : Option (Bool × Bool) := (impl_isPairs.f k l0).bind fun t169 => (if t169 = true then ((impl_langford.f k l0).bind fun t170 => (some (decide (t170 > 0), true))) else (some (false, false)))
theorem impl_IsLangford.mono : ∀ a0 k, LeO (impl_IsLangford.f k a0) (impl_IsLangford.f (k + 1) a0) := by
 intro a0 k
 unfold impl_IsLangford.f
 repeat' (first | (with_reducible first | exact impl_isPairs.mono _ _ | exact impl_langford.mono _ _ | exact LeO.refl _ | exact LeO.none _ | refine LeO.ite ?_ ?_ | refine LeO.bind ?_ (fun _ => ?_)) | exact impl_isPairs.mono _ _ | exact impl_langford.mono _ _ | exact LeO.none _ | refine LeO.ite ?_ ?_ | refine LeO.bind ?_ (fun _ => ?_))
set_option maxHeartbeats 8000000 in
set_option maxRecDepth 100000 in
theorem impl_IsLangford.calls (k : Nat) (A0 : Option Addr) (c0 : Nat) (l0 : List Int) (r1 : Bool) (r2 : Bool) (w : World) (hr0 : Kd.C (Kd.int .i64) w A0 l0.length l0) (hc0 : l0.length ≤ c0) (h : impl_IsLangford.f k l0 = some (r1, r2)) :
  Calls Try.prog 21 #[.slice A0 l0.length c0] w fun e w' => e = .returned (.tuple #[.bool r1, .bool r2]) ∧ Below w.heap.size w w' := by
 have HR0 := Aside0.mk hr0
 have HC0 := Aside0.mk hc0
 clear hr0 hc0
 have HB := Aside0.mk (Below.refl w.heap.size w)
 have H : ((impl_isPairs.f k l0).bind fun t169 => (if t169 = true then ((impl_langford.f k l0).bind fun t170 => (some (decide (t170 > 0), true))) else (some (false, false)))) = some (r1, r2) := h
 clear h
 replace H := Option.bind_eq_some_iff.mp H
 obtain ⟨t169, A20, H⟩ := H
 replace H : (if t169 = true then ((impl_langford.f k l0).bind fun t170 => (some (decide (t170 > 0), true))) else (some (false, false))) = some (r1, r2) := H
 have A2 := Aside0.mk A20
 clear A20
 by_cases c3 : t169 = true
 ·subst c3
  have H1 : ((impl_langford.f k l0).bind fun t170 => (some (decide (t170 > 0), true))) = some (r1, r2) := by rw [if_pos rfl] at H; exact H
  clear H
  have H := H1
  clear H1
  replace H := Option.bind_eq_some_iff.mp H
  obtain ⟨t170, A40, H⟩ := H
  replace H : (some (decide (t170 > 0), true)) = some (r1, r2) := H
  have A4 := Aside0.mk A40
  clear A40
  simp only [Option.some.injEq, Prod.mk.injEq] at H
  obtain ⟨rfl, rfl⟩ := H
  go_enter Try.func21, Try.ntmps21
  go_wp2_with (first | ((with_reducible refine gate_callee (f := 154) rfl ?_); refine goesA (some 5) Try.func154 #[.slice A0 l0.length c0] ?_; (with_reducible refine (impl_isPairs.calls k _ _ l0 true _ ?side1 ?side2 A2.out).mono ?_); (case side1 => repeat (first | exact HR0.out | (with_reducible refine Kd.C_alloc ?_ _) | (with_reducible refine Kd.C_drewN ?_ _) | (with_reducible refine Kd.C_drew ?_))); (case side2 => exact HC0.out); rintro e w5 ⟨rfl, hb⟩; refine ⟨_, rfl, ?_⟩; replace HB := upB HB hb; (try clear hb); (try clear hb2); (try clear hk); (try clear hi)) | ((with_reducible refine gate_callee (f := 155) rfl ?_); refine goesA (some 8) Try.func155 #[.slice A0 l0.length c0] ?_; (with_reducible refine (impl_langford.calls k _ _ l0 t170 _ ?side1 ?side2 A4.out).mono ?_); (case side1 => repeat (first | exact (Kd.C_below HR0.out HB.out) | (with_reducible refine Kd.C_alloc ?_ _) | (with_reducible refine Kd.C_drewN ?_ _) | (with_reducible refine Kd.C_drew ?_))); (case side2 => exact HC0.out); rintro e w6 ⟨rfl, hb⟩; refine ⟨_, rfl, ?_⟩; replace HB := upB HB hb; (try clear hb); (try clear hb2); (try clear hk); (try clear hi)))
  go_ret2
  exact ⟨by first | rfl | (simp [errW_none, errW_some] <;> rfl) | (simp [*, errW_none, errW_some] <;> rfl), atB HB⟩
 ·replace c3 := Bool.eq_false_iff.mpr c3
  subst c3
  have H1 : (some (false, false)) = some (r1, r2) := by rw [if_neg (show ¬ (false = true) by decide)] at H; exact H
  clear H
  have H := H1
  clear H1
  simp only [Option.some.injEq, Prod.mk.injEq] at H
  obtain ⟨rfl, rfl⟩ := H
  go_enter Try.func21, Try.ntmps21
  go_wp2_with (first | ((with_reducible refine gate_callee (f := 154) rfl ?_); refine goesA (some 5) Try.func154 #[.slice A0 l0.length c0] ?_; (with_reducible refine (impl_isPairs.calls k _ _ l0 false _ ?side1 ?side2 A2.out).mono ?_); (case side1 => repeat (first | exact HR0.out | (with_reducible refine Kd.C_alloc ?_ _) | (with_reducible refine Kd.C_drewN ?_ _) | (with_reducible refine Kd.C_drew ?_))); (case side2 => exact HC0.out); rintro e w7 ⟨rfl, hb⟩; refine ⟨_, rfl, ?_⟩; replace HB := upB HB hb; (try clear hb); (try clear hb2); (try clear hk); (try clear hi)))
  go_ret2
  exact ⟨by first | rfl | (simp [errW_none, errW_some] <;> rfl) | (simp [*, errW_none, errW_some] <;> rfl), atB HB⟩

noncomputable def impl_IsLangford.F (l0 : List Int) : Option (Bool × Bool) := lim fun k => impl_IsLangford.f k l0
theorem impl_IsLangford.F_lim (l0 : List Int) : Lim (fun k => impl_IsLangford.f k l0) (impl_IsLangford.F l0) := Lim.of fun k => impl_IsLangford.mono l0 k
theorem impl_IsLangford.F_eq (l0 : List Int) : impl_IsLangford.F l0 = ((impl_isPairs.F l0).bind fun t169 => (if t169 = true then ((impl_langford.F l0).bind fun t170 => (some (decide (t170 > 0), true))) else (some (false, false)))) :=
 Lim.unique (impl_IsLangford.F_lim l0) (by
  unfold impl_IsLangford.f
  repeat' (first | (with_reducible first | exact Lim.const _ | exact impl_isPairs.F_lim _ | exact impl_langford.F_lim _ | refine Lim.ite ?_ ?_ | refine Lim.bind ?_ (fun _ => ?_))))

end Go.Proofs.Ytaohgllnoomaeaa.Fn
namespace Go.Proofs.Ytaohgllnoomaeaa.Fn
open Go.RowKit Go.Proofs.YtaohgllnoomaeaaW.PrintWords Go.Proofs.YtaohgllnoomaeaaW.PrintLast Go.Proofs.YtaohgllnoomaeaaW.PrintMore
attribute [local go_sem] max2_int min2_int max_two min_two max_three min_three max_four min_four   -- for this text's walks alone
set_option linter.unusedVariables false
set_option linter.unusedSimpArgs false

/-! ### impl_IsLangfordThere: function 18 -/
def impl_IsLangfordThere.j0 : Nat → Int → Int → Bool → Option (Bool × Bool)
 | 0, _, _, _ => none
 | k + 1, x0, x1, x13 => if x13 = true then (some (false, false)) else (if x0 < (wrap64 ((wrap64 (2 * x1)) + 1)) then (some (false, true)) else (if (Int.tmod x1 2) = 1 then (if (Int.tmod x0 4) = 0 then (some (true, true)) else (some (((Int.tmod x0 4) == 3), true))) else (some (decide ((Int.tmod x0 4) ≤ 1), true))))
def impl_IsLangfordThere.f (k : Nat) (a0 : Int) (a1 : Int) : Option (Bool × Bool) := (impl_isNumber.f a0).bind fun t138 => (if t138 = true then ((impl_isNumber.f a1).bind fun t139 => (impl_IsLangfordThere.j0 k a0 a1 (!t139))) else (impl_IsLangfordThere.j0 k a0 a1 true))
theorem impl_IsLangfordThere.mono_l : ∀ k, (∀ y0 y1 y2, LeO (impl_IsLangfordThere.j0 k y0 y1 y2) (impl_IsLangfordThere.j0 (k + 1) y0 y1 y2))
 | 0 => fun _ _ _ r h => by simp [impl_IsLangfordThere.j0] at h
 | k + 1 => by
  have ih0 := impl_IsLangfordThere.mono_l k
  ·intro y0 y1 y2
   unfold impl_IsLangfordThere.j0
   repeat' (first | (with_reducible first | exact LeO.refl _ | exact LeO.none _ | refine LeO.ite ?_ ?_ | refine LeO.bind ?_ (fun _ => ?_)) | exact LeO.none _ | refine LeO.ite ?_ ?_ | refine LeO.bind ?_ (fun _ => ?_))
theorem impl_IsLangfordThere.mono : ∀ a0 a1 k, LeO (impl_IsLangfordThere.f k a0 a1) (impl_IsLangfordThere.f (k + 1) a0 a1) := by
 intro a0 a1 k
 have ih0 := impl_IsLangfordThere.mono_l k
 unfold impl_IsLangfordThere.f
 repeat' (first | (with_reducible first | exact ih0 _ _ _ | exact LeO.refl _ | exact LeO.none _ | refine LeO.ite ?_ ?_ | refine LeO.bind ?_ (fun _ => ?_)) | exact ih0 _ _ _ | exact LeO.none _ | refine LeO.ite ?_ ?_ | refine LeO.bind ?_ (fun _ => ?_))
set_option maxHeartbeats 8000000 in
set_option maxRecDepth 100000 in
theorem impl_IsLangfordThere.calls (k : Nat) (a0 : Int) (a1 : Int) (r1 : Bool) (r2 : Bool) (w : World) (h : impl_IsLangfordThere.f k a0 a1 = some (r1, r2)) :
  Calls Try.prog 18 #[.int .i64 a0, .int .i64 a1] w fun e w' => e = .returned (.tuple #[.bool r1, .bool r2]) ∧ Drawn0 w w' := by
 have H : ((impl_isNumber.f a0).bind fun t138 => (if t138 = true then ((impl_isNumber.f a1).bind fun t139 => (impl_IsLangfordThere.j0 k a0 a1 (!t139))) else (impl_IsLangfordThere.j0 k a0 a1 true))) = some (r1, r2) := h
 clear h
 have HC3 := Aside0.mk H
 clear H
 go_enter Try.func18, Try.ntmps18
 go_upto_region 1 with (fail)
 go_cut [13] (fun v13 wc => ∃ (kq : Nat) (x13_2 : Bool), v13 = .bool x13_2 ∧ Aside0 (impl_IsLangfordThere.j0 kq a0 a1 x13_2 = some (r1, r2)) ∧ Aside0 (kq ≤ k) ∧ Drawn0 w wc)
 case first =>
  have H := HC3.out
  clear HC3
  replace H := Option.bind_eq_some_iff.mp H
  obtain ⟨t138, A40, H⟩ := H
  replace H : (if t138 = true then ((impl_isNumber.f a1).bind fun t139 => (impl_IsLangfordThere.j0 k a0 a1 (!t139))) else (impl_IsLangfordThere.j0 k a0 a1 true)) = some (r1, r2) := H
  have A4 := Aside0.mk A40
  clear A40
  by_cases c5 : t138 = true
  ·subst c5
   have H1 : ((impl_isNumber.f a1).bind fun t139 => (impl_IsLangfordThere.j0 k a0 a1 (!t139))) = some (r1, r2) := by rw [if_pos rfl] at H; exact H
   clear H
   have H := H1
   clear H1
   replace H := Option.bind_eq_some_iff.mp H
   obtain ⟨t139, A60, H⟩ := H
   replace H : (impl_IsLangfordThere.j0 k a0 a1 (!t139)) = some (r1, r2) := H
   have A6 := Aside0.mk A60
   clear A60
   have H' := Aside0.mk H
   clear H
   go_wp2_with (first | ((with_reducible refine gate_callee (f := 153) rfl ?_); refine goesA (some 7) Try.func153 #[.int .i64 a0] ?_; (with_reducible refine (impl_isNumber.calls a0 true _ A4.out).mono ?_); rintro e w' ⟨rfl, ⟨nd, rfl⟩⟩; refine ⟨_, rfl, ?_⟩) | (go_at_call 153; (with_reducible refine (impl_isNumber.calls a1 t139 _ A6.out).mono ?_); rintro e w' ⟨rfl, ⟨nd, rfl⟩⟩))
   go_meet
   case rel => exact ⟨_, (!t139), (by first | rfl | (simp; done) | (simp [*]; done)), H', ⟨by first | omega | exact Nat.le_refl _⟩, by repeat (first | exact Drawn0.refl _ | apply Drawn0.step)⟩
  ·replace c5 := Bool.eq_false_iff.mpr c5
   subst c5
   have H1 : (impl_IsLangfordThere.j0 k a0 a1 true) = some (r1, r2) := by rw [if_neg (show ¬ (false = true) by decide)] at H; exact H
   clear H
   have H := H1
   clear H1
   have H' := Aside0.mk H
   clear H
   go_wp2_with (first | ((with_reducible refine gate_callee (f := 153) rfl ?_); refine goesA (some 7) Try.func153 #[.int .i64 a0] ?_; (with_reducible refine (impl_isNumber.calls a0 false _ A4.out).mono ?_); rintro e w' ⟨rfl, ⟨nd, rfl⟩⟩; refine ⟨_, rfl, ?_⟩))
   go_meet
   case rel => exact ⟨_, (true), (by first | rfl | (simp; done) | (simp [*]; done)), H', ⟨by first | omega | exact Nat.le_refl _⟩, by repeat (first | exact Drawn0.refl _ | apply Drawn0.step)⟩
 case rest =>
  clear HC3
  try clear c1
  try clear p2
  try clear c5
  obtain ⟨kq, x13_2, rfl, HA, HJ2, ⟨mc2, rfl⟩⟩ := hcut
  cases kq with
  | zero => exact absurd HA.out (by simp [impl_IsLangfordThere.j0])
  | succ kj2 =>
   have H := HA.out
   clear HA
   simp only [impl_IsLangfordThere.j0] at H
   by_cases c7 : x13_2 = true
   ·subst c7
    have H1 : (some (false, false)) = some (r1, r2) := by rw [if_pos rfl] at H; exact H
    clear H
    have H := H1
    clear H1
    simp only [Option.some.injEq, Prod.mk.injEq] at H
    obtain ⟨rfl, rfl⟩ := H
    go_wp2
    go_ret2
    exact ⟨by first | rfl | (simp; done) | (simp [*]; done), by repeat (first | exact Drawn0.refl _ | apply Drawn0.step)⟩
   ·replace c7 := Bool.eq_false_iff.mpr c7
    subst c7
    have H1 : (if a0 < (wrap64 ((wrap64 (2 * a1)) + 1)) then (some (false, true)) else (if (Int.tmod a1 2) = 1 then (if (Int.tmod a0 4) = 0 then (some (true, true)) else (some (((Int.tmod a0 4) == 3), true))) else (some (decide ((Int.tmod a0 4) ≤ 1), true)))) = some (r1, r2) := by rw [if_neg (show ¬ (false = true) by decide)] at H; exact H
    clear H
    have H := H1
    clear H1
    by_cases c8 : a0 < (wrap64 ((wrap64 (2 * a1)) + 1))
    ·rw [if_pos c8] at H
     have c8b0 : decide (a0 < (wrap64 ((wrap64 (2 * a1)) + 1))) = true := decide_eq_true c8
     clear c8
     simp only [Option.some.injEq, Prod.mk.injEq] at H
     obtain ⟨rfl, rfl⟩ := H
     go_wp2
     go_ret2
     exact ⟨by first | rfl | (simp; done) | (simp [*]; done), by repeat (first | exact Drawn0.refl _ | apply Drawn0.step)⟩
    ·rw [if_neg c8] at H
     have c8b0 : decide (a0 < (wrap64 ((wrap64 (2 * a1)) + 1))) = false := decide_eq_false c8
     clear c8
     by_cases c9 : (Int.tmod a1 2) = 1
     ·rw [if_pos c9] at H
      have c9b0 : ((Int.tmod a1 2) == 1) = true := beq_iff_eq.mpr c9
      have c9b1 : ((Int.tmod a1 2) != 1) = false := bne_eq_false_iff_eq.mpr c9
      clear c9
      by_cases c10 : (Int.tmod a0 4) = 0
      ·rw [if_pos c10] at H
       have c10b0 : ((Int.tmod a0 4) == 0) = true := beq_iff_eq.mpr c10
       have c10b1 : ((Int.tmod a0 4) != 0) = false := bne_eq_false_iff_eq.mpr c10
       clear c10
       simp only [Option.some.injEq, Prod.mk.injEq] at H
       obtain ⟨rfl, rfl⟩ := H
       go_wp2
       go_ret2
       exact ⟨by first | rfl | (simp; done) | (simp [*]; done), by repeat (first | exact Drawn0.refl _ | apply Drawn0.step)⟩
      ·rw [if_neg c10] at H
       have c10b0 : ((Int.tmod a0 4) == 0) = false := beq_eq_false_iff_ne.mpr c10
       have c10b1 : ((Int.tmod a0 4) != 0) = true := bne_iff_ne.mpr c10
       simp only [Option.some.injEq, Prod.mk.injEq] at H
       obtain ⟨rfl, rfl⟩ := H
       go_wp2
       go_ret2
       exact ⟨by first | rfl | (simp; done) | (simp [*]; done), by repeat (first | exact Drawn0.refl _ | apply Drawn0.step)⟩
     ·rw [if_neg c9] at H
      have c9b0 : ((Int.tmod a1 2) == 1) = false := beq_eq_false_iff_ne.mpr c9
      have c9b1 : ((Int.tmod a1 2) != 1) = true := bne_iff_ne.mpr c9
      simp only [Option.some.injEq, Prod.mk.injEq] at H
      obtain ⟨rfl, rfl⟩ := H
      go_wp2
      go_ret2
      exact ⟨by first | rfl | (simp; done) | (simp [*]; done), by repeat (first | exact Drawn0.refl _ | apply Drawn0.step)⟩

noncomputable def impl_IsLangfordThere.J0 (x0 : Int) (x1 : Int) (x13 : Bool) : Option (Bool × Bool) := lim fun k => impl_IsLangfordThere.j0 k x0 x1 x13
theorem impl_IsLangfordThere.J0_lim (x0 : Int) (x1 : Int) (x13 : Bool) : Lim (fun k => impl_IsLangfordThere.j0 k x0 x1 x13) (impl_IsLangfordThere.J0 x0 x1 x13) := Lim.of fun k => (impl_IsLangfordThere.mono_l k) x0 x1 x13
noncomputable def impl_IsLangfordThere.F (a0 : Int) (a1 : Int) : Option (Bool × Bool) := lim fun k => impl_IsLangfordThere.f k a0 a1
theorem impl_IsLangfordThere.F_lim (a0 : Int) (a1 : Int) : Lim (fun k => impl_IsLangfordThere.f k a0 a1) (impl_IsLangfordThere.F a0 a1) := Lim.of fun k => impl_IsLangfordThere.mono a0 a1 k
theorem impl_IsLangfordThere.J0_eq (x0 : Int) (x1 : Int) (x13 : Bool) : impl_IsLangfordThere.J0 x0 x1 x13 = (if x13 = true then (some (false, false)) else (if x0 < (wrap64 ((wrap64 (2 * x1)) + 1)) then (some (false, true)) else (if (Int.tmod x1 2) = 1 then (if (Int.tmod x0 4) = 0 then (some (true, true)) else (some (((Int.tmod x0 4) == 3), true))) else (some (decide ((Int.tmod x0 4) ≤ 1), true))))) :=
 Lim.step (f := fun k => impl_IsLangfordThere.j0 (k + 1) x0 x1 x13) (impl_IsLangfordThere.J0_lim x0 x1 x13) (fun _ => rfl) (by
  simp only [impl_IsLangfordThere.j0]
  repeat' (first | (with_reducible first | exact Lim.const _ | refine Lim.ite ?_ ?_ | refine Lim.bind ?_ (fun _ => ?_))))
theorem impl_IsLangfordThere.F_eq (a0 : Int) (a1 : Int) : impl_IsLangfordThere.F a0 a1 = ((impl_isNumber.f a0).bind fun t138 => (if t138 = true then ((impl_isNumber.f a1).bind fun t139 => (impl_IsLangfordThere.J0 a0 a1 (!t139))) else (impl_IsLangfordThere.J0 a0 a1 true))) :=
 Lim.unique (impl_IsLangfordThere.F_lim a0 a1) (by
  unfold impl_IsLangfordThere.f
  repeat' (first | (with_reducible first | exact Lim.const _ | exact impl_IsLangfordThere.J0_lim _ _ _ | refine Lim.ite ?_ ?_ | refine Lim.bind ?_ (fun _ => ?_))))

end Go.Proofs.Ytaohgllnoomaeaa.Fn
namespace Go.Proofs.Ytaohgllnoomaeaa.Fn
open Go.RowKit Go.Proofs.YtaohgllnoomaeaaW.PrintWords Go.Proofs.YtaohgllnoomaeaaW.PrintLast Go.Proofs.YtaohgllnoomaeaaW.PrintMore
attribute [local go_sem] max2_int min2_int max_two min_two max_three min_three max_four min_four   -- for this text's walks alone
set_option linter.unusedVariables false
set_option linter.unusedSimpArgs false

/-! ### impl_IsSkolemThere: function 29 -/
def impl_IsSkolemThere.f (a0 : Int) : Option (Bool × Bool) := (impl_isNumber.f a0).bind fun t259 => (if t259 = true then (some (decide ((Int.tmod a0 4) ≤ 1), true)) else (some (false, false)))
set_option maxHeartbeats 8000000 in
set_option maxRecDepth 100000 in
theorem impl_IsSkolemThere.calls (a0 : Int) (r1 : Bool) (r2 : Bool) (w : World) (h : impl_IsSkolemThere.f a0 = some (r1, r2)) :
  Calls Try.prog 29 #[.int .i64 a0] w fun e w' => e = .returned (.tuple #[.bool r1, .bool r2]) ∧ Drawn0 w w' := by
 have H : ((impl_isNumber.f a0).bind fun t259 => (if t259 = true then (some (decide ((Int.tmod a0 4) ≤ 1), true)) else (some (false, false)))) = some (r1, r2) := h
 clear h
 replace H := Option.bind_eq_some_iff.mp H
 obtain ⟨t259, A20, H⟩ := H
 replace H : (if t259 = true then (some (decide ((Int.tmod a0 4) ≤ 1), true)) else (some (false, false))) = some (r1, r2) := H
 have A2 := Aside0.mk A20
 clear A20
 by_cases c3 : t259 = true
 ·subst c3
  have H1 : (some (decide ((Int.tmod a0 4) ≤ 1), true)) = some (r1, r2) := by rw [if_pos rfl] at H; exact H
  clear H
  have H := H1
  clear H1
  simp only [Option.some.injEq, Prod.mk.injEq] at H
  obtain ⟨rfl, rfl⟩ := H
  go_enter Try.func29, Try.ntmps29
  go_wp2_with (first | ((with_reducible refine gate_callee (f := 153) rfl ?_); refine goesA (some 5) Try.func153 #[.int .i64 a0] ?_; (with_reducible refine (impl_isNumber.calls a0 true _ A2.out).mono ?_); rintro e w' ⟨rfl, ⟨nd, rfl⟩⟩; refine ⟨_, rfl, ?_⟩))
  go_ret2
  exact ⟨by first | rfl | (simp; done) | (simp [*]; done), by repeat (first | exact Drawn0.refl _ | apply Drawn0.step)⟩
 ·replace c3 := Bool.eq_false_iff.mpr c3
  subst c3
  have H1 : (some (false, false)) = some (r1, r2) := by rw [if_neg (show ¬ (false = true) by decide)] at H; exact H
  clear H
  have H := H1
  clear H1
  simp only [Option.some.injEq, Prod.mk.injEq] at H
  obtain ⟨rfl, rfl⟩ := H
  go_enter Try.func29, Try.ntmps29
  go_wp2_with (first | ((with_reducible refine gate_callee (f := 153) rfl ?_); refine goesA (some 5) Try.func153 #[.int .i64 a0] ?_; (with_reducible refine (impl_isNumber.calls a0 false _ A2.out).mono ?_); rintro e w' ⟨rfl, ⟨nd, rfl⟩⟩; refine ⟨_, rfl, ?_⟩))
  go_ret2
  exact ⟨by first | rfl | (simp; done) | (simp [*]; done), by repeat (first | exact Drawn0.refl _ | apply Drawn0.step)⟩


end Go.Proofs.Ytaohgllnoomaeaa.Fn
namespace Go.Proofs.Ytaohgllnoomaeaa.Fn
open Go.RowKit Go.Proofs.YtaohgllnoomaeaaW.PrintWords Go.Proofs.YtaohgllnoomaeaaW.PrintLast Go.Proofs.YtaohgllnoomaeaaW.PrintMore
attribute [local go_sem] max2_int min2_int max_two min_two max_three min_three max_four min_four   -- for this text's walks alone
set_option linter.unusedVariables false
set_option linter.unusedSimpArgs false

/-! ### impl_LeastOfLangford: function 22 -/
def impl_LeastOfLangford.f (k : Nat) (l0 : List Int) : Option (Int × Bool) := (impl_langford.f k l0).bind fun t171 => (some (t171, decide (t171 > 0)))
theorem impl_LeastOfLangford.mono : ∀ a0 k, LeO (impl_LeastOfLangford.f k a0) (impl_LeastOfLangford.f (k + 1) a0) := by
 intro a0 k
 unfold impl_LeastOfLangford.f
 repeat' (first | (with_reducible first | exact impl_langford.mono _ _ | exact LeO.refl _ | exact LeO.none _ | refine LeO.ite ?_ ?_ | refine LeO.bind ?_ (fun _ => ?_)) | exact impl_langford.mono _ _ | exact LeO.none _ | refine LeO.ite ?_ ?_ | refine LeO.bind ?_ (fun _ => ?_))
set_option maxHeartbeats 8000000 in
set_option maxRecDepth 100000 in
theorem impl_LeastOfLangford.calls (k : Nat) (A0 : Option Addr) (c0 : Nat) (l0 : List Int) (r1 : Int) (r2 : Bool) (w : World) (hr0 : Kd.C (Kd.int .i64) w A0 l0.length l0) (hc0 : l0.length ≤ c0) (h : impl_LeastOfLangford.f k l0 = some (r1, r2)) :
  Calls Try.prog 22 #[.slice A0 l0.length c0] w fun e w' => e = .returned (.tuple #[.int .i64 r1, .bool r2]) ∧ Below w.heap.size w w' := by
 have HR0 := Aside0.mk hr0
 have HC0 := Aside0.mk hc0
 clear hr0 hc0
 have HB := Aside0.mk (Below.refl w.heap.size w)
 have H : ((impl_langford.f k l0).bind fun t171 => (some (t171, decide (t171 > 0)))) = some (r1, r2) := h
 clear h
 replace H := Option.bind_eq_some_iff.mp H
 obtain ⟨t171, A20, H⟩ := H
 replace H : (some (t171, decide (t171 > 0))) = some (r1, r2) := H
 have A2 := Aside0.mk A20
 clear A20
 simp only [Option.some.injEq, Prod.mk.injEq] at H
 obtain ⟨rfl, rfl⟩ := H
 go_enter Try.func22, Try.ntmps22
 go_wp2_with (first | ((with_reducible refine gate_callee (f := 155) rfl ?_); refine goesA (some 6) Try.func155 #[.slice A0 l0.length c0] ?_; (with_reducible refine (impl_langford.calls k _ _ l0 t171 _ ?side1 ?side2 A2.out).mono ?_); (case side1 => repeat (first | exact HR0.out | (with_reducible refine Kd.C_alloc ?_ _) | (with_reducible refine Kd.C_drewN ?_ _) | (with_reducible refine Kd.C_drew ?_))); (case side2 => exact HC0.out); rintro e w3 ⟨rfl, hb⟩; refine ⟨_, rfl, ?_⟩; replace HB := upB HB hb; (try clear hb); (try clear hb2); (try clear hk); (try clear hi)))
 go_ret2
 exact ⟨by first | rfl | (simp [errW_none, errW_some] <;> rfl) | (simp [*, errW_none, errW_some] <;> rfl), atB HB⟩

noncomputable def impl_LeastOfLangford.F (l0 : List Int) : Option (Int × Bool) := lim fun k => impl_LeastOfLangford.f k l0
theorem impl_LeastOfLangford.F_lim (l0 : List Int) : Lim (fun k => impl_LeastOfLangford.f k l0) (impl_LeastOfLangford.F l0) := Lim.of fun k => impl_LeastOfLangford.mono l0 k
theorem impl_LeastOfLangford.F_eq (l0 : List Int) : impl_LeastOfLangford.F l0 = ((impl_langford.F l0).bind fun t171 => (some (t171, decide (t171 > 0)))) :=
 Lim.unique (impl_LeastOfLangford.F_lim l0) (by
  unfold impl_LeastOfLangford.f
  repeat' (first | (with_reducible first | exact Lim.const _ | exact impl_langford.F_lim _ | refine Lim.ite ?_ ?_ | refine Lim.bind ?_ (fun _ => ?_))))

end Go.Proofs.Ytaohgllnoomaeaa.Fn
namespace Go.Proofs.Ytaohgllnoomaeaa.Fn
open Go.RowKit Go.Proofs.YtaohgllnoomaeaaW.PrintWords Go.Proofs.YtaohgllnoomaeaaW.PrintLast Go.Proofs.YtaohgllnoomaeaaW.PrintMore
attribute [local go_sem] max2_int min2_int max_two min_two max_three min_three max_four min_four   -- for this text's walks alone
set_option linter.unusedVariables false
set_option linter.unusedSimpArgs false

/-! ### impl_RaiseRow: function 26 -/
mutual
def impl_RaiseRow.j0 : Nat → List Int → Int → Bool → Option (List Int × Bool)
 | 0, _, _, _ => none
 | k + 1, x0, x1, x19 => if x19 = true then (some (([] : List Int), false)) else ((slices_Clone_int_int.f x0).bind fun t183 => (impl_RaiseRow.l0 k x1 t183 x0 (x0.length : Int) 0))
def impl_RaiseRow.l0 : Nat → Int → List Int → List Int → Int → Int → Option (List Int × Bool)
 | 0, _, _, _, _, _ => none
 | k + 1, x1, x6, x22, x23, x24 => if x24 < x23 then (if 0 ≤ x24 then (if x24 < (x22.length : Int) then (if (rd x22 x24) = 0 then (impl_RaiseRow.l0 k x1 x6 x22 x23 (wrap64 (x24 + 1))) else ((impl_isNumber.f (wrap64 ((rd x22 x24) + x1))).bind fun t187 => (if t187 = true then (if x24 < (x6.length : Int) then (impl_RaiseRow.l0 k x1 (x6.set (x24 : Int).toNat (wrap64 ((rd x22 x24) + x1))) x22 x23 (wrap64 (x24 + 1))) else (none)) else (some (([] : List Int), false))))) else (none)) else (none)) else (some (x6, true))
end
def impl_RaiseRow.f (k : Nat) (l0 : List Int) (a1 : Int) : Option (List Int × Bool) := (impl_IsRow.f k l0).bind fun t182 => (if t182 = true then (if a1 < (-20) then (impl_RaiseRow.j0 k l0 a1 true) else (impl_RaiseRow.j0 k l0 a1 (decide (a1 > 20)))) else (impl_RaiseRow.j0 k l0 a1 true))
theorem impl_RaiseRow.mono_l : ∀ k, (∀ y0 y1 y2, LeO (impl_RaiseRow.j0 k y0 y1 y2) (impl_RaiseRow.j0 (k + 1) y0 y1 y2)) ∧ (∀ y0 y1 y2 y3 y4, LeO (impl_RaiseRow.l0 k y0 y1 y2 y3 y4) (impl_RaiseRow.l0 (k + 1) y0 y1 y2 y3 y4))
 | 0 => ⟨fun _ _ _ r h => by simp [impl_RaiseRow.j0] at h, fun _ _ _ _ _ r h => by simp [impl_RaiseRow.l0] at h⟩
 | k + 1 => by
  obtain ⟨ih0, ih1⟩ := impl_RaiseRow.mono_l k
  refine ⟨?_, ?_⟩
  ·intro y0 y1 y2
   unfold impl_RaiseRow.j0
   repeat' (first | (with_reducible first | exact ih1 _ _ _ _ _ | exact LeO.refl _ | exact LeO.none _ | refine LeO.ite ?_ ?_ | refine LeO.bind ?_ (fun _ => ?_)) | exact ih1 _ _ _ _ _ | exact LeO.none _ | refine LeO.ite ?_ ?_ | refine LeO.bind ?_ (fun _ => ?_))
  ·intro y0 y1 y2 y3 y4
   unfold impl_RaiseRow.l0
   repeat' (first | (with_reducible first | exact ih1 _ _ _ _ _ | exact LeO.refl _ | exact LeO.none _ | refine LeO.ite ?_ ?_ | refine LeO.bind ?_ (fun _ => ?_)) | exact ih1 _ _ _ _ _ | exact LeO.none _ | refine LeO.ite ?_ ?_ | refine LeO.bind ?_ (fun _ => ?_))
theorem impl_RaiseRow.mono : ∀ a0 a1 k, LeO (impl_RaiseRow.f k a0 a1) (impl_RaiseRow.f (k + 1) a0 a1) := by
 intro a0 a1 k
 obtain ⟨ih0, ih1⟩ := impl_RaiseRow.mono_l k
 unfold impl_RaiseRow.f
 repeat' (first | (with_reducible first | exact ih0 _ _ _ | exact impl_IsRow.mono _ _ | exact LeO.refl _ | exact LeO.none _ | refine LeO.ite ?_ ?_ | refine LeO.bind ?_ (fun _ => ?_)) | exact ih0 _ _ _ | exact impl_IsRow.mono _ _ | exact LeO.none _ | refine LeO.ite ?_ ?_ | refine LeO.bind ?_ (fun _ => ?_))
set_option maxHeartbeats 8000000 in
set_option maxRecDepth 100000 in
theorem impl_RaiseRow.calls (k : Nat) (A0 : Option Addr) (c0 : Nat) (l0 : List Int) (a1 : Int) (r1 : List Int) (r2 : Bool) (w : World) (hr0 : Kd.C (Kd.int .i64) w A0 l0.length l0) (hc0 : l0.length ≤ c0) (h : impl_RaiseRow.f k l0 a1 = some (r1, r2)) :
  Calls Try.prog 26 #[.slice A0 l0.length c0, .int .i64 a1] w fun e w' => ∃ v0_ : Value, e = .returned (.tuple #[v0_, .bool r2]) ∧ Kd.R (Kd.int .i64) 3 w' w.heap.size (fun _ => True) v0_ r1 ∧ Below w.heap.size w w' := by
 have HR0 := Aside0.mk hr0
 have HC0 := Aside0.mk hc0
 clear hr0 hc0
 have HB := Aside0.mk (Below.refl w.heap.size w)
 have H : ((impl_IsRow.f k l0).bind fun t182 => (if t182 = true then (if a1 < (-20) then (impl_RaiseRow.j0 k l0 a1 true) else (impl_RaiseRow.j0 k l0 a1 (decide (a1 > 20)))) else (impl_RaiseRow.j0 k l0 a1 true))) = some (r1, r2) := h
 clear h
 have HC3 := Aside0.mk H
 clear H
 go_enter Try.func26, Try.ntmps26
 go_upto_region 1 with (fail)
 go_cut [19] (fun v19 wc => ∃ (kq : Nat) (x19_2 : Bool), v19 = .bool x19_2 ∧ Aside0 (impl_RaiseRow.j0 kq l0 a1 x19_2 = some (r1, r2)) ∧ Aside0 (kq ≤ k) ∧ Aside0 (Below w.heap.size w wc))
 case first =>
  have H := HC3.out
  clear HC3
  replace H := Option.bind_eq_some_iff.mp H
  obtain ⟨t182, A40, H⟩ := H
  replace H : (if t182 = true then (if a1 < (-20) then (impl_RaiseRow.j0 k l0 a1 true) else (impl_RaiseRow.j0 k l0 a1 (decide (a1 > 20)))) else (impl_RaiseRow.j0 k l0 a1 true)) = some (r1, r2) := H
  have A4 := Aside0.mk A40
  clear A40
  by_cases c5 : t182 = true
  ·subst c5
   have H1 : (if a1 < (-20) then (impl_RaiseRow.j0 k l0 a1 true) else (impl_RaiseRow.j0 k l0 a1 (decide (a1 > 20)))) = some (r1, r2) := by rw [if_pos rfl] at H; exact H
   clear H
   have H := H1
   clear H1
   by_cases c6 : a1 < (-20)
   ·rw [if_pos c6] at H
    have c6b0 : decide (a1 < (-20)) = true := decide_eq_true c6
    clear c6
    (first | rw [c6b0] | (simp only [i64_w, i32_w]; rw [c6b0]) | skip)
    have H' := Aside0.mk H
    clear H
    go_wp2_with (first | ((with_reducible refine gate_callee (f := 66) rfl ?_); refine goesA (some 10) Try.func66 #[.slice A0 l0.length c0] ?_; (with_reducible refine (impl_IsRow.calls k _ _ l0 true _ ?side1 ?side2 A4.out).mono ?_); (case side1 => repeat (first | exact (Kd.C_below HR0.out HB.out) | (with_reducible refine Kd.C_alloc ?_ _) | (with_reducible refine Kd.C_drewN ?_ _) | (with_reducible refine Kd.C_drew ?_))); (case side2 => exact HC0.out); rintro e w' ⟨rfl, ⟨nd, rfl⟩⟩; refine ⟨_, rfl, ?_⟩))
    go_meet
    case rel => exact ⟨_, (true), (by first | rfl | (simp; done) | (simp [*]; done)), H', ⟨by first | omega | exact Nat.le_refl _⟩, ⟨atB HB⟩⟩
   ·rw [if_neg c6] at H
    have c6b0 : decide (a1 < (-20)) = false := decide_eq_false c6
    clear c6
    (first | rw [c6b0] | (simp only [i64_w, i32_w]; rw [c6b0]) | skip)
    have H' := Aside0.mk H
    clear H
    go_wp2_with (first | ((with_reducible refine gate_callee (f := 66) rfl ?_); refine goesA (some 10) Try.func66 #[.slice A0 l0.length c0] ?_; (with_reducible refine (impl_IsRow.calls k _ _ l0 true _ ?side1 ?side2 A4.out).mono ?_); (case side1 => repeat (first | exact (Kd.C_below HR0.out HB.out) | (with_reducible refine Kd.C_alloc ?_ _) | (with_reducible refine Kd.C_drewN ?_ _) | (with_reducible refine Kd.C_drew ?_))); (case side2 => exact HC0.out); rintro e w' ⟨rfl, ⟨nd, rfl⟩⟩; refine ⟨_, rfl, ?_⟩))
    go_meet
    case rel => exact ⟨_, (decide (a1 > 20)), (by first | rfl | (simp; done) | (simp [*]; done)), H', ⟨by first | omega | exact Nat.le_refl _⟩, ⟨atB HB⟩⟩
  ·replace c5 := Bool.eq_false_iff.mpr c5
   subst c5
   have H1 : (impl_RaiseRow.j0 k l0 a1 true) = some (r1, r2) := by rw [if_neg (show ¬ (false = true) by decide)] at H; exact H
   clear H
   have H := H1
   clear H1
   have H' := Aside0.mk H
   clear H
   go_wp2_with (first | ((with_reducible refine gate_callee (f := 66) rfl ?_); refine goesA (some 10) Try.func66 #[.slice A0 l0.length c0] ?_; (with_reducible refine (impl_IsRow.calls k _ _ l0 false _ ?side1 ?side2 A4.out).mono ?_); (case side1 => repeat (first | exact (Kd.C_below HR0.out HB.out) | (with_reducible refine Kd.C_alloc ?_ _) | (with_reducible refine Kd.C_drewN ?_ _) | (with_reducible refine Kd.C_drew ?_))); (case side2 => exact HC0.out); rintro e w' ⟨rfl, ⟨nd, rfl⟩⟩; refine ⟨_, rfl, ?_⟩))
   go_meet
   case rel => exact ⟨_, (true), (by first | rfl | (simp; done) | (simp [*]; done)), H', ⟨by first | omega | exact Nat.le_refl _⟩, ⟨atB HB⟩⟩
 case rest =>
  clear HC3
  try clear c2
  try clear p2
  try clear c5
  try clear c6
  try clear c6b0
  obtain ⟨kq, x19_2, rfl, HA, HJ2, HB⟩ := hcut
  cases kq with
  | zero => exact absurd HA.out (by simp [impl_RaiseRow.j0])
  | succ kj2 =>
   have H := HA.out
   clear HA
   simp only [impl_RaiseRow.j0] at H
   by_cases c7 : x19_2 = true
   ·subst c7
    have H1 : (some (([] : List Int), false)) = some (r1, r2) := by rw [if_pos rfl] at H; exact H
    clear H
    have H := H1
    clear H1
    simp only [Option.some.injEq, Prod.mk.injEq] at H
    obtain ⟨rfl, rfl⟩ := H
    go_wp2
    go_ret2
    exact ⟨_, by first | rfl | (simp [errW_none, errW_some] <;> rfl) | (simp [*, errW_none, errW_some] <;> rfl), by first | exact Kd.R_nil _ _ _ _ _ | exact Kd.N_nil _ _ _ _ _ | exact Kd.V_nil _ _ _ _ _ | exact Kd.Q_nil _ _ _ _ _ | exact Kd.S_nil _ _ _ _ _, atB HB⟩
   ·replace c7 := Bool.eq_false_iff.mpr c7
    subst c7
    have H1 : ((slices_Clone_int_int.f l0).bind fun t183 => (impl_RaiseRow.l0 kj2 a1 t183 l0 (l0.length : Int) 0)) = some (r1, r2) := by rw [if_neg (show ¬ (false = true) by decide)] at H; exact H
    clear H
    have H := H1
    clear H1
    replace H := Option.bind_eq_some_iff.mp H
    obtain ⟨t183, A80, H⟩ := H
    replace H : (impl_RaiseRow.l0 kj2 a1 t183 l0 (l0.length : Int) 0) = some (r1, r2) := H
    have A8 := Aside0.mk A80
    clear A80
    have H' := Aside0.mk H
    clear H
    go_wp2_with (first | ((with_reducible refine gate_callee (f := 156) rfl ?_); refine goesA (some 21) Try.func156 #[.slice A0 l0.length c0] ?_; (with_reducible refine (slices_Clone_int_int.calls _ _ l0 t183 _ ?side1 ?side2 A8.out).mono ?_); (case side1 => repeat (first | exact (Kd.C_below HR0.out HB.out) | (with_reducible refine Kd.C_alloc ?_ _) | (with_reducible refine Kd.C_drewN ?_ _) | (with_reducible refine Kd.C_drew ?_))); (case side2 => exact HC0.out); rintro e w9 ⟨v184, rfl, ho0, hb⟩; refine ⟨_, rfl, ?_⟩; have HO185 := lowR ho0 HB; replace HB := upB HB hb; (try clear hb); (try clear hb2); (try clear hk); (try clear hi); (try clear ho0)))
    go_loopg [24] kj2 (fun kq v24 w' => ∃ (x6_2 : List Int) (x24_2 : Int), v24 = .int .i64 x24_2 ∧ Aside0 (impl_RaiseRow.l0 kq a1 x6_2 l0 (l0.length : Int) x24_2 = some (r1, r2)) ∧ Aside0 (kq ≤ kj2) ∧ Aside0 (Kd.R (Kd.int .i64) 3 w' w.heap.size (fun _ => True) v184 x6_2) ∧ Aside0 (Below w.heap.size w w'))
    case atStart => exact ⟨(t183), (0), (by first | rfl | (simp; done) | (simp [*]; done)), H', ⟨Nat.le_refl _⟩, ⟨atR HO185⟩, ⟨atB HB⟩⟩
    case round =>
     clear H'
     try clear c1
     try clear c2
     try clear p2
     try clear c5
     try clear c6
     try clear c6b0
     try clear c7
     try clear p2
     obtain ⟨x6_2, x24_2, rfl, HA, HK2, HO_6, HB⟩ := hrel
     cases gk with
     | zero => exact absurd HA.out (by simp [impl_RaiseRow.l0])
     | succ k2 =>
      have H := HA.out
      clear HA
      simp only [impl_RaiseRow.l0] at H
      by_cases c10 : x24_2 < (l0.length : Int)
      ·rw [if_pos c10] at H
       have c10b0 : decide (x24_2 < (l0.length : Int)) = true := decide_eq_true c10
       clear c10
       by_cases c11 : 0 ≤ x24_2
       ·rw [if_pos c11] at H
        have c11b0 : decide (0 ≤ x24_2) = true := decide_eq_true c11
        clear c11
        by_cases c12 : x24_2 < (l0.length : Int)
        ·rw [if_pos c12] at H
         have c12b0 : decide (x24_2 < (l0.length : Int)) = true := decide_eq_true c12
         clear c12
         by_cases c13 : (rd l0 x24_2) = 0
         ·rw [if_pos c13] at H
          have c13b0 : ((rd l0 x24_2) == 0) = true := beq_iff_eq.mpr c13
          have c13b1 : ((rd l0 x24_2) != 0) = false := bne_eq_false_iff_eq.mpr c13
          clear c13
          have H' := Aside0.mk H
          clear H
          have p186 : 0 ≤ (x24_2 : Int) := ofd
          have q186 : x24_2 < (l0.length : Int) := ofd
          obtain ⟨ad186, e186, hx186_0⟩ := Kd.at_int HR0.out x24_2 p186 q186
          cases e186
          replace hx186_0 := (HB.out.cell (World.block_lt_of_cell? w _ hx186_0)).trans hx186_0
          replace p186 := eq_true p186
          replace q186 := eq_true q186
          go_wp2
          go_roundg k2
          case measure => have := HJ2.out; have := HK2.out; omega
          case rel => exact ⟨(x6_2), (wrap64 (x24_2 + 1)), (by first | rfl | (simp; done) | (simp [*]; done)), H', ⟨by have := HJ2.out; have := HK2.out; omega⟩, ⟨atR HO_6⟩, ⟨atB HB⟩⟩
         ·rw [if_neg c13] at H
          have c13b0 : ((rd l0 x24_2) == 0) = false := beq_eq_false_iff_ne.mpr c13
          have c13b1 : ((rd l0 x24_2) != 0) = true := bne_iff_ne.mpr c13
          replace H := Option.bind_eq_some_iff.mp H
          obtain ⟨t187, A140, H⟩ := H
          replace H : (if t187 = true then (if x24_2 < (x6_2.length : Int) then (impl_RaiseRow.l0 k2 a1 (x6_2.set (x24_2 : Int).toNat (wrap64 ((rd l0 x24_2) + a1))) l0 (l0.length : Int) (wrap64 (x24_2 + 1))) else (none)) else (some (([] : List Int), false))) = some (r1, r2) := H
          have A14 := Aside0.mk A140
          clear A140
          by_cases c15 : t187 = true
          ·subst c15
           have H1 : (if x24_2 < (x6_2.length : Int) then (impl_RaiseRow.l0 k2 a1 (x6_2.set (x24_2 : Int).toNat (wrap64 ((rd l0 x24_2) + a1))) l0 (l0.length : Int) (wrap64 (x24_2 + 1))) else (none)) = some (r1, r2) := by rw [if_pos rfl] at H; exact H
           clear H
           have H := H1
           clear H1
           by_cases c16 : x24_2 < (x6_2.length : Int)
           ·rw [if_pos c16] at H
            have c16b0 : decide (x24_2 < (x6_2.length : Int)) = true := decide_eq_true c16
            clear c16
            obtain ⟨y188, hy188⟩ : ∃ y_ : List Int, y_ = (x6_2.set (x24_2 : Int).toNat (wrap64 ((rd l0 x24_2) + a1))) := ⟨_, rfl⟩
            replace H : (impl_RaiseRow.l0 k2 a1 y188 l0 (l0.length : Int) (wrap64 (x24_2 + 1))) = some (r1, r2) := by first | (rw [hy188]; with_reducible exact H) | (have H2_ := (Option.bind_some _ _).symm.trans H; rw [hy188]; with_reducible exact H2_) | (have H2_ := (Option.bind_some _ _).symm.trans H; with_reducible exact H2_) | with_reducible exact H | (rw [hy188]; exact H) | exact H
            have Ny188 := Aside0.mk hy188
            clear hy188
            have H' := Aside0.mk H
            clear H
            have p186 : 0 ≤ (x24_2 : Int) := ofd
            have q186 : x24_2 < (l0.length : Int) := ofd
            obtain ⟨ad186, e186, hx186_0⟩ := Kd.at_int HR0.out x24_2 p186 q186
            cases e186
            replace hx186_0 := (HB.out.cell (World.block_lt_of_cell? w _ hx186_0)).trans hx186_0
            replace p186 := eq_true p186
            replace q186 := eq_true q186
            go_wp2_with (first | ((with_reducible refine gate_callee (f := 153) rfl ?_); refine goesA (some 34) Try.func153 #[.int .i64 (wrap64 ((rd l0 x24_2) + a1))] ?_; (with_reducible refine (impl_isNumber.calls (wrap64 ((rd l0 x24_2) + a1)) true _ A14.out).mono ?_); rintro e w' ⟨rfl, ⟨nd, rfl⟩⟩; refine ⟨_, rfl, ?_⟩; (try (rw [drewN_self wr]; generalize hq_ : World.drewN wr _ = wr; have n0_ : Aside0 (Kd.R (Kd.int .i64) 3 wr w.heap.size (fun _ => True) v184 x6_2) := ⟨by rw [← hq_]; exact (atR HO_6)⟩; have n1_ : Aside0 (Below w.heap.size w wr) := ⟨by rw [← hq_]; exact (atB HB)⟩; clear HO_6 HB hq_; have HO_6 := n0_; have HB := n1_; clear n0_ n1_)); have p17 : 0 ≤ (x24_2 : Int) := ofd; have q17 : (x24_2 : Int) < ((x6_2.length : Int) : Int) := ofd; obtain ⟨go17, co17, eo17, gb17, gl17, cl17, HG17⟩ := Kd.R_form HO_6.out (by omega); (first | cases eo17 | (injection eo17 with ea_ en_ ec_; (first | subst ea_ | (injection ea_ with ea_; subst ea_)); subst ec_; clear en_)); have GB17 := Aside0.mk gb17; have GG17 := Aside0.mk HG17; clear gb17 gl17 HG17; obtain ⟨hx17_0, hf17_0⟩ := Kd.R_celln 0 HO_6.out (x24_2 : Int) p17 q17; replace p17 := eq_true p17; replace q17 := eq_true q17; obtain ⟨hy18_, hz18_⟩ := Kd.R_celln 0 HO_6.out (x24_2 : Int) (of_decide_eq_true (by first | (with_reducible assumption) | assumption)) (of_decide_eq_true (by first | (with_reducible assumption) | assumption)); have HP18 := Kd.R_putg HO_6.out (x24_2 : Int) (wrap64 ((rd l0 x24_2) + a1))) | ((with_reducible refine gate_store (t := 3) (p := 41) rfl ?_); refine store_event (t := 3) (p := 41) (v := ?vo_w19) (w1 := (wr.setCell ⟨go17, (x24_2 : Int).toNat, none⟩ (.int .i64 (wrap64 ((rd l0 x24_2) + a1))))) ?hg ?ho ?hn ?hr ?_; (case ho => rfl); (case hg => rfl); (case hn => rfl); (case hr => first | (go_simp; done) | (go_simp; rfl)); intro w19 hw; have hg : wr.grownBy w19 (some go17) := (by rw [hw]; exact HP18.2); have hp_ : Kd.R (Kd.int .i64) 3 w19 w.heap.size (fun _ => True) (.slice (some ⟨go17, 0, none⟩) x6_2.length co17) y188 := (by rw [hw, Ny188.out]; exact HP18.1); clear HP18; replace HO_6 := Aside0.mk (hp_); replace HB := Aside0.mk ((by rw [hw]; exact below_set (HB.out) GB17.out : Below w.heap.size w w19)); clear hg hw hp_))
            go_roundg k2
            case measure => have := HJ2.out; have := HK2.out; omega
            case rel => exact ⟨(y188), (wrap64 (x24_2 + 1)), (by first | rfl | (simp; done) | (simp [*]; done)), H', ⟨by have := HJ2.out; have := HK2.out; omega⟩, ⟨atR HO_6⟩, ⟨atB HB⟩⟩
           ·rw [if_neg c16] at H
            exact absurd H (by simp)
          ·replace c15 := Bool.eq_false_iff.mpr c15
           subst c15
           have H1 : (some (([] : List Int), false)) = some (r1, r2) := by rw [if_neg (show ¬ (false = true) by decide)] at H; exact H
           clear H
           have H := H1
           clear H1
           simp only [Option.some.injEq, Prod.mk.injEq] at H
           obtain ⟨rfl, rfl⟩ := H
           have p186 : 0 ≤ (x24_2 : Int) := ofd
           have q186 : x24_2 < (l0.length : Int) := ofd
           obtain ⟨ad186, e186, hx186_0⟩ := Kd.at_int HR0.out x24_2 p186 q186
           cases e186
           replace hx186_0 := (HB.out.cell (World.block_lt_of_cell? w _ hx186_0)).trans hx186_0
           replace p186 := eq_true p186
           replace q186 := eq_true q186
           go_wp2_with (first | ((with_reducible refine gate_callee (f := 153) rfl ?_); refine goesA (some 34) Try.func153 #[.int .i64 (wrap64 ((rd l0 x24_2) + a1))] ?_; (with_reducible refine (impl_isNumber.calls (wrap64 ((rd l0 x24_2) + a1)) false _ A14.out).mono ?_); rintro e w' ⟨rfl, ⟨nd, rfl⟩⟩; refine ⟨_, rfl, ?_⟩))
           go_ret2
           exact ⟨_, by first | rfl | (simp [errW_none, errW_some] <;> rfl) | (simp [*, errW_none, errW_some] <;> rfl), by first | exact Kd.R_nil _ _ _ _ _ | exact Kd.N_nil _ _ _ _ _ | exact Kd.V_nil _ _ _ _ _ | exact Kd.Q_nil _ _ _ _ _ | exact Kd.S_nil _ _ _ _ _, atB HB⟩
        ·rw [if_neg c12] at H
         exact absurd H (by simp)
       ·rw [if_neg c11] at H
        exact absurd H (by simp)
      ·rw [if_neg c10] at H
       have c10b0 : decide (x24_2 < (l0.length : Int)) = false := decide_eq_false c10
       clear c10
       simp only [Option.some.injEq, Prod.mk.injEq] at H
       obtain ⟨rfl, rfl⟩ := H
       go_wp2
       go_ret2
       exact ⟨_, by first | rfl | (simp [errW_none, errW_some] <;> rfl) | (simp [*, errW_none, errW_some] <;> rfl), atR HO_6, atB HB⟩

noncomputable def impl_RaiseRow.J0 (x0 : List Int) (x1 : Int) (x19 : Bool) : Option (List Int × Bool) := lim fun k => impl_RaiseRow.j0 k x0 x1 x19
theorem impl_RaiseRow.J0_lim (x0 : List Int) (x1 : Int) (x19 : Bool) : Lim (fun k => impl_RaiseRow.j0 k x0 x1 x19) (impl_RaiseRow.J0 x0 x1 x19) := Lim.of fun k => (impl_RaiseRow.mono_l k).1 x0 x1 x19
noncomputable def impl_RaiseRow.L0 (x1 : Int) (x6 : List Int) (x22 : List Int) (x23 : Int) (x24 : Int) : Option (List Int × Bool) := lim fun k => impl_RaiseRow.l0 k x1 x6 x22 x23 x24
theorem impl_RaiseRow.L0_lim (x1 : Int) (x6 : List Int) (x22 : List Int) (x23 : Int) (x24 : Int) : Lim (fun k => impl_RaiseRow.l0 k x1 x6 x22 x23 x24) (impl_RaiseRow.L0 x1 x6 x22 x23 x24) := Lim.of fun k => (impl_RaiseRow.mono_l k).2 x1 x6 x22 x23 x24
noncomputable def impl_RaiseRow.F (l0 : List Int) (a1 : Int) : Option (List Int × Bool) := lim fun k => impl_RaiseRow.f k l0 a1
theorem impl_RaiseRow.F_lim (l0 : List Int) (a1 : Int) : Lim (fun k => impl_RaiseRow.f k l0 a1) (impl_RaiseRow.F l0 a1) := Lim.of fun k => impl_RaiseRow.mono l0 a1 k
theorem impl_RaiseRow.J0_eq (x0 : List Int) (x1 : Int) (x19 : Bool) : impl_RaiseRow.J0 x0 x1 x19 = (if x19 = true then (some (([] : List Int), false)) else ((slices_Clone_int_int.f x0).bind fun t183 => (impl_RaiseRow.L0 x1 t183 x0 (x0.length : Int) 0))) :=
 Lim.step (f := fun k => impl_RaiseRow.j0 (k + 1) x0 x1 x19) (impl_RaiseRow.J0_lim x0 x1 x19) (fun _ => rfl) (by
  simp only [impl_RaiseRow.j0]
  repeat' (first | (with_reducible first | exact Lim.const _ | exact impl_RaiseRow.L0_lim _ _ _ _ _ | refine Lim.ite ?_ ?_ | refine Lim.bind ?_ (fun _ => ?_))))
theorem impl_RaiseRow.L0_eq (x1 : Int) (x6 : List Int) (x22 : List Int) (x23 : Int) (x24 : Int) : impl_RaiseRow.L0 x1 x6 x22 x23 x24 = (if x24 < x23 then (if 0 ≤ x24 then (if x24 < (x22.length : Int) then (if (rd x22 x24) = 0 then (impl_RaiseRow.L0 x1 x6 x22 x23 (wrap64 (x24 + 1))) else ((impl_isNumber.f (wrap64 ((rd x22 x24) + x1))).bind fun t187 => (if t187 = true then (if x24 < (x6.length : Int) then (impl_RaiseRow.L0 x1 (x6.set (x24 : Int).toNat (wrap64 ((rd x22 x24) + x1))) x22 x23 (wrap64 (x24 + 1))) else (none)) else (some (([] : List Int), false))))) else (none)) else (none)) else (some (x6, true))) :=
 Lim.step (f := fun k => impl_RaiseRow.l0 (k + 1) x1 x6 x22 x23 x24) (impl_RaiseRow.L0_lim x1 x6 x22 x23 x24) (fun _ => rfl) (by
  simp only [impl_RaiseRow.l0]
  repeat' (first | (with_reducible first | exact Lim.const _ | exact impl_RaiseRow.L0_lim _ _ _ _ _ | refine Lim.ite ?_ ?_ | refine Lim.bind ?_ (fun _ => ?_))))
theorem impl_RaiseRow.F_eq (l0 : List Int) (a1 : Int) : impl_RaiseRow.F l0 a1 = ((impl_IsRow.F l0).bind fun t182 => (if t182 = true then (if a1 < (-20) then (impl_RaiseRow.J0 l0 a1 true) else (impl_RaiseRow.J0 l0 a1 (decide (a1 > 20)))) else (impl_RaiseRow.J0 l0 a1 true))) :=
 Lim.unique (impl_RaiseRow.F_lim l0 a1) (by
  unfold impl_RaiseRow.f
  repeat' (first | (with_reducible first | exact Lim.const _ | exact impl_IsRow.F_lim _ | exact impl_RaiseRow.J0_lim _ _ _ | refine Lim.ite ?_ ?_ | refine Lim.bind ?_ (fun _ => ?_))))

end Go.Proofs.Ytaohgllnoomaeaa.Fn
namespace Go.Proofs.Ytaohgllnoomaeaa.Fn
open Go.RowKit Go.Proofs.YtaohgllnoomaeaaW.PrintWords Go.Proofs.YtaohgllnoomaeaaW.PrintLast Go.Proofs.YtaohgllnoomaeaaW.PrintMore
attribute [local go_sem] max2_int min2_int max_two min_two max_three min_three max_four min_four   -- for this text's walks alone
set_option linter.unusedVariables false
set_option linter.unusedSimpArgs false

/-! ### impl_extended: function 222 -/
def impl_extended.j0 : Nat → List Int → Bool → Option (Int × Int)
 | 0, _, _ => none
 | k + 1, x0, x14 => if x14 = true then (some (0, 0)) else ((impl_isFrom.f k x0 1).bind fun bt281 => ((impl_holes.f k x0).bind fun t283 => (if 0 < (t283.length : Int) then (some (bt281.1, rd t283 0)) else (none))))
def impl_extended.f (k : Nat) (l0 : List Int) : Option (Int × Int) := (impl_fits.f k l0 0).bind fun t277 => (if t277 = true then ((impl_holes.f k l0).bind fun t278 => (impl_extended.j0 k l0 ((t278.length : Int) != 1))) else (impl_extended.j0 k l0 true))
theorem impl_extended.mono_l : ∀ k, (∀ y0 y1, LeO (impl_extended.j0 k y0 y1) (impl_extended.j0 (k + 1) y0 y1))
 | 0 => fun _ _ r h => by simp [impl_extended.j0] at h
 | k + 1 => by
  have ih0 := impl_extended.mono_l k
  ·intro y0 y1
   unfold impl_extended.j0
   repeat' (first | (with_reducible first | exact impl_holes.mono _ _ | exact impl_isFrom.mono _ _ _ | exact LeO.refl _ | exact LeO.none _ | refine LeO.ite ?_ ?_ | refine LeO.bind ?_ (fun _ => ?_)) | exact impl_holes.mono _ _ | exact impl_isFrom.mono _ _ _ | exact LeO.none _ | refine LeO.ite ?_ ?_ | refine LeO.bind ?_ (fun _ => ?_))
theorem impl_extended.mono : ∀ a0 k, LeO (impl_extended.f k a0) (impl_extended.f (k + 1) a0) := by
 intro a0 k
 have ih0 := impl_extended.mono_l k
 unfold impl_extended.f
 repeat' (first | (with_reducible first | exact ih0 _ _ | exact impl_fits.mono _ _ _ | exact impl_holes.mono _ _ | exact LeO.refl _ | exact LeO.none _ | refine LeO.ite ?_ ?_ | refine LeO.bind ?_ (fun _ => ?_)) | exact ih0 _ _ | exact impl_fits.mono _ _ _ | exact impl_holes.mono _ _ | exact LeO.none _ | refine LeO.ite ?_ ?_ | refine LeO.bind ?_ (fun _ => ?_))
set_option maxHeartbeats 8000000 in
set_option maxRecDepth 100000 in
theorem impl_extended.calls (k : Nat) (A0 : Option Addr) (c0 : Nat) (l0 : List Int) (r1 : Int) (r2 : Int) (w : World) (hr0 : Kd.C (Kd.int .i64) w A0 l0.length l0) (hc0 : l0.length ≤ c0) (h : impl_extended.f k l0 = some (r1, r2)) :
  Calls Try.prog 222 #[.slice A0 l0.length c0] w fun e w' => e = .returned (.tuple #[.int .i64 r1, .int .i64 r2]) ∧ Below w.heap.size w w' := by
 have HR0 := Aside0.mk hr0
 have HC0 := Aside0.mk hc0
 clear hr0 hc0
 have HB := Aside0.mk (Below.refl w.heap.size w)
 have H : ((impl_fits.f k l0 0).bind fun t277 => (if t277 = true then ((impl_holes.f k l0).bind fun t278 => (impl_extended.j0 k l0 ((t278.length : Int) != 1))) else (impl_extended.j0 k l0 true))) = some (r1, r2) := h
 clear h
 have HC2 := Aside0.mk H
 clear H
 go_enter Try.func222, Try.ntmps222
 go_upto_region 1 with (fail)
 go_cut [14] (fun v14 wc => ∃ (kq : Nat) (x14_1 : Bool), v14 = .bool x14_1 ∧ Aside0 (impl_extended.j0 kq l0 x14_1 = some (r1, r2)) ∧ Aside0 (kq ≤ k) ∧ Aside0 (Below w.heap.size w wc))
 case first =>
  have H := HC2.out
  clear HC2
  replace H := Option.bind_eq_some_iff.mp H
  obtain ⟨t277, A30, H⟩ := H
  replace H : (if t277 = true then ((impl_holes.f k l0).bind fun t278 => (impl_extended.j0 k l0 ((t278.length : Int) != 1))) else (impl_extended.j0 k l0 true)) = some (r1, r2) := H
  have A3 := Aside0.mk A30
  clear A30
  by_cases c4 : t277 = true
  ·subst c4
   have H1 : ((impl_holes.f k l0).bind fun t278 => (impl_extended.j0 k l0 ((t278.length : Int) != 1))) = some (r1, r2) := by rw [if_pos rfl] at H; exact H
   clear H
   have H := H1
   clear H1
   replace H := Option.bind_eq_some_iff.mp H
   obtain ⟨t278, A50, H⟩ := H
   replace H : (impl_extended.j0 k l0 ((t278.length : Int) != 1)) = some (r1, r2) := H
   have A5 := Aside0.mk A50
   clear A50
   have H' := Aside0.mk H
   clear H
   go_wp2_with (first | ((with_reducible refine gate_callee (f := 158) rfl ?_); refine goesA (some 7) Try.func158 #[.slice A0 l0.length c0, .int .i64 0] ?_; (with_reducible refine (impl_fits.calls k _ _ l0 0 true _ ?side1 ?side2 A3.out).mono ?_); (case side1 => repeat (first | exact (Kd.C_below HR0.out HB.out) | (with_reducible refine Kd.C_alloc ?_ _) | (with_reducible refine Kd.C_drewN ?_ _) | (with_reducible refine Kd.C_drew ?_))); (case side2 => exact HC0.out); rintro e w6 ⟨rfl, hb⟩; refine ⟨_, rfl, ?_⟩; replace HB := upB HB hb; (try clear hb); (try clear hb2); (try clear hk); (try clear hi)) | (go_at_call 182; (with_reducible refine (impl_holes.calls k _ _ l0 t278 _ ?side1 ?side2 A5.out).mono ?_); (case side1 => repeat (first | exact (Kd.C_below HR0.out HB.out) | (with_reducible refine Kd.C_alloc ?_ _) | (with_reducible refine Kd.C_drewN ?_ _) | (with_reducible refine Kd.C_drew ?_))); (case side2 => exact HC0.out); rintro e w7 ⟨v279, rfl, ho0, hb⟩; have HO280 := lowR ho0 HB; replace HB := upB HB hb; (try clear hb); (try clear hb2); (try clear hk); (try clear hi); (try clear ho0); obtain ⟨Ao8, co8, eo8⟩ := Kd.R_slice HO280.out; subst eo8))
   go_meet
   case rel => exact ⟨_, (((t278.length : Int) != 1)), (by first | rfl | (simp; done) | (simp [*]; done)), H', ⟨by first | omega | exact Nat.le_refl _⟩, ⟨atB HB⟩⟩
  ·replace c4 := Bool.eq_false_iff.mpr c4
   subst c4
   have H1 : (impl_extended.j0 k l0 true) = some (r1, r2) := by rw [if_neg (show ¬ (false = true) by decide)] at H; exact H
   clear H
   have H := H1
   clear H1
   have H' := Aside0.mk H
   clear H
   go_wp2_with (first | ((with_reducible refine gate_callee (f := 158) rfl ?_); refine goesA (some 7) Try.func158 #[.slice A0 l0.length c0, .int .i64 0] ?_; (with_reducible refine (impl_fits.calls k _ _ l0 0 false _ ?side1 ?side2 A3.out).mono ?_); (case side1 => repeat (first | exact (Kd.C_below HR0.out HB.out) | (with_reducible refine Kd.C_alloc ?_ _) | (with_reducible refine Kd.C_drewN ?_ _) | (with_reducible refine Kd.C_drew ?_))); (case side2 => exact HC0.out); rintro e w9 ⟨rfl, hb⟩; refine ⟨_, rfl, ?_⟩; replace HB := upB HB hb; (try clear hb); (try clear hb2); (try clear hk); (try clear hi)))
   go_meet
   case rel => exact ⟨_, (true), (by first | rfl | (simp; done) | (simp [*]; done)), H', ⟨by first | omega | exact Nat.le_refl _⟩, ⟨atB HB⟩⟩
 case rest =>
  clear HC2
  try clear c1
  try clear c2
  try clear p2
  try clear c4
  obtain ⟨kq, x14_1, rfl, HA, HJ1, HB⟩ := hcut
  cases kq with
  | zero => exact absurd HA.out (by simp [impl_extended.j0])
  | succ kj1 =>
   have H := HA.out
   clear HA
   simp only [impl_extended.j0] at H
   by_cases c10 : x14_1 = true
   ·subst c10
    have H1 : (some (0, 0)) = some (r1, r2) := by rw [if_pos rfl] at H; exact H
    clear H
    have H := H1
    clear H1
    simp only [Option.some.injEq, Prod.mk.injEq] at H
    obtain ⟨rfl, rfl⟩ := H
    go_wp2
    go_ret2
    exact ⟨by first | rfl | (simp [errW_none, errW_some] <;> rfl) | (simp [*, errW_none, errW_some] <;> rfl), atB HB⟩
   ·replace c10 := Bool.eq_false_iff.mpr c10
    subst c10
    have H1 : ((impl_isFrom.f kj1 l0 1).bind fun bt281 => ((impl_holes.f kj1 l0).bind fun t283 => (if 0 < (t283.length : Int) then (some (bt281.1, rd t283 0)) else (none)))) = some (r1, r2) := by rw [if_neg (show ¬ (false = true) by decide)] at H; exact H
    clear H
    have H := H1
    clear H1
    replace H := Option.bind_eq_some_iff.mp H
    obtain ⟨⟨t281, t282⟩, A110, H⟩ := H
    replace H : ((impl_holes.f kj1 l0).bind fun t283 => (if 0 < (t283.length : Int) then (some (t281, rd t283 0)) else (none))) = some (r1, r2) := H
    have A11 := Aside0.mk A110
    clear A110
    replace H := Option.bind_eq_some_iff.mp H
    obtain ⟨t283, A120, H⟩ := H
    replace H : (if 0 < (t283.length : Int) then (some (t281, rd t283 0)) else (none)) = some (r1, r2) := H
    have A12 := Aside0.mk A120
    clear A120
    by_cases c13 : 0 < (t283.length : Int)
    ·rw [if_pos c13] at H
     have c13b0 : decide (0 < (t283.length : Int)) = true := decide_eq_true c13
     have c13b1 : decide (0 < t283.length) = true := decide_eq_true (by omega)
     clear c13
     simp only [Option.some.injEq, Prod.mk.injEq] at H
     obtain ⟨rfl, rfl⟩ := H
     try go_wp2_with (first | ((with_reducible refine gate_callee (f := 241) rfl ?_); refine goesA (some 17) Try.func241 #[.slice A0 l0.length c0, .int .i64 1] ?_; (with_reducible refine (impl_isFrom.calls kj1 _ _ l0 1 t281 t282 _ ?side1 ?side2 A11.out).mono ?_); (case side1 => repeat (first | exact (Kd.C_below HR0.out HB.out) | (with_reducible refine Kd.C_alloc ?_ _) | (with_reducible refine Kd.C_drewN ?_ _) | (with_reducible refine Kd.C_drew ?_))); (case side2 => exact HC0.out); rintro e w14 ⟨rfl, hb⟩; refine ⟨_, rfl, ?_⟩; replace HB := upB HB hb; (try clear hb); (try clear hb2); (try clear hk); (try clear hi)))
     have n0_ := Aside0.mk (below_drew1 HB.out)
     clear HB
     have HB := n0_
     clear n0_
     refine start_ (n := 7) (S := fun _ => True) (ds := []) #[false, false, false, false, false, false, false] (by kernel_rfl) rfl rfl (trivial) (fun hHeld => ?_)
     generalize w14.drew = w15 at HB hHeld ⊢
     refine pure_ (i := 0) (N := some 20) (v := ?_) (a' := ?_) #[true, false, false, false, false, false, false] rfl rfl (by kernel_rfl) (fun _ _ _ h => h) (Or.inl ⟨by rfl, ?_⟩) ?_ ?_
     rotate_left
     ·intro w'
      go_simp
      with_reducible rfl
     rotate_left
     ·simp only [Act.put, List.setIfInBounds_toArray, List.set_cons_zero, List.set_cons_succ, i64_w, i32_w]
      rfl
     refine pure_ (i := 1) (N := some 21) (v := ?_) (a' := ?_) #[true, true, false, false, false, false, false] rfl rfl (by kernel_rfl) (fun _ _ _ h => h) (Or.inl ⟨by rfl, ?_⟩) ?_ ?_
     rotate_left
     ·intro w'
      go_simp
      with_reducible rfl
     rotate_left
     ·simp only [Act.put, List.setIfInBounds_toArray, List.set_cons_zero, List.set_cons_succ, i64_w, i32_w]
      rfl
     refine one_ (i := 2) (N := some 22) #[true, true, true, false, false, false, false] rfl rfl (by kernel_rfl) (by decide) (fun K hK => ?_)
     refine goes_ Try.func182 (by kernel_rfl) rfl #[.slice A0 l0.length c0] (by rfl) rfl rfl (by (try simp only [List.map_toArray, List.map_cons, List.map_nil]); first | done | rfl | (simp only [List.length_drop, List.length_take]; rfl)) ?_
     with_reducible refine (impl_holes.calls kj1 _ _ l0 t283 _ ?side1 ?side2 A12.out).mono ?_
     (case side1 => repeat (first | exact (Kd.C_below HR0.out HB.out) | (with_reducible refine Kd.C_alloc ?_ _) | (with_reducible refine Kd.C_drewN ?_ _) | (with_reducible refine Kd.C_drew ?_)))
     (case side2 => exact HC0.out)
     rintro e w16 ⟨v284, rfl, ho0, hb⟩
     have HS0_ : True := trivial
     refine ⟨_, rfl, ?_⟩
     have n0_ := lowR ho0 HB
     have n1_ := upB HB hb
     clear HB
     have HO285 := n0_
     have HB := n1_
     clear n0_ n1_
     (try clear hb)
     (try clear hb2)
     (try clear hk)
     (try clear hi)
     (try clear ho0)
     obtain ⟨Ao17, co17, eo17⟩ := Kd.R_slice HO285.out
     (first | subst eo17 | (injection eo17 with f1_ f2_ f3_; have f4_ := f1_.symm; have f5_ := f3_.symm; clear f1_ f2_ f3_; subst f4_; subst f5_))
     have p286 : 0 ≤ (0 : Int) := (by omega)
     have q286 : 0 < (t283.length : Int) := ofd
     obtain ⟨ad286, e286, hx286_0⟩ := Kd.at_int (Kd.R_reads' HO285.out).2.2 0 p286 q286
     cases e286
     have qi286 : (0 < t283.length) = True := eq_true (by omega)
     (try rw [show ((0 : Int)).toNat = 0 from rfl] at hx286_0)
     (try rw [Addr.add_zero'] at hx286_0)
     replace p286 := eq_true p286
     replace q286 := eq_true q286
     refine hK.out _ _ (HS0_) (fun hHeld => ?_)
     clear hK K
     refine weak_ (S' := fun w' => w'.cell? ad286 = some (.int .i64 (rd t283 0))) ?_
     clear hHeld
     have hHeld := hx286_0
     refine norm_ (a' := ?_) ?_ ?_
     rotate_left
     ·show Act.put _ (some 22) _ = _
      simp only [Act.put, List.setIfInBounds_toArray, List.set_cons_zero, List.set_cons_succ, i64_w, i32_w]
      rfl
     refine pure_ (i := 3) (N := some 23) (v := ?_) (a' := ?_) #[true, true, true, true, false, false, false] rfl rfl (by kernel_rfl) (fun _ _ _ h => h) (Or.inl ⟨by rfl, ?_⟩) ?_ ?_
     rotate_left
     ·intro w'
      go_simp
      with_reducible rfl
     rotate_left
     ·simp only [Act.put, List.setIfInBounds_toArray, List.set_cons_zero, List.set_cons_succ, i64_w, i32_w]
      rfl
     refine pure_ (i := 5) (N := some 2) (v := ?_) (a' := ?_) #[true, true, true, true, false, true, false] rfl rfl (by kernel_rfl) (fun _ _ _ h => h) (Or.inl ⟨by rfl, ?_⟩) ?_ ?_
     rotate_left
     ·intro w'
      go_simp
      with_reducible rfl
     rotate_left
     ·simp only [Act.put, List.setIfInBounds_toArray, List.set_cons_zero, List.set_cons_succ, i64_w, i32_w]
      rfl
     refine take_ (i := 4) (N := some 24) (v := ?_) (a' := ?_) #[true, true, true, true, true, true, false] rfl rfl (by kernel_rfl) (fun _ _ _ h => h) (Or.inl ⟨by rfl, ?_⟩) hHeld ?_ ?_
     rotate_left
     ·intro w' s0
      go_simp
      with_reducible rfl
     rotate_left
     ·simp only [Act.put, List.setIfInBounds_toArray, List.set_cons_zero, List.set_cons_succ, i64_w, i32_w]
      rfl
     refine pure_ (i := 6) (N := some 3) (v := ?_) (a' := ?_) #[true, true, true, true, true, true, true] rfl rfl (by kernel_rfl) (fun _ _ _ h => h) (Or.inl ⟨by rfl, ?_⟩) ?_ ?_
     rotate_left
     ·intro w'
      go_simp
      with_reducible rfl
     rotate_left
     ·simp only [Act.put, List.setIfInBounds_toArray, List.set_cons_zero, List.set_cons_succ, i64_w, i32_w]
      rfl
     refine done_ (by kernel_rfl) ?_
     try go_wp2
     go_ret2
     exact ⟨by first | rfl | (simp [errW_none, errW_some] <;> rfl) | (simp [*, errW_none, errW_some] <;> rfl), atB HB⟩
    ·rw [if_neg c13] at H
     exact absurd H (by simp)

noncomputable def impl_extended.J0 (x0 : List Int) (x14 : Bool) : Option (Int × Int) := lim fun k => impl_extended.j0 k x0 x14
theorem impl_extended.J0_lim (x0 : List Int) (x14 : Bool) : Lim (fun k => impl_extended.j0 k x0 x14) (impl_extended.J0 x0 x14) := Lim.of fun k => (impl_extended.mono_l k) x0 x14
noncomputable def impl_extended.F (l0 : List Int) : Option (Int × Int) := lim fun k => impl_extended.f k l0
theorem impl_extended.F_lim (l0 : List Int) : Lim (fun k => impl_extended.f k l0) (impl_extended.F l0) := Lim.of fun k => impl_extended.mono l0 k
theorem impl_extended.J0_eq (x0 : List Int) (x14 : Bool) : impl_extended.J0 x0 x14 = (if x14 = true then (some (0, 0)) else ((impl_isFrom.F x0 1).bind fun bt281 => ((impl_holes.F x0).bind fun t283 => (if 0 < (t283.length : Int) then (some (bt281.1, rd t283 0)) else (none))))) :=
 Lim.step (f := fun k => impl_extended.j0 (k + 1) x0 x14) (impl_extended.J0_lim x0 x14) (fun _ => rfl) (by
  simp only [impl_extended.j0]
  repeat' (first | (with_reducible first | exact Lim.const _ | exact impl_holes.F_lim _ | exact impl_isFrom.F_lim _ _ | refine Lim.ite ?_ ?_ | refine Lim.bind ?_ (fun _ => ?_))))
theorem impl_extended.F_eq (l0 : List Int) : impl_extended.F l0 = ((impl_fits.F l0 0).bind fun t277 => (if t277 = true then ((impl_holes.F l0).bind fun t278 => (impl_extended.J0 l0 ((t278.length : Int) != 1))) else (impl_extended.J0 l0 true))) :=
 Lim.unique (impl_extended.F_lim l0) (by
  unfold impl_extended.f
  repeat' (first | (with_reducible first | exact Lim.const _ | exact impl_extended.J0_lim _ _ | exact impl_fits.F_lim _ _ | exact impl_holes.F_lim _ | refine Lim.ite ?_ ?_ | refine Lim.bind ?_ (fun _ => ?_))))

end Go.Proofs.Ytaohgllnoomaeaa.Fn
namespace Go.Proofs.Ytaohgllnoomaeaa.Fn
open Go.RowKit Go.Proofs.YtaohgllnoomaeaaW.PrintWords Go.Proofs.YtaohgllnoomaeaaW.PrintLast Go.Proofs.YtaohgllnoomaeaaW.PrintMore
attribute [local go_sem] max2_int min2_int max_two min_two max_three min_three max_four min_four   -- for this text's walks alone
set_option linter.unusedVariables false
set_option linter.unusedSimpArgs false

/-! ### impl_hooked: function 168 -/
def impl_hooked.f (k : Nat) (l0 : List Int) : Option (Int) := (impl_extended.f k l0).bind fun bt287 => (if bt287.2 = (wrap64 ((l0.length : Int) - 2)) then (some bt287.1) else (some 0))
theorem impl_hooked.mono : ∀ a0 k, LeO (impl_hooked.f k a0) (impl_hooked.f (k + 1) a0) := by
 intro a0 k
 unfold impl_hooked.f
 repeat' (first | (with_reducible first | exact impl_extended.mono _ _ | exact LeO.refl _ | exact LeO.none _ | refine LeO.ite ?_ ?_ | refine LeO.bind ?_ (fun _ => ?_)) | exact impl_extended.mono _ _ | exact LeO.none _ | refine LeO.ite ?_ ?_ | refine LeO.bind ?_ (fun _ => ?_))
set_option maxHeartbeats 8000000 in
set_option maxRecDepth 100000 in
theorem impl_hooked.calls (k : Nat) (A0 : Option Addr) (c0 : Nat) (l0 : List Int) (r : Int) (w : World) (hr0 : Kd.C (Kd.int .i64) w A0 l0.length l0) (hc0 : l0.length ≤ c0) (h : impl_hooked.f k l0 = some r) :
  Calls Try.prog 168 #[.slice A0 l0.length c0] w fun e w' => e = .returned (.int .i64 r) ∧ Below w.heap.size w w' := by
 have HR0 := Aside0.mk hr0
 have HC0 := Aside0.mk hc0
 clear hr0 hc0
 have HB := Aside0.mk (Below.refl w.heap.size w)
 have H : ((impl_extended.f k l0).bind fun bt287 => (if bt287.2 = (wrap64 ((l0.length : Int) - 2)) then (some bt287.1) else (some 0))) = some r := h
 clear h
 replace H := Option.bind_eq_some_iff.mp H
 obtain ⟨⟨t287, t288⟩, A20, H⟩ := H
 replace H : (if t288 = (wrap64 ((l0.length : Int) - 2)) then (some t287) else (some 0)) = some r := H
 have A2 := Aside0.mk A20
 clear A20
 by_cases c3 : t288 = (wrap64 ((l0.length : Int) - 2))
 ·rw [if_pos c3] at H
  have c3b0 : (t288 == (wrap64 ((l0.length : Int) - 2))) = true := beq_iff_eq.mpr c3
  have c3b1 : (t288 != (wrap64 ((l0.length : Int) - 2))) = false := bne_eq_false_iff_eq.mpr c3
  clear c3
  obtain rfl := Option.some.inj H
  go_enter Try.func168, Try.ntmps168
  go_wp2_with (first | ((with_reducible refine gate_callee (f := 222) rfl ?_); refine goesA (some 7) Try.func222 #[.slice A0 l0.length c0] ?_; (with_reducible refine (impl_extended.calls k _ _ l0 t287 t288 _ ?side1 ?side2 A2.out).mono ?_); (case side1 => repeat (first | exact HR0.out | (with_reducible refine Kd.C_alloc ?_ _) | (with_reducible refine Kd.C_drewN ?_ _) | (with_reducible refine Kd.C_drew ?_))); (case side2 => exact HC0.out); rintro e w4 ⟨rfl, hb⟩; refine ⟨_, rfl, ?_⟩; replace HB := upB HB hb; (try clear hb); (try clear hb2); (try clear hk); (try clear hi)))
  go_ret
  exact ⟨by first | rfl | (simp [errW_none, errW_some] <;> rfl) | (simp [*, errW_none, errW_some] <;> rfl), atB HB⟩
 ·rw [if_neg c3] at H
  have c3b0 : (t288 == (wrap64 ((l0.length : Int) - 2))) = false := beq_eq_false_iff_ne.mpr c3
  have c3b1 : (t288 != (wrap64 ((l0.length : Int) - 2))) = true := bne_iff_ne.mpr c3
  obtain rfl := Option.some.inj H
  go_enter Try.func168, Try.ntmps168
  go_wp2_with (first | ((with_reducible refine gate_callee (f := 222) rfl ?_); refine goesA (some 7) Try.func222 #[.slice A0 l0.length c0] ?_; (with_reducible refine (impl_extended.calls k _ _ l0 t287 t288 _ ?side1 ?side2 A2.out).mono ?_); (case side1 => repeat (first | exact HR0.out | (with_reducible refine Kd.C_alloc ?_ _) | (with_reducible refine Kd.C_drewN ?_ _) | (with_reducible refine Kd.C_drew ?_))); (case side2 => exact HC0.out); rintro e w5 ⟨rfl, hb⟩; refine ⟨_, rfl, ?_⟩; replace HB := upB HB hb; (try clear hb); (try clear hb2); (try clear hk); (try clear hi)))
  go_ret
  exact ⟨by first | rfl | (simp [errW_none, errW_some] <;> rfl) | (simp [*, errW_none, errW_some] <;> rfl), atB HB⟩

noncomputable def impl_hooked.F (l0 : List Int) : Option (Int) := lim fun k => impl_hooked.f k l0
theorem impl_hooked.F_lim (l0 : List Int) : Lim (fun k => impl_hooked.f k l0) (impl_hooked.F l0) := Lim.of fun k => impl_hooked.mono l0 k
theorem impl_hooked.F_eq (l0 : List Int) : impl_hooked.F l0 = ((impl_extended.F l0).bind fun bt287 => (if bt287.2 = (wrap64 ((l0.length : Int) - 2)) then (some bt287.1) else (some 0))) :=
 Lim.unique (impl_hooked.F_lim l0) (by
  unfold impl_hooked.f
  repeat' (first | (with_reducible first | exact Lim.const _ | exact impl_extended.F_lim _ | refine Lim.ite ?_ ?_ | refine Lim.bind ?_ (fun _ => ?_))))

end Go.Proofs.Ytaohgllnoomaeaa.Fn
namespace Go.Proofs.Ytaohgllnoomaeaa.Fn
open Go.RowKit Go.Proofs.YtaohgllnoomaeaaW.PrintWords Go.Proofs.YtaohgllnoomaeaaW.PrintLast Go.Proofs.YtaohgllnoomaeaaW.PrintMore
attribute [local go_sem] max2_int min2_int max_two min_two max_three min_three max_four min_four   -- for this text's walks alone
set_option linter.unusedVariables false
set_option linter.unusedSimpArgs false

/-! ### spec_l1Cur_among: function 191 -/
def spec_l1Cur_among.f (s0_0 : List Int) (s0_1 : Int) (s0_2 : Int) (l1 : List Int) : Option (Int × Int × Int) := (spec_l1Cur_pick.f s0_0 s0_1 s0_2 (l1.length : Int)).bind fun bt108 => (if 0 ≤ bt108.1 then (if bt108.1 < (l1.length : Int) then (some (rd l1 bt108.1, bt108.2.1, bt108.2.2)) else (none)) else (none))
set_option maxHeartbeats 8000000 in
set_option maxRecDepth 100000 in
theorem spec_l1Cur_among.calls (g : Nat) (s0_0 : List Int) (s0_1 : Int) (s0_2 : Int) (A1 : Option Addr) (c1 : Nat) (l1 : List Int) (r1 : Int) (r2 : Int) (r3 : Int) (w0 w : World) (hI : IsS108 w0 w g s0_0 s0_1 s0_2) (hB : Below w0.heap.size w0 w) (hr1 : Kd.C (Kd.int .i64) w A1 l1.length l1) (hc1 : l1.length ≤ c1) (hf1 : ∀ ad, A1 = some ad → 0 < l1.length → ad.block ≠ g) (h : spec_l1Cur_among.f s0_0 s0_1 s0_2 l1 = some (r1, r2, r3)) :
  Calls Try.prog 191 #[.pointer (some ⟨g, 0, none⟩), .slice A1 l1.length c1] w fun e w' => e = .returned (.int .i64 r1) ∧ IsS108 w0 w' g s0_0 r2 r3 ∧ Below w0.heap.size w0 w' ∧ KeepBut w w' g none := by
 have HR1 := Aside0.mk hr1
 have HC1 := Aside0.mk hc1
 clear hr1 hc1
 have HI0 := Aside0.mk hI
 have HK := Aside0.mk (KeepBut.refl w g none)
 have HL := Aside0.mk hB.size
 clear hI
 have HW0 := Aside0.mk hB.size
 have HB := Aside0.mk hB
 clear hB
 have H : ((spec_l1Cur_pick.f s0_0 s0_1 s0_2 (l1.length : Int)).bind fun bt108 => (if 0 ≤ bt108.1 then (if bt108.1 < (l1.length : Int) then (some (rd l1 bt108.1, bt108.2.1, bt108.2.2)) else (none)) else (none))) = some (r1, r2, r3) := h
 clear h
 replace H := Option.bind_eq_some_iff.mp H
 obtain ⟨⟨t108, t109, t110⟩, A30, H⟩ := H
 replace H : (if 0 ≤ t108 then (if t108 < (l1.length : Int) then (some (rd l1 t108, t109, t110)) else (none)) else (none)) = some (r1, r2, r3) := H
 have A3 := Aside0.mk A30
 clear A30
 by_cases c4 : 0 ≤ t108
 ·rw [if_pos c4] at H
  have c4b0 : decide (0 ≤ t108) = true := decide_eq_true c4
  clear c4
  by_cases c5 : t108 < (l1.length : Int)
  ·rw [if_pos c5] at H
   have c5b0 : decide (t108 < (l1.length : Int)) = true := decide_eq_true c5
   clear c5
   simp only [Option.some.injEq, Prod.mk.injEq] at H
   obtain ⟨rfl, rfl, rfl⟩ := H
   go_enter Try.func191, Try.ntmps191
   go_wp2_with (first | ((with_reducible refine gate_callee (f := 171) rfl ?_); refine goesA (some 9) Try.func171 #[.pointer (some ⟨g, 0, none⟩), .int .i64 (l1.length : Int)] ?_; (with_reducible refine (spec_l1Cur_pick.calls g s0_0 s0_1 s0_2 (l1.length : Int) t108 t109 t110 w0 _ ?side1 ?side2 A3.out).mono ?_); (case side1 => exact IsS108.at HI0); (case side2 => exact atB HB); rintro e w6 ⟨rfl, hi, hb, hk⟩; refine ⟨_, rfl, ?_⟩; replace HK := upK HK hk; replace HB := Aside0.mk (hb); replace HI0 := Aside0.mk (hi); (try clear hb); (try clear hb2); (try clear hk); (try clear hi); have p111 : 0 ≤ (t108 : Int) := ofd; have q111 : t108 < (l1.length : Int) := ofd; obtain ⟨ad111, e111, hx111_0⟩ := Kd.at_int HR1.out t108 p111 q111; cases e111; replace hx111_0 := keep_cell HK.out hx111_0 (by first | (rw [add_block]; exact hf1 _ rfl (by omega)) | exact hf1 _ rfl (by omega) | exact hf1 ad111 rfl (by omega)); replace p111 := eq_true p111; replace q111 := eq_true q111))
   go_ret
   exact ⟨by first | rfl | (simp [errW_none, errW_some] <;> rfl) | (simp [*, errW_none, errW_some] <;> rfl), IsS108.at HI0, atB HB, atK HK⟩
  ·rw [if_neg c5] at H
   exact absurd H (by simp)
 ·rw [if_neg c4] at H
  exact absurd H (by simp)


end Go.Proofs.Ytaohgllnoomaeaa.Fn
namespace Go.Proofs.Ytaohgllnoomaeaa.Fn
open Go.RowKit Go.Proofs.YtaohgllnoomaeaaW.PrintWords Go.Proofs.YtaohgllnoomaeaaW.PrintLast Go.Proofs.YtaohgllnoomaeaaW.PrintMore
attribute [local go_sem] max2_int min2_int max_two min_two max_three min_three max_four min_four   -- for this text's walks alone
set_option linter.unusedVariables false
set_option linter.unusedSimpArgs false

/-! ### spec_DrawCountLangford: function 144 -/
def spec_DrawCountLangford.f (l0 : List Int) : Option (Int × Int) := (spec_l1Cur_among.f l0 0 0 (([1, 3, 4, 5, 6, 7, 4, 3, 7, 0, 10] : List Int))).bind fun bt116 => ((spec_l1Cur_among.f l0 bt116.2.1 bt116.2.2 (([1, 1, 1, 2, 3, 0, 11, 12] : List Int))).bind fun bt122 => (some (bt116.1, bt122.1)))
set_option maxHeartbeats 8000000 in
set_option maxRecDepth 100000 in
theorem spec_DrawCountLangford.calls (A0 : Option Addr) (c0 : Nat) (l0 : List Int) (r1 : Int) (r2 : Int) (w : World) (hr0 : Kd.C (Kd.int .u8) w A0 l0.length l0) (hc0 : l0.length ≤ c0) (h : spec_DrawCountLangford.f l0 = some (r1, r2)) :
  Calls Try.prog 144 #[.slice A0 l0.length c0] w fun e w' => e = .returned (.tuple #[.int .i64 r1, .int .i64 r2]) ∧ Below w.heap.size w w' := by
 have hu108 := Try.underlying108
 have HR0 := Aside0.mk hr0
 have HC0 := Aside0.mk hc0
 clear hr0 hc0
 have HB := Aside0.mk (Below.refl w.heap.size w)
 have H : ((spec_l1Cur_among.f l0 0 0 (([1, 3, 4, 5, 6, 7, 4, 3, 7, 0, 10] : List Int))).bind fun bt116 => ((spec_l1Cur_among.f l0 bt116.2.1 bt116.2.2 (([1, 1, 1, 2, 3, 0, 11, 12] : List Int))).bind fun bt122 => (some (bt116.1, bt122.1)))) = some (r1, r2) := h
 clear h
 obtain ⟨y113, hy113⟩ : ∃ y_ : List Int, y_ = (([1, 3, 4, 5, 6, 7, 4, 3, 7, 0, 10] : List Int)) := ⟨_, rfl⟩
 replace H : ((spec_l1Cur_among.f l0 0 0 y113).bind fun bt116 => ((spec_l1Cur_among.f l0 bt116.2.1 bt116.2.2 (([1, 1, 1, 2, 3, 0, 11, 12] : List Int))).bind fun bt122 => (some (bt116.1, bt122.1)))) = some (r1, r2) := by first | (rw [hy113]; with_reducible exact H) | (have H2_ := (Option.bind_some _ _).symm.trans H; rw [hy113]; with_reducible exact H2_) | (have H2_ := (Option.bind_some _ _).symm.trans H; with_reducible exact H2_) | with_reducible exact H | (rw [hy113]; exact H) | exact H
 have Ny113 := Aside0.mk hy113
 clear hy113
 replace H := Option.bind_eq_some_iff.mp H
 obtain ⟨⟨t116, t117, t118⟩, A20, H⟩ := H
 replace H : ((spec_l1Cur_among.f l0 t117 t118 (([1, 1, 1, 2, 3, 0, 11, 12] : List Int))).bind fun bt122 => (some (t116, bt122.1))) = some (r1, r2) := H
 have A2 := Aside0.mk A20
 clear A20
 obtain ⟨y119, hy119⟩ : ∃ y_ : List Int, y_ = (([1, 1, 1, 2, 3, 0, 11, 12] : List Int)) := ⟨_, rfl⟩
 replace H : ((spec_l1Cur_among.f l0 t117 t118 y119).bind fun bt122 => (some (t116, bt122.1))) = some (r1, r2) := by first | (rw [hy119]; with_reducible exact H) | (have H2_ := (Option.bind_some _ _).symm.trans H; rw [hy119]; with_reducible exact H2_) | (have H2_ := (Option.bind_some _ _).symm.trans H; with_reducible exact H2_) | with_reducible exact H | (rw [hy119]; exact H) | exact H
 have Ny119 := Aside0.mk hy119
 clear hy119
 replace H := Option.bind_eq_some_iff.mp H
 obtain ⟨⟨t122, t123, t124⟩, A30, H⟩ := H
 replace H : (some (t116, t122)) = some (r1, r2) := H
 have A3 := Aside0.mk A30
 clear A30
 simp only [Option.some.injEq, Prod.mk.injEq] at H
 obtain ⟨rfl, rfl⟩ := H
 go_enter Try.func144, Try.ntmps144
 go_wp2_with (first | ((with_reducible refine gate_dst (N := 7) rfl ?_); refine box_event ?hg (N := 7) ?hd (cs := #[.slice A0 l0.length c0, .int .i64 0, .int .u64 0]) (t := 108) ?hr ?_; (case hd => rfl); (case hg => rfl); (case hr => first | (go_simp; done) | (go_simp; rfl)); intro gb112 hg w4 hbox hb; have HI112 := Aside0.mk ((⟨_, _, hbox, (by rw [hg]; exact (szB HB) : w.heap.size ≤ gb112), HR0.out⟩ : IsS108 w w4 gb112 l0 0 0)); replace HB := upB HB hb; clear hb hbox hg) | ((with_reducible refine gate_dst (N := 9) rfl ?_); refine Kd.R_lit (Kd.int .i64) _ 3 ?hg (N := 9) ?hd (xs := ([1, 3, 4, 5, 6, 7, 4, 3, 7, 0, 10] : List Int)) (inner := [.int .i64 1, .int .i64 3, .int .i64 4, .int .i64 5, .int .i64 6, .int .i64 7, .int .i64 4, .int .i64 3, .int .i64 7, .int .i64 0, .int .i64 10]) (ok := fun _ => True) (okp := fun _ => True) ?hr ?hp (fun _ hk => hk) trivial (Below.refl _ _) (Nat.le_refl _) (by simp) ?_; (case hd => rfl); (case hg => rfl); (case hr => first | (go_simp; done) | (go_simp; rfl)); (case hp => exact repsI _); intro v114 w5 ho6 hb hg_ hnew_; clear hg_ hnew_; (first | rw [← Ny113.out] at ho6 | (simp only [Int.reduceToNat] at ho6; rw [← Ny113.out] at ho6)); have HO115 := lowR ho6 HB; replace HI112 := IsS108.up HI112 hb; replace HB := upB HB hb; clear hb ho6; obtain ⟨Ao7, co7, eo7⟩ := Kd.R_slice HO115.out; subst eo7) | ((with_reducible refine gate_callee (f := 191) rfl ?_); refine goesA (some 10) Try.func191 #[.pointer (some ⟨gb112, 0, none⟩), .slice Ao7 y113.length co7] ?_; (with_reducible refine (spec_l1Cur_among.calls gb112 l0 0 0 _ _ y113 t116 t117 t118 w _ ?side1 ?side2 ?side3 ?side4 ?side5 A2.out).mono ?_); (case side1 => exact IsS108.at HI112); (case side2 => exact atB HB); (case side3 => exact atRC HO115); (case side4 => exact (Kd.R_reads' HO115.out).2.1); (case side5 => exact far_slice (IsS108.own_ne HI112.out HO115.out (by decide))); rintro e w8 ⟨rfl, hi, hb, hk⟩; refine ⟨_, rfl, ?_⟩; replace HO115 := IsS108.keepR HI112 HO115 hk; replace HB := Aside0.mk (hb); replace HI112 := Aside0.mk (hi); (try clear hb); (try clear hb2); (try clear hk); (try clear hi)) | ((with_reducible refine gate_dst (N := 12) rfl ?_); refine Kd.R_lit (Kd.int .i64) _ 3 ?hg (N := 12) ?hd (xs := ([1, 1, 1, 2, 3, 0, 11, 12] : List Int)) (inner := [.int .i64 1, .int .i64 1, .int .i64 1, .int .i64 2, .int .i64 3, .int .i64 0, .int .i64 11, .int .i64 12]) (ok := fun _ => True) (okp := fun _ => True) ?hr ?hp (fun _ hk => hk) trivial (Below.refl _ _) (Nat.le_refl _) (by simp) ?_; (case hd => rfl); (case hg => rfl); (case hr => first | (go_simp; done) | (go_simp; rfl)); (case hp => exact repsI _); intro v120 w9 ho10 hb hg_ hnew_; clear hg_ hnew_; (first | rw [← Ny119.out] at ho10 | (simp only [Int.reduceToNat] at ho10; rw [← Ny119.out] at ho10)); have HO121 := Aside0.mk (Kd.R_lower (Kd.R_new' ho10 (ltR HO115)) (szB HB)); replace HO115 := eldRR HO115 ho10 hb; replace HI112 := IsS108.up HI112 hb; replace HB := upB HB hb; clear hb ho10; obtain ⟨Ao11, co11, eo11⟩ := Kd.R_slice HO121.out; subst eo11) | ((with_reducible refine gate_callee (f := 191) rfl ?_); refine goesA (some 13) Try.func191 #[.pointer (some ⟨gb112, 0, none⟩), .slice Ao11 y119.length co11] ?_; (with_reducible refine (spec_l1Cur_among.calls gb112 l0 t117 t118 _ _ y119 t122 t123 t124 w _ ?side1 ?side2 ?side3 ?side4 ?side5 A3.out).mono ?_); (case side1 => exact IsS108.at HI112); (case side2 => exact atB HB); (case side3 => exact atRC HO121); (case side4 => exact (Kd.R_reads' HO121.out).2.1); (case side5 => exact far_slice (IsS108.own_ne HI112.out HO121.out (by decide))); rintro e w12 ⟨rfl, hi, hb, hk⟩; refine ⟨_, rfl, ?_⟩; replace HO115 := IsS108.keepR HI112 HO115 hk; replace HO121 := IsS108.keepR HI112 HO121 hk; replace HB := Aside0.mk (hb); replace HI112 := Aside0.mk (hi); (try clear hb); (try clear hb2); (try clear hk); (try clear hi)))
 go_ret2
 exact ⟨by first | rfl | (simp [errW_none, errW_some] <;> rfl) | (simp [*, errW_none, errW_some] <;> rfl), atB HB⟩


end Go.Proofs.Ytaohgllnoomaeaa.Fn
namespace Go.Proofs.Ytaohgllnoomaeaa.Fn
open Go.RowKit Go.Proofs.YtaohgllnoomaeaaW.PrintWords Go.Proofs.YtaohgllnoomaeaaW.PrintLast Go.Proofs.YtaohgllnoomaeaaW.PrintMore
attribute [local go_sem] max2_int min2_int max_two min_two max_three min_three max_four min_four   -- for this text's walks alone
set_option linter.unusedVariables false
set_option linter.unusedSimpArgs false

/-! ### spec_DrawAllLangford: function 11 -/
def spec_DrawAllLangford.f (l0 : List Int) : Option (Int × Int) := (spec_DrawCountLangford.f l0).bind fun bt125 => (some (bt125.1, bt125.2))
set_option maxHeartbeats 8000000 in
set_option maxRecDepth 100000 in
theorem spec_DrawAllLangford.calls (A0 : Option Addr) (c0 : Nat) (l0 : List Int) (r1 : Int) (r2 : Int) (w : World) (hr0 : Kd.C (Kd.int .u8) w A0 l0.length l0) (hc0 : l0.length ≤ c0) (h : spec_DrawAllLangford.f l0 = some (r1, r2)) :
  Calls Try.prog 11 #[.slice A0 l0.length c0] w fun e w' => e = .returned (.tuple #[.int .i64 r1, .int .i64 r2]) ∧ Below w.heap.size w w' := by
 have HR0 := Aside0.mk hr0
 have HC0 := Aside0.mk hc0
 clear hr0 hc0
 have HB := Aside0.mk (Below.refl w.heap.size w)
 have H : ((spec_DrawCountLangford.f l0).bind fun bt125 => (some (bt125.1, bt125.2))) = some (r1, r2) := h
 clear h
 replace H := Option.bind_eq_some_iff.mp H
 obtain ⟨⟨t125, t126⟩, A20, H⟩ := H
 replace H : (some (t125, t126)) = some (r1, r2) := H
 have A2 := Aside0.mk A20
 clear A20
 simp only [Option.some.injEq, Prod.mk.injEq] at H
 obtain ⟨rfl, rfl⟩ := H
 go_enter Try.func11, Try.ntmps11
 go_wp2_with (first | ((with_reducible refine gate_callee (f := 144) rfl ?_); refine goesA (some 5) Try.func144 #[.slice A0 l0.length c0] ?_; (with_reducible refine (spec_DrawCountLangford.calls _ _ l0 t125 t126 _ ?side1 ?side2 A2.out).mono ?_); (case side1 => repeat (first | exact HR0.out | (with_reducible refine Kd.C_alloc ?_ _) | (with_reducible refine Kd.C_drewN ?_ _) | (with_reducible refine Kd.C_drew ?_))); (case side2 => exact HC0.out); rintro e w3 ⟨rfl, hb⟩; refine ⟨_, rfl, ?_⟩; replace HB := upB HB hb; (try clear hb); (try clear hb2); (try clear hk); (try clear hi)))
 go_ret2
 exact ⟨by first | rfl | (simp [errW_none, errW_some] <;> rfl) | (simp [*, errW_none, errW_some] <;> rfl), atB HB⟩


end Go.Proofs.Ytaohgllnoomaeaa.Fn
namespace Go.Proofs.Ytaohgllnoomaeaa.Fn
open Go.RowKit Go.Proofs.YtaohgllnoomaeaaW.PrintWords Go.Proofs.YtaohgllnoomaeaaW.PrintLast Go.Proofs.YtaohgllnoomaeaaW.PrintMore
attribute [local go_sem] max2_int min2_int max_two min_two max_three min_three max_four min_four   -- for this text's walks alone
set_option linter.unusedVariables false
set_option linter.unusedSimpArgs false

/-! ### spec_l1In: function 192 -/
def spec_l1In.f (a0 : Int) (a1 : Int) (a2 : Int) : Option (Bool) := if a0 ≥ a1 then (some (decide (a0 ≤ a2))) else (some false)
set_option maxHeartbeats 8000000 in
set_option maxRecDepth 100000 in
theorem spec_l1In.calls (a0 : Int) (a1 : Int) (a2 : Int) (r : Bool) (w : World) (h : spec_l1In.f a0 a1 a2 = some r) :
  Calls Try.prog 192 #[.int .i64 a0, .int .i64 a1, .int .i64 a2] w fun e w' => e = .returned (.bool r) ∧ Drawn0 w w' := by
 have H : (if a0 ≥ a1 then (some (decide (a0 ≤ a2))) else (some false)) = some r := h
 clear h
 by_cases c4 : a0 ≥ a1
 ·rw [if_pos c4] at H
  have c4b0 : decide (a1 ≤ a0) = true := decide_eq_true c4
  clear c4
  obtain rfl := Option.some.inj H
  go_enter Try.func192, Try.ntmps192
  go_wp2
  go_ret
  exact ⟨by first | rfl | (simp; done) | (simp [*]; done), by repeat (first | exact Drawn0.refl _ | apply Drawn0.step)⟩
 ·rw [if_neg c4] at H
  have c4b0 : decide (a1 ≤ a0) = false := decide_eq_false c4
  clear c4
  obtain rfl := Option.some.inj H
  go_enter Try.func192, Try.ntmps192
  go_wp2
  go_ret
  exact ⟨by first | rfl | (simp; done) | (simp [*]; done), by repeat (first | exact Drawn0.refl _ | apply Drawn0.step)⟩


end Go.Proofs.Ytaohgllnoomaeaa.Fn
namespace Go.Proofs.Ytaohgllnoomaeaa.Fn
open Go.RowKit Go.Proofs.YtaohgllnoomaeaaW.PrintWords Go.Proofs.YtaohgllnoomaeaaW.PrintLast Go.Proofs.YtaohgllnoomaeaaW.PrintMore
attribute [local go_sem] max2_int min2_int max_two min_two max_three min_three max_four min_four   -- for this text's walks alone
set_option linter.unusedVariables false
set_option linter.unusedSimpArgs false

/-! ### spec_seSought: function 162 -/
def spec_seSought.f (a0 : Int) : Option (Bool) := (spec_l1In.f a0 1 9).bind fun t130 => (some t130)
set_option maxHeartbeats 8000000 in
set_option maxRecDepth 100000 in
theorem spec_seSought.calls (a0 : Int) (r : Bool) (w : World) (h : spec_seSought.f a0 = some r) :
  Calls Try.prog 162 #[.int .i64 a0] w fun e w' => e = .returned (.bool r) ∧ Drawn0 w w' := by
 have H : ((spec_l1In.f a0 1 9).bind fun t130 => (some t130)) = some r := h
 clear h
 replace H := Option.bind_eq_some_iff.mp H
 obtain ⟨t130, A20, H⟩ := H
 replace H : (some t130) = some r := H
 have A2 := Aside0.mk A20
 clear A20
 obtain rfl := Option.some.inj H
 go_enter Try.func162, Try.ntmps162
 go_wp2_with (first | ((with_reducible refine gate_callee (f := 192) rfl ?_); refine goesA (some 4) Try.func192 #[.int .i64 a0, .int .i64 1, .int .i64 9] ?_; (with_reducible refine (spec_l1In.calls a0 1 9 t130 _ A2.out).mono ?_); rintro e w' ⟨rfl, ⟨nd, rfl⟩⟩; refine ⟨_, rfl, ?_⟩))
 go_ret
 exact ⟨by first | rfl | (simp; done) | (simp [*]; done), by repeat (first | exact Drawn0.refl _ | apply Drawn0.step)⟩


end Go.Proofs.Ytaohgllnoomaeaa.Fn
namespace Go.Proofs.Ytaohgllnoomaeaa.Fn
open Go.RowKit Go.Proofs.YtaohgllnoomaeaaW.PrintWords Go.Proofs.YtaohgllnoomaeaaW.PrintLast Go.Proofs.YtaohgllnoomaeaaW.PrintMore
attribute [local go_sem] max2_int min2_int max_two min_two max_three min_three max_four min_four   -- for this text's walks alone
set_option linter.unusedVariables false
set_option linter.unusedSimpArgs false

/-! ### spec_seN: function 172 -/
def spec_seN.f (a0 : Int) : Option (Bool) := (spec_l1In.f a0 1 20).bind fun t131 => (some t131)
set_option maxHeartbeats 8000000 in
set_option maxRecDepth 100000 in
theorem spec_seN.calls (a0 : Int) (r : Bool) (w : World) (h : spec_seN.f a0 = some r) :
  Calls Try.prog 172 #[.int .i64 a0] w fun e w' => e = .returned (.bool r) ∧ Drawn0 w w' := by
 have H : ((spec_l1In.f a0 1 20).bind fun t131 => (some t131)) = some r := h
 clear h
 replace H := Option.bind_eq_some_iff.mp H
 obtain ⟨t131, A20, H⟩ := H
 replace H : (some t131) = some r := H
 have A2 := Aside0.mk A20
 clear A20
 obtain rfl := Option.some.inj H
 go_enter Try.func172, Try.ntmps172
 go_wp2_with (first | ((with_reducible refine gate_callee (f := 192) rfl ?_); refine goesA (some 4) Try.func192 #[.int .i64 a0, .int .i64 1, .int .i64 20] ?_; (with_reducible refine (spec_l1In.calls a0 1 20 t131 _ A2.out).mono ?_); rintro e w' ⟨rfl, ⟨nd, rfl⟩⟩; refine ⟨_, rfl, ?_⟩))
 go_ret
 exact ⟨by first | rfl | (simp; done) | (simp [*]; done), by repeat (first | exact Drawn0.refl _ | apply Drawn0.step)⟩


end Go.Proofs.Ytaohgllnoomaeaa.Fn
