/- The machine's side and plain lemmas for FnRulersMeasure: texts of this session, merged by its program (part 2). -/
import Derived.Test.YtofjndbpndpjjaaMFnRulersMeasure0
import Derived.Test.YtofjndbpndpjjaaMFnRulersMeasure1
namespace Go.Proofs.Ytofjndbpndpjjaa.Fn
open Go.RowKit Go.Proofs.YtofjndbpndpjjaaW.PrintWords Go.Proofs.YtofjndbpndpjjaaW.PrintLast Go.Proofs.YtofjndbpndpjjaaW.PrintMore
attribute [local go_sem] max2_int min2_int max_two min_two max_three min_three max_four min_four   -- for this text's walks alone
set_option linter.unusedVariables false
set_option linter.unusedSimpArgs false

/-! ### spec_ruAdd: function 67 -/
def spec_ruAdd.l0 : Nat → List Int → Int → Int → Option (List Int × Bool)
 | 0, _, _, _ => none
 | k + 1, x0, x1, x6 => if x6 < (x0.length : Int) then (if 0 ≤ x6 then (if (rd x0 x6) < x1 then (spec_ruAdd.l0 k x0 x1 (wrap64 (x6 + 1))) else (if x6 ≤ (x0.length : Int) then ((spec_l1Own.f (x0.take (x6 : Int).toNat)).bind fun t420 => (if t420.length < 17592186044416 then ((some (t420 ++ [x1] : List Int)).bind fun y423 => (if y423.length + (x0.drop (x6 : Int).toNat).length < 17592186044416 then ((some (y423 ++ (x0.drop (x6 : Int).toNat) : List Int)).bind fun y427 => ((spec_ruGood.f k y427).bind fun t430 => (some (y427, t430)))) else (none))) else (none))) else (none))) else (none)) else (if 0 ≤ x6 then (if x6 ≤ (x0.length : Int) then ((spec_l1Own.f (x0.take (x6 : Int).toNat)).bind fun t432 => (if t432.length < 17592186044416 then ((some (t432 ++ [x1] : List Int)).bind fun y435 => (if y435.length + (x0.drop (x6 : Int).toNat).length < 17592186044416 then ((some (y435 ++ (x0.drop (x6 : Int).toNat) : List Int)).bind fun y439 => ((spec_ruGood.f k y439).bind fun t442 => (some (y439, t442)))) else (none))) else (none))) else (none)) else (none))
def spec_ruAdd.f (k : Nat) (l0 : List Int) (a1 : Int) : Option (List Int × Bool) := spec_ruAdd.l0 k l0 a1 0
theorem spec_ruAdd.mono_l : ∀ k, (∀ y0 y1 y2, LeO (spec_ruAdd.l0 k y0 y1 y2) (spec_ruAdd.l0 (k + 1) y0 y1 y2))
 | 0 => fun _ _ _ r h => by simp [spec_ruAdd.l0] at h
 | k + 1 => by
  have ih0 := spec_ruAdd.mono_l k
  ·intro y0 y1 y2
   unfold spec_ruAdd.l0
   repeat' (first | (with_reducible first | exact ih0 _ _ _ | exact spec_ruGood.mono _ _ | exact LeO.refl _ | exact LeO.none _ | refine LeO.ite ?_ ?_ | refine LeO.bind ?_ (fun _ => ?_)) | exact ih0 _ _ _ | exact spec_ruGood.mono _ _ | exact LeO.none _ | refine LeO.ite ?_ ?_ | refine LeO.bind ?_ (fun _ => ?_))
theorem spec_ruAdd.mono : ∀ a0 a1 k, LeO (spec_ruAdd.f k a0 a1) (spec_ruAdd.f (k + 1) a0 a1) := by
 intro a0 a1 k
 have ih0 := spec_ruAdd.mono_l k
 unfold spec_ruAdd.f
 repeat' (first | (with_reducible first | exact ih0 _ _ _ | exact LeO.refl _ | exact LeO.none _ | refine LeO.ite ?_ ?_ | refine LeO.bind ?_ (fun _ => ?_)) | exact ih0 _ _ _ | exact LeO.none _ | refine LeO.ite ?_ ?_ | refine LeO.bind ?_ (fun _ => ?_))
set_option maxHeartbeats 8000000 in
set_option maxRecDepth 100000 in
theorem spec_ruAdd.calls (k : Nat) (A0 : Option Addr) (c0 : Nat) (l0 : List Int) (a1 : Int) (r1 : List Int) (r2 : Bool) (w : World) (hr0 : Kd.C (Kd.int .i64) w A0 l0.length l0) (hc0 : l0.length ≤ c0) (h : spec_ruAdd.f k l0 a1 = some (r1, r2)) :
  Calls Try.prog 67 #[.slice A0 l0.length c0, .int .i64 a1] w fun e w' => ∃ v0_ : Value, e = .returned (.tuple #[v0_, .bool r2]) ∧ Kd.R (Kd.int .i64) 3 w' w.heap.size (fun _ => True) v0_ r1 ∧ Below w.heap.size w w' := by
 have HR0 := Aside0.mk hr0
 have HC0 := Aside0.mk hc0
 clear hr0 hc0
 have HB := Aside0.mk (Below.refl w.heap.size w)
 have H := h
 unfold spec_ruAdd.f at H
 clear h
 have H' := Aside0.mk H
 clear H
 go_enter Try.func67, Try.ntmps67
 go_wp2
 go_loopg [6] k (fun kq v6 w' => ∃ (x6_1 : Int), v6 = .int .i64 x6_1 ∧ Aside0 (spec_ruAdd.l0 kq l0 a1 x6_1 = some (r1, r2)) ∧ Aside0 (kq ≤ k) ∧ Aside0 (Below w.heap.size w w'))
 case atStart => exact ⟨(0), eqd, H', ⟨Nat.le_refl _⟩, ⟨atB HB⟩⟩
 case round =>
  clear H'
  try clear p2
  obtain ⟨x6_1, rfl, HA, HK1, HB⟩ := hrel
  cases gk with
  | zero => exact absurd HA.out (by simp [spec_ruAdd.l0])
  | succ k1 =>
   have H := HA.out
   clear HA
   simp only [spec_ruAdd.l0] at H
   by_cases c3 : x6_1 < (l0.length : Int)
   ·rw [if_pos c3] at H
    have c3b0 : decide (x6_1 < (l0.length : Int)) = true := decide_eq_true c3
    clear c3
    by_cases c4 : 0 ≤ x6_1
    ·rw [if_pos c4] at H
     have c4b0 : decide (0 ≤ x6_1) = true := decide_eq_true c4
     clear c4
     by_cases c5 : (rd l0 x6_1) < a1
     ·rw [if_pos c5] at H
      have c5b0 : decide ((rd l0 x6_1) < a1) = true := decide_eq_true c5
      clear c5
      have H' := Aside0.mk H
      clear H
      have p418 : 0 ≤ (x6_1 : Int) := ofd
      have q418 : x6_1 < (l0.length : Int) := ofd
      obtain ⟨ad418, e418, hx418_0⟩ := Kd.at_int HR0.out x6_1 p418 q418
      cases e418
      (try replace hx418_0 := (HB.out.cell (World.block_lt_of_cell? w _ hx418_0)).trans hx418_0)
      replace p418 := eq_true p418
      replace q418 := eq_true q418
      have q418m := q418; (try rw [List.length_drop] at q418m); (try rw [List.drop_one] at q418m)
      go_wp2
      go_roundg k1
      case measure => have := HK1.out; omega
      case rel => exact ⟨(wrap64 (x6_1 + 1)), eqd, H', ⟨by have := HK1.out; omega⟩, ⟨atB HB⟩⟩
     ·rw [if_neg c5] at H
      have c5b0 : decide ((rd l0 x6_1) < a1) = false := decide_eq_false c5
      clear c5
      have c6b0 := eq_true (of_decide_eq_true (by first | (with_reducible assumption) | assumption) : 0 ≤ x6_1)
      by_cases c7 : x6_1 ≤ (l0.length : Int)
      ·rw [if_pos c7] at H
       have c7b0 := eq_true c7
       have c7b1 : decide (x6_1 ≤ (l0.length : Int)) = true := decide_eq_true c7
       clear c7
       replace H := Option.bind_eq_some_iff.mp H
       obtain ⟨t420, A80, H⟩ := H
       replace H : (if t420.length < 17592186044416 then ((some (t420 ++ [a1] : List Int)).bind fun y423 => (if y423.length + (l0.drop (x6_1 : Int).toNat).length < 17592186044416 then ((some (y423 ++ (l0.drop (x6_1 : Int).toNat) : List Int)).bind fun y427 => ((spec_ruGood.f k1 y427).bind fun t430 => (some (y427, t430)))) else (none))) else (none)) = some (r1, r2) := H
       have A8 := Aside0.mk A80
       clear A80
       by_cases c9 : t420.length < 17592186044416
       ·rw [if_pos c9] at H
        have LMc9 := Aside0.mk c9
        clear c9
        obtain ⟨y423, hy423⟩ : ∃ y_ : List Int, y_ = (t420 ++ [a1]) := ⟨_, rfl⟩
        replace H : (if y423.length + (l0.drop (x6_1 : Int).toNat).length < 17592186044416 then ((some (y423 ++ (l0.drop (x6_1 : Int).toNat) : List Int)).bind fun y427 => ((spec_ruGood.f k1 y427).bind fun t430 => (some (y427, t430)))) else (none)) = some (r1, r2) := by first | (rw [hy423]; with_reducible exact H) | (have H2_ := (Option.bind_some _ _).symm.trans H; rw [hy423]; with_reducible exact H2_) | (have H2_ := (Option.bind_some _ _).symm.trans H; with_reducible exact H2_) | with_reducible exact H | (rw [hy423]; exact H) | exact H
        have Ny423 := Aside0.mk hy423
        clear hy423
        have c10b0 := eq_true (of_decide_eq_true (by first | (with_reducible assumption) | assumption) : 0 ≤ x6_1)
        have c11b0 := eq_true (of_decide_eq_true (by first | (with_reducible assumption) | assumption) : x6_1 ≤ (l0.length : Int))
        by_cases c12 : y423.length + (l0.drop (x6_1 : Int).toNat).length < 17592186044416
        ·rw [if_pos c12] at H
         have LMc12 := Aside0.mk c12
         clear c12
         obtain ⟨y427, hy427⟩ : ∃ y_ : List Int, y_ = (y423 ++ (l0.drop (x6_1 : Int).toNat)) := ⟨_, rfl⟩
         replace H : ((spec_ruGood.f k1 y427).bind fun t430 => (some (y427, t430))) = some (r1, r2) := by first | (rw [hy427]; with_reducible exact H) | (have H2_ := (Option.bind_some _ _).symm.trans H; rw [hy427]; with_reducible exact H2_) | (have H2_ := (Option.bind_some _ _).symm.trans H; with_reducible exact H2_) | with_reducible exact H | (rw [hy427]; exact H) | exact H
         have Ny427 := Aside0.mk hy427
         clear hy427
         replace H := Option.bind_eq_some_iff.mp H
         obtain ⟨t430, A130, H⟩ := H
         replace H : (some (y427, t430)) = some (r1, r2) := H
         have A13 := Aside0.mk A130
         clear A130
         simp only [Option.some.injEq, Prod.mk.injEq] at H
         obtain ⟨rfl, rfl⟩ := H
         have p418 : 0 ≤ (x6_1 : Int) := ofd
         have q418 : x6_1 < (l0.length : Int) := ofd
         obtain ⟨ad418, e418, hx418_0⟩ := Kd.at_int HR0.out x6_1 p418 q418
         cases e418
         (try replace hx418_0 := (HB.out.cell (World.block_lt_of_cell? w _ hx418_0)).trans hx418_0)
         replace p418 := eq_true p418
         replace q418 := eq_true q418
         have q418m := q418; (try rw [List.length_drop] at q418m); (try rw [List.drop_one] at q418m)
         obtain ⟨i014, hi014, _, hsz14, _⟩ := info_parts info3
         obtain ⟨hcut14, hA14, hC14⟩ := print_take_of (P := Try.prog) (Value.int .i64) 0 24 3 .i64 Try.underlying24 hi014 hsz14 (some ad418) c0 l0 x6_1 (of_decide_eq_true (by first | (with_reducible assumption) | assumption)) (of_decide_eq_true (by first | (with_reducible assumption) | assumption)) HC0.out
         have HR419 := Aside0.mk (Kd.C_of_reads (h1 := fun _ => rfl) (hA14 _ (Kd.reads_of_C HR0.out)))
         have HC419 := Aside0.mk hC14
         clear hA14 hC14 hi014 hsz14
         go_wp2_with (first | ((with_reducible refine gate_callee (f := 97) rfl ?_); refine goesL_ (some 25) rfl rfl Try.func97 (by kernel_rfl) rfl #[.slice (some ad418) (l0.take (x6_1 : Int).toNat).length c0] rfl (by (try simp only [List.map_toArray, List.map_cons, List.map_nil]); first | done | (rw [show (l0.take (x6_1 : Int).toNat).length = x6_1.toNat from (by rw [List.length_take]; have h_ : (x6_1 : Int) ≤ (l0.length : Int) := ofd; omega)] <;> rfl) | rfl | (simp only [List.length_drop, List.length_take]; rfl)) ?_; (with_reducible refine (spec_l1Own.calls _ _ (l0.take (x6_1 : Int).toNat) t420 _ ?side1 ?side2 A8.out).mono ?_); (case side1 => repeat (first | exact (Kd.C_below HR419.out HB.out) | (with_reducible refine Kd.C_alloc ?_ _) | (with_reducible refine Kd.C_drewN ?_ _) | (with_reducible refine Kd.C_drew ?_))); (case side2 => exact HC419.out); rintro e w15 ⟨v421, rfl, ho0, hb⟩; refine ⟨_, rfl, ?_⟩; have HO422 := lowR ho0 HB; replace HB := upB HB hb; (try clear hb); (try clear hb2); (try clear hk); (try clear hi); (try clear ho0)) | ((with_reducible refine gate_builtin (b := .append) (xs := #[.tmp 25, .tmp 27]) rfl ?_); at_builtin; refine Kd.R_append (Kd.int .i64) (w0 := w) w.heap.size rfl (.tmp 25) (.tmp 27) 24 3 (.int .i64 0) 8 rfl Try.underlying24 info3 rfl (by decide) (by omega) v421 t420 a1 [.int .i64 a1] (fun _ => True) (fun _ => False) rfl rfl ?aP (fun _ hk => hk.elim) ?aF ?aO ?aB ?aS ?aL ?_; (case aP => exact rfl); (case aB => exact (atB HB)); (case aF => exact (fun _ _ => trivial)); (case aO => exact (atR HO422)); (case aS => exact (szB HB)); (case aL => have := LMc9.out; omega); intro v424 w16 ho hb hg hat; rw [← Ny423.out] at ho; have HO425 := Aside0.mk (ho); replace HB := Aside0.mk (hb); clear HO422; clear ho hb hg hat; obtain ⟨i017, hi017, _, hsz17, _⟩ := info_parts info3; obtain ⟨A17, hcut17, hA17, hC17⟩ := print_drop_of (P := Try.prog) (Value.int .i64) 0 24 3 .i64 Try.underlying24 hi017 hsz17 (some ad418) c0 l0 x6_1 (of_decide_eq_true (by first | (with_reducible assumption) | assumption)) (of_decide_eq_true (by first | (with_reducible assumption) | assumption)) HC0.out; have HR426 := Aside0.mk (Kd.C_of_reads (h1 := fun _ => rfl) (hA17 _ (Kd.reads_of_C HR0.out))); have HC426 := Aside0.mk hC17; clear hA17 hC17 hi017 hsz17) | ((with_reducible refine gate_builtin (b := .append) (xs := #[.tmp 29, .tmp 32]) rfl ?_); at_builtin; refine Kd.R_append_rows (Kd.int .i64) (w0 := w) w.heap.size rfl (.tmp 29) (.tmp 32) 24 3 (.int .i64 0) 8 rfl Try.underlying24 info3 rfl (by decide) (by omega) v424 y423 (l0.drop (x6_1 : Int).toNat) _ _ _ (fun _ => True) (fun _ => False) rfl rfl ?aO ?aR (fun _ _ h => h) (fun _ h => h.elim) ?aF ?aB ?aS ?aL ?_; (case aR => first | (rw [← show (l0.drop (x6_1 : Int).toNat).length = (l0.length - x6_1.toNat) from List.length_drop]; repeat (first | exact (Kd.C_below HR426.out HB.out) | (with_reducible refine Kd.C_alloc ?_ _) | (with_reducible refine Kd.C_drewN ?_ _) | (with_reducible refine Kd.C_drew ?_))) | (repeat (first | exact (Kd.C_below HR426.out HB.out) | (with_reducible refine Kd.C_alloc ?_ _) | (with_reducible refine Kd.C_drewN ?_ _) | (with_reducible refine Kd.C_drew ?_)))); (case aB => exact (atB HB)); (case aF => exact (fun _ _ => trivial)); (case aO => exact (atR HO425)); (case aS => exact (szB HB)); (case aL => have := LMc12.out; have hlx_ := (show (l0.drop (x6_1 : Int).toNat).length = (l0.length - x6_1.toNat) from List.length_drop); omega); intro v428 w18 ho hb hg hat; rw [← Ny427.out] at ho; have HO429 := Aside0.mk (ho); replace HB := Aside0.mk (hb); clear HO425; clear ho hb hg hat; obtain ⟨Ao19, co19, eo19⟩ := Kd.R_slice HO429.out; subst eo19) | ((with_reducible refine gate_callee (f := 60) rfl ?_); refine goesA (some 36) Try.func60 #[.slice Ao19 y427.length co19] ?_; (with_reducible refine (spec_ruGood.calls k1 _ _ y427 t430 _ ?side1 ?side2 A13.out).mono ?_); (case side1 => exact atRC HO429); (case side2 => exact (Kd.R_reads' HO429.out).2.1); rintro e w' ⟨rfl, ⟨nd, rfl⟩⟩; refine ⟨_, rfl, ?_⟩))
         go_ret2
         exact ⟨_, eqr, atR HO429, atB HB⟩
        ·rw [if_neg c12] at H
         exact absurd H (by simp)
       ·rw [if_neg c9] at H
        exact absurd H (by simp)
      ·rw [if_neg c7] at H
       exact absurd H (by simp)
    ·rw [if_neg c4] at H
     exact absurd H (by simp)
   ·rw [if_neg c3] at H
    have c3b0 : decide (x6_1 < (l0.length : Int)) = false := decide_eq_false c3
    clear c3
    by_cases c20 : 0 ≤ x6_1
    ·rw [if_pos c20] at H
     have c20b0 := eq_true c20
     have c20b1 : decide (0 ≤ x6_1) = true := decide_eq_true c20
     clear c20
     by_cases c21 : x6_1 ≤ (l0.length : Int)
     ·rw [if_pos c21] at H
      have c21b0 := eq_true c21
      have c21b1 : decide (x6_1 ≤ (l0.length : Int)) = true := decide_eq_true c21
      clear c21
      replace H := Option.bind_eq_some_iff.mp H
      obtain ⟨t432, A220, H⟩ := H
      replace H : (if t432.length < 17592186044416 then ((some (t432 ++ [a1] : List Int)).bind fun y435 => (if y435.length + (l0.drop (x6_1 : Int).toNat).length < 17592186044416 then ((some (y435 ++ (l0.drop (x6_1 : Int).toNat) : List Int)).bind fun y439 => ((spec_ruGood.f k1 y439).bind fun t442 => (some (y439, t442)))) else (none))) else (none)) = some (r1, r2) := H
      have A22 := Aside0.mk A220
      clear A220
      by_cases c23 : t432.length < 17592186044416
      ·rw [if_pos c23] at H
       have LMc23 := Aside0.mk c23
       clear c23
       obtain ⟨y435, hy435⟩ : ∃ y_ : List Int, y_ = (t432 ++ [a1]) := ⟨_, rfl⟩
       replace H : (if y435.length + (l0.drop (x6_1 : Int).toNat).length < 17592186044416 then ((some (y435 ++ (l0.drop (x6_1 : Int).toNat) : List Int)).bind fun y439 => ((spec_ruGood.f k1 y439).bind fun t442 => (some (y439, t442)))) else (none)) = some (r1, r2) := by first | (rw [hy435]; with_reducible exact H) | (have H2_ := (Option.bind_some _ _).symm.trans H; rw [hy435]; with_reducible exact H2_) | (have H2_ := (Option.bind_some _ _).symm.trans H; with_reducible exact H2_) | with_reducible exact H | (rw [hy435]; exact H) | exact H
       have Ny435 := Aside0.mk hy435
       clear hy435
       have c24b0 := eq_true (of_decide_eq_true (by first | (with_reducible assumption) | assumption) : 0 ≤ x6_1)
       have c25b0 := eq_true (of_decide_eq_true (by first | (with_reducible assumption) | assumption) : x6_1 ≤ (l0.length : Int))
       by_cases c26 : y435.length + (l0.drop (x6_1 : Int).toNat).length < 17592186044416
       ·rw [if_pos c26] at H
        have LMc26 := Aside0.mk c26
        clear c26
        obtain ⟨y439, hy439⟩ : ∃ y_ : List Int, y_ = (y435 ++ (l0.drop (x6_1 : Int).toNat)) := ⟨_, rfl⟩
        replace H : ((spec_ruGood.f k1 y439).bind fun t442 => (some (y439, t442))) = some (r1, r2) := by first | (rw [hy439]; with_reducible exact H) | (have H2_ := (Option.bind_some _ _).symm.trans H; rw [hy439]; with_reducible exact H2_) | (have H2_ := (Option.bind_some _ _).symm.trans H; with_reducible exact H2_) | with_reducible exact H | (rw [hy439]; exact H) | exact H
        have Ny439 := Aside0.mk hy439
        clear hy439
        replace H := Option.bind_eq_some_iff.mp H
        obtain ⟨t442, A270, H⟩ := H
        replace H : (some (y439, t442)) = some (r1, r2) := H
        have A27 := Aside0.mk A270
        clear A270
        simp only [Option.some.injEq, Prod.mk.injEq] at H
        obtain ⟨rfl, rfl⟩ := H
        obtain ⟨i028, hi028, _, hsz28, _⟩ := info_parts info3
        obtain ⟨hcut28, hA28, hC28⟩ := print_take_of (P := Try.prog) (Value.int .i64) 0 24 3 .i64 Try.underlying24 hi028 hsz28 A0 c0 l0 x6_1 (of_decide_eq_true (by first | (with_reducible assumption) | assumption)) (of_decide_eq_true (by first | (with_reducible assumption) | assumption)) HC0.out
        have HR431 := Aside0.mk (Kd.C_of_reads (h1 := fun _ => rfl) (hA28 _ (Kd.reads_of_C HR0.out)))
        have HC431 := Aside0.mk hC28
        clear hA28 hC28 hi028 hsz28
        go_wp2_with (first | ((with_reducible refine gate_callee (f := 97) rfl ?_); refine goesL_ (some 25) rfl rfl Try.func97 (by kernel_rfl) rfl #[.slice A0 (l0.take (x6_1 : Int).toNat).length c0] rfl (by (try simp only [List.map_toArray, List.map_cons, List.map_nil]); first | done | (rw [show (l0.take (x6_1 : Int).toNat).length = x6_1.toNat from (by rw [List.length_take]; have h_ : (x6_1 : Int) ≤ (l0.length : Int) := ofd; omega)] <;> rfl) | rfl | (simp only [List.length_drop, List.length_take]; rfl)) ?_; (with_reducible refine (spec_l1Own.calls _ _ (l0.take (x6_1 : Int).toNat) t432 _ ?side1 ?side2 A22.out).mono ?_); (case side1 => repeat (first | exact (Kd.C_below HR431.out HB.out) | (with_reducible refine Kd.C_alloc ?_ _) | (with_reducible refine Kd.C_drewN ?_ _) | (with_reducible refine Kd.C_drew ?_))); (case side2 => exact HC431.out); rintro e w29 ⟨v433, rfl, ho0, hb⟩; refine ⟨_, rfl, ?_⟩; have HO434 := lowR ho0 HB; replace HB := upB HB hb; (try clear hb); (try clear hb2); (try clear hk); (try clear hi); (try clear ho0)) | ((with_reducible refine gate_builtin (b := .append) (xs := #[.tmp 25, .tmp 27]) rfl ?_); at_builtin; refine Kd.R_append (Kd.int .i64) (w0 := w) w.heap.size rfl (.tmp 25) (.tmp 27) 24 3 (.int .i64 0) 8 rfl Try.underlying24 info3 rfl (by decide) (by omega) v433 t432 a1 [.int .i64 a1] (fun _ => True) (fun _ => False) rfl rfl ?aP (fun _ hk => hk.elim) ?aF ?aO ?aB ?aS ?aL ?_; (case aP => exact rfl); (case aB => exact (atB HB)); (case aF => exact (fun _ _ => trivial)); (case aO => exact (atR HO434)); (case aS => exact (szB HB)); (case aL => have := LMc23.out; omega); intro v436 w30 ho hb hg hat; rw [← Ny435.out] at ho; have HO437 := Aside0.mk (ho); replace HB := Aside0.mk (hb); clear HO434; clear ho hb hg hat; obtain ⟨i031, hi031, _, hsz31, _⟩ := info_parts info3; obtain ⟨A31, hcut31, hA31, hC31⟩ := print_drop_of (P := Try.prog) (Value.int .i64) 0 24 3 .i64 Try.underlying24 hi031 hsz31 A0 c0 l0 x6_1 (of_decide_eq_true (by first | (with_reducible assumption) | assumption)) (of_decide_eq_true (by first | (with_reducible assumption) | assumption)) HC0.out; have HR438 := Aside0.mk (Kd.C_of_reads (h1 := fun _ => rfl) (hA31 _ (Kd.reads_of_C HR0.out))); have HC438 := Aside0.mk hC31; clear hA31 hC31 hi031 hsz31) | ((with_reducible refine gate_builtin (b := .append) (xs := #[.tmp 29, .tmp 32]) rfl ?_); at_builtin; refine Kd.R_append_rows (Kd.int .i64) (w0 := w) w.heap.size rfl (.tmp 29) (.tmp 32) 24 3 (.int .i64 0) 8 rfl Try.underlying24 info3 rfl (by decide) (by omega) v436 y435 (l0.drop (x6_1 : Int).toNat) _ _ _ (fun _ => True) (fun _ => False) rfl rfl ?aO ?aR (fun _ _ h => h) (fun _ h => h.elim) ?aF ?aB ?aS ?aL ?_; (case aR => first | (rw [← show (l0.drop (x6_1 : Int).toNat).length = (l0.length - x6_1.toNat) from List.length_drop]; repeat (first | exact (Kd.C_below HR438.out HB.out) | (with_reducible refine Kd.C_alloc ?_ _) | (with_reducible refine Kd.C_drewN ?_ _) | (with_reducible refine Kd.C_drew ?_))) | (repeat (first | exact (Kd.C_below HR438.out HB.out) | (with_reducible refine Kd.C_alloc ?_ _) | (with_reducible refine Kd.C_drewN ?_ _) | (with_reducible refine Kd.C_drew ?_)))); (case aB => exact (atB HB)); (case aF => exact (fun _ _ => trivial)); (case aO => exact (atR HO437)); (case aS => exact (szB HB)); (case aL => have := LMc26.out; have hlx_ := (show (l0.drop (x6_1 : Int).toNat).length = (l0.length - x6_1.toNat) from List.length_drop); omega); intro v440 w32 ho hb hg hat; rw [← Ny439.out] at ho; have HO441 := Aside0.mk (ho); replace HB := Aside0.mk (hb); clear HO437; clear ho hb hg hat; obtain ⟨Ao33, co33, eo33⟩ := Kd.R_slice HO441.out; subst eo33) | ((with_reducible refine gate_callee (f := 60) rfl ?_); refine goesA (some 36) Try.func60 #[.slice Ao33 y439.length co33] ?_; (with_reducible refine (spec_ruGood.calls k1 _ _ y439 t442 _ ?side1 ?side2 A27.out).mono ?_); (case side1 => exact atRC HO441); (case side2 => exact (Kd.R_reads' HO441.out).2.1); rintro e w' ⟨rfl, ⟨nd, rfl⟩⟩; refine ⟨_, rfl, ?_⟩))
        go_ret2
        exact ⟨_, eqr, atR HO441, atB HB⟩
       ·rw [if_neg c26] at H
        exact absurd H (by simp)
      ·rw [if_neg c23] at H
       exact absurd H (by simp)
     ·rw [if_neg c21] at H
      exact absurd H (by simp)
    ·rw [if_neg c20] at H
     exact absurd H (by simp)

noncomputable def spec_ruAdd.L0 (x0 : List Int) (x1 : Int) (x6 : Int) : Option (List Int × Bool) := lim fun k => spec_ruAdd.l0 k x0 x1 x6
theorem spec_ruAdd.L0_lim (x0 : List Int) (x1 : Int) (x6 : Int) : Lim (fun k => spec_ruAdd.l0 k x0 x1 x6) (spec_ruAdd.L0 x0 x1 x6) := Lim.of fun k => (spec_ruAdd.mono_l k) x0 x1 x6
noncomputable def spec_ruAdd.F (l0 : List Int) (a1 : Int) : Option (List Int × Bool) := lim fun k => spec_ruAdd.f k l0 a1
theorem spec_ruAdd.F_lim (l0 : List Int) (a1 : Int) : Lim (fun k => spec_ruAdd.f k l0 a1) (spec_ruAdd.F l0 a1) := Lim.of fun k => spec_ruAdd.mono l0 a1 k
theorem spec_ruAdd.L0_eq (x0 : List Int) (x1 : Int) (x6 : Int) : spec_ruAdd.L0 x0 x1 x6 = (if x6 < (x0.length : Int) then (if 0 ≤ x6 then (if (rd x0 x6) < x1 then (spec_ruAdd.L0 x0 x1 (wrap64 (x6 + 1))) else (if x6 ≤ (x0.length : Int) then ((spec_l1Own.f (x0.take (x6 : Int).toNat)).bind fun t420 => (if t420.length < 17592186044416 then ((some (t420 ++ [x1] : List Int)).bind fun y423 => (if y423.length + (x0.drop (x6 : Int).toNat).length < 17592186044416 then ((some (y423 ++ (x0.drop (x6 : Int).toNat) : List Int)).bind fun y427 => ((spec_ruGood.F y427).bind fun t430 => (some (y427, t430)))) else (none))) else (none))) else (none))) else (none)) else (if 0 ≤ x6 then (if x6 ≤ (x0.length : Int) then ((spec_l1Own.f (x0.take (x6 : Int).toNat)).bind fun t432 => (if t432.length < 17592186044416 then ((some (t432 ++ [x1] : List Int)).bind fun y435 => (if y435.length + (x0.drop (x6 : Int).toNat).length < 17592186044416 then ((some (y435 ++ (x0.drop (x6 : Int).toNat) : List Int)).bind fun y439 => ((spec_ruGood.F y439).bind fun t442 => (some (y439, t442)))) else (none))) else (none))) else (none)) else (none))) :=
 Lim.step (f := fun k => spec_ruAdd.l0 (k + 1) x0 x1 x6) (spec_ruAdd.L0_lim x0 x1 x6) (fun _ => rfl) (by
  simp only [spec_ruAdd.l0]
  repeat' (first | (with_reducible first | exact Lim.const _ | exact spec_ruAdd.L0_lim _ _ _ | exact spec_ruGood.F_lim _ | refine Lim.ite ?_ ?_ | refine Lim.bind ?_ (fun _ => ?_))))
theorem spec_ruAdd.F_eq (l0 : List Int) (a1 : Int) : spec_ruAdd.F l0 a1 = (spec_ruAdd.L0 l0 a1 0) :=
 Lim.unique (spec_ruAdd.F_lim l0 a1) (by
  unfold spec_ruAdd.f
  repeat' (first | (with_reducible first | exact Lim.const _ | exact spec_ruAdd.L0_lim _ _ _ | refine Lim.ite ?_ ?_ | refine Lim.bind ?_ (fun _ => ?_))))

end Go.Proofs.Ytofjndbpndpjjaa.Fn
namespace Go.Proofs.Ytofjndbpndpjjaa.Fn
open Go.RowKit Go.Proofs.YtofjndbpndpjjaaW.PrintWords Go.Proofs.YtofjndbpndpjjaaW.PrintLast Go.Proofs.YtofjndbpndpjjaaW.PrintMore
attribute [local go_sem] max2_int min2_int max_two min_two max_three min_three max_four min_four   -- for this text's walks alone
set_option linter.unusedVariables false
set_option linter.unusedSimpArgs false

/-! ### spec_FreeMarks: function 20 -/
mutual
def spec_FreeMarks.j0 : Nat → List Int → Bool → Option (List Int × Bool)
 | 0, _, _ => none
 | k + 1, x0, x15 => if x15 = true then (some (([] : List Int), false)) else (spec_FreeMarks.l0 k x0 ([] : List Int) 1)
def spec_FreeMarks.l0 : Nat → List Int → List Int → Int → Option (List Int × Bool)
 | 0, _, _, _ => none
 | k + 1, x0, x4, x5 => (spec_ruLength.f x0).bind fun t445 => (if x5 < t445 then ((spec_ruAdd.f k x0 x5).bind fun bt446 => (if bt446.2 = true then ((spec_ruDifferent.f k bt446.1).bind fun t450 => (if t450 = true then (if x4.length < 17592186044416 then (spec_FreeMarks.l0 k x0 (x4 ++ [x5]) (wrap64 (x5 + 1))) else (none)) else (spec_FreeMarks.l0 k x0 x4 (wrap64 (x5 + 1))))) else (spec_FreeMarks.l0 k x0 x4 (wrap64 (x5 + 1))))) else (some (x4, true)))
end
def spec_FreeMarks.f (k : Nat) (l0 : List Int) : Option (List Int × Bool) := (spec_ruGood.f k l0).bind fun t443 => (if t443 = true then ((spec_ruDifferent.f k l0).bind fun t444 => (spec_FreeMarks.j0 k l0 (!t444))) else (spec_FreeMarks.j0 k l0 true))
theorem spec_FreeMarks.mono_l : ∀ k, (∀ y0 y1, LeO (spec_FreeMarks.j0 k y0 y1) (spec_FreeMarks.j0 (k + 1) y0 y1)) ∧ (∀ y0 y1 y2, LeO (spec_FreeMarks.l0 k y0 y1 y2) (spec_FreeMarks.l0 (k + 1) y0 y1 y2))
 | 0 => ⟨fun _ _ r h => by simp [spec_FreeMarks.j0] at h, fun _ _ _ r h => by simp [spec_FreeMarks.l0] at h⟩
 | k + 1 => by
  obtain ⟨ih0, ih1⟩ := spec_FreeMarks.mono_l k
  refine ⟨?_, ?_⟩
  ·intro y0 y1
   unfold spec_FreeMarks.j0
   repeat' (first | (with_reducible first | exact ih1 _ _ _ | exact LeO.refl _ | exact LeO.none _ | refine LeO.ite ?_ ?_ | refine LeO.bind ?_ (fun _ => ?_)) | exact ih1 _ _ _ | exact LeO.none _ | refine LeO.ite ?_ ?_ | refine LeO.bind ?_ (fun _ => ?_))
  ·intro y0 y1 y2
   unfold spec_FreeMarks.l0
   repeat' (first | (with_reducible first | exact ih1 _ _ _ | exact spec_ruAdd.mono _ _ _ | exact spec_ruDifferent.mono _ _ | exact LeO.refl _ | exact LeO.none _ | refine LeO.ite ?_ ?_ | refine LeO.bind ?_ (fun _ => ?_)) | exact ih1 _ _ _ | exact spec_ruAdd.mono _ _ _ | exact spec_ruDifferent.mono _ _ | exact LeO.none _ | refine LeO.ite ?_ ?_ | refine LeO.bind ?_ (fun _ => ?_))
theorem spec_FreeMarks.mono : ∀ a0 k, LeO (spec_FreeMarks.f k a0) (spec_FreeMarks.f (k + 1) a0) := by
 intro a0 k
 obtain ⟨ih0, ih1⟩ := spec_FreeMarks.mono_l k
 unfold spec_FreeMarks.f
 repeat' (first | (with_reducible first | exact ih0 _ _ | exact spec_ruDifferent.mono _ _ | exact spec_ruGood.mono _ _ | exact LeO.refl _ | exact LeO.none _ | refine LeO.ite ?_ ?_ | refine LeO.bind ?_ (fun _ => ?_)) | exact ih0 _ _ | exact spec_ruDifferent.mono _ _ | exact spec_ruGood.mono _ _ | exact LeO.none _ | refine LeO.ite ?_ ?_ | refine LeO.bind ?_ (fun _ => ?_))
set_option maxHeartbeats 8000000 in
set_option maxRecDepth 100000 in
theorem spec_FreeMarks.calls (k : Nat) (A0 : Option Addr) (c0 : Nat) (l0 : List Int) (r1 : List Int) (r2 : Bool) (w : World) (hr0 : Kd.C (Kd.int .i64) w A0 l0.length l0) (hc0 : l0.length ≤ c0) (h : spec_FreeMarks.f k l0 = some (r1, r2)) :
  Calls Try.prog 20 #[.slice A0 l0.length c0] w fun e w' => ∃ v0_ : Value, e = .returned (.tuple #[v0_, .bool r2]) ∧ Kd.R (Kd.int .i64) 3 w' w.heap.size (fun _ => True) v0_ r1 ∧ Below w.heap.size w w' := by
 have HR0 := Aside0.mk hr0
 have HC0 := Aside0.mk hc0
 clear hr0 hc0
 have HB := Aside0.mk (Below.refl w.heap.size w)
 have H := h
 unfold spec_FreeMarks.f at H
 clear h
 have HC2 := Aside0.mk H
 clear H
 go_enter Try.func20, Try.ntmps20
 go_upto_region 1 with (fail)
 go_cut [15] (fun v15 wc => ∃ (kq : Nat) (x15_1 : Bool), v15 = .bool x15_1 ∧ Aside0 (spec_FreeMarks.j0 kq l0 x15_1 = some (r1, r2)) ∧ Aside0 (kq ≤ k) ∧ Aside0 (Below w.heap.size w wc))
 case first =>
  have H := HC2.out
  clear HC2
  replace H := Option.bind_eq_some_iff.mp H
  obtain ⟨t443, A30, H⟩ := H
  replace H : (if t443 = true then ((spec_ruDifferent.f k l0).bind fun t444 => (spec_FreeMarks.j0 k l0 (!t444))) else (spec_FreeMarks.j0 k l0 true)) = some (r1, r2) := H
  have A3 := Aside0.mk A30
  clear A30
  by_cases c4 : t443 = true
  ·subst c4
   have H1 : ((spec_ruDifferent.f k l0).bind fun t444 => (spec_FreeMarks.j0 k l0 (!t444))) = some (r1, r2) := by rw [if_pos rfl] at H; exact H
   clear H
   have H := H1
   clear H1
   replace H := Option.bind_eq_some_iff.mp H
   obtain ⟨t444, A50, H⟩ := H
   replace H : (spec_FreeMarks.j0 k l0 (!t444)) = some (r1, r2) := H
   have A5 := Aside0.mk A50
   clear A50
   have H' := Aside0.mk H
   clear H
   go_wp2_with (first | ((with_reducible refine gate_callee (f := 60) rfl ?_); refine goesA (some 9) Try.func60 #[.slice A0 l0.length c0] ?_; (with_reducible refine (spec_ruGood.calls k _ _ l0 true _ ?side1 ?side2 A3.out).mono ?_); (case side1 => repeat (first | exact (Kd.C_below HR0.out HB.out) | (with_reducible refine Kd.C_alloc ?_ _) | (with_reducible refine Kd.C_drewN ?_ _) | (with_reducible refine Kd.C_drew ?_))); (case side2 => exact HC0.out); rintro e w' ⟨rfl, ⟨nd, rfl⟩⟩; refine ⟨_, rfl, ?_⟩) | (go_at_call 64; (with_reducible refine (spec_ruDifferent.calls k _ _ l0 t444 _ ?side1 ?side2 A5.out).mono ?_); (case side1 => repeat (first | exact (Kd.C_below HR0.out (atB HB)) | (with_reducible refine Kd.C_alloc ?_ _) | (with_reducible refine Kd.C_drewN ?_ _) | (with_reducible refine Kd.C_drew ?_))); (case side2 => exact HC0.out); rintro e w6 ⟨rfl, hb⟩; replace HB := upB HB hb; (try clear hb); (try clear hb2); (try clear hk); (try clear hi)))
   go_meet
   case rel => exact ⟨_, (!t444), eqd, H', ⟨leD⟩, ⟨atB HB⟩⟩
  ·replace c4 := Bool.eq_false_iff.mpr c4
   subst c4
   have H1 : (spec_FreeMarks.j0 k l0 true) = some (r1, r2) := by rw [if_neg (show ¬ (false = true) by decide)] at H; exact H
   clear H
   have H := H1
   clear H1
   have H' := Aside0.mk H
   clear H
   go_wp2_with (first | ((with_reducible refine gate_callee (f := 60) rfl ?_); refine goesA (some 9) Try.func60 #[.slice A0 l0.length c0] ?_; (with_reducible refine (spec_ruGood.calls k _ _ l0 false _ ?side1 ?side2 A3.out).mono ?_); (case side1 => repeat (first | exact (Kd.C_below HR0.out HB.out) | (with_reducible refine Kd.C_alloc ?_ _) | (with_reducible refine Kd.C_drewN ?_ _) | (with_reducible refine Kd.C_drew ?_))); (case side2 => exact HC0.out); rintro e w' ⟨rfl, ⟨nd, rfl⟩⟩; refine ⟨_, rfl, ?_⟩))
   go_meet
   case rel => exact ⟨_, (true), eqd, H', ⟨leD⟩, ⟨atB HB⟩⟩
 case rest =>
  clear HC2
  try clear c2
  try clear p2
  try clear c4
  try clear c6
  obtain ⟨kq, x15_1, rfl, HA, HJ1, HB⟩ := hcut
  cases kq with
  | zero => exact absurd HA.out (by simp [spec_FreeMarks.j0])
  | succ kj1 =>
   have H := HA.out
   clear HA
   simp only [spec_FreeMarks.j0] at H
   by_cases c7 : x15_1 = true
   ·subst c7
    have H1 : (some (([] : List Int), false)) = some (r1, r2) := by rw [if_pos rfl] at H; exact H
    clear H
    have H := H1
    clear H1
    simp only [Option.some.injEq, Prod.mk.injEq] at H
    obtain ⟨rfl, rfl⟩ := H
    go_wp2
    go_ret2
    exact ⟨_, eqr, by first | exact Kd.R_nil _ _ _ _ _ | exact Kd.N_nil _ _ _ _ _ | exact Kd.V_nil _ _ _ _ _ | exact Kd.Q_nil _ _ _ _ _ | exact Kd.S_nil _ _ _ _ _, atB HB⟩
   ·replace c7 := Bool.eq_false_iff.mpr c7
    subst c7
    have H1 : (spec_FreeMarks.l0 kj1 l0 ([] : List Int) 1) = some (r1, r2) := by rw [if_neg (show ¬ (false = true) by decide)] at H; exact H
    clear H
    have H := H1
    clear H1
    have H' := Aside0.mk H
    clear H
    go_wp2
    go_loopg [4, 5] kj1 (fun kq v4 v5 w' => ∃ (x4_2 : List Int) (x5_2 : Int), v5 = .int .i64 x5_2 ∧ Aside0 (spec_FreeMarks.l0 kq l0 x4_2 x5_2 = some (r1, r2)) ∧ Aside0 (kq ≤ kj1) ∧ Aside0 (Kd.R (Kd.int .i64) 3 w' w.heap.size (fun _ => True) v4 x4_2) ∧ Aside0 (Below w.heap.size w w'))
    case atStart => exact ⟨(([] : List Int)), (1), eqd, H', ⟨Nat.le_refl _⟩, ⟨by first | exact Kd.R_nil _ _ _ _ _ | exact Kd.N_nil _ _ _ _ _ | exact Kd.V_nil _ _ _ _ _ | exact Kd.Q_nil _ _ _ _ _ | exact Kd.S_nil _ _ _ _ _⟩, ⟨atB HB⟩⟩
    case round =>
     clear H'
     try clear c2
     try clear p2
     try clear c4
     try clear c6
     try clear c7
     try clear p2
     obtain ⟨x4_2, x5_2, rfl, HA, HK2, HO_4, HB⟩ := hrel
     cases gk with
     | zero => exact absurd HA.out (by simp [spec_FreeMarks.l0])
     | succ k2 =>
      have H := HA.out
      clear HA
      simp only [spec_FreeMarks.l0] at H
      replace H := Option.bind_eq_some_iff.mp H
      obtain ⟨t445, A80, H⟩ := H
      replace H : (if x5_2 < t445 then ((spec_ruAdd.f k2 l0 x5_2).bind fun bt446 => (if bt446.2 = true then ((spec_ruDifferent.f k2 bt446.1).bind fun t450 => (if t450 = true then (if x4_2.length < 17592186044416 then (spec_FreeMarks.l0 k2 l0 (x4_2 ++ [x5_2]) (wrap64 (x5_2 + 1))) else (none)) else (spec_FreeMarks.l0 k2 l0 x4_2 (wrap64 (x5_2 + 1))))) else (spec_FreeMarks.l0 k2 l0 x4_2 (wrap64 (x5_2 + 1))))) else (some (x4_2, true))) = some (r1, r2) := H
      have A8 := Aside0.mk A80
      clear A80
      by_cases c9 : x5_2 < t445
      ·rw [if_pos c9] at H
       have c9b0 : decide (x5_2 < t445) = true := decide_eq_true c9
       clear c9
       replace H := Option.bind_eq_some_iff.mp H
       obtain ⟨⟨t446, t447⟩, A100, H⟩ := H
       replace H : (if t447 = true then ((spec_ruDifferent.f k2 t446).bind fun t450 => (if t450 = true then (if x4_2.length < 17592186044416 then (spec_FreeMarks.l0 k2 l0 (x4_2 ++ [x5_2]) (wrap64 (x5_2 + 1))) else (none)) else (spec_FreeMarks.l0 k2 l0 x4_2 (wrap64 (x5_2 + 1))))) else (spec_FreeMarks.l0 k2 l0 x4_2 (wrap64 (x5_2 + 1)))) = some (r1, r2) := H
       have A10 := Aside0.mk A100
       clear A100
       by_cases c11 : t447 = true
       ·subst c11
        have H1 : ((spec_ruDifferent.f k2 t446).bind fun t450 => (if t450 = true then (if x4_2.length < 17592186044416 then (spec_FreeMarks.l0 k2 l0 (x4_2 ++ [x5_2]) (wrap64 (x5_2 + 1))) else (none)) else (spec_FreeMarks.l0 k2 l0 x4_2 (wrap64 (x5_2 + 1))))) = some (r1, r2) := by rw [if_pos rfl] at H; exact H
        clear H
        have H := H1
        clear H1
        replace H := Option.bind_eq_some_iff.mp H
        obtain ⟨t450, A120, H⟩ := H
        replace H : (if t450 = true then (if x4_2.length < 17592186044416 then (spec_FreeMarks.l0 k2 l0 (x4_2 ++ [x5_2]) (wrap64 (x5_2 + 1))) else (none)) else (spec_FreeMarks.l0 k2 l0 x4_2 (wrap64 (x5_2 + 1)))) = some (r1, r2) := H
        have A12 := Aside0.mk A120
        clear A120
        by_cases c13 : t450 = true
        ·subst c13
         have H1 : (if x4_2.length < 17592186044416 then (spec_FreeMarks.l0 k2 l0 (x4_2 ++ [x5_2]) (wrap64 (x5_2 + 1))) else (none)) = some (r1, r2) := by rw [if_pos rfl] at H; exact H
         clear H
         have H := H1
         clear H1
         by_cases c14 : x4_2.length < 17592186044416
         ·rw [if_pos c14] at H
          have LMc14 := Aside0.mk c14
          clear c14
          obtain ⟨y451, hy451⟩ : ∃ y_ : List Int, y_ = (x4_2 ++ [x5_2]) := ⟨_, rfl⟩
          replace H : (spec_FreeMarks.l0 k2 l0 y451 (wrap64 (x5_2 + 1))) = some (r1, r2) := by first | (rw [hy451]; with_reducible exact H) | (have H2_ := (Option.bind_some _ _).symm.trans H; rw [hy451]; with_reducible exact H2_) | (have H2_ := (Option.bind_some _ _).symm.trans H; with_reducible exact H2_) | with_reducible exact H | (rw [hy451]; exact H) | exact H
          have Ny451 := Aside0.mk hy451
          clear hy451
          have H' := Aside0.mk H
          clear H
          go_wp2_with (first | ((with_reducible refine gate_callee (f := 62) rfl ?_); refine goesA (some 18) Try.func62 #[.slice A0 l0.length c0] ?_; (with_reducible refine (spec_ruLength.calls _ _ l0 t445 _ ?side1 ?side2 A8.out).mono ?_); (case side1 => repeat (first | exact (Kd.C_below HR0.out HB.out) | (with_reducible refine Kd.C_alloc ?_ _) | (with_reducible refine Kd.C_drewN ?_ _) | (with_reducible refine Kd.C_drew ?_))); (case side2 => exact HC0.out); rintro e w' ⟨rfl, ⟨nd, rfl⟩⟩; refine ⟨_, rfl, ?_⟩) | ((with_reducible refine gate_callee (f := 67) rfl ?_); refine goesA (some 25) Try.func67 #[.slice A0 l0.length c0, .int .i64 x5_2] ?_; (with_reducible refine (spec_ruAdd.calls k2 _ _ l0 x5_2 t446 true _ ?side1 ?side2 A10.out).mono ?_); (case side1 => repeat (first | exact (Kd.C_below HR0.out (atB HB)) | (with_reducible refine Kd.C_alloc ?_ _) | (with_reducible refine Kd.C_drewN ?_ _) | (with_reducible refine Kd.C_drew ?_))); (case side2 => exact HC0.out); rintro e w15 ⟨v448, rfl, ho0, hb⟩; refine ⟨_, rfl, ?_⟩; have HO449 := Aside0.mk (Kd.R_lower (Kd.R_new' ho0 (ltR HO_4)) (szB HB)); replace HO_4 := eldRR HO_4 ho0 hb; replace HB := upB HB hb; (try clear hb); (try clear hb2); (try clear hk); (try clear hi); (try clear ho0); obtain ⟨Ao16, co16, eo16⟩ := Kd.R_slice HO449.out; subst eo16) | (go_at_call 64; (with_reducible refine (spec_ruDifferent.calls k2 _ _ t446 true _ ?side1 ?side2 A12.out).mono ?_); (case side1 => exact atRC HO449); (case side2 => exact (Kd.R_reads' HO449.out).2.1); rintro e w17 ⟨rfl, hb⟩; replace HO_4 := upR HO_4 hb; replace HO449 := upR HO449 hb; replace HB := upB HB hb; (try clear hb); (try clear hb2); (try clear hk); (try clear hi)) | ((with_reducible refine gate_builtin (b := .append) (xs := #[.tmp 33, .tmp 35]) rfl ?_); at_builtin; refine Kd.R_append (Kd.int .i64) (w0 := w) w.heap.size rfl (.tmp 33) (.tmp 35) 24 3 (.int .i64 0) 8 rfl Try.underlying24 info3 rfl (by decide) (by omega) u4 x4_2 x5_2 [.int .i64 x5_2] (fun k_ => some k_ ≠ (.slice Ao16 t446.length co16 : Value).ownBlock) (fun _ => False) rfl rfl ?aP (fun _ hk => hk.elim) ?aF ?aO ?aB ?aS ?aL ?_; (case aP => exact rfl); (case aB => exact (atB HB)); (case aF => exact (fun k_ hk => Kd.fresh' (ltR HO449) k_ hk)); (case aO => exact (by (with_reducible repeat (first | apply Kd.R_alloc | apply Kd.R_drewN | apply Kd.R_drew)); exact Kd.R_mono HO_4.out (fun _ hk => hk.2))); (case aS => exact (szB HB)); (case aL => have := LMc14.out; omega); intro v452 w18 ho hb hg hat; rw [← Ny451.out] at ho; have HO453 := Aside0.mk (ho); replace HO449 := Aside0.mk (Kd.R_after (ok := (fun _ => True)) (atR HO449) hg hat); replace HB := Aside0.mk (hb); clear HO_4; clear ho hb hg hat))
          go_roundg k2
          case measure => have := HJ1.out; have := HK2.out; omega
          case rel => exact ⟨(y451), (wrap64 (x5_2 + 1)), eqd, H', ⟨by have := HJ1.out; have := HK2.out; omega⟩, ⟨by (with_reducible repeat (first | apply Kd.R_alloc | apply Kd.R_drewN | apply Kd.R_drew)); exact Kd.R_mono HO453.out (fun _ hk => trivial)⟩, ⟨atB HB⟩⟩
         ·rw [if_neg c14] at H
          exact absurd H (by simp)
        ·replace c13 := Bool.eq_false_iff.mpr c13
         subst c13
         have H1 : (spec_FreeMarks.l0 k2 l0 x4_2 (wrap64 (x5_2 + 1))) = some (r1, r2) := by rw [if_neg (show ¬ (false = true) by decide)] at H; exact H
         clear H
         have H := H1
         clear H1
         have H' := Aside0.mk H
         clear H
         go_wp2_with (first | ((with_reducible refine gate_callee (f := 62) rfl ?_); refine goesA (some 18) Try.func62 #[.slice A0 l0.length c0] ?_; (with_reducible refine (spec_ruLength.calls _ _ l0 t445 _ ?side1 ?side2 A8.out).mono ?_); (case side1 => repeat (first | exact (Kd.C_below HR0.out HB.out) | (with_reducible refine Kd.C_alloc ?_ _) | (with_reducible refine Kd.C_drewN ?_ _) | (with_reducible refine Kd.C_drew ?_))); (case side2 => exact HC0.out); rintro e w' ⟨rfl, ⟨nd, rfl⟩⟩; refine ⟨_, rfl, ?_⟩) | ((with_reducible refine gate_callee (f := 67) rfl ?_); refine goesA (some 25) Try.func67 #[.slice A0 l0.length c0, .int .i64 x5_2] ?_; (with_reducible refine (spec_ruAdd.calls k2 _ _ l0 x5_2 t446 true _ ?side1 ?side2 A10.out).mono ?_); (case side1 => repeat (first | exact (Kd.C_below HR0.out (atB HB)) | (with_reducible refine Kd.C_alloc ?_ _) | (with_reducible refine Kd.C_drewN ?_ _) | (with_reducible refine Kd.C_drew ?_))); (case side2 => exact HC0.out); rintro e w19 ⟨v448, rfl, ho0, hb⟩; refine ⟨_, rfl, ?_⟩; have HO449 := Aside0.mk (Kd.R_lower (Kd.R_new' ho0 (ltR HO_4)) (szB HB)); replace HO_4 := eldRR HO_4 ho0 hb; replace HB := upB HB hb; (try clear hb); (try clear hb2); (try clear hk); (try clear hi); (try clear ho0); obtain ⟨Ao20, co20, eo20⟩ := Kd.R_slice HO449.out; subst eo20) | (go_at_call 64; (with_reducible refine (spec_ruDifferent.calls k2 _ _ t446 false _ ?side1 ?side2 A12.out).mono ?_); (case side1 => exact atRC HO449); (case side2 => exact (Kd.R_reads' HO449.out).2.1); rintro e w21 ⟨rfl, hb⟩; replace HO_4 := upR HO_4 hb; replace HO449 := upR HO449 hb; replace HB := upB HB hb; (try clear hb); (try clear hb2); (try clear hk); (try clear hi)))
         go_roundg k2
         case measure => have := HJ1.out; have := HK2.out; omega
         case rel => exact ⟨(x4_2), (wrap64 (x5_2 + 1)), eqd, H', ⟨by have := HJ1.out; have := HK2.out; omega⟩, ⟨by (with_reducible repeat (first | apply Kd.R_alloc | apply Kd.R_drewN | apply Kd.R_drew)); exact Kd.R_mono HO_4.out (fun _ hk => trivial)⟩, ⟨atB HB⟩⟩
       ·replace c11 := Bool.eq_false_iff.mpr c11
        subst c11
        have H1 : (spec_FreeMarks.l0 k2 l0 x4_2 (wrap64 (x5_2 + 1))) = some (r1, r2) := by rw [if_neg (show ¬ (false = true) by decide)] at H; exact H
        clear H
        have H := H1
        clear H1
        have H' := Aside0.mk H
        clear H
        go_wp2_with (first | ((with_reducible refine gate_callee (f := 62) rfl ?_); refine goesA (some 18) Try.func62 #[.slice A0 l0.length c0] ?_; (with_reducible refine (spec_ruLength.calls _ _ l0 t445 _ ?side1 ?side2 A8.out).mono ?_); (case side1 => repeat (first | exact (Kd.C_below HR0.out HB.out) | (with_reducible refine Kd.C_alloc ?_ _) | (with_reducible refine Kd.C_drewN ?_ _) | (with_reducible refine Kd.C_drew ?_))); (case side2 => exact HC0.out); rintro e w' ⟨rfl, ⟨nd, rfl⟩⟩; refine ⟨_, rfl, ?_⟩) | ((with_reducible refine gate_callee (f := 67) rfl ?_); refine goesA (some 25) Try.func67 #[.slice A0 l0.length c0, .int .i64 x5_2] ?_; (with_reducible refine (spec_ruAdd.calls k2 _ _ l0 x5_2 t446 false _ ?side1 ?side2 A10.out).mono ?_); (case side1 => repeat (first | exact (Kd.C_below HR0.out (atB HB)) | (with_reducible refine Kd.C_alloc ?_ _) | (with_reducible refine Kd.C_drewN ?_ _) | (with_reducible refine Kd.C_drew ?_))); (case side2 => exact HC0.out); rintro e w22 ⟨v448, rfl, ho0, hb⟩; refine ⟨_, rfl, ?_⟩; have HO449 := Aside0.mk (Kd.R_lower (Kd.R_new' ho0 (ltR HO_4)) (szB HB)); replace HO_4 := eldRR HO_4 ho0 hb; replace HB := upB HB hb; (try clear hb); (try clear hb2); (try clear hk); (try clear hi); (try clear ho0)))
        go_roundg k2
        case measure => have := HJ1.out; have := HK2.out; omega
        case rel => exact ⟨(x4_2), (wrap64 (x5_2 + 1)), eqd, H', ⟨by have := HJ1.out; have := HK2.out; omega⟩, ⟨by (with_reducible repeat (first | apply Kd.R_alloc | apply Kd.R_drewN | apply Kd.R_drew)); exact Kd.R_mono HO_4.out (fun _ hk => trivial)⟩, ⟨atB HB⟩⟩
      ·rw [if_neg c9] at H
       have c9b0 : decide (x5_2 < t445) = false := decide_eq_false c9
       clear c9
       simp only [Option.some.injEq, Prod.mk.injEq] at H
       obtain ⟨rfl, rfl⟩ := H
       go_wp2_with (first | ((with_reducible refine gate_callee (f := 62) rfl ?_); refine goesA (some 18) Try.func62 #[.slice A0 l0.length c0] ?_; (with_reducible refine (spec_ruLength.calls _ _ l0 t445 _ ?side1 ?side2 A8.out).mono ?_); (case side1 => repeat (first | exact (Kd.C_below HR0.out HB.out) | (with_reducible refine Kd.C_alloc ?_ _) | (with_reducible refine Kd.C_drewN ?_ _) | (with_reducible refine Kd.C_drew ?_))); (case side2 => exact HC0.out); rintro e w' ⟨rfl, ⟨nd, rfl⟩⟩; refine ⟨_, rfl, ?_⟩))
       go_ret2
       exact ⟨_, eqr, atR HO_4, atB HB⟩

noncomputable def spec_FreeMarks.J0 (x0 : List Int) (x15 : Bool) : Option (List Int × Bool) := lim fun k => spec_FreeMarks.j0 k x0 x15
theorem spec_FreeMarks.J0_lim (x0 : List Int) (x15 : Bool) : Lim (fun k => spec_FreeMarks.j0 k x0 x15) (spec_FreeMarks.J0 x0 x15) := Lim.of fun k => (spec_FreeMarks.mono_l k).1 x0 x15
noncomputable def spec_FreeMarks.L0 (x0 : List Int) (x4 : List Int) (x5 : Int) : Option (List Int × Bool) := lim fun k => spec_FreeMarks.l0 k x0 x4 x5
theorem spec_FreeMarks.L0_lim (x0 : List Int) (x4 : List Int) (x5 : Int) : Lim (fun k => spec_FreeMarks.l0 k x0 x4 x5) (spec_FreeMarks.L0 x0 x4 x5) := Lim.of fun k => (spec_FreeMarks.mono_l k).2 x0 x4 x5
noncomputable def spec_FreeMarks.F (l0 : List Int) : Option (List Int × Bool) := lim fun k => spec_FreeMarks.f k l0
theorem spec_FreeMarks.F_lim (l0 : List Int) : Lim (fun k => spec_FreeMarks.f k l0) (spec_FreeMarks.F l0) := Lim.of fun k => spec_FreeMarks.mono l0 k
theorem spec_FreeMarks.J0_eq (x0 : List Int) (x15 : Bool) : spec_FreeMarks.J0 x0 x15 = (if x15 = true then (some (([] : List Int), false)) else (spec_FreeMarks.L0 x0 ([] : List Int) 1)) :=
 Lim.step (f := fun k => spec_FreeMarks.j0 (k + 1) x0 x15) (spec_FreeMarks.J0_lim x0 x15) (fun _ => rfl) (by
  simp only [spec_FreeMarks.j0]
  repeat' (first | (with_reducible first | exact Lim.const _ | exact spec_FreeMarks.L0_lim _ _ _ | refine Lim.ite ?_ ?_ | refine Lim.bind ?_ (fun _ => ?_))))
theorem spec_FreeMarks.L0_eq (x0 : List Int) (x4 : List Int) (x5 : Int) : spec_FreeMarks.L0 x0 x4 x5 = ((spec_ruLength.f x0).bind fun t445 => (if x5 < t445 then ((spec_ruAdd.F x0 x5).bind fun bt446 => (if bt446.2 = true then ((spec_ruDifferent.F bt446.1).bind fun t450 => (if t450 = true then (if x4.length < 17592186044416 then (spec_FreeMarks.L0 x0 (x4 ++ [x5]) (wrap64 (x5 + 1))) else (none)) else (spec_FreeMarks.L0 x0 x4 (wrap64 (x5 + 1))))) else (spec_FreeMarks.L0 x0 x4 (wrap64 (x5 + 1))))) else (some (x4, true)))) :=
 Lim.step (f := fun k => spec_FreeMarks.l0 (k + 1) x0 x4 x5) (spec_FreeMarks.L0_lim x0 x4 x5) (fun _ => rfl) (by
  simp only [spec_FreeMarks.l0]
  repeat' (first | (with_reducible first | exact Lim.const _ | exact spec_FreeMarks.L0_lim _ _ _ | exact spec_ruAdd.F_lim _ _ | exact spec_ruDifferent.F_lim _ | refine Lim.ite ?_ ?_ | refine Lim.bind ?_ (fun _ => ?_))))
theorem spec_FreeMarks.F_eq (l0 : List Int) : spec_FreeMarks.F l0 = ((spec_ruGood.F l0).bind fun t443 => (if t443 = true then ((spec_ruDifferent.F l0).bind fun t444 => (spec_FreeMarks.J0 l0 (!t444))) else (spec_FreeMarks.J0 l0 true))) :=
 Lim.unique (spec_FreeMarks.F_lim l0) (by
  unfold spec_FreeMarks.f
  repeat' (first | (with_reducible first | exact Lim.const _ | exact spec_FreeMarks.J0_lim _ _ | exact spec_ruDifferent.F_lim _ | exact spec_ruGood.F_lim _ | refine Lim.ite ?_ ?_ | refine Lim.bind ?_ (fun _ => ?_))))

end Go.Proofs.Ytofjndbpndpjjaa.Fn
namespace Go.Proofs.Ytofjndbpndpjjaa.Fn
open Go.RowKit Go.Proofs.YtofjndbpndpjjaaW.PrintWords Go.Proofs.YtofjndbpndpjjaaW.PrintLast Go.Proofs.YtofjndbpndpjjaaW.PrintMore
attribute [local go_sem] max2_int min2_int max_two min_two max_three min_three max_four min_four   -- for this text's walks alone
set_option linter.unusedVariables false
set_option linter.unusedSimpArgs false

/-! ### laws_jSame: function 21 -/
def laws_jSame.l0 : Nat → List Int → List Int → Int → Int → Option (Bool)
 | 0, _, _, _, _ => none
 | k + 1, x0, x1, x12, x13 => if x13 < x12 then (if 0 ≤ x13 then (if x13 < (x0.length : Int) then (if x13 < (x1.length : Int) then (if (rd x0 x13) = (rd x1 x13) then (laws_jSame.l0 k x0 x1 x12 (wrap64 (x13 + 1))) else (some false)) else (none)) else (none)) else (none)) else (some true)
def laws_jSame.f (k : Nat) (l0 : List Int) (l1 : List Int) : Option (Bool) := if (l0.length : Int) = (l1.length : Int) then (laws_jSame.l0 k l0 l1 (l0.length : Int) 0) else (some false)
theorem laws_jSame.mono_l : ∀ k, (∀ y0 y1 y2 y3, LeO (laws_jSame.l0 k y0 y1 y2 y3) (laws_jSame.l0 (k + 1) y0 y1 y2 y3))
 | 0 => fun _ _ _ _ r h => by simp [laws_jSame.l0] at h
 | k + 1 => by
  have ih0 := laws_jSame.mono_l k
  ·intro y0 y1 y2 y3
   unfold laws_jSame.l0
   repeat' (first | (with_reducible first | exact ih0 _ _ _ _ | exact LeO.refl _ | exact LeO.none _ | refine LeO.ite ?_ ?_ | refine LeO.bind ?_ (fun _ => ?_)) | exact ih0 _ _ _ _ | exact LeO.none _ | refine LeO.ite ?_ ?_ | refine LeO.bind ?_ (fun _ => ?_))
theorem laws_jSame.mono : ∀ a0 a1 k, LeO (laws_jSame.f k a0 a1) (laws_jSame.f (k + 1) a0 a1) := by
 intro a0 a1 k
 have ih0 := laws_jSame.mono_l k
 unfold laws_jSame.f
 repeat' (first | (with_reducible first | exact ih0 _ _ _ _ | exact LeO.refl _ | exact LeO.none _ | refine LeO.ite ?_ ?_ | refine LeO.bind ?_ (fun _ => ?_)) | exact ih0 _ _ _ _ | exact LeO.none _ | refine LeO.ite ?_ ?_ | refine LeO.bind ?_ (fun _ => ?_))
set_option maxHeartbeats 8000000 in
set_option maxRecDepth 100000 in
theorem laws_jSame.calls (k : Nat) (A0 : Option Addr) (c0 : Nat) (l0 : List Int) (A1 : Option Addr) (c1 : Nat) (l1 : List Int) (r : Bool) (w : World) (hr0 : Kd.C (Kd.int .i64) w A0 l0.length l0) (hc0 : l0.length ≤ c0) (hr1 : Kd.C (Kd.int .i64) w A1 l1.length l1) (hc1 : l1.length ≤ c1) (h : laws_jSame.f k l0 l1 = some r) :
  Calls Try.prog 21 #[.slice A0 l0.length c0, .slice A1 l1.length c1] w fun e w' => e = .returned (.bool r) ∧ Drawn0 w w' := by
 have HR0 := Aside0.mk hr0
 have HC0 := Aside0.mk hc0
 clear hr0 hc0
 have HR1 := Aside0.mk hr1
 have HC1 := Aside0.mk hc1
 clear hr1 hc1
 have H := h
 unfold laws_jSame.f at H
 clear h
 by_cases c3 : (l0.length : Int) = (l1.length : Int)
 ·rw [if_pos c3] at H
  have c3b0 : ((l0.length : Int) == (l1.length : Int)) = true := beq_iff_eq.mpr c3
  have c3b1 : ((l0.length : Int) != (l1.length : Int)) = false := bne_eq_false_iff_eq.mpr c3
  have c3b2 : (l0.length == l1.length) = true := by first | simpa using c3 | (simp at c3 ⊢; omega)
  clear c3
  have H' := Aside0.mk H
  clear H
  go_enter Try.func21, Try.ntmps21
  go_wp2
  repeat (go_quiet (fail); try go_wp2)
  go_loopg [13] k (fun kq v13 w' => ∃ (x13_1 : Int), v13 = .int .i64 x13_1 ∧ Aside0 (laws_jSame.l0 kq l0 l1 (l0.length : Int) x13_1 = some r) ∧ Aside0 (kq ≤ k) ∧ Drawn0 w w')
  case atStart => exact ⟨(0), eqd, H', ⟨Nat.le_refl _⟩, by repeat (first | exact Drawn0.refl _ | apply Drawn0.step)⟩
  case round =>
   clear H'
   try clear c1
   try clear c2
   try clear p2
   try clear c3
   try clear c3b0
   try clear c3b1
   try clear c3b2
   obtain ⟨x13_1, rfl, HA, HK1, ⟨m1, rfl⟩⟩ := hrel
   cases gk with
   | zero => exact absurd HA.out (by simp [laws_jSame.l0])
   | succ k1 =>
    have H := HA.out
    clear HA
    simp only [laws_jSame.l0] at H
    by_cases c4 : x13_1 < (l0.length : Int)
    ·rw [if_pos c4] at H
     have c4b0 : decide (x13_1 < (l0.length : Int)) = true := decide_eq_true c4
     clear c4
     by_cases c5 : 0 ≤ x13_1
     ·rw [if_pos c5] at H
      have c5b0 : decide (0 ≤ x13_1) = true := decide_eq_true c5
      clear c5
      by_cases c6 : x13_1 < (l0.length : Int)
      ·rw [if_pos c6] at H
       have c6b0 : decide (x13_1 < (l0.length : Int)) = true := decide_eq_true c6
       clear c6
       by_cases c7 : x13_1 < (l1.length : Int)
       ·rw [if_pos c7] at H
        have c7b0 : decide (x13_1 < (l1.length : Int)) = true := decide_eq_true c7
        clear c7
        by_cases c8 : (rd l0 x13_1) = (rd l1 x13_1)
        ·rw [if_pos c8] at H
         have c8b0 : ((rd l0 x13_1) == (rd l1 x13_1)) = true := beq_iff_eq.mpr c8
         have c8b1 : ((rd l0 x13_1) != (rd l1 x13_1)) = false := bne_eq_false_iff_eq.mpr c8
         clear c8
         have H' := Aside0.mk H
         clear H
         have p454 : 0 ≤ (x13_1 : Int) := ofd
         have q454 : x13_1 < (l0.length : Int) := ofd
         obtain ⟨ad454, e454, hx454_0⟩ := Kd.at_int HR0.out x13_1 p454 q454
         cases e454
         replace p454 := eq_true p454
         replace q454 := eq_true q454
         have p455 : 0 ≤ (x13_1 : Int) := ofd
         have q455 : x13_1 < (l1.length : Int) := ofd
         obtain ⟨ad455, e455, hx455_0⟩ := Kd.at_int HR1.out x13_1 p455 q455
         cases e455
         replace p455 := eq_true p455
         replace q455 := eq_true q455
         go_wp2
         repeat (go_quiet (fail); try go_wp2)
         go_roundg k1
         case measure => have := HK1.out; omega
         case rel => exact ⟨(wrap64 (x13_1 + 1)), eqd, H', ⟨by have := HK1.out; omega⟩, by repeat (first | exact Drawn0.refl _ | apply Drawn0.step)⟩
        ·rw [if_neg c8] at H
         have c8b0 : ((rd l0 x13_1) == (rd l1 x13_1)) = false := beq_eq_false_iff_ne.mpr c8
         have c8b1 : ((rd l0 x13_1) != (rd l1 x13_1)) = true := bne_iff_ne.mpr c8
         obtain rfl := Option.some.inj H
         have p454 : 0 ≤ (x13_1 : Int) := ofd
         have q454 : x13_1 < (l0.length : Int) := ofd
         obtain ⟨ad454, e454, hx454_0⟩ := Kd.at_int HR0.out x13_1 p454 q454
         cases e454
         replace p454 := eq_true p454
         replace q454 := eq_true q454
         have p455 : 0 ≤ (x13_1 : Int) := ofd
         have q455 : x13_1 < (l1.length : Int) := ofd
         obtain ⟨ad455, e455, hx455_0⟩ := Kd.at_int HR1.out x13_1 p455 q455
         cases e455
         replace p455 := eq_true p455
         replace q455 := eq_true q455
         go_wp2
         repeat (go_quiet (fail); try go_wp2)
         go_ret
         exact ⟨by first | rfl | (simp; done) | (simp [*]; done), by repeat (first | exact Drawn0.refl _ | apply Drawn0.step)⟩
       ·rw [if_neg c7] at H
        exact absurd H (by simp)
      ·rw [if_neg c6] at H
       exact absurd H (by simp)
     ·rw [if_neg c5] at H
      exact absurd H (by simp)
    ·rw [if_neg c4] at H
     have c4b0 : decide (x13_1 < (l0.length : Int)) = false := decide_eq_false c4
     clear c4
     obtain rfl := Option.some.inj H
     go_wp2
     repeat (go_quiet (fail); try go_wp2)
     go_ret
     exact ⟨by first | rfl | (simp; done) | (simp [*]; done), by repeat (first | exact Drawn0.refl _ | apply Drawn0.step)⟩
 ·rw [if_neg c3] at H
  have c3b0 : ((l0.length : Int) == (l1.length : Int)) = false := beq_eq_false_iff_ne.mpr c3
  have c3b1 : ((l0.length : Int) != (l1.length : Int)) = true := bne_iff_ne.mpr c3
  have c3b2 : (l0.length == l1.length) = false := by first | simpa using c3 | (simp at c3 ⊢; omega)
  obtain rfl := Option.some.inj H
  go_enter Try.func21, Try.ntmps21
  go_wp2
  repeat (go_quiet (fail); try go_wp2)
  go_ret
  exact ⟨by first | rfl | (simp; done) | (simp [*]; done), by repeat (first | exact Drawn0.refl _ | apply Drawn0.step)⟩

noncomputable def laws_jSame.L0 (x0 : List Int) (x1 : List Int) (x12 : Int) (x13 : Int) : Option (Bool) := lim fun k => laws_jSame.l0 k x0 x1 x12 x13
theorem laws_jSame.L0_lim (x0 : List Int) (x1 : List Int) (x12 : Int) (x13 : Int) : Lim (fun k => laws_jSame.l0 k x0 x1 x12 x13) (laws_jSame.L0 x0 x1 x12 x13) := Lim.of fun k => (laws_jSame.mono_l k) x0 x1 x12 x13
noncomputable def laws_jSame.F (l0 : List Int) (l1 : List Int) : Option (Bool) := lim fun k => laws_jSame.f k l0 l1
theorem laws_jSame.F_lim (l0 : List Int) (l1 : List Int) : Lim (fun k => laws_jSame.f k l0 l1) (laws_jSame.F l0 l1) := Lim.of fun k => laws_jSame.mono l0 l1 k
theorem laws_jSame.L0_eq (x0 : List Int) (x1 : List Int) (x12 : Int) (x13 : Int) : laws_jSame.L0 x0 x1 x12 x13 = (if x13 < x12 then (if 0 ≤ x13 then (if x13 < (x0.length : Int) then (if x13 < (x1.length : Int) then (if (rd x0 x13) = (rd x1 x13) then (laws_jSame.L0 x0 x1 x12 (wrap64 (x13 + 1))) else (some false)) else (none)) else (none)) else (none)) else (some true)) :=
 Lim.step (f := fun k => laws_jSame.l0 (k + 1) x0 x1 x12 x13) (laws_jSame.L0_lim x0 x1 x12 x13) (fun _ => rfl) (by
  simp only [laws_jSame.l0]
  repeat' (first | (with_reducible first | exact Lim.const _ | exact laws_jSame.L0_lim _ _ _ _ | refine Lim.ite ?_ ?_ | refine Lim.bind ?_ (fun _ => ?_))))
theorem laws_jSame.F_eq (l0 : List Int) (l1 : List Int) : laws_jSame.F l0 l1 = (if (l0.length : Int) = (l1.length : Int) then (laws_jSame.L0 l0 l1 (l0.length : Int) 0) else (some false)) :=
 Lim.unique (laws_jSame.F_lim l0 l1) (by
  unfold laws_jSame.f
  repeat' (first | (with_reducible first | exact Lim.const _ | exact laws_jSame.L0_lim _ _ _ _ | refine Lim.ite ?_ ?_ | refine Lim.bind ?_ (fun _ => ?_))))

end Go.Proofs.Ytofjndbpndpjjaa.Fn
namespace Go.Proofs.Ytofjndbpndpjjaa.Fn
open Go.RowKit Go.Proofs.YtofjndbpndpjjaaW.PrintWords Go.Proofs.YtofjndbpndpjjaaW.PrintLast Go.Proofs.YtofjndbpndpjjaaW.PrintMore
attribute [local go_sem] max2_int min2_int max_two min_two max_three min_three max_four min_four   -- for this text's walks alone
set_option linter.unusedVariables false
set_option linter.unusedSimpArgs false

/-! ### spec_IsRuler: function 23 -/
def spec_IsRuler.f (k : Nat) (l0 : List Int) : Option (Bool) := (spec_ruGood.f k l0).bind fun t456 => (some t456)
theorem spec_IsRuler.mono : ∀ a0 k, LeO (spec_IsRuler.f k a0) (spec_IsRuler.f (k + 1) a0) := by
 intro a0 k
 unfold spec_IsRuler.f
 repeat' (first | (with_reducible first | exact spec_ruGood.mono _ _ | exact LeO.refl _ | exact LeO.none _ | refine LeO.ite ?_ ?_ | refine LeO.bind ?_ (fun _ => ?_)) | exact spec_ruGood.mono _ _ | exact LeO.none _ | refine LeO.ite ?_ ?_ | refine LeO.bind ?_ (fun _ => ?_))
set_option maxHeartbeats 8000000 in
set_option maxRecDepth 100000 in
theorem spec_IsRuler.calls (k : Nat) (A0 : Option Addr) (c0 : Nat) (l0 : List Int) (r : Bool) (w : World) (hr0 : Kd.C (Kd.int .i64) w A0 l0.length l0) (hc0 : l0.length ≤ c0) (h : spec_IsRuler.f k l0 = some r) :
  Calls Try.prog 23 #[.slice A0 l0.length c0] w fun e w' => e = .returned (.bool r) ∧ Drawn0 w w' := by
 have HR0 := Aside0.mk hr0
 have HC0 := Aside0.mk hc0
 clear hr0 hc0
 have H := h
 unfold spec_IsRuler.f at H
 clear h
 replace H := Option.bind_eq_some_iff.mp H
 obtain ⟨t456, A20, H⟩ := H
 replace H : (some t456) = some r := H
 have A2 := Aside0.mk A20
 clear A20
 obtain rfl := Option.some.inj H
 go_enter Try.func23, Try.ntmps23
 go_wp2_with (first | ((with_reducible refine gate_callee (f := 60) rfl ?_); refine goesA (some 4) Try.func60 #[.slice A0 l0.length c0] ?_; (with_reducible refine (spec_ruGood.calls k _ _ l0 t456 _ ?side1 ?side2 A2.out).mono ?_); (case side1 => repeat (first | exact HR0.out | (with_reducible refine Kd.C_alloc ?_ _) | (with_reducible refine Kd.C_drewN ?_ _) | (with_reducible refine Kd.C_drew ?_))); (case side2 => exact HC0.out); rintro e w' ⟨rfl, ⟨nd, rfl⟩⟩; refine ⟨_, rfl, ?_⟩))
 go_ret
 exact ⟨by first | rfl | (simp; done) | (simp [*]; done), by repeat (first | exact Drawn0.refl _ | apply Drawn0.step)⟩

noncomputable def spec_IsRuler.F (l0 : List Int) : Option (Bool) := lim fun k => spec_IsRuler.f k l0
theorem spec_IsRuler.F_lim (l0 : List Int) : Lim (fun k => spec_IsRuler.f k l0) (spec_IsRuler.F l0) := Lim.of fun k => spec_IsRuler.mono l0 k
theorem spec_IsRuler.F_eq (l0 : List Int) : spec_IsRuler.F l0 = ((spec_ruGood.F l0).bind fun t456 => (some t456)) :=
 Lim.unique (spec_IsRuler.F_lim l0) (by
  unfold spec_IsRuler.f
  repeat' (first | (with_reducible first | exact Lim.const _ | exact spec_ruGood.F_lim _ | refine Lim.ite ?_ ?_ | refine Lim.bind ?_ (fun _ => ?_))))

end Go.Proofs.Ytofjndbpndpjjaa.Fn
namespace Go.Proofs.Ytofjndbpndpjjaa.Fn
open Go.RowKit Go.Proofs.YtofjndbpndpjjaaW.PrintWords Go.Proofs.YtofjndbpndpjjaaW.PrintLast Go.Proofs.YtofjndbpndpjjaaW.PrintMore
attribute [local go_sem] max2_int min2_int max_two min_two max_three min_three max_four min_four   -- for this text's walks alone
set_option linter.unusedVariables false
set_option linter.unusedSimpArgs false

/-! ### laws_jHas: function 26 -/
def laws_jHas.l0 : Nat → Int → List Int → Int → Int → Option (Bool)
 | 0, _, _, _, _ => none
 | k + 1, x1, x7, x8, x9 => if x9 < x8 then (if 0 ≤ x9 then (if x9 < (x7.length : Int) then (if (rd x7 x9) = x1 then (some true) else (laws_jHas.l0 k x1 x7 x8 (wrap64 (x9 + 1)))) else (none)) else (none)) else (some false)
def laws_jHas.f (k : Nat) (l0 : List Int) (a1 : Int) : Option (Bool) := laws_jHas.l0 k a1 l0 (l0.length : Int) 0
theorem laws_jHas.mono_l : ∀ k, (∀ y0 y1 y2 y3, LeO (laws_jHas.l0 k y0 y1 y2 y3) (laws_jHas.l0 (k + 1) y0 y1 y2 y3))
 | 0 => fun _ _ _ _ r h => by simp [laws_jHas.l0] at h
 | k + 1 => by
  have ih0 := laws_jHas.mono_l k
  ·intro y0 y1 y2 y3
   unfold laws_jHas.l0
   repeat' (first | (with_reducible first | exact ih0 _ _ _ _ | exact LeO.refl _ | exact LeO.none _ | refine LeO.ite ?_ ?_ | refine LeO.bind ?_ (fun _ => ?_)) | exact ih0 _ _ _ _ | exact LeO.none _ | refine LeO.ite ?_ ?_ | refine LeO.bind ?_ (fun _ => ?_))
theorem laws_jHas.mono : ∀ a0 a1 k, LeO (laws_jHas.f k a0 a1) (laws_jHas.f (k + 1) a0 a1) := by
 intro a0 a1 k
 have ih0 := laws_jHas.mono_l k
 unfold laws_jHas.f
 repeat' (first | (with_reducible first | exact ih0 _ _ _ _ | exact LeO.refl _ | exact LeO.none _ | refine LeO.ite ?_ ?_ | refine LeO.bind ?_ (fun _ => ?_)) | exact ih0 _ _ _ _ | exact LeO.none _ | refine LeO.ite ?_ ?_ | refine LeO.bind ?_ (fun _ => ?_))
set_option maxHeartbeats 8000000 in
set_option maxRecDepth 100000 in
theorem laws_jHas.calls (k : Nat) (A0 : Option Addr) (c0 : Nat) (l0 : List Int) (a1 : Int) (r : Bool) (w : World) (hr0 : Kd.C (Kd.int .i64) w A0 l0.length l0) (hc0 : l0.length ≤ c0) (h : laws_jHas.f k l0 a1 = some r) :
  Calls Try.prog 26 #[.slice A0 l0.length c0, .int .i64 a1] w fun e w' => e = .returned (.bool r) ∧ Drawn0 w w' := by
 have HR0 := Aside0.mk hr0
 have HC0 := Aside0.mk hc0
 clear hr0 hc0
 have H := h
 unfold laws_jHas.f at H
 clear h
 have H' := Aside0.mk H
 clear H
 go_enter Try.func26, Try.ntmps26
 go_wp2
 go_loopg [9] k (fun kq v9 w' => ∃ (x9_1 : Int), v9 = .int .i64 x9_1 ∧ Aside0 (laws_jHas.l0 kq a1 l0 (l0.length : Int) x9_1 = some r) ∧ Aside0 (kq ≤ k) ∧ Drawn0 w w')
 case atStart => exact ⟨(0), eqd, H', ⟨Nat.le_refl _⟩, by repeat (first | exact Drawn0.refl _ | apply Drawn0.step)⟩
 case round =>
  clear H'
  try clear c2
  try clear p2
  obtain ⟨x9_1, rfl, HA, HK1, ⟨m1, rfl⟩⟩ := hrel
  cases gk with
  | zero => exact absurd HA.out (by simp [laws_jHas.l0])
  | succ k1 =>
   have H := HA.out
   clear HA
   simp only [laws_jHas.l0] at H
   by_cases c3 : x9_1 < (l0.length : Int)
   ·rw [if_pos c3] at H
    have c3b0 : decide (x9_1 < (l0.length : Int)) = true := decide_eq_true c3
    clear c3
    by_cases c4 : 0 ≤ x9_1
    ·rw [if_pos c4] at H
     have c4b0 : decide (0 ≤ x9_1) = true := decide_eq_true c4
     clear c4
     by_cases c5 : x9_1 < (l0.length : Int)
     ·rw [if_pos c5] at H
      have c5b0 : decide (x9_1 < (l0.length : Int)) = true := decide_eq_true c5
      clear c5
      by_cases c6 : (rd l0 x9_1) = a1
      ·rw [if_pos c6] at H
       have c6b0 : ((rd l0 x9_1) == a1) = true := beq_iff_eq.mpr c6
       have c6b1 : ((rd l0 x9_1) != a1) = false := bne_eq_false_iff_eq.mpr c6
       clear c6
       obtain rfl := Option.some.inj H
       have p467 : 0 ≤ (x9_1 : Int) := ofd
       have q467 : x9_1 < (l0.length : Int) := ofd
       obtain ⟨ad467, e467, hx467_0⟩ := Kd.at_int HR0.out x9_1 p467 q467
       cases e467
       replace p467 := eq_true p467
       replace q467 := eq_true q467
       go_wp2
       go_ret
       exact ⟨by first | rfl | (simp; done) | (simp [*]; done), by repeat (first | exact Drawn0.refl _ | apply Drawn0.step)⟩
      ·rw [if_neg c6] at H
       have c6b0 : ((rd l0 x9_1) == a1) = false := beq_eq_false_iff_ne.mpr c6
       have c6b1 : ((rd l0 x9_1) != a1) = true := bne_iff_ne.mpr c6
       have H' := Aside0.mk H
       clear H
       have p467 : 0 ≤ (x9_1 : Int) := ofd
       have q467 : x9_1 < (l0.length : Int) := ofd
       obtain ⟨ad467, e467, hx467_0⟩ := Kd.at_int HR0.out x9_1 p467 q467
       cases e467
       replace p467 := eq_true p467
       replace q467 := eq_true q467
       go_wp2
       go_roundg k1
       case measure => have := HK1.out; omega
       case rel => exact ⟨(wrap64 (x9_1 + 1)), eqd, H', ⟨by have := HK1.out; omega⟩, by repeat (first | exact Drawn0.refl _ | apply Drawn0.step)⟩
     ·rw [if_neg c5] at H
      exact absurd H (by simp)
    ·rw [if_neg c4] at H
     exact absurd H (by simp)
   ·rw [if_neg c3] at H
    have c3b0 : decide (x9_1 < (l0.length : Int)) = false := decide_eq_false c3
    clear c3
    obtain rfl := Option.some.inj H
    go_wp2
    go_ret
    exact ⟨by first | rfl | (simp; done) | (simp [*]; done), by repeat (first | exact Drawn0.refl _ | apply Drawn0.step)⟩

noncomputable def laws_jHas.L0 (x1 : Int) (x7 : List Int) (x8 : Int) (x9 : Int) : Option (Bool) := lim fun k => laws_jHas.l0 k x1 x7 x8 x9
theorem laws_jHas.L0_lim (x1 : Int) (x7 : List Int) (x8 : Int) (x9 : Int) : Lim (fun k => laws_jHas.l0 k x1 x7 x8 x9) (laws_jHas.L0 x1 x7 x8 x9) := Lim.of fun k => (laws_jHas.mono_l k) x1 x7 x8 x9
noncomputable def laws_jHas.F (l0 : List Int) (a1 : Int) : Option (Bool) := lim fun k => laws_jHas.f k l0 a1
theorem laws_jHas.F_lim (l0 : List Int) (a1 : Int) : Lim (fun k => laws_jHas.f k l0 a1) (laws_jHas.F l0 a1) := Lim.of fun k => laws_jHas.mono l0 a1 k
theorem laws_jHas.L0_eq (x1 : Int) (x7 : List Int) (x8 : Int) (x9 : Int) : laws_jHas.L0 x1 x7 x8 x9 = (if x9 < x8 then (if 0 ≤ x9 then (if x9 < (x7.length : Int) then (if (rd x7 x9) = x1 then (some true) else (laws_jHas.L0 x1 x7 x8 (wrap64 (x9 + 1)))) else (none)) else (none)) else (some false)) :=
 Lim.step (f := fun k => laws_jHas.l0 (k + 1) x1 x7 x8 x9) (laws_jHas.L0_lim x1 x7 x8 x9) (fun _ => rfl) (by
  simp only [laws_jHas.l0]
  repeat' (first | (with_reducible first | exact Lim.const _ | exact laws_jHas.L0_lim _ _ _ _ | refine Lim.ite ?_ ?_ | refine Lim.bind ?_ (fun _ => ?_))))
theorem laws_jHas.F_eq (l0 : List Int) (a1 : Int) : laws_jHas.F l0 a1 = (laws_jHas.L0 a1 l0 (l0.length : Int) 0) :=
 Lim.unique (laws_jHas.F_lim l0 a1) (by
  unfold laws_jHas.f
  repeat' (first | (with_reducible first | exact Lim.const _ | exact laws_jHas.L0_lim _ _ _ _ | refine Lim.ite ?_ ?_ | refine Lim.bind ?_ (fun _ => ?_))))

end Go.Proofs.Ytofjndbpndpjjaa.Fn
namespace Go.Proofs.Ytofjndbpndpjjaa.Fn
open Go.RowKit Go.Proofs.YtofjndbpndpjjaaW.PrintWords Go.Proofs.YtofjndbpndpjjaaW.PrintLast Go.Proofs.YtofjndbpndpjjaaW.PrintMore
attribute [local go_sem] max2_int min2_int max_two min_two max_three min_three max_four min_four   -- for this text's walks alone
set_option linter.unusedVariables false
set_option linter.unusedSimpArgs false

/-! ### spec_l1Cur_distance: function 73 -/
def spec_l1Cur_distance.f (s0_0 : List Int) (s0_1 : Int) (s0_2 : Int) : Option (Int × Int × Int) := (spec_l1Cur_one.f s0_0 s0_1 s0_2 10).bind fun bt468 => (if bt468.1 = true then ((spec_l1Cur_among.f s0_0 bt468.2.1 bt468.2.2 (([(-1), 0, 60, 61, 4611686018427387904] : List Int))).bind fun bt474 => (some (bt474.1, bt474.2.1, bt474.2.2))) else ((spec_l1Cur_pick.f s0_0 bt468.2.1 bt468.2.2 16).bind fun bt477 => (some (wrap64 (1 + bt477.1), bt477.2.1, bt477.2.2))))
set_option maxHeartbeats 8000000 in
set_option maxRecDepth 100000 in
theorem spec_l1Cur_distance.calls (g : Nat) (s0_0 : List Int) (s0_1 : Int) (s0_2 : Int) (r1 : Int) (r2 : Int) (r3 : Int) (w0 w : World) (hI : IsS58 w0 w g s0_0 s0_1 s0_2) (hB : Below w0.heap.size w0 w) (h : spec_l1Cur_distance.f s0_0 s0_1 s0_2 = some (r1, r2, r3)) :
  Calls Try.prog 73 #[.pointer (some ⟨g, 0, none⟩)] w fun e w' => e = .returned (.int .i64 r1) ∧ IsS58 w0 w' g s0_0 r2 r3 ∧ Below w0.heap.size w0 w' ∧ KeepBut w w' g none := by
 have HI0 := Aside0.mk hI
 have HK := Aside0.mk (KeepBut.refl w g none)
 have HL := Aside0.mk hB.size
 clear hI
 have HW0 := Aside0.mk hB.size
 have HB := Aside0.mk hB
 clear hB
 have H := h
 unfold spec_l1Cur_distance.f at H
 clear h
 replace H := Option.bind_eq_some_iff.mp H
 obtain ⟨⟨t468, t469, t470⟩, A20, H⟩ := H
 replace H : (if t468 = true then ((spec_l1Cur_among.f s0_0 t469 t470 (([(-1), 0, 60, 61, 4611686018427387904] : List Int))).bind fun bt474 => (some (bt474.1, bt474.2.1, bt474.2.2))) else ((spec_l1Cur_pick.f s0_0 t469 t470 16).bind fun bt477 => (some (wrap64 (1 + bt477.1), bt477.2.1, bt477.2.2)))) = some (r1, r2, r3) := H
 have A2 := Aside0.mk A20
 clear A20
 by_cases c3 : t468 = true
 ·subst c3
  have H1 : ((spec_l1Cur_among.f s0_0 t469 t470 (([(-1), 0, 60, 61, 4611686018427387904] : List Int))).bind fun bt474 => (some (bt474.1, bt474.2.1, bt474.2.2))) = some (r1, r2, r3) := by rw [if_pos rfl] at H; exact H
  clear H
  have H := H1
  clear H1
  obtain ⟨y471, hy471⟩ : ∃ y_ : List Int, y_ = (([(-1), 0, 60, 61, 4611686018427387904] : List Int)) := ⟨_, rfl⟩
  replace H : ((spec_l1Cur_among.f s0_0 t469 t470 y471).bind fun bt474 => (some (bt474.1, bt474.2.1, bt474.2.2))) = some (r1, r2, r3) := by first | (rw [hy471]; with_reducible exact H) | (have H2_ := (Option.bind_some _ _).symm.trans H; rw [hy471]; with_reducible exact H2_) | (have H2_ := (Option.bind_some _ _).symm.trans H; with_reducible exact H2_) | with_reducible exact H | (rw [hy471]; exact H) | exact H
  have Ny471 := Aside0.mk hy471
  clear hy471
  replace H := Option.bind_eq_some_iff.mp H
  obtain ⟨⟨t474, t475, t476⟩, A40, H⟩ := H
  replace H : (some (t474, t475, t476)) = some (r1, r2, r3) := H
  have A4 := Aside0.mk A40
  clear A40
  simp only [Option.some.injEq, Prod.mk.injEq] at H
  obtain ⟨rfl, rfl, rfl⟩ := H
  go_enter Try.func73, Try.ntmps73
  go_wp2_with (first | ((with_reducible refine gate_callee (f := 76) rfl ?_); refine goesA (some 4) Try.func76 #[.pointer (some ⟨g, 0, none⟩), .int .i64 10] ?_; (with_reducible refine (spec_l1Cur_one.calls g s0_0 s0_1 s0_2 10 true t469 t470 w0 _ ?side1 ?side2 A2.out).mono ?_); (case side1 => exact IsS58.at HI0); (case side2 => exact atB HB); rintro e w5 ⟨rfl, hi, hb, hk⟩; refine ⟨_, rfl, ?_⟩; replace HK := upK HK hk; replace HB := Aside0.mk (hb); replace HI0 := Aside0.mk (hi); (try clear hb); (try clear hb2); (try clear hk); (try clear hi)) | ((with_reducible refine gate_dst (N := 6) rfl ?_); refine Kd.R_lit (Kd.int .i64) _ 3 ?hg (N := 6) ?hd (xs := ([(-1), 0, 60, 61, 4611686018427387904] : List Int)) (inner := [.int .i64 (-1), .int .i64 0, .int .i64 60, .int .i64 61, .int .i64 4611686018427387904]) (ok := fun _ => True) (okp := fun _ => True) ?hr ?hp (fun _ hk => hk) trivial (Below.refl _ _) (Nat.le_refl _) (by simp) ?_; (case hd => rfl); (case hg => rfl); (case hr => first | (go_simp; done) | (go_simp; rfl)); (case hp => exact repsI _); intro v472 w6 ho7 hb hg_ hnew_; clear hg_ hnew_; (first | rw [← Ny471.out] at ho7 | (simp only [Int.reduceToNat] at ho7; rw [← Ny471.out] at ho7)); have HO473 := lowKR ho7 HK; replace HI0 := IsS58.up HI0 hb; replace HK := upKB HK hb; replace HB := upB HB hb; clear hb ho7; obtain ⟨Ao8, co8, eo8⟩ := Kd.R_slice HO473.out; subst eo8) | ((with_reducible refine gate_callee (f := 77) rfl ?_); refine goesA (some 7) Try.func77 #[.pointer (some ⟨g, 0, none⟩), .slice Ao8 y471.length co8] ?_; (with_reducible refine (spec_l1Cur_among.calls g s0_0 t469 t470 _ _ y471 t474 t475 t476 w0 _ ?side1 ?side2 ?side3 ?side4 ?side5 A4.out).mono ?_); (case side1 => exact IsS58.at HI0); (case side2 => exact atB HB); (case side3 => exact atRC HO473); (case side4 => exact (Kd.R_reads' HO473.out).2.1); (case side5 => exact far_slice (IsS58.own_ne HI0.out HO473.out (by decide))); rintro e w9 ⟨rfl, hi, hb, hk⟩; refine ⟨_, rfl, ?_⟩; replace HO473 := IsS58.keepR HI0 HO473 hk; replace HK := upK HK hk; replace HB := Aside0.mk (hb); replace HI0 := Aside0.mk (hi); (try clear hb); (try clear hb2); (try clear hk); (try clear hi)))
  go_ret
  exact ⟨eqr, IsS58.at HI0, atB HB, atK HK⟩
 ·replace c3 := Bool.eq_false_iff.mpr c3
  subst c3
  have H1 : ((spec_l1Cur_pick.f s0_0 t469 t470 16).bind fun bt477 => (some (wrap64 (1 + bt477.1), bt477.2.1, bt477.2.2))) = some (r1, r2, r3) := by rw [if_neg (show ¬ (false = true) by decide)] at H; exact H
  clear H
  have H := H1
  clear H1
  replace H := Option.bind_eq_some_iff.mp H
  obtain ⟨⟨t477, t478, t479⟩, A100, H⟩ := H
  replace H : (some (wrap64 (1 + t477), t478, t479)) = some (r1, r2, r3) := H
  have A10 := Aside0.mk A100
  clear A100
  simp only [Option.some.injEq, Prod.mk.injEq] at H
  obtain ⟨rfl, rfl, rfl⟩ := H
  go_enter Try.func73, Try.ntmps73
  go_wp2_with (first | ((with_reducible refine gate_callee (f := 76) rfl ?_); refine goesA (some 4) Try.func76 #[.pointer (some ⟨g, 0, none⟩), .int .i64 10] ?_; (with_reducible refine (spec_l1Cur_one.calls g s0_0 s0_1 s0_2 10 false t469 t470 w0 _ ?side1 ?side2 A2.out).mono ?_); (case side1 => exact IsS58.at HI0); (case side2 => exact atB HB); rintro e w11 ⟨rfl, hi, hb, hk⟩; refine ⟨_, rfl, ?_⟩; replace HK := upK HK hk; replace HB := Aside0.mk (hb); replace HI0 := Aside0.mk (hi); (try clear hb); (try clear hb2); (try clear hk); (try clear hi)) | ((with_reducible refine gate_callee (f := 78) rfl ?_); refine goesA (some 9) Try.func78 #[.pointer (some ⟨g, 0, none⟩), .int .i64 16] ?_; (with_reducible refine (spec_l1Cur_pick.calls g s0_0 t469 t470 16 t477 t478 t479 w0 _ ?side1 ?side2 A10.out).mono ?_); (case side1 => exact IsS58.at HI0); (case side2 => exact atB HB); rintro e w12 ⟨rfl, hi, hb, hk⟩; refine ⟨_, rfl, ?_⟩; replace HK := upK HK hk; replace HB := Aside0.mk (hb); replace HI0 := Aside0.mk (hi); (try clear hb); (try clear hb2); (try clear hk); (try clear hi)))
  go_ret
  exact ⟨eqr, IsS58.at HI0, atB HB, atK HK⟩


end Go.Proofs.Ytofjndbpndpjjaa.Fn
namespace Go.Proofs.Ytofjndbpndpjjaa.Fn
open Go.RowKit Go.Proofs.YtofjndbpndpjjaaW.PrintWords Go.Proofs.YtofjndbpndpjjaaW.PrintLast Go.Proofs.YtofjndbpndpjjaaW.PrintMore
attribute [local go_sem] max2_int min2_int max_two min_two max_three min_three max_four min_four   -- for this text's walks alone
set_option linter.unusedVariables false
set_option linter.unusedSimpArgs false

/-! ### spec_DrawTimesMeasured: function 28 -/
def spec_DrawTimesMeasured.f (k : Nat) (l0 : List Int) : Option (List Int × Int) := (spec_l1Cur_ruler.f k l0 0 0).bind fun bt481 => ((spec_l1Cur_distance.f l0 bt481.2.1 bt481.2.2).bind fun bt486 => (some (bt481.1, bt486.1)))
theorem spec_DrawTimesMeasured.mono : ∀ a0 k, LeO (spec_DrawTimesMeasured.f k a0) (spec_DrawTimesMeasured.f (k + 1) a0) := by
 intro a0 k
 unfold spec_DrawTimesMeasured.f
 repeat' (first | (with_reducible first | exact spec_l1Cur_ruler.mono _ _ _ _ | exact LeO.refl _ | exact LeO.none _ | refine LeO.ite ?_ ?_ | refine LeO.bind ?_ (fun _ => ?_)) | exact spec_l1Cur_ruler.mono _ _ _ _ | exact LeO.none _ | refine LeO.ite ?_ ?_ | refine LeO.bind ?_ (fun _ => ?_))
set_option maxHeartbeats 8000000 in
set_option maxRecDepth 100000 in
theorem spec_DrawTimesMeasured.calls (k : Nat) (A0 : Option Addr) (c0 : Nat) (l0 : List Int) (r1 : List Int) (r2 : Int) (w : World) (hr0 : Kd.C (Kd.int .u8) w A0 l0.length l0) (hc0 : l0.length ≤ c0) (h : spec_DrawTimesMeasured.f k l0 = some (r1, r2)) :
  Calls Try.prog 28 #[.slice A0 l0.length c0] w fun e w' => ∃ v0_ : Value, e = .returned (.tuple #[v0_, .int .i64 r2]) ∧ Kd.R (Kd.int .i64) 3 w' w.heap.size (fun _ => True) v0_ r1 ∧ Below w.heap.size w w' := by
 have hu58 := Try.underlying58
 have HR0 := Aside0.mk hr0
 have HC0 := Aside0.mk hc0
 clear hr0 hc0
 have HB := Aside0.mk (Below.refl w.heap.size w)
 have H := h
 unfold spec_DrawTimesMeasured.f at H
 clear h
 replace H := Option.bind_eq_some_iff.mp H
 obtain ⟨⟨t481, t484, t485⟩, A20, H⟩ := H
 replace H : ((spec_l1Cur_distance.f l0 t484 t485).bind fun bt486 => (some (t481, bt486.1))) = some (r1, r2) := H
 have A2 := Aside0.mk A20
 clear A20
 replace H := Option.bind_eq_some_iff.mp H
 obtain ⟨⟨t486, t487, t488⟩, A30, H⟩ := H
 replace H : (some (t481, t486)) = some (r1, r2) := H
 have A3 := Aside0.mk A30
 clear A30
 simp only [Option.some.injEq, Prod.mk.injEq] at H
 obtain ⟨rfl, rfl⟩ := H
 go_enter Try.func28, Try.ntmps28
 go_wp2_with (first | ((with_reducible refine gate_dst (N := 7) rfl ?_); refine box_event ?hg (N := 7) ?hd (cs := #[.slice A0 l0.length c0, .int .i64 0, .int .u64 0]) (t := 58) ?hr ?_; (case hd => rfl); (case hg => rfl); (case hr => first | (go_simp; done) | (go_simp; rfl)); intro gb480 hg w4 hbox hb; have HI480 := Aside0.mk ((⟨_, _, hbox, (by rw [hg]; exact (szB HB) : w.heap.size ≤ gb480), HR0.out⟩ : IsS58 w w4 gb480 l0 0 0)); replace HB := upB HB hb; clear hb hbox hg) | ((with_reducible refine gate_callee (f := 72) rfl ?_); refine goesA (some 9) Try.func72 #[.pointer (some ⟨gb480, 0, none⟩)] ?_; (with_reducible refine (spec_l1Cur_ruler.calls k gb480 l0 0 0 t481 t484 t485 w _ ?side1 ?side2 A2.out).mono ?_); (case side1 => exact IsS58.at HI480); (case side2 => exact atB HB); rintro e w5 ⟨v482, rfl, ho0, hi, hb, hk⟩; refine ⟨_, rfl, ?_⟩; have HO483 := lowR ho0 HB; replace HB := Aside0.mk (hb); replace HI480 := Aside0.mk (hi); (try clear hb); (try clear hb2); (try clear hk); (try clear hi); (try clear ho0)) | ((with_reducible refine gate_callee (f := 73) rfl ?_); refine goesA (some 11) Try.func73 #[.pointer (some ⟨gb480, 0, none⟩)] ?_; (with_reducible refine (spec_l1Cur_distance.calls gb480 l0 t484 t485 t486 t487 t488 w _ ?side1 ?side2 A3.out).mono ?_); (case side1 => exact IsS58.at HI480); (case side2 => exact atB HB); rintro e w6 ⟨rfl, hi, hb, hk⟩; refine ⟨_, rfl, ?_⟩; replace HO483 := IsS58.keepR HI480 HO483 hk; replace HB := Aside0.mk (hb); replace HI480 := Aside0.mk (hi); (try clear hb); (try clear hb2); (try clear hk); (try clear hi)))
 go_ret2
 exact ⟨_, eqr, atR HO483, atB HB⟩

noncomputable def spec_DrawTimesMeasured.F (l0 : List Int) : Option (List Int × Int) := lim fun k => spec_DrawTimesMeasured.f k l0
theorem spec_DrawTimesMeasured.F_lim (l0 : List Int) : Lim (fun k => spec_DrawTimesMeasured.f k l0) (spec_DrawTimesMeasured.F l0) := Lim.of fun k => spec_DrawTimesMeasured.mono l0 k
theorem spec_DrawTimesMeasured.F_eq (l0 : List Int) : spec_DrawTimesMeasured.F l0 = ((spec_l1Cur_ruler.F l0 0 0).bind fun bt481 => ((spec_l1Cur_distance.f l0 bt481.2.1 bt481.2.2).bind fun bt486 => (some (bt481.1, bt486.1)))) :=
 Lim.unique (spec_DrawTimesMeasured.F_lim l0) (by
  unfold spec_DrawTimesMeasured.f
  repeat' (first | (with_reducible first | exact Lim.const _ | exact spec_l1Cur_ruler.F_lim _ _ _ | refine Lim.ite ?_ ?_ | refine Lim.bind ?_ (fun _ => ?_))))

end Go.Proofs.Ytofjndbpndpjjaa.Fn
namespace Go.Proofs.Ytofjndbpndpjjaa.Fn
open Go.RowKit Go.Proofs.YtofjndbpndpjjaaW.PrintWords Go.Proofs.YtofjndbpndpjjaaW.PrintLast Go.Proofs.YtofjndbpndpjjaaW.PrintMore
attribute [local go_sem] max2_int min2_int max_two min_two max_three min_three max_four min_four   -- for this text's walks alone
set_option linter.unusedVariables false
set_option linter.unusedSimpArgs false

/-! ### spec_ruDistance: function 74 -/
def spec_ruDistance.f (a0 : Int) : Option (Bool) := (spec_l1In.f a0 1 60).bind fun t489 => (some t489)
set_option maxHeartbeats 8000000 in
set_option maxRecDepth 100000 in
theorem spec_ruDistance.calls (a0 : Int) (r : Bool) (w : World) (h : spec_ruDistance.f a0 = some r) :
  Calls Try.prog 74 #[.int .i64 a0] w fun e w' => e = .returned (.bool r) ∧ Drawn0 w w' := by
 have H := h
 unfold spec_ruDistance.f at H
 clear h
 replace H := Option.bind_eq_some_iff.mp H
 obtain ⟨t489, A20, H⟩ := H
 replace H : (some t489) = some r := H
 have A2 := Aside0.mk A20
 clear A20
 obtain rfl := Option.some.inj H
 go_enter Try.func74, Try.ntmps74
 go_wp2_with (first | ((with_reducible refine gate_callee (f := 96) rfl ?_); refine goesA (some 4) Try.func96 #[.int .i64 a0, .int .i64 1, .int .i64 60] ?_; (with_reducible refine (spec_l1In.calls a0 1 60 t489 _ A2.out).mono ?_); rintro e w' ⟨rfl, ⟨nd, rfl⟩⟩; refine ⟨_, rfl, ?_⟩))
 go_ret
 exact ⟨by first | rfl | (simp; done) | (simp [*]; done), by repeat (first | exact Drawn0.refl _ | apply Drawn0.step)⟩


end Go.Proofs.Ytofjndbpndpjjaa.Fn
namespace Go.Proofs.Ytofjndbpndpjjaa.Fn
open Go.RowKit Go.Proofs.YtofjndbpndpjjaaW.PrintWords Go.Proofs.YtofjndbpndpjjaaW.PrintLast Go.Proofs.YtofjndbpndpjjaaW.PrintMore
attribute [local go_sem] max2_int min2_int max_two min_two max_three min_three max_four min_four   -- for this text's walks alone
set_option linter.unusedVariables false
set_option linter.unusedSimpArgs false

/-! ### spec_TimesMeasured: function 29 -/
def spec_TimesMeasured.j0 : Nat → List Int → Int → Bool → Option (Int × Bool)
 | 0, _, _, _ => none
 | k + 1, x0, x1, x13 => if x13 = true then (some (0, false)) else ((spec_ruLength.f x0).bind fun t492 => (if x1 > t492 then (some (0, true)) else ((spec_ruTimes.f k x0).bind fun t493 => (if 0 ≤ x1 then (if x1 < (t493.length : Int) then (some (rd t493 x1, true)) else (none)) else (none)))))
def spec_TimesMeasured.f (k : Nat) (l0 : List Int) (a1 : Int) : Option (Int × Bool) := (spec_ruGood.f k l0).bind fun t490 => (if t490 = true then ((spec_ruDistance.f a1).bind fun t491 => (spec_TimesMeasured.j0 k l0 a1 (!t491))) else (spec_TimesMeasured.j0 k l0 a1 true))
theorem spec_TimesMeasured.mono_l : ∀ k, (∀ y0 y1 y2, LeO (spec_TimesMeasured.j0 k y0 y1 y2) (spec_TimesMeasured.j0 (k + 1) y0 y1 y2))
 | 0 => fun _ _ _ r h => by simp [spec_TimesMeasured.j0] at h
 | k + 1 => by
  have ih0 := spec_TimesMeasured.mono_l k
  ·intro y0 y1 y2
   unfold spec_TimesMeasured.j0
   repeat' (first | (with_reducible first | exact spec_ruTimes.mono _ _ | exact LeO.refl _ | exact LeO.none _ | refine LeO.ite ?_ ?_ | refine LeO.bind ?_ (fun _ => ?_)) | exact spec_ruTimes.mono _ _ | exact LeO.none _ | refine LeO.ite ?_ ?_ | refine LeO.bind ?_ (fun _ => ?_))
theorem spec_TimesMeasured.mono : ∀ a0 a1 k, LeO (spec_TimesMeasured.f k a0 a1) (spec_TimesMeasured.f (k + 1) a0 a1) := by
 intro a0 a1 k
 have ih0 := spec_TimesMeasured.mono_l k
 unfold spec_TimesMeasured.f
 repeat' (first | (with_reducible first | exact ih0 _ _ _ | exact spec_ruGood.mono _ _ | exact LeO.refl _ | exact LeO.none _ | refine LeO.ite ?_ ?_ | refine LeO.bind ?_ (fun _ => ?_)) | exact ih0 _ _ _ | exact spec_ruGood.mono _ _ | exact LeO.none _ | refine LeO.ite ?_ ?_ | refine LeO.bind ?_ (fun _ => ?_))
set_option maxHeartbeats 8000000 in
set_option maxRecDepth 100000 in
theorem spec_TimesMeasured.calls (k : Nat) (A0 : Option Addr) (c0 : Nat) (l0 : List Int) (a1 : Int) (r1 : Int) (r2 : Bool) (w : World) (hr0 : Kd.C (Kd.int .i64) w A0 l0.length l0) (hc0 : l0.length ≤ c0) (h : spec_TimesMeasured.f k l0 a1 = some (r1, r2)) :
  Calls Try.prog 29 #[.slice A0 l0.length c0, .int .i64 a1] w fun e w' => e = .returned (.tuple #[.int .i64 r1, .bool r2]) ∧ Below w.heap.size w w' := by
 have HR0 := Aside0.mk hr0
 have HC0 := Aside0.mk hc0
 clear hr0 hc0
 have HB := Aside0.mk (Below.refl w.heap.size w)
 have H := h
 unfold spec_TimesMeasured.f at H
 clear h
 have HC3 := Aside0.mk H
 clear H
 go_enter Try.func29, Try.ntmps29
 go_upto_region 1 with (fail)
 go_cut [13] (fun v13 wc => ∃ (kq : Nat) (x13_2 : Bool), v13 = .bool x13_2 ∧ Aside0 (spec_TimesMeasured.j0 kq l0 a1 x13_2 = some (r1, r2)) ∧ Aside0 (kq ≤ k) ∧ Aside0 (Below w.heap.size w wc))
 case first =>
  have H := HC3.out
  clear HC3
  replace H := Option.bind_eq_some_iff.mp H
  obtain ⟨t490, A40, H⟩ := H
  replace H : (if t490 = true then ((spec_ruDistance.f a1).bind fun t491 => (spec_TimesMeasured.j0 k l0 a1 (!t491))) else (spec_TimesMeasured.j0 k l0 a1 true)) = some (r1, r2) := H
  have A4 := Aside0.mk A40
  clear A40
  by_cases c5 : t490 = true
  ·subst c5
   have H1 : ((spec_ruDistance.f a1).bind fun t491 => (spec_TimesMeasured.j0 k l0 a1 (!t491))) = some (r1, r2) := by rw [if_pos rfl] at H; exact H
   clear H
   have H := H1
   clear H1
   replace H := Option.bind_eq_some_iff.mp H
   obtain ⟨t491, A60, H⟩ := H
   replace H : (spec_TimesMeasured.j0 k l0 a1 (!t491)) = some (r1, r2) := H
   have A6 := Aside0.mk A60
   clear A60
   have H' := Aside0.mk H
   clear H
   go_wp2_with (first | ((with_reducible refine gate_callee (f := 60) rfl ?_); refine goesA (some 7) Try.func60 #[.slice A0 l0.length c0] ?_; (with_reducible refine (spec_ruGood.calls k _ _ l0 true _ ?side1 ?side2 A4.out).mono ?_); (case side1 => repeat (first | exact (Kd.C_below HR0.out HB.out) | (with_reducible refine Kd.C_alloc ?_ _) | (with_reducible refine Kd.C_drewN ?_ _) | (with_reducible refine Kd.C_drew ?_))); (case side2 => exact HC0.out); rintro e w' ⟨rfl, ⟨nd, rfl⟩⟩; refine ⟨_, rfl, ?_⟩) | (go_at_call 74; (with_reducible refine (spec_ruDistance.calls a1 t491 _ A6.out).mono ?_); rintro e w' ⟨rfl, ⟨nd, rfl⟩⟩))
   go_meet
   case rel => exact ⟨_, (!t491), eqd, H', ⟨leD⟩, ⟨atB HB⟩⟩
  ·replace c5 := Bool.eq_false_iff.mpr c5
   subst c5
   have H1 : (spec_TimesMeasured.j0 k l0 a1 true) = some (r1, r2) := by rw [if_neg (show ¬ (false = true) by decide)] at H; exact H
   clear H
   have H := H1
   clear H1
   have H' := Aside0.mk H
   clear H
   go_wp2_with (first | ((with_reducible refine gate_callee (f := 60) rfl ?_); refine goesA (some 7) Try.func60 #[.slice A0 l0.length c0] ?_; (with_reducible refine (spec_ruGood.calls k _ _ l0 false _ ?side1 ?side2 A4.out).mono ?_); (case side1 => repeat (first | exact (Kd.C_below HR0.out HB.out) | (with_reducible refine Kd.C_alloc ?_ _) | (with_reducible refine Kd.C_drewN ?_ _) | (with_reducible refine Kd.C_drew ?_))); (case side2 => exact HC0.out); rintro e w' ⟨rfl, ⟨nd, rfl⟩⟩; refine ⟨_, rfl, ?_⟩))
   go_meet
   case rel => exact ⟨_, (true), eqd, H', ⟨leD⟩, ⟨atB HB⟩⟩
 case rest =>
  clear HC3
  try clear c2
  try clear p2
  try clear c5
  try clear c6
  obtain ⟨kq, x13_2, rfl, HA, HJ2, HB⟩ := hcut
  cases kq with
  | zero => exact absurd HA.out (by simp [spec_TimesMeasured.j0])
  | succ kj2 =>
   have H := HA.out
   clear HA
   simp only [spec_TimesMeasured.j0] at H
   by_cases c7 : x13_2 = true
   ·subst c7
    have H1 : (some (0, false)) = some (r1, r2) := by rw [if_pos rfl] at H; exact H
    clear H
    have H := H1
    clear H1
    simp only [Option.some.injEq, Prod.mk.injEq] at H
    obtain ⟨rfl, rfl⟩ := H
    go_wp2
    go_ret2
    exact ⟨eqr, atB HB⟩
   ·replace c7 := Bool.eq_false_iff.mpr c7
    subst c7
    have H1 : ((spec_ruLength.f l0).bind fun t492 => (if a1 > t492 then (some (0, true)) else ((spec_ruTimes.f kj2 l0).bind fun t493 => (if 0 ≤ a1 then (if a1 < (t493.length : Int) then (some (rd t493 a1, true)) else (none)) else (none))))) = some (r1, r2) := by rw [if_neg (show ¬ (false = true) by decide)] at H; exact H
    clear H
    have H := H1
    clear H1
    replace H := Option.bind_eq_some_iff.mp H
    obtain ⟨t492, A80, H⟩ := H
    replace H : (if a1 > t492 then (some (0, true)) else ((spec_ruTimes.f kj2 l0).bind fun t493 => (if 0 ≤ a1 then (if a1 < (t493.length : Int) then (some (rd t493 a1, true)) else (none)) else (none)))) = some (r1, r2) := H
    have A8 := Aside0.mk A80
    clear A80
    by_cases c9 : a1 > t492
    ·rw [if_pos c9] at H
     have c9b0 : decide (t492 < a1) = true := decide_eq_true c9
     clear c9
     simp only [Option.some.injEq, Prod.mk.injEq] at H
     obtain ⟨rfl, rfl⟩ := H
     go_wp2_with (first | ((with_reducible refine gate_callee (f := 62) rfl ?_); refine goesA (some 16) Try.func62 #[.slice A0 l0.length c0] ?_; (with_reducible refine (spec_ruLength.calls _ _ l0 t492 _ ?side1 ?side2 A8.out).mono ?_); (case side1 => repeat (first | exact (Kd.C_below HR0.out HB.out) | (with_reducible refine Kd.C_alloc ?_ _) | (with_reducible refine Kd.C_drewN ?_ _) | (with_reducible refine Kd.C_drew ?_))); (case side2 => exact HC0.out); rintro e w' ⟨rfl, ⟨nd, rfl⟩⟩; refine ⟨_, rfl, ?_⟩))
     go_ret2
     exact ⟨eqr, atB HB⟩
    ·rw [if_neg c9] at H
     have c9b0 : decide (t492 < a1) = false := decide_eq_false c9
     clear c9
     replace H := Option.bind_eq_some_iff.mp H
     obtain ⟨t493, A100, H⟩ := H
     replace H : (if 0 ≤ a1 then (if a1 < (t493.length : Int) then (some (rd t493 a1, true)) else (none)) else (none)) = some (r1, r2) := H
     have A10 := Aside0.mk A100
     clear A100
     by_cases c11 : 0 ≤ a1
     ·rw [if_pos c11] at H
      have c11b0 : decide (0 ≤ a1) = true := decide_eq_true c11
      clear c11
      by_cases c12 : a1 < (t493.length : Int)
      ·rw [if_pos c12] at H
       have c12b0 : decide (a1 < (t493.length : Int)) = true := decide_eq_true c12
       clear c12
       simp only [Option.some.injEq, Prod.mk.injEq] at H
       obtain ⟨rfl, rfl⟩ := H
       go_wp2_with (first | ((with_reducible refine gate_callee (f := 62) rfl ?_); refine goesA (some 16) Try.func62 #[.slice A0 l0.length c0] ?_; (with_reducible refine (spec_ruLength.calls _ _ l0 t492 _ ?side1 ?side2 A8.out).mono ?_); (case side1 => repeat (first | exact (Kd.C_below HR0.out HB.out) | (with_reducible refine Kd.C_alloc ?_ _) | (with_reducible refine Kd.C_drewN ?_ _) | (with_reducible refine Kd.C_drew ?_))); (case side2 => exact HC0.out); rintro e w' ⟨rfl, ⟨nd, rfl⟩⟩; refine ⟨_, rfl, ?_⟩) | ((with_reducible refine gate_callee (f := 61) rfl ?_); refine goesA (some 19) Try.func61 #[.slice A0 l0.length c0] ?_; (with_reducible refine (spec_ruTimes.calls kj2 _ _ l0 t493 _ ?side1 ?side2 A10.out).mono ?_); (case side1 => repeat (first | exact (Kd.C_below HR0.out (atB HB)) | (with_reducible refine Kd.C_alloc ?_ _) | (with_reducible refine Kd.C_drewN ?_ _) | (with_reducible refine Kd.C_drew ?_))); (case side2 => exact HC0.out); rintro e w13 ⟨v494, rfl, ho0, hb⟩; refine ⟨_, rfl, ?_⟩; have HO495 := lowR ho0 HB; replace HB := upB HB hb; (try clear hb); (try clear hb2); (try clear hk); (try clear hi); (try clear ho0); obtain ⟨Ao14, co14, eo14⟩ := Kd.R_slice HO495.out; subst eo14; have p496 : 0 ≤ (a1 : Int) := ofd; have q496 : a1 < (t493.length : Int) := ofd; obtain ⟨ad496, e496, hx496_0⟩ := Kd.at_int (Kd.R_reads' HO495.out).2.2 a1 p496 q496; cases e496; replace p496 := eq_true p496; replace q496 := eq_true q496))
       go_ret2
       exact ⟨eqr, atB HB⟩
      ·rw [if_neg c12] at H
       exact absurd H (by simp)
     ·rw [if_neg c11] at H
      exact absurd H (by simp)

noncomputable def spec_TimesMeasured.J0 (x0 : List Int) (x1 : Int) (x13 : Bool) : Option (Int × Bool) := lim fun k => spec_TimesMeasured.j0 k x0 x1 x13
theorem spec_TimesMeasured.J0_lim (x0 : List Int) (x1 : Int) (x13 : Bool) : Lim (fun k => spec_TimesMeasured.j0 k x0 x1 x13) (spec_TimesMeasured.J0 x0 x1 x13) := Lim.of fun k => (spec_TimesMeasured.mono_l k) x0 x1 x13
noncomputable def spec_TimesMeasured.F (l0 : List Int) (a1 : Int) : Option (Int × Bool) := lim fun k => spec_TimesMeasured.f k l0 a1
theorem spec_TimesMeasured.F_lim (l0 : List Int) (a1 : Int) : Lim (fun k => spec_TimesMeasured.f k l0 a1) (spec_TimesMeasured.F l0 a1) := Lim.of fun k => spec_TimesMeasured.mono l0 a1 k
theorem spec_TimesMeasured.J0_eq (x0 : List Int) (x1 : Int) (x13 : Bool) : spec_TimesMeasured.J0 x0 x1 x13 = (if x13 = true then (some (0, false)) else ((spec_ruLength.f x0).bind fun t492 => (if x1 > t492 then (some (0, true)) else ((spec_ruTimes.F x0).bind fun t493 => (if 0 ≤ x1 then (if x1 < (t493.length : Int) then (some (rd t493 x1, true)) else (none)) else (none)))))) :=
 Lim.step (f := fun k => spec_TimesMeasured.j0 (k + 1) x0 x1 x13) (spec_TimesMeasured.J0_lim x0 x1 x13) (fun _ => rfl) (by
  simp only [spec_TimesMeasured.j0]
  repeat' (first | (with_reducible first | exact Lim.const _ | exact spec_ruTimes.F_lim _ | refine Lim.ite ?_ ?_ | refine Lim.bind ?_ (fun _ => ?_))))
theorem spec_TimesMeasured.F_eq (l0 : List Int) (a1 : Int) : spec_TimesMeasured.F l0 a1 = ((spec_ruGood.F l0).bind fun t490 => (if t490 = true then ((spec_ruDistance.f a1).bind fun t491 => (spec_TimesMeasured.J0 l0 a1 (!t491))) else (spec_TimesMeasured.J0 l0 a1 true))) :=
 Lim.unique (spec_TimesMeasured.F_lim l0 a1) (by
  unfold spec_TimesMeasured.f
  repeat' (first | (with_reducible first | exact Lim.const _ | exact spec_TimesMeasured.J0_lim _ _ _ | exact spec_ruGood.F_lim _ | refine Lim.ite ?_ ?_ | refine Lim.bind ?_ (fun _ => ?_))))

end Go.Proofs.Ytofjndbpndpjjaa.Fn
namespace Go.Proofs.Ytofjndbpndpjjaa.Fn
open Go.RowKit Go.Proofs.YtofjndbpndpjjaaW.PrintWords Go.Proofs.YtofjndbpndpjjaaW.PrintLast Go.Proofs.YtofjndbpndpjjaaW.PrintMore
attribute [local go_sem] max2_int min2_int max_two min_two max_three min_three max_four min_four   -- for this text's walks alone
set_option linter.unusedVariables false
set_option linter.unusedSimpArgs false

/-! ### spec_l1Has: function 75 -/
def spec_l1Has.l0 : Nat → Int → List Int → Int → Int → Option (Bool)
 | 0, _, _, _, _ => none
 | k + 1, x1, x7, x8, x9 => if x9 < x8 then (if 0 ≤ x9 then (if x9 < (x7.length : Int) then (if (rd x7 x9) = x1 then (some true) else (spec_l1Has.l0 k x1 x7 x8 (wrap64 (x9 + 1)))) else (none)) else (none)) else (some false)
def spec_l1Has.f (k : Nat) (l0 : List Int) (a1 : Int) : Option (Bool) := spec_l1Has.l0 k a1 l0 (l0.length : Int) 0
theorem spec_l1Has.mono_l : ∀ k, (∀ y0 y1 y2 y3, LeO (spec_l1Has.l0 k y0 y1 y2 y3) (spec_l1Has.l0 (k + 1) y0 y1 y2 y3))
 | 0 => fun _ _ _ _ r h => by simp [spec_l1Has.l0] at h
 | k + 1 => by
  have ih0 := spec_l1Has.mono_l k
  ·intro y0 y1 y2 y3
   unfold spec_l1Has.l0
   repeat' (first | (with_reducible first | exact ih0 _ _ _ _ | exact LeO.refl _ | exact LeO.none _ | refine LeO.ite ?_ ?_ | refine LeO.bind ?_ (fun _ => ?_)) | exact ih0 _ _ _ _ | exact LeO.none _ | refine LeO.ite ?_ ?_ | refine LeO.bind ?_ (fun _ => ?_))
theorem spec_l1Has.mono : ∀ a0 a1 k, LeO (spec_l1Has.f k a0 a1) (spec_l1Has.f (k + 1) a0 a1) := by
 intro a0 a1 k
 have ih0 := spec_l1Has.mono_l k
 unfold spec_l1Has.f
 repeat' (first | (with_reducible first | exact ih0 _ _ _ _ | exact LeO.refl _ | exact LeO.none _ | refine LeO.ite ?_ ?_ | refine LeO.bind ?_ (fun _ => ?_)) | exact ih0 _ _ _ _ | exact LeO.none _ | refine LeO.ite ?_ ?_ | refine LeO.bind ?_ (fun _ => ?_))
set_option maxHeartbeats 8000000 in
set_option maxRecDepth 100000 in
theorem spec_l1Has.calls (k : Nat) (A0 : Option Addr) (c0 : Nat) (l0 : List Int) (a1 : Int) (r : Bool) (w : World) (hr0 : Kd.C (Kd.int .i64) w A0 l0.length l0) (hc0 : l0.length ≤ c0) (h : spec_l1Has.f k l0 a1 = some r) :
  Calls Try.prog 75 #[.slice A0 l0.length c0, .int .i64 a1] w fun e w' => e = .returned (.bool r) ∧ Drawn0 w w' := by
 have HR0 := Aside0.mk hr0
 have HC0 := Aside0.mk hc0
 clear hr0 hc0
 have H := h
 unfold spec_l1Has.f at H
 clear h
 have H' := Aside0.mk H
 clear H
 go_enter Try.func75, Try.ntmps75
 go_wp2
 go_loopg [9] k (fun kq v9 w' => ∃ (x9_1 : Int), v9 = .int .i64 x9_1 ∧ Aside0 (spec_l1Has.l0 kq a1 l0 (l0.length : Int) x9_1 = some r) ∧ Aside0 (kq ≤ k) ∧ Drawn0 w w')
 case atStart => exact ⟨(0), eqd, H', ⟨Nat.le_refl _⟩, by repeat (first | exact Drawn0.refl _ | apply Drawn0.step)⟩
 case round =>
  clear H'
  try clear p2
  obtain ⟨x9_1, rfl, HA, HK1, ⟨m1, rfl⟩⟩ := hrel
  cases gk with
  | zero => exact absurd HA.out (by simp [spec_l1Has.l0])
  | succ k1 =>
   have H := HA.out
   clear HA
   simp only [spec_l1Has.l0] at H
   by_cases c3 : x9_1 < (l0.length : Int)
   ·rw [if_pos c3] at H
    have c3b0 : decide (x9_1 < (l0.length : Int)) = true := decide_eq_true c3
    clear c3
    by_cases c4 : 0 ≤ x9_1
    ·rw [if_pos c4] at H
     have c4b0 : decide (0 ≤ x9_1) = true := decide_eq_true c4
     clear c4
     by_cases c5 : x9_1 < (l0.length : Int)
     ·rw [if_pos c5] at H
      have c5b0 : decide (x9_1 < (l0.length : Int)) = true := decide_eq_true c5
      clear c5
      by_cases c6 : (rd l0 x9_1) = a1
      ·rw [if_pos c6] at H
       have c6b0 : ((rd l0 x9_1) == a1) = true := beq_iff_eq.mpr c6
       have c6b1 : ((rd l0 x9_1) != a1) = false := bne_eq_false_iff_eq.mpr c6
       clear c6
       obtain rfl := Option.some.inj H
       have p497 : 0 ≤ (x9_1 : Int) := ofd
       have q497 : x9_1 < (l0.length : Int) := ofd
       obtain ⟨ad497, e497, hx497_0⟩ := Kd.at_int HR0.out x9_1 p497 q497
       cases e497
       replace p497 := eq_true p497
       replace q497 := eq_true q497
       go_wp2
       go_ret
       exact ⟨by first | rfl | (simp; done) | (simp [*]; done), by repeat (first | exact Drawn0.refl _ | apply Drawn0.step)⟩
      ·rw [if_neg c6] at H
       have c6b0 : ((rd l0 x9_1) == a1) = false := beq_eq_false_iff_ne.mpr c6
       have c6b1 : ((rd l0 x9_1) != a1) = true := bne_iff_ne.mpr c6
       have H' := Aside0.mk H
       clear H
       have p497 : 0 ≤ (x9_1 : Int) := ofd
       have q497 : x9_1 < (l0.length : Int) := ofd
       obtain ⟨ad497, e497, hx497_0⟩ := Kd.at_int HR0.out x9_1 p497 q497
       cases e497
       replace p497 := eq_true p497
       replace q497 := eq_true q497
       go_wp2
       go_roundg k1
       case measure => have := HK1.out; omega
       case rel => exact ⟨(wrap64 (x9_1 + 1)), eqd, H', ⟨by have := HK1.out; omega⟩, by repeat (first | exact Drawn0.refl _ | apply Drawn0.step)⟩
     ·rw [if_neg c5] at H
      exact absurd H (by simp)
    ·rw [if_neg c4] at H
     exact absurd H (by simp)
   ·rw [if_neg c3] at H
    have c3b0 : decide (x9_1 < (l0.length : Int)) = false := decide_eq_false c3
    clear c3
    obtain rfl := Option.some.inj H
    go_wp2
    go_ret
    exact ⟨by first | rfl | (simp; done) | (simp [*]; done), by repeat (first | exact Drawn0.refl _ | apply Drawn0.step)⟩

noncomputable def spec_l1Has.L0 (x1 : Int) (x7 : List Int) (x8 : Int) (x9 : Int) : Option (Bool) := lim fun k => spec_l1Has.l0 k x1 x7 x8 x9
theorem spec_l1Has.L0_lim (x1 : Int) (x7 : List Int) (x8 : Int) (x9 : Int) : Lim (fun k => spec_l1Has.l0 k x1 x7 x8 x9) (spec_l1Has.L0 x1 x7 x8 x9) := Lim.of fun k => (spec_l1Has.mono_l k) x1 x7 x8 x9
noncomputable def spec_l1Has.F (l0 : List Int) (a1 : Int) : Option (Bool) := lim fun k => spec_l1Has.f k l0 a1
theorem spec_l1Has.F_lim (l0 : List Int) (a1 : Int) : Lim (fun k => spec_l1Has.f k l0 a1) (spec_l1Has.F l0 a1) := Lim.of fun k => spec_l1Has.mono l0 a1 k
theorem spec_l1Has.L0_eq (x1 : Int) (x7 : List Int) (x8 : Int) (x9 : Int) : spec_l1Has.L0 x1 x7 x8 x9 = (if x9 < x8 then (if 0 ≤ x9 then (if x9 < (x7.length : Int) then (if (rd x7 x9) = x1 then (some true) else (spec_l1Has.L0 x1 x7 x8 (wrap64 (x9 + 1)))) else (none)) else (none)) else (some false)) :=
 Lim.step (f := fun k => spec_l1Has.l0 (k + 1) x1 x7 x8 x9) (spec_l1Has.L0_lim x1 x7 x8 x9) (fun _ => rfl) (by
  simp only [spec_l1Has.l0]
  repeat' (first | (with_reducible first | exact Lim.const _ | exact spec_l1Has.L0_lim _ _ _ _ | refine Lim.ite ?_ ?_ | refine Lim.bind ?_ (fun _ => ?_))))
theorem spec_l1Has.F_eq (l0 : List Int) (a1 : Int) : spec_l1Has.F l0 a1 = (spec_l1Has.L0 a1 l0 (l0.length : Int) 0) :=
 Lim.unique (spec_l1Has.F_lim l0 a1) (by
  unfold spec_l1Has.f
  repeat' (first | (with_reducible first | exact Lim.const _ | exact spec_l1Has.L0_lim _ _ _ _ | refine Lim.ite ?_ ?_ | refine Lim.bind ?_ (fun _ => ?_))))

end Go.Proofs.Ytofjndbpndpjjaa.Fn
namespace Go.Proofs.Ytofjndbpndpjjaa.Fn
open Go.RowKit Go.Proofs.YtofjndbpndpjjaaW.PrintWords Go.Proofs.YtofjndbpndpjjaaW.PrintLast Go.Proofs.YtofjndbpndpjjaaW.PrintMore
attribute [local go_sem] max2_int min2_int max_two min_two max_three min_three max_four min_four   -- for this text's walks alone
set_option linter.unusedVariables false
set_option linter.unusedSimpArgs false

/-! ### spec_MeasureWith: function 30 -/
mutual
def spec_MeasureWith.j0 : Nat → List Int → Int → Bool → Option (Int × Int × Bool)
 | 0, _, _, _ => none
 | k + 1, x0, x1, x16 => if x16 = true then (some (0, 0, false)) else (spec_MeasureWith.l0 k x0 x1 x0 (x0.length : Int) 0)
def spec_MeasureWith.l0 : Nat → List Int → Int → List Int → Int → Int → Option (Int × Int × Bool)
 | 0, _, _, _, _, _ => none
 | k + 1, x0, x1, x17, x18, x19 => if x19 < x18 then (if 0 ≤ x19 then (if x19 < (x17.length : Int) then ((spec_l1Has.f k x0 (wrap64 ((rd x17 x19) + x1))).bind fun t501 => (if t501 = true then (some (rd x17 x19, wrap64 ((rd x17 x19) + x1), true)) else (spec_MeasureWith.l0 k x0 x1 x17 x18 (wrap64 (x19 + 1))))) else (none)) else (none)) else (some (0, 0, false))
end
def spec_MeasureWith.f (k : Nat) (l0 : List Int) (a1 : Int) : Option (Int × Int × Bool) := (spec_ruGood.f k l0).bind fun t498 => (if t498 = true then ((spec_ruDistance.f a1).bind fun t499 => (spec_MeasureWith.j0 k l0 a1 (!t499))) else (spec_MeasureWith.j0 k l0 a1 true))
theorem spec_MeasureWith.mono_l : ∀ k, (∀ y0 y1 y2, LeO (spec_MeasureWith.j0 k y0 y1 y2) (spec_MeasureWith.j0 (k + 1) y0 y1 y2)) ∧ (∀ y0 y1 y2 y3 y4, LeO (spec_MeasureWith.l0 k y0 y1 y2 y3 y4) (spec_MeasureWith.l0 (k + 1) y0 y1 y2 y3 y4))
 | 0 => ⟨fun _ _ _ r h => by simp [spec_MeasureWith.j0] at h, fun _ _ _ _ _ r h => by simp [spec_MeasureWith.l0] at h⟩
 | k + 1 => by
  obtain ⟨ih0, ih1⟩ := spec_MeasureWith.mono_l k
  refine ⟨?_, ?_⟩
  ·intro y0 y1 y2
   unfold spec_MeasureWith.j0
   repeat' (first | (with_reducible first | exact ih1 _ _ _ _ _ | exact LeO.refl _ | exact LeO.none _ | refine LeO.ite ?_ ?_ | refine LeO.bind ?_ (fun _ => ?_)) | exact ih1 _ _ _ _ _ | exact LeO.none _ | refine LeO.ite ?_ ?_ | refine LeO.bind ?_ (fun _ => ?_))
  ·intro y0 y1 y2 y3 y4
   unfold spec_MeasureWith.l0
   repeat' (first | (with_reducible first | exact ih1 _ _ _ _ _ | exact spec_l1Has.mono _ _ _ | exact LeO.refl _ | exact LeO.none _ | refine LeO.ite ?_ ?_ | refine LeO.bind ?_ (fun _ => ?_)) | exact ih1 _ _ _ _ _ | exact spec_l1Has.mono _ _ _ | exact LeO.none _ | refine LeO.ite ?_ ?_ | refine LeO.bind ?_ (fun _ => ?_))
theorem spec_MeasureWith.mono : ∀ a0 a1 k, LeO (spec_MeasureWith.f k a0 a1) (spec_MeasureWith.f (k + 1) a0 a1) := by
 intro a0 a1 k
 obtain ⟨ih0, ih1⟩ := spec_MeasureWith.mono_l k
 unfold spec_MeasureWith.f
 repeat' (first | (with_reducible first | exact ih0 _ _ _ | exact spec_ruGood.mono _ _ | exact LeO.refl _ | exact LeO.none _ | refine LeO.ite ?_ ?_ | refine LeO.bind ?_ (fun _ => ?_)) | exact ih0 _ _ _ | exact spec_ruGood.mono _ _ | exact LeO.none _ | refine LeO.ite ?_ ?_ | refine LeO.bind ?_ (fun _ => ?_))
set_option maxHeartbeats 8000000 in
set_option maxRecDepth 100000 in
theorem spec_MeasureWith.calls (k : Nat) (A0 : Option Addr) (c0 : Nat) (l0 : List Int) (a1 : Int) (r1 : Int) (r2 : Int) (r3 : Bool) (w : World) (hr0 : Kd.C (Kd.int .i64) w A0 l0.length l0) (hc0 : l0.length ≤ c0) (h : spec_MeasureWith.f k l0 a1 = some (r1, r2, r3)) :
  Calls Try.prog 30 #[.slice A0 l0.length c0, .int .i64 a1] w fun e w' => e = .returned (.tuple #[.int .i64 r1, .int .i64 r2, .bool r3]) ∧ Drawn0 w w' := by
 have HR0 := Aside0.mk hr0
 have HC0 := Aside0.mk hc0
 clear hr0 hc0
 have H := h
 unfold spec_MeasureWith.f at H
 clear h
 have HC3 := Aside0.mk H
 clear H
 go_enter Try.func30, Try.ntmps30
 go_upto_region 1 with (fail)
 go_cut [16] (fun v16 wc => ∃ (kq : Nat) (x16_2 : Bool), v16 = .bool x16_2 ∧ Aside0 (spec_MeasureWith.j0 kq l0 a1 x16_2 = some (r1, r2, r3)) ∧ Aside0 (kq ≤ k) ∧ Drawn0 w wc)
 case first =>
  have H := HC3.out
  clear HC3
  replace H := Option.bind_eq_some_iff.mp H
  obtain ⟨t498, A40, H⟩ := H
  replace H : (if t498 = true then ((spec_ruDistance.f a1).bind fun t499 => (spec_MeasureWith.j0 k l0 a1 (!t499))) else (spec_MeasureWith.j0 k l0 a1 true)) = some (r1, r2, r3) := H
  have A4 := Aside0.mk A40
  clear A40
  by_cases c5 : t498 = true
  ·subst c5
   have H1 : ((spec_ruDistance.f a1).bind fun t499 => (spec_MeasureWith.j0 k l0 a1 (!t499))) = some (r1, r2, r3) := by rw [if_pos rfl] at H; exact H
   clear H
   have H := H1
   clear H1
   replace H := Option.bind_eq_some_iff.mp H
   obtain ⟨t499, A60, H⟩ := H
   replace H : (spec_MeasureWith.j0 k l0 a1 (!t499)) = some (r1, r2, r3) := H
   have A6 := Aside0.mk A60
   clear A60
   have H' := Aside0.mk H
   clear H
   go_wp2_with (first | ((with_reducible refine gate_callee (f := 60) rfl ?_); refine goesA (some 10) Try.func60 #[.slice A0 l0.length c0] ?_; (with_reducible refine (spec_ruGood.calls k _ _ l0 true _ ?side1 ?side2 A4.out).mono ?_); (case side1 => repeat (first | exact HR0.out | (with_reducible refine Kd.C_alloc ?_ _) | (with_reducible refine Kd.C_drewN ?_ _) | (with_reducible refine Kd.C_drew ?_))); (case side2 => exact HC0.out); rintro e w' ⟨rfl, ⟨nd, rfl⟩⟩; refine ⟨_, rfl, ?_⟩) | (go_at_call 74; (with_reducible refine (spec_ruDistance.calls a1 t499 _ A6.out).mono ?_); rintro e w' ⟨rfl, ⟨nd, rfl⟩⟩))
   go_meet
   case rel => exact ⟨_, (!t499), eqd, H', ⟨leD⟩, by repeat (first | exact Drawn0.refl _ | apply Drawn0.step)⟩
  ·replace c5 := Bool.eq_false_iff.mpr c5
   subst c5
   have H1 : (spec_MeasureWith.j0 k l0 a1 true) = some (r1, r2, r3) := by rw [if_neg (show ¬ (false = true) by decide)] at H; exact H
   clear H
   have H := H1
   clear H1
   have H' := Aside0.mk H
   clear H
   go_wp2_with (first | ((with_reducible refine gate_callee (f := 60) rfl ?_); refine goesA (some 10) Try.func60 #[.slice A0 l0.length c0] ?_; (with_reducible refine (spec_ruGood.calls k _ _ l0 false _ ?side1 ?side2 A4.out).mono ?_); (case side1 => repeat (first | exact HR0.out | (with_reducible refine Kd.C_alloc ?_ _) | (with_reducible refine Kd.C_drewN ?_ _) | (with_reducible refine Kd.C_drew ?_))); (case side2 => exact HC0.out); rintro e w' ⟨rfl, ⟨nd, rfl⟩⟩; refine ⟨_, rfl, ?_⟩))
   go_meet
   case rel => exact ⟨_, (true), eqd, H', ⟨leD⟩, by repeat (first | exact Drawn0.refl _ | apply Drawn0.step)⟩
 case rest =>
  clear HC3
  try clear p2
  try clear c3
  try clear c5
  try clear c6
  obtain ⟨kq, x16_2, rfl, HA, HJ2, ⟨mc2, rfl⟩⟩ := hcut
  cases kq with
  | zero => exact absurd HA.out (by simp [spec_MeasureWith.j0])
  | succ kj2 =>
   have H := HA.out
   clear HA
   simp only [spec_MeasureWith.j0] at H
   by_cases c7 : x16_2 = true
   ·subst c7
    have H1 : (some (0, 0, false)) = some (r1, r2, r3) := by rw [if_pos rfl] at H; exact H
    clear H
    have H := H1
    clear H1
    simp only [Option.some.injEq, Prod.mk.injEq] at H
    obtain ⟨rfl, rfl, rfl⟩ := H
    go_wp2
    go_ret3
    exact ⟨by first | rfl | (simp; done) | (simp [*]; done), by repeat (first | exact Drawn0.refl _ | apply Drawn0.step)⟩
   ·replace c7 := Bool.eq_false_iff.mpr c7
    subst c7
    have H1 : (spec_MeasureWith.l0 kj2 l0 a1 l0 (l0.length : Int) 0) = some (r1, r2, r3) := by rw [if_neg (show ¬ (false = true) by decide)] at H; exact H
    clear H
    have H := H1
    clear H1
    have H' := Aside0.mk H
    clear H
    go_wp2
    go_loopg [19] kj2 (fun kq v19 w' => ∃ (x19_2 : Int), v19 = .int .i64 x19_2 ∧ Aside0 (spec_MeasureWith.l0 kq l0 a1 l0 (l0.length : Int) x19_2 = some (r1, r2, r3)) ∧ Aside0 (kq ≤ kj2) ∧ Drawn0 w w')
    case atStart => exact ⟨(0), eqd, H', ⟨Nat.le_refl _⟩, by repeat (first | exact Drawn0.refl _ | apply Drawn0.step)⟩
    case round =>
     clear H'
     try clear c2
     try clear p2
     try clear c3
     try clear c5
     try clear c6
     try clear c7
     try clear p2
     obtain ⟨x19_2, rfl, HA, HK2, ⟨m2, rfl⟩⟩ := hrel
     cases gk with
     | zero => exact absurd HA.out (by simp [spec_MeasureWith.l0])
     | succ k2 =>
      have H := HA.out
      clear HA
      simp only [spec_MeasureWith.l0] at H
      by_cases c8 : x19_2 < (l0.length : Int)
      ·rw [if_pos c8] at H
       have c8b0 : decide (x19_2 < (l0.length : Int)) = true := decide_eq_true c8
       clear c8
       by_cases c9 : 0 ≤ x19_2
       ·rw [if_pos c9] at H
        have c9b0 : decide (0 ≤ x19_2) = true := decide_eq_true c9
        clear c9
        by_cases c10 : x19_2 < (l0.length : Int)
        ·rw [if_pos c10] at H
         have c10b0 : decide (x19_2 < (l0.length : Int)) = true := decide_eq_true c10
         clear c10
         replace H := Option.bind_eq_some_iff.mp H
         obtain ⟨t501, A110, H⟩ := H
         replace H : (if t501 = true then (some (rd l0 x19_2, wrap64 ((rd l0 x19_2) + a1), true)) else (spec_MeasureWith.l0 k2 l0 a1 l0 (l0.length : Int) (wrap64 (x19_2 + 1)))) = some (r1, r2, r3) := H
         have A11 := Aside0.mk A110
         clear A110
         by_cases c12 : t501 = true
         ·subst c12
          have H1 : (some (rd l0 x19_2, wrap64 ((rd l0 x19_2) + a1), true)) = some (r1, r2, r3) := by rw [if_pos rfl] at H; exact H
          clear H
          have H := H1
          clear H1
          simp only [Option.some.injEq, Prod.mk.injEq] at H
          obtain ⟨rfl, rfl, rfl⟩ := H
          have p500 : 0 ≤ (x19_2 : Int) := ofd
          have q500 : x19_2 < (l0.length : Int) := ofd
          obtain ⟨ad500, e500, hx500_0⟩ := Kd.at_int HR0.out x19_2 p500 q500
          cases e500
          replace p500 := eq_true p500
          replace q500 := eq_true q500
          go_wp2_with (first | ((with_reducible refine gate_callee (f := 75) rfl ?_); refine goesA (some 27) Try.func75 #[.slice (some ad500) l0.length c0, .int .i64 (wrap64 ((rd l0 x19_2) + a1))] ?_; (with_reducible refine (spec_l1Has.calls k2 _ _ l0 (wrap64 ((rd l0 x19_2) + a1)) true _ ?side1 ?side2 A11.out).mono ?_); (case side1 => repeat (first | exact HR0.out | (with_reducible refine Kd.C_alloc ?_ _) | (with_reducible refine Kd.C_drewN ?_ _) | (with_reducible refine Kd.C_drew ?_))); (case side2 => exact HC0.out); rintro e w' ⟨rfl, ⟨nd, rfl⟩⟩; refine ⟨_, rfl, ?_⟩))
          go_ret3
          exact ⟨by first | rfl | (simp; done) | (simp [*]; done), by repeat (first | exact Drawn0.refl _ | apply Drawn0.step)⟩
         ·replace c12 := Bool.eq_false_iff.mpr c12
          subst c12
          have H1 : (spec_MeasureWith.l0 k2 l0 a1 l0 (l0.length : Int) (wrap64 (x19_2 + 1))) = some (r1, r2, r3) := by rw [if_neg (show ¬ (false = true) by decide)] at H; exact H
          clear H
          have H := H1
          clear H1
          have H' := Aside0.mk H
          clear H
          have p500 : 0 ≤ (x19_2 : Int) := ofd
          have q500 : x19_2 < (l0.length : Int) := ofd
          obtain ⟨ad500, e500, hx500_0⟩ := Kd.at_int HR0.out x19_2 p500 q500
          cases e500
          replace p500 := eq_true p500
          replace q500 := eq_true q500
          go_wp2_with (first | ((with_reducible refine gate_callee (f := 75) rfl ?_); refine goesA (some 27) Try.func75 #[.slice (some ad500) l0.length c0, .int .i64 (wrap64 ((rd l0 x19_2) + a1))] ?_; (with_reducible refine (spec_l1Has.calls k2 _ _ l0 (wrap64 ((rd l0 x19_2) + a1)) false _ ?side1 ?side2 A11.out).mono ?_); (case side1 => repeat (first | exact HR0.out | (with_reducible refine Kd.C_alloc ?_ _) | (with_reducible refine Kd.C_drewN ?_ _) | (with_reducible refine Kd.C_drew ?_))); (case side2 => exact HC0.out); rintro e w' ⟨rfl, ⟨nd, rfl⟩⟩; refine ⟨_, rfl, ?_⟩))
          go_roundg k2
          case measure => have := HJ2.out; have := HK2.out; omega
          case rel => exact ⟨(wrap64 (x19_2 + 1)), eqd, H', ⟨by have := HJ2.out; have := HK2.out; omega⟩, by repeat (first | exact Drawn0.refl _ | apply Drawn0.step)⟩
        ·rw [if_neg c10] at H
         exact absurd H (by simp)
       ·rw [if_neg c9] at H
        exact absurd H (by simp)
      ·rw [if_neg c8] at H
       have c8b0 : decide (x19_2 < (l0.length : Int)) = false := decide_eq_false c8
       clear c8
       simp only [Option.some.injEq, Prod.mk.injEq] at H
       obtain ⟨rfl, rfl, rfl⟩ := H
       go_wp2
       go_ret3
       exact ⟨by first | rfl | (simp; done) | (simp [*]; done), by repeat (first | exact Drawn0.refl _ | apply Drawn0.step)⟩

noncomputable def spec_MeasureWith.J0 (x0 : List Int) (x1 : Int) (x16 : Bool) : Option (Int × Int × Bool) := lim fun k => spec_MeasureWith.j0 k x0 x1 x16
theorem spec_MeasureWith.J0_lim (x0 : List Int) (x1 : Int) (x16 : Bool) : Lim (fun k => spec_MeasureWith.j0 k x0 x1 x16) (spec_MeasureWith.J0 x0 x1 x16) := Lim.of fun k => (spec_MeasureWith.mono_l k).1 x0 x1 x16
noncomputable def spec_MeasureWith.L0 (x0 : List Int) (x1 : Int) (x17 : List Int) (x18 : Int) (x19 : Int) : Option (Int × Int × Bool) := lim fun k => spec_MeasureWith.l0 k x0 x1 x17 x18 x19
theorem spec_MeasureWith.L0_lim (x0 : List Int) (x1 : Int) (x17 : List Int) (x18 : Int) (x19 : Int) : Lim (fun k => spec_MeasureWith.l0 k x0 x1 x17 x18 x19) (spec_MeasureWith.L0 x0 x1 x17 x18 x19) := Lim.of fun k => (spec_MeasureWith.mono_l k).2 x0 x1 x17 x18 x19
noncomputable def spec_MeasureWith.F (l0 : List Int) (a1 : Int) : Option (Int × Int × Bool) := lim fun k => spec_MeasureWith.f k l0 a1
theorem spec_MeasureWith.F_lim (l0 : List Int) (a1 : Int) : Lim (fun k => spec_MeasureWith.f k l0 a1) (spec_MeasureWith.F l0 a1) := Lim.of fun k => spec_MeasureWith.mono l0 a1 k
theorem spec_MeasureWith.J0_eq (x0 : List Int) (x1 : Int) (x16 : Bool) : spec_MeasureWith.J0 x0 x1 x16 = (if x16 = true then (some (0, 0, false)) else (spec_MeasureWith.L0 x0 x1 x0 (x0.length : Int) 0)) :=
 Lim.step (f := fun k => spec_MeasureWith.j0 (k + 1) x0 x1 x16) (spec_MeasureWith.J0_lim x0 x1 x16) (fun _ => rfl) (by
  simp only [spec_MeasureWith.j0]
  repeat' (first | (with_reducible first | exact Lim.const _ | exact spec_MeasureWith.L0_lim _ _ _ _ _ | refine Lim.ite ?_ ?_ | refine Lim.bind ?_ (fun _ => ?_))))
theorem spec_MeasureWith.L0_eq (x0 : List Int) (x1 : Int) (x17 : List Int) (x18 : Int) (x19 : Int) : spec_MeasureWith.L0 x0 x1 x17 x18 x19 = (if x19 < x18 then (if 0 ≤ x19 then (if x19 < (x17.length : Int) then ((spec_l1Has.F x0 (wrap64 ((rd x17 x19) + x1))).bind fun t501 => (if t501 = true then (some (rd x17 x19, wrap64 ((rd x17 x19) + x1), true)) else (spec_MeasureWith.L0 x0 x1 x17 x18 (wrap64 (x19 + 1))))) else (none)) else (none)) else (some (0, 0, false))) :=
 Lim.step (f := fun k => spec_MeasureWith.l0 (k + 1) x0 x1 x17 x18 x19) (spec_MeasureWith.L0_lim x0 x1 x17 x18 x19) (fun _ => rfl) (by
  simp only [spec_MeasureWith.l0]
  repeat' (first | (with_reducible first | exact Lim.const _ | exact spec_MeasureWith.L0_lim _ _ _ _ _ | exact spec_l1Has.F_lim _ _ | refine Lim.ite ?_ ?_ | refine Lim.bind ?_ (fun _ => ?_))))
theorem spec_MeasureWith.F_eq (l0 : List Int) (a1 : Int) : spec_MeasureWith.F l0 a1 = ((spec_ruGood.F l0).bind fun t498 => (if t498 = true then ((spec_ruDistance.f a1).bind fun t499 => (spec_MeasureWith.J0 l0 a1 (!t499))) else (spec_MeasureWith.J0 l0 a1 true))) :=
 Lim.unique (spec_MeasureWith.F_lim l0 a1) (by
  unfold spec_MeasureWith.f
  repeat' (first | (with_reducible first | exact Lim.const _ | exact spec_MeasureWith.J0_lim _ _ _ | exact spec_ruGood.F_lim _ | refine Lim.ite ?_ ?_ | refine Lim.bind ?_ (fun _ => ?_))))

end Go.Proofs.Ytofjndbpndpjjaa.Fn
namespace Go.Proofs.Ytofjndbpndpjjaa.Fn
open Go.RowKit Go.Proofs.YtofjndbpndpjjaaW.PrintWords Go.Proofs.YtofjndbpndpjjaaW.PrintLast Go.Proofs.YtofjndbpndpjjaaW.PrintMore
attribute [local go_sem] max2_int min2_int max_two min_two max_three min_three max_four min_four   -- for this text's walks alone
set_option linter.unusedVariables false
set_option linter.unusedSimpArgs false

/-! ### spec_DrawAddMark: function 31 -/
def spec_DrawAddMark.f (k : Nat) (l0 : List Int) : Option (List Int × Int) := (spec_l1Cur_one.f l0 0 0 12).bind fun bt503 => (if bt503.1 = true then ((spec_l1Cur_ruler.f k l0 bt503.2.1 bt503.2.2).bind fun bt506 => ((spec_l1Cur_among.f l0 bt506.2.1 bt506.2.2 (([(-1), 60, 61, 4611686018427387904] : List Int))).bind fun bt514 => (some (bt506.1, bt514.1)))) else ((spec_l1Cur_ruler.f k l0 bt503.2.1 bt503.2.2).bind fun bt517 => ((spec_l1Cur_pick.f l0 bt517.2.1 bt517.2.2 25).bind fun bt522 => (some (bt517.1, bt522.1)))))
theorem spec_DrawAddMark.mono : ∀ a0 k, LeO (spec_DrawAddMark.f k a0) (spec_DrawAddMark.f (k + 1) a0) := by
 intro a0 k
 unfold spec_DrawAddMark.f
 repeat' (first | (with_reducible first | exact spec_l1Cur_ruler.mono _ _ _ _ | exact LeO.refl _ | exact LeO.none _ | refine LeO.ite ?_ ?_ | refine LeO.bind ?_ (fun _ => ?_)) | exact spec_l1Cur_ruler.mono _ _ _ _ | exact LeO.none _ | refine LeO.ite ?_ ?_ | refine LeO.bind ?_ (fun _ => ?_))
set_option maxHeartbeats 8000000 in
set_option maxRecDepth 100000 in
theorem spec_DrawAddMark.calls (k : Nat) (A0 : Option Addr) (c0 : Nat) (l0 : List Int) (r1 : List Int) (r2 : Int) (w : World) (hr0 : Kd.C (Kd.int .u8) w A0 l0.length l0) (hc0 : l0.length ≤ c0) (h : spec_DrawAddMark.f k l0 = some (r1, r2)) :
  Calls Try.prog 31 #[.slice A0 l0.length c0] w fun e w' => ∃ v0_ : Value, e = .returned (.tuple #[v0_, .int .i64 r2]) ∧ Kd.R (Kd.int .i64) 3 w' w.heap.size (fun _ => True) v0_ r1 ∧ Below w.heap.size w w' := by
 have hu58 := Try.underlying58
 have HR0 := Aside0.mk hr0
 have HC0 := Aside0.mk hc0
 clear hr0 hc0
 have HB := Aside0.mk (Below.refl w.heap.size w)
 have H := h
 unfold spec_DrawAddMark.f at H
 clear h
 replace H := Option.bind_eq_some_iff.mp H
 obtain ⟨⟨t503, t504, t505⟩, A20, H⟩ := H
 replace H : (if t503 = true then ((spec_l1Cur_ruler.f k l0 t504 t505).bind fun bt506 => ((spec_l1Cur_among.f l0 bt506.2.1 bt506.2.2 (([(-1), 60, 61, 4611686018427387904] : List Int))).bind fun bt514 => (some (bt506.1, bt514.1)))) else ((spec_l1Cur_ruler.f k l0 t504 t505).bind fun bt517 => ((spec_l1Cur_pick.f l0 bt517.2.1 bt517.2.2 25).bind fun bt522 => (some (bt517.1, bt522.1))))) = some (r1, r2) := H
 have A2 := Aside0.mk A20
 clear A20
 by_cases c3 : t503 = true
 ·subst c3
  have H1 : ((spec_l1Cur_ruler.f k l0 t504 t505).bind fun bt506 => ((spec_l1Cur_among.f l0 bt506.2.1 bt506.2.2 (([(-1), 60, 61, 4611686018427387904] : List Int))).bind fun bt514 => (some (bt506.1, bt514.1)))) = some (r1, r2) := by rw [if_pos rfl] at H; exact H
  clear H
  have H := H1
  clear H1
  replace H := Option.bind_eq_some_iff.mp H
  obtain ⟨⟨t506, t509, t510⟩, A40, H⟩ := H
  replace H : ((spec_l1Cur_among.f l0 t509 t510 (([(-1), 60, 61, 4611686018427387904] : List Int))).bind fun bt514 => (some (t506, bt514.1))) = some (r1, r2) := H
  have A4 := Aside0.mk A40
  clear A40
  obtain ⟨y511, hy511⟩ : ∃ y_ : List Int, y_ = (([(-1), 60, 61, 4611686018427387904] : List Int)) := ⟨_, rfl⟩
  replace H : ((spec_l1Cur_among.f l0 t509 t510 y511).bind fun bt514 => (some (t506, bt514.1))) = some (r1, r2) := by first | (rw [hy511]; with_reducible exact H) | (have H2_ := (Option.bind_some _ _).symm.trans H; rw [hy511]; with_reducible exact H2_) | (have H2_ := (Option.bind_some _ _).symm.trans H; with_reducible exact H2_) | with_reducible exact H | (rw [hy511]; exact H) | exact H
  have Ny511 := Aside0.mk hy511
  clear hy511
  replace H := Option.bind_eq_some_iff.mp H
  obtain ⟨⟨t514, t515, t516⟩, A50, H⟩ := H
  replace H : (some (t506, t514)) = some (r1, r2) := H
  have A5 := Aside0.mk A50
  clear A50
  simp only [Option.some.injEq, Prod.mk.injEq] at H
  obtain ⟨rfl, rfl⟩ := H
  go_enter Try.func31, Try.ntmps31
  go_wp2_with (first | ((with_reducible refine gate_dst (N := 7) rfl ?_); refine box_event ?hg (N := 7) ?hd (cs := #[.slice A0 l0.length c0, .int .i64 0, .int .u64 0]) (t := 58) ?hr ?_; (case hd => rfl); (case hg => rfl); (case hr => first | (go_simp; done) | (go_simp; rfl)); intro gb502 hg w6 hbox hb; have HI502 := Aside0.mk ((⟨_, _, hbox, (by rw [hg]; exact (szB HB) : w.heap.size ≤ gb502), HR0.out⟩ : IsS58 w w6 gb502 l0 0 0)); replace HB := upB HB hb; clear hb hbox hg) | ((with_reducible refine gate_callee (f := 76) rfl ?_); refine goesA (some 9) Try.func76 #[.pointer (some ⟨gb502, 0, none⟩), .int .i64 12] ?_; (with_reducible refine (spec_l1Cur_one.calls gb502 l0 0 0 12 true t504 t505 w _ ?side1 ?side2 A2.out).mono ?_); (case side1 => exact IsS58.at HI502); (case side2 => exact atB HB); rintro e w7 ⟨rfl, hi, hb, hk⟩; refine ⟨_, rfl, ?_⟩; replace HB := Aside0.mk (hb); replace HI502 := Aside0.mk (hi); (try clear hb); (try clear hb2); (try clear hk); (try clear hi)) | ((with_reducible refine gate_callee (f := 72) rfl ?_); refine goesA (some 11) Try.func72 #[.pointer (some ⟨gb502, 0, none⟩)] ?_; (with_reducible refine (spec_l1Cur_ruler.calls k gb502 l0 t504 t505 t506 t509 t510 w _ ?side1 ?side2 A4.out).mono ?_); (case side1 => exact IsS58.at HI502); (case side2 => exact atB HB); rintro e w8 ⟨v507, rfl, ho0, hi, hb, hk⟩; refine ⟨_, rfl, ?_⟩; have HO508 := lowR ho0 HB; replace HB := Aside0.mk (hb); replace HI502 := Aside0.mk (hi); (try clear hb); (try clear hb2); (try clear hk); (try clear hi); (try clear ho0)) | ((with_reducible refine gate_dst (N := 13) rfl ?_); refine Kd.R_lit (Kd.int .i64) _ 3 ?hg (N := 13) ?hd (xs := ([(-1), 60, 61, 4611686018427387904] : List Int)) (inner := [.int .i64 (-1), .int .i64 60, .int .i64 61, .int .i64 4611686018427387904]) (ok := fun _ => True) (okp := fun _ => True) ?hr ?hp (fun _ hk => hk) trivial (Below.refl _ _) (Nat.le_refl _) (by simp) ?_; (case hd => rfl); (case hg => rfl); (case hr => first | (go_simp; done) | (go_simp; rfl)); (case hp => exact repsI _); intro v512 w9 ho10 hb hg_ hnew_; clear hg_ hnew_; (first | rw [← Ny511.out] at ho10 | (simp only [Int.reduceToNat] at ho10; rw [← Ny511.out] at ho10)); have HO513 := Aside0.mk (Kd.R_lower (Kd.R_new' ho10 (ltR HO508)) (szB HB)); replace HO508 := eldRR HO508 ho10 hb; replace HI502 := IsS58.up HI502 hb; replace HB := upB HB hb; clear hb ho10; obtain ⟨Ao11, co11, eo11⟩ := Kd.R_slice HO513.out; subst eo11) | ((with_reducible refine gate_callee (f := 77) rfl ?_); refine goesA (some 14) Try.func77 #[.pointer (some ⟨gb502, 0, none⟩), .slice Ao11 y511.length co11] ?_; (with_reducible refine (spec_l1Cur_among.calls gb502 l0 t509 t510 _ _ y511 t514 t515 t516 w _ ?side1 ?side2 ?side3 ?side4 ?side5 A5.out).mono ?_); (case side1 => exact IsS58.at HI502); (case side2 => exact atB HB); (case side3 => exact atRC HO513); (case side4 => exact (Kd.R_reads' HO513.out).2.1); (case side5 => exact far_slice (IsS58.own_ne HI502.out HO513.out (by decide))); rintro e w12 ⟨rfl, hi, hb, hk⟩; refine ⟨_, rfl, ?_⟩; replace HO508 := IsS58.keepR HI502 HO508 hk; replace HO513 := IsS58.keepR HI502 HO513 hk; replace HB := Aside0.mk (hb); replace HI502 := Aside0.mk (hi); (try clear hb); (try clear hb2); (try clear hk); (try clear hi)))
  go_ret2
  exact ⟨_, eqr, by (with_reducible repeat (first | apply Kd.R_alloc | apply Kd.R_drewN | apply Kd.R_drew)); exact Kd.R_mono HO508.out (fun _ hk => trivial), atB HB⟩
 ·replace c3 := Bool.eq_false_iff.mpr c3
  subst c3
  have H1 : ((spec_l1Cur_ruler.f k l0 t504 t505).bind fun bt517 => ((spec_l1Cur_pick.f l0 bt517.2.1 bt517.2.2 25).bind fun bt522 => (some (bt517.1, bt522.1)))) = some (r1, r2) := by rw [if_neg (show ¬ (false = true) by decide)] at H; exact H
  clear H
  have H := H1
  clear H1
  replace H := Option.bind_eq_some_iff.mp H
  obtain ⟨⟨t517, t520, t521⟩, A130, H⟩ := H
  replace H : ((spec_l1Cur_pick.f l0 t520 t521 25).bind fun bt522 => (some (t517, bt522.1))) = some (r1, r2) := H
  have A13 := Aside0.mk A130
  clear A130
  replace H := Option.bind_eq_some_iff.mp H
  obtain ⟨⟨t522, t523, t524⟩, A140, H⟩ := H
  replace H : (some (t517, t522)) = some (r1, r2) := H
  have A14 := Aside0.mk A140
  clear A140
  simp only [Option.some.injEq, Prod.mk.injEq] at H
  obtain ⟨rfl, rfl⟩ := H
  go_enter Try.func31, Try.ntmps31
  go_wp2_with (first | ((with_reducible refine gate_dst (N := 7) rfl ?_); refine box_event ?hg (N := 7) ?hd (cs := #[.slice A0 l0.length c0, .int .i64 0, .int .u64 0]) (t := 58) ?hr ?_; (case hd => rfl); (case hg => rfl); (case hr => first | (go_simp; done) | (go_simp; rfl)); intro gb502 hg w15 hbox hb; have HI502 := Aside0.mk ((⟨_, _, hbox, (by rw [hg]; exact (szB HB) : w.heap.size ≤ gb502), HR0.out⟩ : IsS58 w w15 gb502 l0 0 0)); replace HB := upB HB hb; clear hb hbox hg) | ((with_reducible refine gate_callee (f := 76) rfl ?_); refine goesA (some 9) Try.func76 #[.pointer (some ⟨gb502, 0, none⟩), .int .i64 12] ?_; (with_reducible refine (spec_l1Cur_one.calls gb502 l0 0 0 12 false t504 t505 w _ ?side1 ?side2 A2.out).mono ?_); (case side1 => exact IsS58.at HI502); (case side2 => exact atB HB); rintro e w16 ⟨rfl, hi, hb, hk⟩; refine ⟨_, rfl, ?_⟩; replace HB := Aside0.mk (hb); replace HI502 := Aside0.mk (hi); (try clear hb); (try clear hb2); (try clear hk); (try clear hi)) | ((with_reducible refine gate_callee (f := 72) rfl ?_); refine goesA (some 16) Try.func72 #[.pointer (some ⟨gb502, 0, none⟩)] ?_; (with_reducible refine (spec_l1Cur_ruler.calls k gb502 l0 t504 t505 t517 t520 t521 w _ ?side1 ?side2 A13.out).mono ?_); (case side1 => exact IsS58.at HI502); (case side2 => exact atB HB); rintro e w17 ⟨v518, rfl, ho0, hi, hb, hk⟩; refine ⟨_, rfl, ?_⟩; have HO519 := lowR ho0 HB; replace HB := Aside0.mk (hb); replace HI502 := Aside0.mk (hi); (try clear hb); (try clear hb2); (try clear hk); (try clear hi); (try clear ho0)) | ((with_reducible refine gate_callee (f := 78) rfl ?_); refine goesA (some 18) Try.func78 #[.pointer (some ⟨gb502, 0, none⟩), .int .i64 25] ?_; (with_reducible refine (spec_l1Cur_pick.calls gb502 l0 t520 t521 25 t522 t523 t524 w _ ?side1 ?side2 A14.out).mono ?_); (case side1 => exact IsS58.at HI502); (case side2 => exact atB HB); rintro e w18 ⟨rfl, hi, hb, hk⟩; refine ⟨_, rfl, ?_⟩; replace HO519 := IsS58.keepR HI502 HO519 hk; replace HB := Aside0.mk (hb); replace HI502 := Aside0.mk (hi); (try clear hb); (try clear hb2); (try clear hk); (try clear hi)))
  go_ret2
  exact ⟨_, eqr, atR HO519, atB HB⟩

noncomputable def spec_DrawAddMark.F (l0 : List Int) : Option (List Int × Int) := lim fun k => spec_DrawAddMark.f k l0
theorem spec_DrawAddMark.F_lim (l0 : List Int) : Lim (fun k => spec_DrawAddMark.f k l0) (spec_DrawAddMark.F l0) := Lim.of fun k => spec_DrawAddMark.mono l0 k
theorem spec_DrawAddMark.F_eq (l0 : List Int) : spec_DrawAddMark.F l0 = ((spec_l1Cur_one.f l0 0 0 12).bind fun bt503 => (if bt503.1 = true then ((spec_l1Cur_ruler.F l0 bt503.2.1 bt503.2.2).bind fun bt506 => ((spec_l1Cur_among.f l0 bt506.2.1 bt506.2.2 (([(-1), 60, 61, 4611686018427387904] : List Int))).bind fun bt514 => (some (bt506.1, bt514.1)))) else ((spec_l1Cur_ruler.F l0 bt503.2.1 bt503.2.2).bind fun bt517 => ((spec_l1Cur_pick.f l0 bt517.2.1 bt517.2.2 25).bind fun bt522 => (some (bt517.1, bt522.1)))))) :=
 Lim.unique (spec_DrawAddMark.F_lim l0) (by
  unfold spec_DrawAddMark.f
  repeat' (first | (with_reducible first | exact Lim.const _ | exact spec_l1Cur_ruler.F_lim _ _ _ | refine Lim.ite ?_ ?_ | refine Lim.bind ?_ (fun _ => ?_))))

end Go.Proofs.Ytofjndbpndpjjaa.Fn
namespace Go.Proofs.Ytofjndbpndpjjaa.Fn
open Go.RowKit Go.Proofs.YtofjndbpndpjjaaW.PrintWords Go.Proofs.YtofjndbpndpjjaaW.PrintLast Go.Proofs.YtofjndbpndpjjaaW.PrintMore
attribute [local go_sem] max2_int min2_int max_two min_two max_three min_three max_four min_four   -- for this text's walks alone
set_option linter.unusedVariables false
set_option linter.unusedSimpArgs false

/-! ### spec_AddMark: function 32 -/
def spec_AddMark.j0 : Nat → List Int → Int → Bool → Option (List Int × Bool)
 | 0, _, _, _ => none
 | k + 1, x0, x1, x14 => if x14 = true then (some (([] : List Int), false)) else ((spec_ruAdd.f k x0 x1).bind fun bt526 => (if bt526.2 = true then (some (bt526.1, true)) else (some (([] : List Int), false))))
def spec_AddMark.f (k : Nat) (l0 : List Int) (a1 : Int) : Option (List Int × Bool) := (spec_ruGood.f k l0).bind fun t525 => (if t525 = true then (spec_AddMark.j0 k l0 a1 (decide (a1 < 0))) else (spec_AddMark.j0 k l0 a1 true))
theorem spec_AddMark.mono_l : ∀ k, (∀ y0 y1 y2, LeO (spec_AddMark.j0 k y0 y1 y2) (spec_AddMark.j0 (k + 1) y0 y1 y2))
 | 0 => fun _ _ _ r h => by simp [spec_AddMark.j0] at h
 | k + 1 => by
  have ih0 := spec_AddMark.mono_l k
  ·intro y0 y1 y2
   unfold spec_AddMark.j0
   repeat' (first | (with_reducible first | exact spec_ruAdd.mono _ _ _ | exact LeO.refl _ | exact LeO.none _ | refine LeO.ite ?_ ?_ | refine LeO.bind ?_ (fun _ => ?_)) | exact spec_ruAdd.mono _ _ _ | exact LeO.none _ | refine LeO.ite ?_ ?_ | refine LeO.bind ?_ (fun _ => ?_))
theorem spec_AddMark.mono : ∀ a0 a1 k, LeO (spec_AddMark.f k a0 a1) (spec_AddMark.f (k + 1) a0 a1) := by
 intro a0 a1 k
 have ih0 := spec_AddMark.mono_l k
 unfold spec_AddMark.f
 repeat' (first | (with_reducible first | exact ih0 _ _ _ | exact spec_ruGood.mono _ _ | exact LeO.refl _ | exact LeO.none _ | refine LeO.ite ?_ ?_ | refine LeO.bind ?_ (fun _ => ?_)) | exact ih0 _ _ _ | exact spec_ruGood.mono _ _ | exact LeO.none _ | refine LeO.ite ?_ ?_ | refine LeO.bind ?_ (fun _ => ?_))
set_option maxHeartbeats 8000000 in
set_option maxRecDepth 100000 in
theorem spec_AddMark.calls (k : Nat) (A0 : Option Addr) (c0 : Nat) (l0 : List Int) (a1 : Int) (r1 : List Int) (r2 : Bool) (w : World) (hr0 : Kd.C (Kd.int .i64) w A0 l0.length l0) (hc0 : l0.length ≤ c0) (h : spec_AddMark.f k l0 a1 = some (r1, r2)) :
  Calls Try.prog 32 #[.slice A0 l0.length c0, .int .i64 a1] w fun e w' => ∃ v0_ : Value, e = .returned (.tuple #[v0_, .bool r2]) ∧ Kd.R (Kd.int .i64) 3 w' w.heap.size (fun _ => True) v0_ r1 ∧ Below w.heap.size w w' := by
 have HR0 := Aside0.mk hr0
 have HC0 := Aside0.mk hc0
 clear hr0 hc0
 have HB := Aside0.mk (Below.refl w.heap.size w)
 have H := h
 unfold spec_AddMark.f at H
 clear h
 have HC3 := Aside0.mk H
 clear H
 go_enter Try.func32, Try.ntmps32
 go_upto_region 1 with (fail)
 go_cut [14] (fun v14 wc => ∃ (kq : Nat) (x14_2 : Bool), v14 = .bool x14_2 ∧ Aside0 (spec_AddMark.j0 kq l0 a1 x14_2 = some (r1, r2)) ∧ Aside0 (kq ≤ k) ∧ Aside0 (Below w.heap.size w wc))
 case first =>
  have H := HC3.out
  clear HC3
  replace H := Option.bind_eq_some_iff.mp H
  obtain ⟨t525, A40, H⟩ := H
  replace H : (if t525 = true then (spec_AddMark.j0 k l0 a1 (decide (a1 < 0))) else (spec_AddMark.j0 k l0 a1 true)) = some (r1, r2) := H
  have A4 := Aside0.mk A40
  clear A40
  by_cases c5 : t525 = true
  ·subst c5
   have H1 : (spec_AddMark.j0 k l0 a1 (decide (a1 < 0))) = some (r1, r2) := by rw [if_pos rfl] at H; exact H
   clear H
   have H := H1
   clear H1
   have H' := Aside0.mk H
   clear H
   go_wp2_with (first | ((with_reducible refine gate_callee (f := 60) rfl ?_); refine goesA (some 9) Try.func60 #[.slice A0 l0.length c0] ?_; (with_reducible refine (spec_ruGood.calls k _ _ l0 true _ ?side1 ?side2 A4.out).mono ?_); (case side1 => repeat (first | exact (Kd.C_below HR0.out HB.out) | (with_reducible refine Kd.C_alloc ?_ _) | (with_reducible refine Kd.C_drewN ?_ _) | (with_reducible refine Kd.C_drew ?_))); (case side2 => exact HC0.out); rintro e w' ⟨rfl, ⟨nd, rfl⟩⟩; refine ⟨_, rfl, ?_⟩))
   go_meet
   case rel => exact ⟨_, (decide (a1 < 0)), eqd, H', ⟨leD⟩, ⟨atB HB⟩⟩
  ·replace c5 := Bool.eq_false_iff.mpr c5
   subst c5
   have H1 : (spec_AddMark.j0 k l0 a1 true) = some (r1, r2) := by rw [if_neg (show ¬ (false = true) by decide)] at H; exact H
   clear H
   have H := H1
   clear H1
   have H' := Aside0.mk H
   clear H
   go_wp2_with (first | ((with_reducible refine gate_callee (f := 60) rfl ?_); refine goesA (some 9) Try.func60 #[.slice A0 l0.length c0] ?_; (with_reducible refine (spec_ruGood.calls k _ _ l0 false _ ?side1 ?side2 A4.out).mono ?_); (case side1 => repeat (first | exact (Kd.C_below HR0.out HB.out) | (with_reducible refine Kd.C_alloc ?_ _) | (with_reducible refine Kd.C_drewN ?_ _) | (with_reducible refine Kd.C_drew ?_))); (case side2 => exact HC0.out); rintro e w' ⟨rfl, ⟨nd, rfl⟩⟩; refine ⟨_, rfl, ?_⟩))
   go_meet
   case rel => exact ⟨_, (true), eqd, H', ⟨leD⟩, ⟨atB HB⟩⟩
 case rest =>
  clear HC3
  try clear p2
  try clear c3
  try clear c5
  obtain ⟨kq, x14_2, rfl, HA, HJ2, HB⟩ := hcut
  cases kq with
  | zero => exact absurd HA.out (by simp [spec_AddMark.j0])
  | succ kj2 =>
   have H := HA.out
   clear HA
   simp only [spec_AddMark.j0] at H
   by_cases c6 : x14_2 = true
   ·subst c6
    have H1 : (some (([] : List Int), false)) = some (r1, r2) := by rw [if_pos rfl] at H; exact H
    clear H
    have H := H1
    clear H1
    simp only [Option.some.injEq, Prod.mk.injEq] at H
    obtain ⟨rfl, rfl⟩ := H
    go_wp2
    go_ret2
    exact ⟨_, eqr, by first | exact Kd.R_nil _ _ _ _ _ | exact Kd.N_nil _ _ _ _ _ | exact Kd.V_nil _ _ _ _ _ | exact Kd.Q_nil _ _ _ _ _ | exact Kd.S_nil _ _ _ _ _, atB HB⟩
   ·replace c6 := Bool.eq_false_iff.mpr c6
    subst c6
    have H1 : ((spec_ruAdd.f kj2 l0 a1).bind fun bt526 => (if bt526.2 = true then (some (bt526.1, true)) else (some (([] : List Int), false)))) = some (r1, r2) := by rw [if_neg (show ¬ (false = true) by decide)] at H; exact H
    clear H
    have H := H1
    clear H1
    replace H := Option.bind_eq_some_iff.mp H
    obtain ⟨⟨t526, t527⟩, A70, H⟩ := H
    replace H : (if t527 = true then (some (t526, true)) else (some (([] : List Int), false))) = some (r1, r2) := H
    have A7 := Aside0.mk A70
    clear A70
    by_cases c8 : t527 = true
    ·subst c8
     have H1 : (some (t526, true)) = some (r1, r2) := by rw [if_pos rfl] at H; exact H
     clear H
     have H := H1
     clear H1
     simp only [Option.some.injEq, Prod.mk.injEq] at H
     obtain ⟨rfl, rfl⟩ := H
     go_wp2_with (first | ((with_reducible refine gate_callee (f := 67) rfl ?_); refine goesA (some 18) Try.func67 #[.slice A0 l0.length c0, .int .i64 a1] ?_; (with_reducible refine (spec_ruAdd.calls kj2 _ _ l0 a1 t526 true _ ?side1 ?side2 A7.out).mono ?_); (case side1 => repeat (first | exact (Kd.C_below HR0.out HB.out) | (with_reducible refine Kd.C_alloc ?_ _) | (with_reducible refine Kd.C_drewN ?_ _) | (with_reducible refine Kd.C_drew ?_))); (case side2 => exact HC0.out); rintro e w9 ⟨v528, rfl, ho0, hb⟩; refine ⟨_, rfl, ?_⟩; have HO529 := lowR ho0 HB; replace HB := upB HB hb; (try clear hb); (try clear hb2); (try clear hk); (try clear hi); (try clear ho0)))
     go_ret2
     exact ⟨_, eqr, atR HO529, atB HB⟩
    ·replace c8 := Bool.eq_false_iff.mpr c8
     subst c8
     have H1 : (some (([] : List Int), false)) = some (r1, r2) := by rw [if_neg (show ¬ (false = true) by decide)] at H; exact H
     clear H
     have H := H1
     clear H1
     simp only [Option.some.injEq, Prod.mk.injEq] at H
     obtain ⟨rfl, rfl⟩ := H
     go_wp2_with (first | ((with_reducible refine gate_callee (f := 67) rfl ?_); refine goesA (some 18) Try.func67 #[.slice A0 l0.length c0, .int .i64 a1] ?_; (with_reducible refine (spec_ruAdd.calls kj2 _ _ l0 a1 t526 false _ ?side1 ?side2 A7.out).mono ?_); (case side1 => repeat (first | exact (Kd.C_below HR0.out HB.out) | (with_reducible refine Kd.C_alloc ?_ _) | (with_reducible refine Kd.C_drewN ?_ _) | (with_reducible refine Kd.C_drew ?_))); (case side2 => exact HC0.out); rintro e w10 ⟨v528, rfl, ho0, hb⟩; refine ⟨_, rfl, ?_⟩; have HO529 := lowR ho0 HB; replace HB := upB HB hb; (try clear hb); (try clear hb2); (try clear hk); (try clear hi); (try clear ho0)))
     go_ret2
     exact ⟨_, eqr, by first | exact Kd.R_nil _ _ _ _ _ | exact Kd.N_nil _ _ _ _ _ | exact Kd.V_nil _ _ _ _ _ | exact Kd.Q_nil _ _ _ _ _ | exact Kd.S_nil _ _ _ _ _, atB HB⟩

noncomputable def spec_AddMark.J0 (x0 : List Int) (x1 : Int) (x14 : Bool) : Option (List Int × Bool) := lim fun k => spec_AddMark.j0 k x0 x1 x14
theorem spec_AddMark.J0_lim (x0 : List Int) (x1 : Int) (x14 : Bool) : Lim (fun k => spec_AddMark.j0 k x0 x1 x14) (spec_AddMark.J0 x0 x1 x14) := Lim.of fun k => (spec_AddMark.mono_l k) x0 x1 x14
noncomputable def spec_AddMark.F (l0 : List Int) (a1 : Int) : Option (List Int × Bool) := lim fun k => spec_AddMark.f k l0 a1
theorem spec_AddMark.F_lim (l0 : List Int) (a1 : Int) : Lim (fun k => spec_AddMark.f k l0 a1) (spec_AddMark.F l0 a1) := Lim.of fun k => spec_AddMark.mono l0 a1 k
theorem spec_AddMark.J0_eq (x0 : List Int) (x1 : Int) (x14 : Bool) : spec_AddMark.J0 x0 x1 x14 = (if x14 = true then (some (([] : List Int), false)) else ((spec_ruAdd.F x0 x1).bind fun bt526 => (if bt526.2 = true then (some (bt526.1, true)) else (some (([] : List Int), false))))) :=
 Lim.step (f := fun k => spec_AddMark.j0 (k + 1) x0 x1 x14) (spec_AddMark.J0_lim x0 x1 x14) (fun _ => rfl) (by
  simp only [spec_AddMark.j0]
  repeat' (first | (with_reducible first | exact Lim.const _ | exact spec_ruAdd.F_lim _ _ | refine Lim.ite ?_ ?_ | refine Lim.bind ?_ (fun _ => ?_))))
theorem spec_AddMark.F_eq (l0 : List Int) (a1 : Int) : spec_AddMark.F l0 a1 = ((spec_ruGood.F l0).bind fun t525 => (if t525 = true then (spec_AddMark.J0 l0 a1 (decide (a1 < 0))) else (spec_AddMark.J0 l0 a1 true))) :=
 Lim.unique (spec_AddMark.F_lim l0 a1) (by
  unfold spec_AddMark.f
  repeat' (first | (with_reducible first | exact Lim.const _ | exact spec_AddMark.J0_lim _ _ _ | exact spec_ruGood.F_lim _ | refine Lim.ite ?_ ?_ | refine Lim.bind ?_ (fun _ => ?_))))

end Go.Proofs.Ytofjndbpndpjjaa.Fn
namespace Go.Proofs.Ytofjndbpndpjjaa.Fn
open Go.RowKit Go.Proofs.YtofjndbpndpjjaaW.PrintWords Go.Proofs.YtofjndbpndpjjaaW.PrintLast Go.Proofs.YtofjndbpndpjjaaW.PrintMore
attribute [local go_sem] max2_int min2_int max_two min_two max_three min_three max_four min_four   -- for this text's walks alone
set_option linter.unusedVariables false
set_option linter.unusedSimpArgs false

/-! ### spec_DrawIsRuler: function 58 -/
def spec_DrawIsRuler.f (k : Nat) (l0 : List Int) : Option (List Int) := (spec_l1Cur_ruler.f k l0 0 0).bind fun bt176 => (some bt176.1)
theorem spec_DrawIsRuler.mono : ∀ a0 k, LeO (spec_DrawIsRuler.f k a0) (spec_DrawIsRuler.f (k + 1) a0) := by
 intro a0 k
 unfold spec_DrawIsRuler.f
 repeat' (first | (with_reducible first | exact spec_l1Cur_ruler.mono _ _ _ _ | exact LeO.refl _ | exact LeO.none _ | refine LeO.ite ?_ ?_ | refine LeO.bind ?_ (fun _ => ?_)) | exact spec_l1Cur_ruler.mono _ _ _ _ | exact LeO.none _ | refine LeO.ite ?_ ?_ | refine LeO.bind ?_ (fun _ => ?_))
set_option maxHeartbeats 8000000 in
set_option maxRecDepth 100000 in
theorem spec_DrawIsRuler.calls (k : Nat) (A0 : Option Addr) (c0 : Nat) (l0 : List Int) (r : List Int) (w : World) (hr0 : Kd.C (Kd.int .u8) w A0 l0.length l0) (hc0 : l0.length ≤ c0) (h : spec_DrawIsRuler.f k l0 = some r) :
  Calls Try.prog 58 #[.slice A0 l0.length c0] w fun e w' => ∃ v0_ : Value, e = .returned (v0_) ∧ Kd.R (Kd.int .i64) 3 w' w.heap.size (fun _ => True) v0_ r ∧ Below w.heap.size w w' := by
 have hu58 := Try.underlying58
 have HR0 := Aside0.mk hr0
 have HC0 := Aside0.mk hc0
 clear hr0 hc0
 have HB := Aside0.mk (Below.refl w.heap.size w)
 have H := h
 unfold spec_DrawIsRuler.f at H
 clear h
 replace H := Option.bind_eq_some_iff.mp H
 obtain ⟨⟨t176, t179, t180⟩, A20, H⟩ := H
 replace H : (some t176) = some r := H
 have A2 := Aside0.mk A20
 clear A20
 obtain rfl := Option.some.inj H
 go_enter Try.func58, Try.ntmps58
 go_wp2_with (first | ((with_reducible refine gate_dst (N := 6) rfl ?_); refine box_event ?hg (N := 6) ?hd (cs := #[.slice A0 l0.length c0, .int .i64 0, .int .u64 0]) (t := 58) ?hr ?_; (case hd => rfl); (case hg => rfl); (case hr => first | (go_simp; done) | (go_simp; rfl)); intro gb175 hg w3 hbox hb; have HI175 := Aside0.mk ((⟨_, _, hbox, (by rw [hg]; exact (szB HB) : w.heap.size ≤ gb175), HR0.out⟩ : IsS58 w w3 gb175 l0 0 0)); replace HB := upB HB hb; clear hb hbox hg) | ((with_reducible refine gate_callee (f := 72) rfl ?_); refine goesA (some 8) Try.func72 #[.pointer (some ⟨gb175, 0, none⟩)] ?_; (with_reducible refine (spec_l1Cur_ruler.calls k gb175 l0 0 0 t176 t179 t180 w _ ?side1 ?side2 A2.out).mono ?_); (case side1 => exact IsS58.at HI175); (case side2 => exact atB HB); rintro e w4 ⟨v177, rfl, ho0, hi, hb, hk⟩; refine ⟨_, rfl, ?_⟩; have HO178 := lowR ho0 HB; replace HB := Aside0.mk (hb); replace HI175 := Aside0.mk (hi); (try clear hb); (try clear hb2); (try clear hk); (try clear hi); (try clear ho0)))
 go_ret
 exact ⟨_, eqr, atR HO178, atB HB⟩

noncomputable def spec_DrawIsRuler.F (l0 : List Int) : Option (List Int) := lim fun k => spec_DrawIsRuler.f k l0
theorem spec_DrawIsRuler.F_lim (l0 : List Int) : Lim (fun k => spec_DrawIsRuler.f k l0) (spec_DrawIsRuler.F l0) := Lim.of fun k => spec_DrawIsRuler.mono l0 k
theorem spec_DrawIsRuler.F_eq (l0 : List Int) : spec_DrawIsRuler.F l0 = ((spec_l1Cur_ruler.F l0 0 0).bind fun bt176 => (some bt176.1)) :=
 Lim.unique (spec_DrawIsRuler.F_lim l0) (by
  unfold spec_DrawIsRuler.f
  repeat' (first | (with_reducible first | exact Lim.const _ | exact spec_l1Cur_ruler.F_lim _ _ _ | refine Lim.ite ?_ ?_ | refine Lim.bind ?_ (fun _ => ?_))))

end Go.Proofs.Ytofjndbpndpjjaa.Fn
namespace Go.Proofs.Ytofjndbpndpjjaa.Fn
open Go.RowKit Go.Proofs.YtofjndbpndpjjaaW.PrintWords Go.Proofs.YtofjndbpndpjjaaW.PrintLast Go.Proofs.YtofjndbpndpjjaaW.PrintMore
attribute [local go_sem] max2_int min2_int max_two min_two max_three min_three max_four min_four   -- for this text's walks alone
set_option linter.unusedVariables false
set_option linter.unusedSimpArgs false

/-! ### spec_DrawDistancesOf: function 6 -/
def spec_DrawDistancesOf.f (k : Nat) (l0 : List Int) : Option (List Int) := (spec_DrawIsRuler.f k l0).bind fun t181 => (some t181)
theorem spec_DrawDistancesOf.mono : ∀ a0 k, LeO (spec_DrawDistancesOf.f k a0) (spec_DrawDistancesOf.f (k + 1) a0) := by
 intro a0 k
 unfold spec_DrawDistancesOf.f
 repeat' (first | (with_reducible first | exact spec_DrawIsRuler.mono _ _ | exact LeO.refl _ | exact LeO.none _ | refine LeO.ite ?_ ?_ | refine LeO.bind ?_ (fun _ => ?_)) | exact spec_DrawIsRuler.mono _ _ | exact LeO.none _ | refine LeO.ite ?_ ?_ | refine LeO.bind ?_ (fun _ => ?_))
set_option maxHeartbeats 8000000 in
set_option maxRecDepth 100000 in
theorem spec_DrawDistancesOf.calls (k : Nat) (A0 : Option Addr) (c0 : Nat) (l0 : List Int) (r : List Int) (w : World) (hr0 : Kd.C (Kd.int .u8) w A0 l0.length l0) (hc0 : l0.length ≤ c0) (h : spec_DrawDistancesOf.f k l0 = some r) :
  Calls Try.prog 6 #[.slice A0 l0.length c0] w fun e w' => ∃ v0_ : Value, e = .returned (v0_) ∧ Kd.R (Kd.int .i64) 3 w' w.heap.size (fun _ => True) v0_ r ∧ Below w.heap.size w w' := by
 have HR0 := Aside0.mk hr0
 have HC0 := Aside0.mk hc0
 clear hr0 hc0
 have HB := Aside0.mk (Below.refl w.heap.size w)
 have H := h
 unfold spec_DrawDistancesOf.f at H
 clear h
 replace H := Option.bind_eq_some_iff.mp H
 obtain ⟨t181, A20, H⟩ := H
 replace H : (some t181) = some r := H
 have A2 := Aside0.mk A20
 clear A20
 obtain rfl := Option.some.inj H
 go_enter Try.func6, Try.ntmps6
 go_wp2_with (first | ((with_reducible refine gate_callee (f := 58) rfl ?_); refine goesA (some 4) Try.func58 #[.slice A0 l0.length c0] ?_; (with_reducible refine (spec_DrawIsRuler.calls k _ _ l0 t181 _ ?side1 ?side2 A2.out).mono ?_); (case side1 => repeat (first | exact HR0.out | (with_reducible refine Kd.C_alloc ?_ _) | (with_reducible refine Kd.C_drewN ?_ _) | (with_reducible refine Kd.C_drew ?_))); (case side2 => exact HC0.out); rintro e w3 ⟨v182, rfl, ho0, hb⟩; refine ⟨_, rfl, ?_⟩; have HO183 := lowR ho0 HB; replace HB := upB HB hb; (try clear hb); (try clear hb2); (try clear hk); (try clear hi); (try clear ho0)))
 go_ret
 exact ⟨_, eqr, atR HO183, atB HB⟩

noncomputable def spec_DrawDistancesOf.F (l0 : List Int) : Option (List Int) := lim fun k => spec_DrawDistancesOf.f k l0
theorem spec_DrawDistancesOf.F_lim (l0 : List Int) : Lim (fun k => spec_DrawDistancesOf.f k l0) (spec_DrawDistancesOf.F l0) := Lim.of fun k => spec_DrawDistancesOf.mono l0 k
theorem spec_DrawDistancesOf.F_eq (l0 : List Int) : spec_DrawDistancesOf.F l0 = ((spec_DrawIsRuler.F l0).bind fun t181 => (some t181)) :=
 Lim.unique (spec_DrawDistancesOf.F_lim l0) (by
  unfold spec_DrawDistancesOf.f
  repeat' (first | (with_reducible first | exact Lim.const _ | exact spec_DrawIsRuler.F_lim _ | refine Lim.ite ?_ ?_ | refine Lim.bind ?_ (fun _ => ?_))))

end Go.Proofs.Ytofjndbpndpjjaa.Fn
namespace Go.Proofs.Ytofjndbpndpjjaa.Fn
open Go.RowKit Go.Proofs.YtofjndbpndpjjaaW.PrintWords Go.Proofs.YtofjndbpndpjjaaW.PrintLast Go.Proofs.YtofjndbpndpjjaaW.PrintMore
attribute [local go_sem] max2_int min2_int max_two min_two max_three min_three max_four min_four   -- for this text's walks alone
set_option linter.unusedVariables false
set_option linter.unusedSimpArgs false

/-! ### spec_DistancesOf: function 8 -/
def spec_DistancesOf.l0 : Nat → List Int → List Int → Int → Int → Option (List Int × Bool)
 | 0, _, _, _, _ => none
 | k + 1, x4, x11, x12, x13 => if x13 < x12 then (if 0 ≤ x13 then (if x13 < (x11.length : Int) then (if (rd x11 x13) > 0 then (if x4.length < 17592186044416 then (spec_DistancesOf.l0 k (x4 ++ [x13]) x11 x12 (wrap64 (x13 + 1))) else (none)) else (spec_DistancesOf.l0 k x4 x11 x12 (wrap64 (x13 + 1)))) else (none)) else (none)) else (some (x4, true))
def spec_DistancesOf.f (k : Nat) (l0 : List Int) : Option (List Int × Bool) := (spec_ruGood.f k l0).bind fun t210 => (if t210 = true then ((spec_ruTimes.f k l0).bind fun t211 => (spec_DistancesOf.l0 k ([] : List Int) t211 (t211.length : Int) 0)) else (some (([] : List Int), false)))
theorem spec_DistancesOf.mono_l : ∀ k, (∀ y0 y1 y2 y3, LeO (spec_DistancesOf.l0 k y0 y1 y2 y3) (spec_DistancesOf.l0 (k + 1) y0 y1 y2 y3))
 | 0 => fun _ _ _ _ r h => by simp [spec_DistancesOf.l0] at h
 | k + 1 => by
  have ih0 := spec_DistancesOf.mono_l k
  ·intro y0 y1 y2 y3
   unfold spec_DistancesOf.l0
   repeat' (first | (with_reducible first | exact ih0 _ _ _ _ | exact LeO.refl _ | exact LeO.none _ | refine LeO.ite ?_ ?_ | refine LeO.bind ?_ (fun _ => ?_)) | exact ih0 _ _ _ _ | exact LeO.none _ | refine LeO.ite ?_ ?_ | refine LeO.bind ?_ (fun _ => ?_))
theorem spec_DistancesOf.mono : ∀ a0 k, LeO (spec_DistancesOf.f k a0) (spec_DistancesOf.f (k + 1) a0) := by
 intro a0 k
 have ih0 := spec_DistancesOf.mono_l k
 unfold spec_DistancesOf.f
 repeat' (first | (with_reducible first | exact ih0 _ _ _ _ | exact spec_ruGood.mono _ _ | exact spec_ruTimes.mono _ _ | exact LeO.refl _ | exact LeO.none _ | refine LeO.ite ?_ ?_ | refine LeO.bind ?_ (fun _ => ?_)) | exact ih0 _ _ _ _ | exact spec_ruGood.mono _ _ | exact spec_ruTimes.mono _ _ | exact LeO.none _ | refine LeO.ite ?_ ?_ | refine LeO.bind ?_ (fun _ => ?_))
set_option maxHeartbeats 8000000 in
set_option maxRecDepth 100000 in
theorem spec_DistancesOf.calls (k : Nat) (A0 : Option Addr) (c0 : Nat) (l0 : List Int) (r1 : List Int) (r2 : Bool) (w : World) (hr0 : Kd.C (Kd.int .i64) w A0 l0.length l0) (hc0 : l0.length ≤ c0) (h : spec_DistancesOf.f k l0 = some (r1, r2)) :
  Calls Try.prog 8 #[.slice A0 l0.length c0] w fun e w' => ∃ v0_ : Value, e = .returned (.tuple #[v0_, .bool r2]) ∧ Kd.R (Kd.int .i64) 3 w' w.heap.size (fun _ => True) v0_ r1 ∧ Below w.heap.size w w' := by
 have HR0 := Aside0.mk hr0
 have HC0 := Aside0.mk hc0
 clear hr0 hc0
 have HB := Aside0.mk (Below.refl w.heap.size w)
 have H := h
 unfold spec_DistancesOf.f at H
 clear h
 replace H := Option.bind_eq_some_iff.mp H
 obtain ⟨t210, A20, H⟩ := H
 replace H : (if t210 = true then ((spec_ruTimes.f k l0).bind fun t211 => (spec_DistancesOf.l0 k ([] : List Int) t211 (t211.length : Int) 0)) else (some (([] : List Int), false))) = some (r1, r2) := H
 have A2 := Aside0.mk A20
 clear A20
 by_cases c3 : t210 = true
 ·subst c3
  have H1 : ((spec_ruTimes.f k l0).bind fun t211 => (spec_DistancesOf.l0 k ([] : List Int) t211 (t211.length : Int) 0)) = some (r1, r2) := by rw [if_pos rfl] at H; exact H
  clear H
  have H := H1
  clear H1
  replace H := Option.bind_eq_some_iff.mp H
  obtain ⟨t211, A40, H⟩ := H
  replace H : (spec_DistancesOf.l0 k ([] : List Int) t211 (t211.length : Int) 0) = some (r1, r2) := H
  have A4 := Aside0.mk A40
  clear A40
  have H' := Aside0.mk H
  clear H
  go_enter Try.func8, Try.ntmps8
  go_wp2_with (first | ((with_reducible refine gate_callee (f := 60) rfl ?_); refine goesA (some 8) Try.func60 #[.slice A0 l0.length c0] ?_; (with_reducible refine (spec_ruGood.calls k _ _ l0 true _ ?side1 ?side2 A2.out).mono ?_); (case side1 => repeat (first | exact HR0.out | (with_reducible refine Kd.C_alloc ?_ _) | (with_reducible refine Kd.C_drewN ?_ _) | (with_reducible refine Kd.C_drew ?_))); (case side2 => exact HC0.out); rintro e w' ⟨rfl, ⟨nd, rfl⟩⟩; refine ⟨_, rfl, ?_⟩) | ((with_reducible refine gate_callee (f := 61) rfl ?_); refine goesA (some 11) Try.func61 #[.slice A0 l0.length c0] ?_; (with_reducible refine (spec_ruTimes.calls k _ _ l0 t211 _ ?side1 ?side2 A4.out).mono ?_); (case side1 => repeat (first | exact HR0.out | (with_reducible refine Kd.C_alloc ?_ _) | (with_reducible refine Kd.C_drewN ?_ _) | (with_reducible refine Kd.C_drew ?_))); (case side2 => exact HC0.out); rintro e w5 ⟨v212, rfl, ho0, hb⟩; refine ⟨_, rfl, ?_⟩; have HO213 := lowR ho0 HB; replace HB := upB HB hb; (try clear hb); (try clear hb2); (try clear hk); (try clear hi); (try clear ho0); obtain ⟨Ao6, co6, eo6⟩ := Kd.R_slice HO213.out; subst eo6))
  go_loopg [4, 13] k (fun kq v4 v13 w' => ∃ (x4_1 : List Int) (x13_1 : Int), v13 = .int .i64 x13_1 ∧ Aside0 (spec_DistancesOf.l0 kq x4_1 t211 (t211.length : Int) x13_1 = some (r1, r2)) ∧ Aside0 (kq ≤ k) ∧ Aside0 (Kd.R (Kd.int .i64) 3 w' w.heap.size (fun k_ => some k_ ≠ ((.slice Ao6 t211.length co6) : Value).ownBlock) v4 x4_1) ∧ Aside0 (Kd.R (Kd.int .i64) 3 w' w.heap.size (fun k_ => some k_ ≠ (v4 : Value).ownBlock) (.slice Ao6 t211.length co6) t211) ∧ Aside0 (Below w.heap.size w w'))
  case atStart => exact ⟨(([] : List Int)), (0), eqd, H', ⟨Nat.le_refl _⟩, ⟨by first | exact Kd.R_nil _ _ _ _ _ | exact Kd.N_nil _ _ _ _ _ | exact Kd.V_nil _ _ _ _ _ | exact Kd.Q_nil _ _ _ _ _ | exact Kd.S_nil _ _ _ _ _⟩, ⟨by (with_reducible repeat (first | apply Kd.R_alloc | apply Kd.R_drewN | apply Kd.R_drew)); exact Kd.R_mono HO213.out (fun _ hk => (by simp [Value.ownBlock]))⟩, ⟨atB HB⟩⟩
  case round =>
   clear H'
   try clear p2
   try clear c3
   try clear c6
   obtain ⟨x4_1, x13_1, rfl, HA, HK1, HO_4, HO_11, HB⟩ := hrel
   cases gk with
   | zero => exact absurd HA.out (by simp [spec_DistancesOf.l0])
   | succ k1 =>
    have H := HA.out
    clear HA
    simp only [spec_DistancesOf.l0] at H
    by_cases c7 : x13_1 < (t211.length : Int)
    ·rw [if_pos c7] at H
     have c7b0 : decide (x13_1 < (t211.length : Int)) = true := decide_eq_true c7
     clear c7
     by_cases c8 : 0 ≤ x13_1
     ·rw [if_pos c8] at H
      have c8b0 : decide (0 ≤ x13_1) = true := decide_eq_true c8
      clear c8
      by_cases c9 : x13_1 < (t211.length : Int)
      ·rw [if_pos c9] at H
       have c9b0 : decide (x13_1 < (t211.length : Int)) = true := decide_eq_true c9
       clear c9
       by_cases c10 : (rd t211 x13_1) > 0
       ·rw [if_pos c10] at H
        have c10b0 : decide (0 < (rd t211 x13_1)) = true := decide_eq_true c10
        clear c10
        by_cases c11 : x4_1.length < 17592186044416
        ·rw [if_pos c11] at H
         have LMc11 := Aside0.mk c11
         clear c11
         obtain ⟨y215, hy215⟩ : ∃ y_ : List Int, y_ = (x4_1 ++ [x13_1]) := ⟨_, rfl⟩
         replace H : (spec_DistancesOf.l0 k1 y215 t211 (t211.length : Int) (wrap64 (x13_1 + 1))) = some (r1, r2) := by first | (rw [hy215]; with_reducible exact H) | (have H2_ := (Option.bind_some _ _).symm.trans H; rw [hy215]; with_reducible exact H2_) | (have H2_ := (Option.bind_some _ _).symm.trans H; with_reducible exact H2_) | with_reducible exact H | (rw [hy215]; exact H) | exact H
         have Ny215 := Aside0.mk hy215
         clear hy215
         have H' := Aside0.mk H
         clear H
         have p214 : 0 ≤ (x13_1 : Int) := ofd
         have q214 : x13_1 < (t211.length : Int) := ofd
         obtain ⟨ad214, e214, hx214_0⟩ := Kd.at_int (Kd.R_reads' HO_11.out).2.2 x13_1 p214 q214
         cases e214
         replace p214 := eq_true p214
         replace q214 := eq_true q214
         go_wp2_with (first | ((with_reducible refine gate_builtin (b := .append) (xs := #[.tmp 20, .tmp 22]) rfl ?_); at_builtin; refine Kd.R_append (Kd.int .i64) (w0 := w) w.heap.size rfl (.tmp 20) (.tmp 22) 24 3 (.int .i64 0) 8 rfl Try.underlying24 info3 rfl (by decide) (by omega) u4 x4_1 x13_1 [.int .i64 x13_1] (fun k_ => some k_ ≠ (.slice (some ad214) t211.length co6 : Value).ownBlock) (fun _ => False) rfl rfl ?aP (fun _ hk => hk.elim) ?aF ?aO ?aB ?aS ?aL ?_; (case aP => exact rfl); (case aB => exact (atB HB)); (case aF => exact (fun k_ hk => Kd.fresh' (ltR HO_11) k_ hk)); (case aO => exact (atR HO_4)); (case aS => exact (szB HB)); (case aL => have := LMc11.out; omega); intro v216 w12 ho hb hg hat; rw [← Ny215.out] at ho; have HO217 := Aside0.mk (ho); replace HO_11 := Aside0.mk (Kd.R_after (ok := (fun _ => True)) (by (with_reducible repeat (first | apply Kd.R_alloc | apply Kd.R_drewN | apply Kd.R_drew)); exact Kd.R_mono HO_11.out (fun _ hk => ⟨trivial, hk⟩)) hg hat); replace HB := Aside0.mk (hb); clear HO_4; clear ho hb hg hat))
         go_roundg k1
         case measure => have := HK1.out; omega
         case rel => exact ⟨(y215), (wrap64 (x13_1 + 1)), eqd, H', ⟨by have := HK1.out; omega⟩, ⟨atR HO217⟩, ⟨by (with_reducible repeat (first | apply Kd.R_alloc | apply Kd.R_drewN | apply Kd.R_drew)); exact Kd.R_mono HO_11.out (fun _ hk => hk.2)⟩, ⟨atB HB⟩⟩
        ·rw [if_neg c11] at H
         exact absurd H (by simp)
       ·rw [if_neg c10] at H
        have c10b0 : decide (0 < (rd t211 x13_1)) = false := decide_eq_false c10
        clear c10
        have H' := Aside0.mk H
        clear H
        have p214 : 0 ≤ (x13_1 : Int) := ofd
        have q214 : x13_1 < (t211.length : Int) := ofd
        obtain ⟨ad214, e214, hx214_0⟩ := Kd.at_int (Kd.R_reads' HO_11.out).2.2 x13_1 p214 q214
        cases e214
        replace p214 := eq_true p214
        replace q214 := eq_true q214
        go_wp2
        go_roundg k1
        case measure => have := HK1.out; omega
        case rel => exact ⟨(x4_1), (wrap64 (x13_1 + 1)), eqd, H', ⟨by have := HK1.out; omega⟩, ⟨atR HO_4⟩, ⟨atR HO_11⟩, ⟨atB HB⟩⟩
      ·rw [if_neg c9] at H
       exact absurd H (by simp)
     ·rw [if_neg c8] at H
      exact absurd H (by simp)
    ·rw [if_neg c7] at H
     have c7b0 : decide (x13_1 < (t211.length : Int)) = false := decide_eq_false c7
     clear c7
     simp only [Option.some.injEq, Prod.mk.injEq] at H
     obtain ⟨rfl, rfl⟩ := H
     go_wp2
     go_ret2
     exact ⟨_, eqr, by (with_reducible repeat (first | apply Kd.R_alloc | apply Kd.R_drewN | apply Kd.R_drew)); exact Kd.R_mono HO_4.out (fun _ hk => trivial), atB HB⟩
 ·replace c3 := Bool.eq_false_iff.mpr c3
  subst c3
  have H1 : (some (([] : List Int), false)) = some (r1, r2) := by rw [if_neg (show ¬ (false = true) by decide)] at H; exact H
  clear H
  have H := H1
  clear H1
  simp only [Option.some.injEq, Prod.mk.injEq] at H
  obtain ⟨rfl, rfl⟩ := H
  go_enter Try.func8, Try.ntmps8
  go_wp2_with (first | ((with_reducible refine gate_callee (f := 60) rfl ?_); refine goesA (some 8) Try.func60 #[.slice A0 l0.length c0] ?_; (with_reducible refine (spec_ruGood.calls k _ _ l0 false _ ?side1 ?side2 A2.out).mono ?_); (case side1 => repeat (first | exact HR0.out | (with_reducible refine Kd.C_alloc ?_ _) | (with_reducible refine Kd.C_drewN ?_ _) | (with_reducible refine Kd.C_drew ?_))); (case side2 => exact HC0.out); rintro e w' ⟨rfl, ⟨nd, rfl⟩⟩; refine ⟨_, rfl, ?_⟩))
  go_ret2
  exact ⟨_, eqr, by first | exact Kd.R_nil _ _ _ _ _ | exact Kd.N_nil _ _ _ _ _ | exact Kd.V_nil _ _ _ _ _ | exact Kd.Q_nil _ _ _ _ _ | exact Kd.S_nil _ _ _ _ _, atB HB⟩

noncomputable def spec_DistancesOf.L0 (x4 : List Int) (x11 : List Int) (x12 : Int) (x13 : Int) : Option (List Int × Bool) := lim fun k => spec_DistancesOf.l0 k x4 x11 x12 x13
theorem spec_DistancesOf.L0_lim (x4 : List Int) (x11 : List Int) (x12 : Int) (x13 : Int) : Lim (fun k => spec_DistancesOf.l0 k x4 x11 x12 x13) (spec_DistancesOf.L0 x4 x11 x12 x13) := Lim.of fun k => (spec_DistancesOf.mono_l k) x4 x11 x12 x13
noncomputable def spec_DistancesOf.F (l0 : List Int) : Option (List Int × Bool) := lim fun k => spec_DistancesOf.f k l0
theorem spec_DistancesOf.F_lim (l0 : List Int) : Lim (fun k => spec_DistancesOf.f k l0) (spec_DistancesOf.F l0) := Lim.of fun k => spec_DistancesOf.mono l0 k
theorem spec_DistancesOf.L0_eq (x4 : List Int) (x11 : List Int) (x12 : Int) (x13 : Int) : spec_DistancesOf.L0 x4 x11 x12 x13 = (if x13 < x12 then (if 0 ≤ x13 then (if x13 < (x11.length : Int) then (if (rd x11 x13) > 0 then (if x4.length < 17592186044416 then (spec_DistancesOf.L0 (x4 ++ [x13]) x11 x12 (wrap64 (x13 + 1))) else (none)) else (spec_DistancesOf.L0 x4 x11 x12 (wrap64 (x13 + 1)))) else (none)) else (none)) else (some (x4, true))) :=
 Lim.step (f := fun k => spec_DistancesOf.l0 (k + 1) x4 x11 x12 x13) (spec_DistancesOf.L0_lim x4 x11 x12 x13) (fun _ => rfl) (by
  simp only [spec_DistancesOf.l0]
  repeat' (first | (with_reducible first | exact Lim.const _ | exact spec_DistancesOf.L0_lim _ _ _ _ | refine Lim.ite ?_ ?_ | refine Lim.bind ?_ (fun _ => ?_))))
theorem spec_DistancesOf.F_eq (l0 : List Int) : spec_DistancesOf.F l0 = ((spec_ruGood.F l0).bind fun t210 => (if t210 = true then ((spec_ruTimes.F l0).bind fun t211 => (spec_DistancesOf.L0 ([] : List Int) t211 (t211.length : Int) 0)) else (some (([] : List Int), false)))) :=
 Lim.unique (spec_DistancesOf.F_lim l0) (by
  unfold spec_DistancesOf.f
  repeat' (first | (with_reducible first | exact Lim.const _ | exact spec_DistancesOf.L0_lim _ _ _ _ | exact spec_ruGood.F_lim _ | exact spec_ruTimes.F_lim _ | refine Lim.ite ?_ ?_ | refine Lim.bind ?_ (fun _ => ?_))))

end Go.Proofs.Ytofjndbpndpjjaa.Fn
namespace Go.Proofs.Ytofjndbpndpjjaa.Fn
open Go.RowKit Go.Proofs.YtofjndbpndpjjaaW.PrintWords Go.Proofs.YtofjndbpndpjjaaW.PrintLast Go.Proofs.YtofjndbpndpjjaaW.PrintMore
attribute [local go_sem] max2_int min2_int max_two min_two max_three min_three max_four min_four   -- for this text's walks alone
set_option linter.unusedVariables false
set_option linter.unusedSimpArgs false

/-! ### laws_FnRulersMeasure: function 3 -/
mutual
def laws_FnRulersMeasure.j0 : Nat → List Int → List Int → List Int → Bool → Int → List Int → Bool → Bool → List Int → List Int → Bool → Bool → Option (Bool)
 | 0, _, _, _, _, _, _, _, _, _, _, _, _ => none
 | k + 1, x1, x5, x6, x7, x10, x14, x18, x22, x26, x30, x31, x262 => if x262 = true then (some false) else (if x7 = true then ((impl_DistancesOf.f k x26).bind fun bt585 => ((impl_BackRuler.f k x26).bind fun bt589 => (if 0 ≤ (wrap64 ((x5.length : Int) - 1)) then (if (wrap64 ((x5.length : Int) - 1)) < (x5.length : Int) then (if x10 = (rd x5 (wrap64 ((x5.length : Int) - 1))) then (if bt585.2 = true then ((laws_jSame.f k bt585.1 x6).bind fun t594 => (if t594 = true then (if bt589.2 = true then ((laws_jSame.f k bt589.1 x5).bind fun t595 => (if t595 = true then (if (wrap64 ((x6.length : Int) + (x14.length : Int))) = x10 then (if (x18 != ((x6.length : Int) == (wrap64 (Int.tdiv (wrap64 ((x5.length : Int) * (wrap64 ((x5.length : Int) - 1)))) 2)))) = true then (some false) else (if (x22 != ((x14.length : Int) == 0)) = true then (some false) else (laws_FnRulersMeasure.l0 k x1 x5 x6 x10 x14 x30 x31 (x5.length : Int) (wrap64 (Int.tdiv (wrap64 ((x5.length : Int) * (wrap64 ((x5.length : Int) - 1)))) 2)) 0 1))) else (some false)) else (some false))) else (some false)) else (some false))) else (some false)) else (some false)) else (none)) else (none)))) else (laws_FnRulersMeasure.j3 k x1))
def laws_FnRulersMeasure.j3 : Nat → List Int → Option (Bool)
 | 0, _ => none
 | k + 1, x1 => (spec_DrawTimesMeasured.f k x1).bind fun bt612 => ((impl_TimesMeasured.f k bt612.1 bt612.2).bind fun bt616 => ((spec_TimesMeasured.f k bt612.1 bt612.2).bind fun bt618 => ((impl_MeasureWith.f k bt612.1 bt612.2).bind fun bt620 => ((spec_MeasureWith.f k bt612.1 bt612.2).bind fun bt623 => ((spec_DrawAddMark.f k x1).bind fun bt626 => ((impl_AddMark.f k bt626.1 bt626.2).bind fun bt630 => ((spec_AddMark.f k bt626.1 bt626.2).bind fun bt634 => (if (bt616.2 == bt618.2) = true then (if bt616.1 = bt618.1 then (if (bt620.2.2 == bt623.2.2) = true then (if bt620.1 = bt623.1 then (if bt620.2.1 = bt623.2.1 then (if (bt630.2 == bt634.2) = true then ((laws_jSame.f k bt630.1 bt634.1).bind fun t638 => (if t638 = true then (if bt630.2 = true then ((impl_IsRuler.f k bt630.1).bind fun t639 => (if t639 = true then ((laws_jHas.f k bt630.1 bt626.2).bind fun t640 => (some t640)) else (some false))) else (some true)) else (some false))) else (some false)) else (some false)) else (some false)) else (some false)) else (some false)) else (some false)))))))))
def laws_FnRulersMeasure.l0 : Nat → List Int → List Int → List Int → Int → List Int → List Int → Bool → Int → Int → Int → Int → Option (Bool)
 | 0, _, _, _, _, _, _, _, _, _, _, _ => none
 | k + 1, x1, x5, x6, x10, x14, x30, x31, x34, x35, x40, x41 => if x41 ≤ x10 then ((impl_TimesMeasured.f k x5 x41).bind fun bt596 => ((impl_MeasureWith.f k x5 x41).bind fun bt598 => (if bt596.2 = true then ((laws_jHas.f k x6 x41).bind fun t601 => (if ((decide (bt596.1 > 0)) != t601) = true then (some false) else ((laws_jHas.f k x14 x41).bind fun t602 => (if ((decide (bt596.1 > 0)) == t602) = true then (some false) else (if (bt598.2.2 != (decide (bt596.1 > 0))) = true then (some false) else (if bt598.2.2 = true then (if (wrap64 (bt598.2.1 - bt598.1)) = x41 then ((laws_jHas.f k x5 bt598.1).bind fun t603 => (if t603 = true then ((laws_jHas.f k x5 bt598.2.1).bind fun t604 => (if t604 = true then (laws_FnRulersMeasure.l0 k x1 x5 x6 x10 x14 x30 x31 x34 x35 (wrap64 (x40 + bt596.1)) (wrap64 (x41 + 1))) else (some false))) else (some false))) else (some false)) else (laws_FnRulersMeasure.l0 k x1 x5 x6 x10 x14 x30 x31 x34 x35 (wrap64 (x40 + bt596.1)) (wrap64 (x41 + 1))))))))) else (some false)))) else (if x40 = x35 then (laws_FnRulersMeasure.l1 k x1 x5 x10 x30 x31 x34 1) else (some false))
def laws_FnRulersMeasure.l1 : Nat → List Int → List Int → Int → List Int → Bool → Int → Int → Option (Bool)
 | 0, _, _, _, _, _, _, _ => none
 | k + 1, x1, x5, x10, x30, x31, x34, x47 => if x47 < x10 then ((impl_AddMark.f k x5 x47).bind fun bt605 => (if bt605.2 = true then ((impl_IsDifferent.f k bt605.1).bind fun bt609 => (if bt609.2 = true then (if x31 = true then ((laws_jHas.f k x30 x47).bind fun t611 => (if (bt609.1 != t611) = true then (some false) else (if (bt605.1.length : Int) = (wrap64 (x34 + 1)) then (laws_FnRulersMeasure.l1 k x1 x5 x10 x30 x31 x34 (wrap64 (x47 + 1))) else (some false)))) else (if (bt605.1.length : Int) = (wrap64 (x34 + 1)) then (laws_FnRulersMeasure.l1 k x1 x5 x10 x30 x31 x34 (wrap64 (x47 + 1))) else (some false))) else (some false))) else (laws_FnRulersMeasure.l1 k x1 x5 x10 x30 x31 x34 (wrap64 (x47 + 1))))) else (laws_FnRulersMeasure.j3 k x1)
end
def laws_FnRulersMeasure.f (k : Nat) (l0 : List Int) (l1 : List Int) : Option (Bool) := (laws_big.f l0 l1).bind fun t530 => (if t530 = true then (some true) else ((spec_DrawDistancesOf.f k l0).bind fun t531 => ((impl_DistancesOf.f k t531).bind fun bt534 => ((spec_DistancesOf.f k t531).bind fun bt538 => ((impl_LengthOfRuler.f k t531).bind fun bt542 => ((spec_LengthOfRuler.f k t531).bind fun bt544 => ((impl_MissingDistances.f k t531).bind fun bt546 => ((spec_MissingDistances.f k t531).bind fun bt550 => ((impl_IsDifferent.f k t531).bind fun bt554 => ((spec_IsDifferent.f k t531).bind fun bt556 => ((impl_IsWhole.f k t531).bind fun bt558 => ((spec_IsWhole.f k t531).bind fun bt560 => ((impl_BackRuler.f k t531).bind fun bt562 => ((spec_BackRuler.f k t531).bind fun bt566 => ((impl_FreeMarks.f k t531).bind fun bt570 => ((spec_FreeMarks.f k t531).bind fun bt574 => (if (bt534.2 != bt538.2) = true then (laws_FnRulersMeasure.j0 k l1 t531 bt534.1 bt534.2 bt542.1 bt546.1 bt554.1 bt558.1 bt562.1 bt570.1 bt570.2 true) else ((laws_jSame.f k bt534.1 bt538.1).bind fun t578 => (if t578 = true then (if (bt542.2 != bt544.2) = true then (laws_FnRulersMeasure.j0 k l1 t531 bt534.1 bt534.2 bt542.1 bt546.1 bt554.1 bt558.1 bt562.1 bt570.1 bt570.2 true) else (if bt542.1 = bt544.1 then (if (bt546.2 != bt550.2) = true then (laws_FnRulersMeasure.j0 k l1 t531 bt534.1 bt534.2 bt542.1 bt546.1 bt554.1 bt558.1 bt562.1 bt570.1 bt570.2 true) else ((laws_jSame.f k bt546.1 bt550.1).bind fun t579 => (if t579 = true then (if (bt554.2 != bt556.2) = true then (laws_FnRulersMeasure.j0 k l1 t531 bt534.1 bt534.2 bt542.1 bt546.1 bt554.1 bt558.1 bt562.1 bt570.1 bt570.2 true) else (if (bt554.1 != bt556.1) = true then (laws_FnRulersMeasure.j0 k l1 t531 bt534.1 bt534.2 bt542.1 bt546.1 bt554.1 bt558.1 bt562.1 bt570.1 bt570.2 true) else (if (bt558.2 != bt560.2) = true then (laws_FnRulersMeasure.j0 k l1 t531 bt534.1 bt534.2 bt542.1 bt546.1 bt554.1 bt558.1 bt562.1 bt570.1 bt570.2 true) else (if (bt558.1 != bt560.1) = true then (laws_FnRulersMeasure.j0 k l1 t531 bt534.1 bt534.2 bt542.1 bt546.1 bt554.1 bt558.1 bt562.1 bt570.1 bt570.2 true) else (if (bt562.2 != bt566.2) = true then (laws_FnRulersMeasure.j0 k l1 t531 bt534.1 bt534.2 bt542.1 bt546.1 bt554.1 bt558.1 bt562.1 bt570.1 bt570.2 true) else ((laws_jSame.f k bt562.1 bt566.1).bind fun t580 => (if t580 = true then (if (bt570.2 != bt574.2) = true then (laws_FnRulersMeasure.j0 k l1 t531 bt534.1 bt534.2 bt542.1 bt546.1 bt554.1 bt558.1 bt562.1 bt570.1 bt570.2 true) else ((laws_jSame.f k bt570.1 bt574.1).bind fun t581 => (if t581 = true then ((impl_IsRuler.f k t531).bind fun t582 => (if (bt534.2 != t582) = true then (laws_FnRulersMeasure.j0 k l1 t531 bt534.1 bt534.2 bt542.1 bt546.1 bt554.1 bt558.1 bt562.1 bt570.1 bt570.2 true) else ((impl_IsRuler.f k t531).bind fun t583 => ((spec_IsRuler.f k t531).bind fun t584 => (if (t583 != t584) = true then (laws_FnRulersMeasure.j0 k l1 t531 bt534.1 bt534.2 bt542.1 bt546.1 bt554.1 bt558.1 bt562.1 bt570.1 bt570.2 true) else (if (bt542.2 != bt534.2) = true then (laws_FnRulersMeasure.j0 k l1 t531 bt534.1 bt534.2 bt542.1 bt546.1 bt554.1 bt558.1 bt562.1 bt570.1 bt570.2 true) else (if (bt546.2 != bt534.2) = true then (laws_FnRulersMeasure.j0 k l1 t531 bt534.1 bt534.2 bt542.1 bt546.1 bt554.1 bt558.1 bt562.1 bt570.1 bt570.2 true) else (if (bt554.2 != bt534.2) = true then (laws_FnRulersMeasure.j0 k l1 t531 bt534.1 bt534.2 bt542.1 bt546.1 bt554.1 bt558.1 bt562.1 bt570.1 bt570.2 true) else (if (bt558.2 != bt534.2) = true then (laws_FnRulersMeasure.j0 k l1 t531 bt534.1 bt534.2 bt542.1 bt546.1 bt554.1 bt558.1 bt562.1 bt570.1 bt570.2 true) else (if (bt562.2 != bt534.2) = true then (laws_FnRulersMeasure.j0 k l1 t531 bt534.1 bt534.2 bt542.1 bt546.1 bt554.1 bt558.1 bt562.1 bt570.1 bt570.2 true) else (if bt534.2 = true then (laws_FnRulersMeasure.j0 k l1 t531 bt534.1 bt534.2 bt542.1 bt546.1 bt554.1 bt558.1 bt562.1 bt570.1 bt570.2 (bt570.2 != bt554.1)) else (laws_FnRulersMeasure.j0 k l1 t531 bt534.1 bt534.2 bt542.1 bt546.1 bt554.1 bt558.1 bt562.1 bt570.1 bt570.2 (bt570.2 != false))))))))))))) else (laws_FnRulersMeasure.j0 k l1 t531 bt534.1 bt534.2 bt542.1 bt546.1 bt554.1 bt558.1 bt562.1 bt570.1 bt570.2 true)))) else (laws_FnRulersMeasure.j0 k l1 t531 bt534.1 bt534.2 bt542.1 bt546.1 bt554.1 bt558.1 bt562.1 bt570.1 bt570.2 true)))))))) else (laws_FnRulersMeasure.j0 k l1 t531 bt534.1 bt534.2 bt542.1 bt546.1 bt554.1 bt558.1 bt562.1 bt570.1 bt570.2 true)))) else (laws_FnRulersMeasure.j0 k l1 t531 bt534.1 bt534.2 bt542.1 bt546.1 bt554.1 bt558.1 bt562.1 bt570.1 bt570.2 true))) else (laws_FnRulersMeasure.j0 k l1 t531 bt534.1 bt534.2 bt542.1 bt546.1 bt554.1 bt558.1 bt562.1 bt570.1 bt570.2 true))))))))))))))))))))
theorem laws_FnRulersMeasure.mono_l : ∀ k, (∀ y0 y1 y2 y3 y4 y5 y6 y7 y8 y9 y10 y11, LeO (laws_FnRulersMeasure.j0 k y0 y1 y2 y3 y4 y5 y6 y7 y8 y9 y10 y11) (laws_FnRulersMeasure.j0 (k + 1) y0 y1 y2 y3 y4 y5 y6 y7 y8 y9 y10 y11)) ∧ (∀ y0, LeO (laws_FnRulersMeasure.j3 k y0) (laws_FnRulersMeasure.j3 (k + 1) y0)) ∧ (∀ y0 y1 y2 y3 y4 y5 y6 y7 y8 y9 y10, LeO (laws_FnRulersMeasure.l0 k y0 y1 y2 y3 y4 y5 y6 y7 y8 y9 y10) (laws_FnRulersMeasure.l0 (k + 1) y0 y1 y2 y3 y4 y5 y6 y7 y8 y9 y10)) ∧ (∀ y0 y1 y2 y3 y4 y5 y6, LeO (laws_FnRulersMeasure.l1 k y0 y1 y2 y3 y4 y5 y6) (laws_FnRulersMeasure.l1 (k + 1) y0 y1 y2 y3 y4 y5 y6))
 | 0 => ⟨fun _ _ _ _ _ _ _ _ _ _ _ _ r h => by simp [laws_FnRulersMeasure.j0] at h, fun _ r h => by simp [laws_FnRulersMeasure.j3] at h, fun _ _ _ _ _ _ _ _ _ _ _ r h => by simp [laws_FnRulersMeasure.l0] at h, fun _ _ _ _ _ _ _ r h => by simp [laws_FnRulersMeasure.l1] at h⟩
 | k + 1 => by
  obtain ⟨ih0, ih1, ih2, ih3⟩ := laws_FnRulersMeasure.mono_l k
  refine ⟨?_, ?_, ?_, ?_⟩
  ·intro y0 y1 y2 y3 y4 y5 y6 y7 y8 y9 y10 y11
   unfold laws_FnRulersMeasure.j0
   repeat' (first | (with_reducible first | exact ih1 _ | exact ih2 _ _ _ _ _ _ _ _ _ _ _ | exact impl_BackRuler.mono _ _ | exact impl_DistancesOf.mono _ _ | exact laws_jSame.mono _ _ _ | exact LeO.refl _ | exact LeO.none _ | refine LeO.ite ?_ ?_ | refine LeO.bind ?_ (fun _ => ?_)) | exact ih1 _ | exact ih2 _ _ _ _ _ _ _ _ _ _ _ | exact impl_BackRuler.mono _ _ | exact impl_DistancesOf.mono _ _ | exact laws_jSame.mono _ _ _ | exact LeO.none _ | refine LeO.ite ?_ ?_ | refine LeO.bind ?_ (fun _ => ?_))
  ·intro y0
   unfold laws_FnRulersMeasure.j3
   repeat' (first | (with_reducible first | exact impl_AddMark.mono _ _ _ | exact impl_IsRuler.mono _ _ | exact impl_MeasureWith.mono _ _ _ | exact impl_TimesMeasured.mono _ _ _ | exact laws_jHas.mono _ _ _ | exact laws_jSame.mono _ _ _ | exact spec_AddMark.mono _ _ _ | exact spec_DrawAddMark.mono _ _ | exact spec_DrawTimesMeasured.mono _ _ | exact spec_MeasureWith.mono _ _ _ | exact spec_TimesMeasured.mono _ _ _ | exact LeO.refl _ | exact LeO.none _ | refine LeO.ite ?_ ?_ | refine LeO.bind ?_ (fun _ => ?_)) | exact impl_AddMark.mono _ _ _ | exact impl_IsRuler.mono _ _ | exact impl_MeasureWith.mono _ _ _ | exact impl_TimesMeasured.mono _ _ _ | exact laws_jHas.mono _ _ _ | exact laws_jSame.mono _ _ _ | exact spec_AddMark.mono _ _ _ | exact spec_DrawAddMark.mono _ _ | exact spec_DrawTimesMeasured.mono _ _ | exact spec_MeasureWith.mono _ _ _ | exact spec_TimesMeasured.mono _ _ _ | exact LeO.none _ | refine LeO.ite ?_ ?_ | refine LeO.bind ?_ (fun _ => ?_))
  ·intro y0 y1 y2 y3 y4 y5 y6 y7 y8 y9 y10
   unfold laws_FnRulersMeasure.l0
   repeat' (first | (with_reducible first | exact ih2 _ _ _ _ _ _ _ _ _ _ _ | exact ih3 _ _ _ _ _ _ _ | exact impl_MeasureWith.mono _ _ _ | exact impl_TimesMeasured.mono _ _ _ | exact laws_jHas.mono _ _ _ | exact LeO.refl _ | exact LeO.none _ | refine LeO.ite ?_ ?_ | refine LeO.bind ?_ (fun _ => ?_)) | exact ih2 _ _ _ _ _ _ _ _ _ _ _ | exact ih3 _ _ _ _ _ _ _ | exact impl_MeasureWith.mono _ _ _ | exact impl_TimesMeasured.mono _ _ _ | exact laws_jHas.mono _ _ _ | exact LeO.none _ | refine LeO.ite ?_ ?_ | refine LeO.bind ?_ (fun _ => ?_))
  ·intro y0 y1 y2 y3 y4 y5 y6
   unfold laws_FnRulersMeasure.l1
   repeat' (first | (with_reducible first | exact ih1 _ | exact ih3 _ _ _ _ _ _ _ | exact impl_AddMark.mono _ _ _ | exact impl_IsDifferent.mono _ _ | exact laws_jHas.mono _ _ _ | exact LeO.refl _ | exact LeO.none _ | refine LeO.ite ?_ ?_ | refine LeO.bind ?_ (fun _ => ?_)) | exact ih1 _ | exact ih3 _ _ _ _ _ _ _ | exact impl_AddMark.mono _ _ _ | exact impl_IsDifferent.mono _ _ | exact laws_jHas.mono _ _ _ | exact LeO.none _ | refine LeO.ite ?_ ?_ | refine LeO.bind ?_ (fun _ => ?_))
theorem laws_FnRulersMeasure.mono : ∀ a0 a1 k, LeO (laws_FnRulersMeasure.f k a0 a1) (laws_FnRulersMeasure.f (k + 1) a0 a1) := by
 intro a0 a1 k
 obtain ⟨ih0, ih1, ih2, ih3⟩ := laws_FnRulersMeasure.mono_l k
 unfold laws_FnRulersMeasure.f
 repeat' (first | (with_reducible first | exact ih0 _ _ _ _ _ _ _ _ _ _ _ _ | exact impl_BackRuler.mono _ _ | exact impl_DistancesOf.mono _ _ | exact impl_FreeMarks.mono _ _ | exact impl_IsDifferent.mono _ _ | exact impl_IsRuler.mono _ _ | exact impl_IsWhole.mono _ _ | exact impl_LengthOfRuler.mono _ _ | exact impl_MissingDistances.mono _ _ | exact laws_jSame.mono _ _ _ | exact spec_BackRuler.mono _ _ | exact spec_DistancesOf.mono _ _ | exact spec_DrawDistancesOf.mono _ _ | exact spec_FreeMarks.mono _ _ | exact spec_IsDifferent.mono _ _ | exact spec_IsRuler.mono _ _ | exact spec_IsWhole.mono _ _ | exact spec_LengthOfRuler.mono _ _ | exact spec_MissingDistances.mono _ _ | exact LeO.refl _ | exact LeO.none _ | refine LeO.ite ?_ ?_ | refine LeO.bind ?_ (fun _ => ?_)) | exact ih0 _ _ _ _ _ _ _ _ _ _ _ _ | exact impl_BackRuler.mono _ _ | exact impl_DistancesOf.mono _ _ | exact impl_FreeMarks.mono _ _ | exact impl_IsDifferent.mono _ _ | exact impl_IsRuler.mono _ _ | exact impl_IsWhole.mono _ _ | exact impl_LengthOfRuler.mono _ _ | exact impl_MissingDistances.mono _ _ | exact laws_jSame.mono _ _ _ | exact spec_BackRuler.mono _ _ | exact spec_DistancesOf.mono _ _ | exact spec_DrawDistancesOf.mono _ _ | exact spec_FreeMarks.mono _ _ | exact spec_IsDifferent.mono _ _ | exact spec_IsRuler.mono _ _ | exact spec_IsWhole.mono _ _ | exact spec_LengthOfRuler.mono _ _ | exact spec_MissingDistances.mono _ _ | exact LeO.none _ | refine LeO.ite ?_ ?_ | refine LeO.bind ?_ (fun _ => ?_))
theorem laws_FnRulersMeasure.j0_no : ∀ k y0 y1 y2 y3 y4 y5 y6 y7 y8 y9 y10, laws_FnRulersMeasure.j0 k y0 y1 y2 y3 y4 y5 y6 y7 y8 y9 y10 true ≠ some true := by
 intro k
 cases k <;> intros <;> simp [laws_FnRulersMeasure.j0]

end Go.Proofs.Ytofjndbpndpjjaa.Fn
namespace Go.Proofs.Ytofjndbpndpjjaa.Fn
open Go.RowKit Go.Proofs.YtofjndbpndpjjaaW.PrintWords Go.Proofs.YtofjndbpndpjjaaW.PrintLast Go.Proofs.YtofjndbpndpjjaaW.PrintMore
attribute [local go_sem] max2_int min2_int max_two min_two max_three min_three max_four min_four   -- for this text's walks alone
set_option linter.unusedVariables false
set_option linter.unusedSimpArgs false


/-- The statement of laws_FnRulersMeasure over numbers and lists. -/
def laws_FnRulersMeasure.Pure : Prop := ∀ (l0 : List Int) (l1 : List Int), l0.length ≤ maxLen → l0.length * 1 ≤ 140737488351232 → (∀ x ∈ l0, (Lit.int .u8 x).wf = true) → l1.length ≤ maxLen → l1.length * 1 ≤ 140737488351232 → (∀ x ∈ l1, (Lit.int .u8 x).wf = true) → ∃ k, laws_FnRulersMeasure.f k l0 l1 = some true

noncomputable def laws_FnRulersMeasure.J0 (x1 : List Int) (x5 : List Int) (x6 : List Int) (x7 : Bool) (x10 : Int) (x14 : List Int) (x18 : Bool) (x22 : Bool) (x26 : List Int) (x30 : List Int) (x31 : Bool) (x262 : Bool) : Option (Bool) := lim fun k => laws_FnRulersMeasure.j0 k x1 x5 x6 x7 x10 x14 x18 x22 x26 x30 x31 x262
theorem laws_FnRulersMeasure.J0_lim (x1 : List Int) (x5 : List Int) (x6 : List Int) (x7 : Bool) (x10 : Int) (x14 : List Int) (x18 : Bool) (x22 : Bool) (x26 : List Int) (x30 : List Int) (x31 : Bool) (x262 : Bool) : Lim (fun k => laws_FnRulersMeasure.j0 k x1 x5 x6 x7 x10 x14 x18 x22 x26 x30 x31 x262) (laws_FnRulersMeasure.J0 x1 x5 x6 x7 x10 x14 x18 x22 x26 x30 x31 x262) := Lim.of fun k => (laws_FnRulersMeasure.mono_l k).1 x1 x5 x6 x7 x10 x14 x18 x22 x26 x30 x31 x262
noncomputable def laws_FnRulersMeasure.J3 (x1 : List Int) : Option (Bool) := lim fun k => laws_FnRulersMeasure.j3 k x1
theorem laws_FnRulersMeasure.J3_lim (x1 : List Int) : Lim (fun k => laws_FnRulersMeasure.j3 k x1) (laws_FnRulersMeasure.J3 x1) := Lim.of fun k => (laws_FnRulersMeasure.mono_l k).2.1 x1
noncomputable def laws_FnRulersMeasure.L0 (x1 : List Int) (x5 : List Int) (x6 : List Int) (x10 : Int) (x14 : List Int) (x30 : List Int) (x31 : Bool) (x34 : Int) (x35 : Int) (x40 : Int) (x41 : Int) : Option (Bool) := lim fun k => laws_FnRulersMeasure.l0 k x1 x5 x6 x10 x14 x30 x31 x34 x35 x40 x41
theorem laws_FnRulersMeasure.L0_lim (x1 : List Int) (x5 : List Int) (x6 : List Int) (x10 : Int) (x14 : List Int) (x30 : List Int) (x31 : Bool) (x34 : Int) (x35 : Int) (x40 : Int) (x41 : Int) : Lim (fun k => laws_FnRulersMeasure.l0 k x1 x5 x6 x10 x14 x30 x31 x34 x35 x40 x41) (laws_FnRulersMeasure.L0 x1 x5 x6 x10 x14 x30 x31 x34 x35 x40 x41) := Lim.of fun k => (laws_FnRulersMeasure.mono_l k).2.2.1 x1 x5 x6 x10 x14 x30 x31 x34 x35 x40 x41
noncomputable def laws_FnRulersMeasure.L1 (x1 : List Int) (x5 : List Int) (x10 : Int) (x30 : List Int) (x31 : Bool) (x34 : Int) (x47 : Int) : Option (Bool) := lim fun k => laws_FnRulersMeasure.l1 k x1 x5 x10 x30 x31 x34 x47
theorem laws_FnRulersMeasure.L1_lim (x1 : List Int) (x5 : List Int) (x10 : Int) (x30 : List Int) (x31 : Bool) (x34 : Int) (x47 : Int) : Lim (fun k => laws_FnRulersMeasure.l1 k x1 x5 x10 x30 x31 x34 x47) (laws_FnRulersMeasure.L1 x1 x5 x10 x30 x31 x34 x47) := Lim.of fun k => (laws_FnRulersMeasure.mono_l k).2.2.2 x1 x5 x10 x30 x31 x34 x47
noncomputable def laws_FnRulersMeasure.F (l0 : List Int) (l1 : List Int) : Option (Bool) := lim fun k => laws_FnRulersMeasure.f k l0 l1
theorem laws_FnRulersMeasure.F_lim (l0 : List Int) (l1 : List Int) : Lim (fun k => laws_FnRulersMeasure.f k l0 l1) (laws_FnRulersMeasure.F l0 l1) := Lim.of fun k => laws_FnRulersMeasure.mono l0 l1 k
theorem laws_FnRulersMeasure.J0_eq (x1 : List Int) (x5 : List Int) (x6 : List Int) (x7 : Bool) (x10 : Int) (x14 : List Int) (x18 : Bool) (x22 : Bool) (x26 : List Int) (x30 : List Int) (x31 : Bool) (x262 : Bool) : laws_FnRulersMeasure.J0 x1 x5 x6 x7 x10 x14 x18 x22 x26 x30 x31 x262 = (if x262 = true then (some false) else (if x7 = true then ((impl_DistancesOf.F x26).bind fun bt585 => ((impl_BackRuler.F x26).bind fun bt589 => (if 0 ≤ (wrap64 ((x5.length : Int) - 1)) then (if (wrap64 ((x5.length : Int) - 1)) < (x5.length : Int) then (if x10 = (rd x5 (wrap64 ((x5.length : Int) - 1))) then (if bt585.2 = true then ((laws_jSame.F bt585.1 x6).bind fun t594 => (if t594 = true then (if bt589.2 = true then ((laws_jSame.F bt589.1 x5).bind fun t595 => (if t595 = true then (if (wrap64 ((x6.length : Int) + (x14.length : Int))) = x10 then (if (x18 != ((x6.length : Int) == (wrap64 (Int.tdiv (wrap64 ((x5.length : Int) * (wrap64 ((x5.length : Int) - 1)))) 2)))) = true then (some false) else (if (x22 != ((x14.length : Int) == 0)) = true then (some false) else (laws_FnRulersMeasure.L0 x1 x5 x6 x10 x14 x30 x31 (x5.length : Int) (wrap64 (Int.tdiv (wrap64 ((x5.length : Int) * (wrap64 ((x5.length : Int) - 1)))) 2)) 0 1))) else (some false)) else (some false))) else (some false)) else (some false))) else (some false)) else (some false)) else (none)) else (none)))) else (laws_FnRulersMeasure.J3 x1))) :=
 Lim.step (f := fun k => laws_FnRulersMeasure.j0 (k + 1) x1 x5 x6 x7 x10 x14 x18 x22 x26 x30 x31 x262) (laws_FnRulersMeasure.J0_lim x1 x5 x6 x7 x10 x14 x18 x22 x26 x30 x31 x262) (fun _ => rfl) (by
  simp only [laws_FnRulersMeasure.j0]
  repeat' (first | (with_reducible first | exact Lim.const _ | exact impl_BackRuler.F_lim _ | exact impl_DistancesOf.F_lim _ | exact laws_FnRulersMeasure.J3_lim _ | exact laws_FnRulersMeasure.L0_lim _ _ _ _ _ _ _ _ _ _ _ | exact laws_jSame.F_lim _ _ | refine Lim.ite ?_ ?_ | refine Lim.bind ?_ (fun _ => ?_))))
theorem laws_FnRulersMeasure.J3_eq (x1 : List Int) : laws_FnRulersMeasure.J3 x1 = ((spec_DrawTimesMeasured.F x1).bind fun bt612 => ((impl_TimesMeasured.F bt612.1 bt612.2).bind fun bt616 => ((spec_TimesMeasured.F bt612.1 bt612.2).bind fun bt618 => ((impl_MeasureWith.F bt612.1 bt612.2).bind fun bt620 => ((spec_MeasureWith.F bt612.1 bt612.2).bind fun bt623 => ((spec_DrawAddMark.F x1).bind fun bt626 => ((impl_AddMark.F bt626.1 bt626.2).bind fun bt630 => ((spec_AddMark.F bt626.1 bt626.2).bind fun bt634 => (if (bt616.2 == bt618.2) = true then (if bt616.1 = bt618.1 then (if (bt620.2.2 == bt623.2.2) = true then (if bt620.1 = bt623.1 then (if bt620.2.1 = bt623.2.1 then (if (bt630.2 == bt634.2) = true then ((laws_jSame.F bt630.1 bt634.1).bind fun t638 => (if t638 = true then (if bt630.2 = true then ((impl_IsRuler.F bt630.1).bind fun t639 => (if t639 = true then ((laws_jHas.F bt630.1 bt626.2).bind fun t640 => (some t640)) else (some false))) else (some true)) else (some false))) else (some false)) else (some false)) else (some false)) else (some false)) else (some false)) else (some false)))))))))) :=
 Lim.step (f := fun k => laws_FnRulersMeasure.j3 (k + 1) x1) (laws_FnRulersMeasure.J3_lim x1) (fun _ => rfl) (by
  simp only [laws_FnRulersMeasure.j3]
  repeat' (first | (with_reducible first | exact Lim.const _ | exact impl_AddMark.F_lim _ _ | exact impl_IsRuler.F_lim _ | exact impl_MeasureWith.F_lim _ _ | exact impl_TimesMeasured.F_lim _ _ | exact laws_jHas.F_lim _ _ | exact laws_jSame.F_lim _ _ | exact spec_AddMark.F_lim _ _ | exact spec_DrawAddMark.F_lim _ | exact spec_DrawTimesMeasured.F_lim _ | exact spec_MeasureWith.F_lim _ _ | exact spec_TimesMeasured.F_lim _ _ | refine Lim.ite ?_ ?_ | refine Lim.bind ?_ (fun _ => ?_))))
theorem laws_FnRulersMeasure.L0_eq (x1 : List Int) (x5 : List Int) (x6 : List Int) (x10 : Int) (x14 : List Int) (x30 : List Int) (x31 : Bool) (x34 : Int) (x35 : Int) (x40 : Int) (x41 : Int) : laws_FnRulersMeasure.L0 x1 x5 x6 x10 x14 x30 x31 x34 x35 x40 x41 = (if x41 ≤ x10 then ((impl_TimesMeasured.F x5 x41).bind fun bt596 => ((impl_MeasureWith.F x5 x41).bind fun bt598 => (if bt596.2 = true then ((laws_jHas.F x6 x41).bind fun t601 => (if ((decide (bt596.1 > 0)) != t601) = true then (some false) else ((laws_jHas.F x14 x41).bind fun t602 => (if ((decide (bt596.1 > 0)) == t602) = true then (some false) else (if (bt598.2.2 != (decide (bt596.1 > 0))) = true then (some false) else (if bt598.2.2 = true then (if (wrap64 (bt598.2.1 - bt598.1)) = x41 then ((laws_jHas.F x5 bt598.1).bind fun t603 => (if t603 = true then ((laws_jHas.F x5 bt598.2.1).bind fun t604 => (if t604 = true then (laws_FnRulersMeasure.L0 x1 x5 x6 x10 x14 x30 x31 x34 x35 (wrap64 (x40 + bt596.1)) (wrap64 (x41 + 1))) else (some false))) else (some false))) else (some false)) else (laws_FnRulersMeasure.L0 x1 x5 x6 x10 x14 x30 x31 x34 x35 (wrap64 (x40 + bt596.1)) (wrap64 (x41 + 1))))))))) else (some false)))) else (if x40 = x35 then (laws_FnRulersMeasure.L1 x1 x5 x10 x30 x31 x34 1) else (some false))) :=
 Lim.step (f := fun k => laws_FnRulersMeasure.l0 (k + 1) x1 x5 x6 x10 x14 x30 x31 x34 x35 x40 x41) (laws_FnRulersMeasure.L0_lim x1 x5 x6 x10 x14 x30 x31 x34 x35 x40 x41) (fun _ => rfl) (by
  simp only [laws_FnRulersMeasure.l0]
  repeat' (first | (with_reducible first | exact Lim.const _ | exact impl_MeasureWith.F_lim _ _ | exact impl_TimesMeasured.F_lim _ _ | exact laws_FnRulersMeasure.L0_lim _ _ _ _ _ _ _ _ _ _ _ | exact laws_FnRulersMeasure.L1_lim _ _ _ _ _ _ _ | exact laws_jHas.F_lim _ _ | refine Lim.ite ?_ ?_ | refine Lim.bind ?_ (fun _ => ?_))))
theorem laws_FnRulersMeasure.L1_eq (x1 : List Int) (x5 : List Int) (x10 : Int) (x30 : List Int) (x31 : Bool) (x34 : Int) (x47 : Int) : laws_FnRulersMeasure.L1 x1 x5 x10 x30 x31 x34 x47 = (if x47 < x10 then ((impl_AddMark.F x5 x47).bind fun bt605 => (if bt605.2 = true then ((impl_IsDifferent.F bt605.1).bind fun bt609 => (if bt609.2 = true then (if x31 = true then ((laws_jHas.F x30 x47).bind fun t611 => (if (bt609.1 != t611) = true then (some false) else (if (bt605.1.length : Int) = (wrap64 (x34 + 1)) then (laws_FnRulersMeasure.L1 x1 x5 x10 x30 x31 x34 (wrap64 (x47 + 1))) else (some false)))) else (if (bt605.1.length : Int) = (wrap64 (x34 + 1)) then (laws_FnRulersMeasure.L1 x1 x5 x10 x30 x31 x34 (wrap64 (x47 + 1))) else (some false))) else (some false))) else (laws_FnRulersMeasure.L1 x1 x5 x10 x30 x31 x34 (wrap64 (x47 + 1))))) else (laws_FnRulersMeasure.J3 x1)) :=
 Lim.step (f := fun k => laws_FnRulersMeasure.l1 (k + 1) x1 x5 x10 x30 x31 x34 x47) (laws_FnRulersMeasure.L1_lim x1 x5 x10 x30 x31 x34 x47) (fun _ => rfl) (by
  simp only [laws_FnRulersMeasure.l1]
  repeat' (first | (with_reducible first | exact Lim.const _ | exact impl_AddMark.F_lim _ _ | exact impl_IsDifferent.F_lim _ | exact laws_FnRulersMeasure.J3_lim _ | exact laws_FnRulersMeasure.L1_lim _ _ _ _ _ _ _ | exact laws_jHas.F_lim _ _ | refine Lim.ite ?_ ?_ | refine Lim.bind ?_ (fun _ => ?_))))
theorem laws_FnRulersMeasure.F_eq (l0 : List Int) (l1 : List Int) : laws_FnRulersMeasure.F l0 l1 = ((laws_big.f l0 l1).bind fun t530 => (if t530 = true then (some true) else ((spec_DrawDistancesOf.F l0).bind fun t531 => ((impl_DistancesOf.F t531).bind fun bt534 => ((spec_DistancesOf.F t531).bind fun bt538 => ((impl_LengthOfRuler.F t531).bind fun bt542 => ((spec_LengthOfRuler.F t531).bind fun bt544 => ((impl_MissingDistances.F t531).bind fun bt546 => ((spec_MissingDistances.F t531).bind fun bt550 => ((impl_IsDifferent.F t531).bind fun bt554 => ((spec_IsDifferent.F t531).bind fun bt556 => ((impl_IsWhole.F t531).bind fun bt558 => ((spec_IsWhole.F t531).bind fun bt560 => ((impl_BackRuler.F t531).bind fun bt562 => ((spec_BackRuler.F t531).bind fun bt566 => ((impl_FreeMarks.F t531).bind fun bt570 => ((spec_FreeMarks.F t531).bind fun bt574 => (if (bt534.2 != bt538.2) = true then (laws_FnRulersMeasure.J0 l1 t531 bt534.1 bt534.2 bt542.1 bt546.1 bt554.1 bt558.1 bt562.1 bt570.1 bt570.2 true) else ((laws_jSame.F bt534.1 bt538.1).bind fun t578 => (if t578 = true then (if (bt542.2 != bt544.2) = true then (laws_FnRulersMeasure.J0 l1 t531 bt534.1 bt534.2 bt542.1 bt546.1 bt554.1 bt558.1 bt562.1 bt570.1 bt570.2 true) else (if bt542.1 = bt544.1 then (if (bt546.2 != bt550.2) = true then (laws_FnRulersMeasure.J0 l1 t531 bt534.1 bt534.2 bt542.1 bt546.1 bt554.1 bt558.1 bt562.1 bt570.1 bt570.2 true) else ((laws_jSame.F bt546.1 bt550.1).bind fun t579 => (if t579 = true then (if (bt554.2 != bt556.2) = true then (laws_FnRulersMeasure.J0 l1 t531 bt534.1 bt534.2 bt542.1 bt546.1 bt554.1 bt558.1 bt562.1 bt570.1 bt570.2 true) else (if (bt554.1 != bt556.1) = true then (laws_FnRulersMeasure.J0 l1 t531 bt534.1 bt534.2 bt542.1 bt546.1 bt554.1 bt558.1 bt562.1 bt570.1 bt570.2 true) else (if (bt558.2 != bt560.2) = true then (laws_FnRulersMeasure.J0 l1 t531 bt534.1 bt534.2 bt542.1 bt546.1 bt554.1 bt558.1 bt562.1 bt570.1 bt570.2 true) else (if (bt558.1 != bt560.1) = true then (laws_FnRulersMeasure.J0 l1 t531 bt534.1 bt534.2 bt542.1 bt546.1 bt554.1 bt558.1 bt562.1 bt570.1 bt570.2 true) else (if (bt562.2 != bt566.2) = true then (laws_FnRulersMeasure.J0 l1 t531 bt534.1 bt534.2 bt542.1 bt546.1 bt554.1 bt558.1 bt562.1 bt570.1 bt570.2 true) else ((laws_jSame.F bt562.1 bt566.1).bind fun t580 => (if t580 = true then (if (bt570.2 != bt574.2) = true then (laws_FnRulersMeasure.J0 l1 t531 bt534.1 bt534.2 bt542.1 bt546.1 bt554.1 bt558.1 bt562.1 bt570.1 bt570.2 true) else ((laws_jSame.F bt570.1 bt574.1).bind fun t581 => (if t581 = true then ((impl_IsRuler.F t531).bind fun t582 => (if (bt534.2 != t582) = true then (laws_FnRulersMeasure.J0 l1 t531 bt534.1 bt534.2 bt542.1 bt546.1 bt554.1 bt558.1 bt562.1 bt570.1 bt570.2 true) else ((impl_IsRuler.F t531).bind fun t583 => ((spec_IsRuler.F t531).bind fun t584 => (if (t583 != t584) = true then (laws_FnRulersMeasure.J0 l1 t531 bt534.1 bt534.2 bt542.1 bt546.1 bt554.1 bt558.1 bt562.1 bt570.1 bt570.2 true) else (if (bt542.2 != bt534.2) = true then (laws_FnRulersMeasure.J0 l1 t531 bt534.1 bt534.2 bt542.1 bt546.1 bt554.1 bt558.1 bt562.1 bt570.1 bt570.2 true) else (if (bt546.2 != bt534.2) = true then (laws_FnRulersMeasure.J0 l1 t531 bt534.1 bt534.2 bt542.1 bt546.1 bt554.1 bt558.1 bt562.1 bt570.1 bt570.2 true) else (if (bt554.2 != bt534.2) = true then (laws_FnRulersMeasure.J0 l1 t531 bt534.1 bt534.2 bt542.1 bt546.1 bt554.1 bt558.1 bt562.1 bt570.1 bt570.2 true) else (if (bt558.2 != bt534.2) = true then (laws_FnRulersMeasure.J0 l1 t531 bt534.1 bt534.2 bt542.1 bt546.1 bt554.1 bt558.1 bt562.1 bt570.1 bt570.2 true) else (if (bt562.2 != bt534.2) = true then (laws_FnRulersMeasure.J0 l1 t531 bt534.1 bt534.2 bt542.1 bt546.1 bt554.1 bt558.1 bt562.1 bt570.1 bt570.2 true) else (if bt534.2 = true then (laws_FnRulersMeasure.J0 l1 t531 bt534.1 bt534.2 bt542.1 bt546.1 bt554.1 bt558.1 bt562.1 bt570.1 bt570.2 (bt570.2 != bt554.1)) else (laws_FnRulersMeasure.J0 l1 t531 bt534.1 bt534.2 bt542.1 bt546.1 bt554.1 bt558.1 bt562.1 bt570.1 bt570.2 (bt570.2 != false))))))))))))) else (laws_FnRulersMeasure.J0 l1 t531 bt534.1 bt534.2 bt542.1 bt546.1 bt554.1 bt558.1 bt562.1 bt570.1 bt570.2 true)))) else (laws_FnRulersMeasure.J0 l1 t531 bt534.1 bt534.2 bt542.1 bt546.1 bt554.1 bt558.1 bt562.1 bt570.1 bt570.2 true)))))))) else (laws_FnRulersMeasure.J0 l1 t531 bt534.1 bt534.2 bt542.1 bt546.1 bt554.1 bt558.1 bt562.1 bt570.1 bt570.2 true)))) else (laws_FnRulersMeasure.J0 l1 t531 bt534.1 bt534.2 bt542.1 bt546.1 bt554.1 bt558.1 bt562.1 bt570.1 bt570.2 true))) else (laws_FnRulersMeasure.J0 l1 t531 bt534.1 bt534.2 bt542.1 bt546.1 bt554.1 bt558.1 bt562.1 bt570.1 bt570.2 true))))))))))))))))))))) :=
 Lim.unique (laws_FnRulersMeasure.F_lim l0 l1) (by
  unfold laws_FnRulersMeasure.f
  repeat' (first | (with_reducible first | exact Lim.const _ | exact impl_BackRuler.F_lim _ | exact impl_DistancesOf.F_lim _ | exact impl_FreeMarks.F_lim _ | exact impl_IsDifferent.F_lim _ | exact impl_IsRuler.F_lim _ | exact impl_IsWhole.F_lim _ | exact impl_LengthOfRuler.F_lim _ | exact impl_MissingDistances.F_lim _ | exact laws_FnRulersMeasure.J0_lim _ _ _ _ _ _ _ _ _ _ _ _ | exact laws_jSame.F_lim _ _ | exact spec_BackRuler.F_lim _ | exact spec_DistancesOf.F_lim _ | exact spec_DrawDistancesOf.F_lim _ | exact spec_FreeMarks.F_lim _ | exact spec_IsDifferent.F_lim _ | exact spec_IsRuler.F_lim _ | exact spec_IsWhole.F_lim _ | exact spec_LengthOfRuler.F_lim _ | exact spec_MissingDistances.F_lim _ | refine Lim.ite ?_ ?_ | refine Lim.bind ?_ (fun _ => ?_))))

end Go.Proofs.Ytofjndbpndpjjaa.Fn
